/- Each compact text is its function of the program (table_ok); no condition. -/
import Derived.Test.YtoilifakgbifmaaRows
import Derived.Test.YtoilifakgbifmaaK0
import Derived.Test.YtoilifakgbifmaaEvB2
import Derived.KernelRfl
set_option linter.all false
namespace Go.Pe
open Go Go.Proofs
theorem ok_laws_FnExactStateLoss : EntryOk Try.prog k_laws_FnExactStateLoss (fnOf k_laws_FnExactStateLoss_ic k_laws_FnExactStateLoss_rv []) := ⟨_, _, k_laws_FnExactStateLoss_vars, Try.func8, rfl, by kernel_rfl, by kernel_rfl, by kernel_rfl⟩
theorem ok_laws_szTree : EntryOk Try.prog k_laws_szTree (fnOf k_laws_szTree_ic k_laws_szTree_rv []) := ⟨_, _, k_laws_szTree_vars, Try.func19, rfl, by kernel_rfl, by kernel_rfl, by kernel_rfl⟩
theorem ok_laws_toTree : EntryOk Try.prog k_laws_toTree (fnOf k_laws_toTree_ic k_laws_toTree_rv []) := ⟨_, _, k_laws_toTree_vars, Try.func22, rfl, by kernel_rfl, by kernel_rfl, by kernel_rfl⟩
theorem ok_laws_eqTree : EntryOk Try.prog k_laws_eqTree (fnOf k_laws_eqTree_ic k_laws_eqTree_rv []) := ⟨_, _, k_laws_eqTree_vars, Try.func25, rfl, by kernel_rfl, by kernel_rfl, by kernel_rfl⟩
theorem ok_laws_toIntS : EntryOk Try.prog k_laws_toIntS (fnOf k_laws_toIntS_ic k_laws_toIntS_rv []) := ⟨_, _, k_laws_toIntS_vars, Try.func33, rfl, by kernel_rfl, by kernel_rfl, by kernel_rfl⟩
theorem ok_laws_eqIntS : EntryOk Try.prog k_laws_eqIntS (fnOf k_laws_eqIntS_ic k_laws_eqIntS_rv []) := ⟨_, _, k_laws_eqIntS_vars, Try.func37, rfl, by kernel_rfl, by kernel_rfl, by kernel_rfl⟩
theorem ok_laws_szTable : EntryOk Try.prog k_laws_szTable (fnOf k_laws_szTable_ic k_laws_szTable_rv []) := ⟨_, _, k_laws_szTable_vars, Try.func44, rfl, by kernel_rfl, by kernel_rfl, by kernel_rfl⟩
theorem ok_laws_toTable : EntryOk Try.prog k_laws_toTable (fnOf k_laws_toTable_ic k_laws_toTable_rv []) := ⟨_, _, k_laws_toTable_vars, Try.func46, rfl, by kernel_rfl, by kernel_rfl, by kernel_rfl⟩
theorem ok_laws_eqState : EntryOk Try.prog k_laws_eqState (fnOf k_laws_eqState_ic k_laws_eqState_rv []) := ⟨_, _, k_laws_eqState_vars, Try.func48, rfl, by kernel_rfl, by kernel_rfl, by kernel_rfl⟩
theorem ok_laws_eqTable : EntryOk Try.prog k_laws_eqTable (fnOf k_laws_eqTable_ic k_laws_eqTable_rv []) := ⟨_, _, k_laws_eqTable_vars, Try.func49, rfl, by kernel_rfl, by kernel_rfl, by kernel_rfl⟩
theorem ok_laws_szState : EntryOk Try.prog k_laws_szState (fnOf k_laws_szState_ic k_laws_szState_rv []) := ⟨_, _, k_laws_szState_vars, Try.func53, rfl, by kernel_rfl, by kernel_rfl, by kernel_rfl⟩
theorem ok_spec_StateLoss : EntryOk Try.prog k_spec_StateLoss (fnOf k_spec_StateLoss_ic k_spec_StateLoss_rv []) := ⟨_, _, k_spec_StateLoss_vars, Try.func54, rfl, by kernel_rfl, by kernel_rfl, by kernel_rfl⟩
theorem ok_laws_toState : EntryOk Try.prog k_laws_toState (fnOf k_laws_toState_ic k_laws_toState_rv []) := ⟨_, _, k_laws_toState_vars, Try.func55, rfl, by kernel_rfl, by kernel_rfl, by kernel_rfl⟩
theorem ok_impl_StateLoss : EntryOk Try.prog k_impl_StateLoss (fnOf k_impl_StateLoss_ic k_impl_StateLoss_rv []) := ⟨_, _, k_impl_StateLoss_vars, Try.func56, rfl, by kernel_rfl, by kernel_rfl, by kernel_rfl⟩
theorem ok_laws_eqWide : EntryOk Try.prog k_laws_eqWide (fnOf k_laws_eqWide_ic k_laws_eqWide_rv []) := ⟨_, _, k_laws_eqWide_vars, Try.func57, rfl, by kernel_rfl, by kernel_rfl, by kernel_rfl⟩
theorem ok_laws_szIntSS : EntryOk Try.prog k_laws_szIntSS (fnOf k_laws_szIntSS_ic k_laws_szIntSS_rv []) := ⟨_, _, k_laws_szIntSS_vars, Try.func63, rfl, by kernel_rfl, by kernel_rfl, by kernel_rfl⟩
theorem ok_laws_toIntSS : EntryOk Try.prog k_laws_toIntSS (fnOf k_laws_toIntSS_ic k_laws_toIntSS_rv []) := ⟨_, _, k_laws_toIntSS_vars, Try.func65, rfl, by kernel_rfl, by kernel_rfl, by kernel_rfl⟩
theorem ok_laws_eqIntSS : EntryOk Try.prog k_laws_eqIntSS (fnOf k_laws_eqIntSS_ic k_laws_eqIntSS_rv []) := ⟨_, _, k_laws_eqIntSS_vars, Try.func67, rfl, by kernel_rfl, by kernel_rfl, by kernel_rfl⟩
theorem ok_laws_szStringS : EntryOk Try.prog k_laws_szStringS (fnOf k_laws_szStringS_ic k_laws_szStringS_rv []) := ⟨_, _, k_laws_szStringS_vars, Try.func74, rfl, by kernel_rfl, by kernel_rfl, by kernel_rfl⟩
theorem ok_laws_szIntS : EntryOk Try.prog k_laws_szIntS (fnOf k_laws_szIntS_ic k_laws_szIntS_rv []) := ⟨_, _, k_laws_szIntS_vars, Try.func75, rfl, by kernel_rfl, by kernel_rfl, by kernel_rfl⟩
theorem ok_laws_szTreeS : EntryOk Try.prog k_laws_szTreeS (fnOf k_laws_szTreeS_ic k_laws_szTreeS_rv []) := ⟨_, _, k_laws_szTreeS_vars, Try.func76, rfl, by kernel_rfl, by kernel_rfl, by kernel_rfl⟩
theorem ok_laws_toStringS : EntryOk Try.prog k_laws_toStringS (fnOf k_laws_toStringS_ic k_laws_toStringS_rv []) := ⟨_, _, k_laws_toStringS_vars, Try.func80, rfl, by kernel_rfl, by kernel_rfl, by kernel_rfl⟩
theorem ok_laws_toTreeS : EntryOk Try.prog k_laws_toTreeS (fnOf k_laws_toTreeS_ic k_laws_toTreeS_rv []) := ⟨_, _, k_laws_toTreeS_vars, Try.func81, rfl, by kernel_rfl, by kernel_rfl, by kernel_rfl⟩
theorem ok_laws_eqStringS : EntryOk Try.prog k_laws_eqStringS (fnOf k_laws_eqStringS_ic k_laws_eqStringS_rv []) := ⟨_, _, k_laws_eqStringS_vars, Try.func86, rfl, by kernel_rfl, by kernel_rfl, by kernel_rfl⟩
theorem ok_laws_eqTreeS : EntryOk Try.prog k_laws_eqTreeS (fnOf k_laws_eqTreeS_ic k_laws_eqTreeS_rv []) := ⟨_, _, k_laws_eqTreeS_vars, Try.func87, rfl, by kernel_rfl, by kernel_rfl, by kernel_rfl⟩
theorem ok_laws_szNodeS : EntryOk Try.prog k_laws_szNodeS (fnOf k_laws_szNodeS_ic k_laws_szNodeS_rv []) := ⟨_, _, k_laws_szNodeS_vars, Try.func88, rfl, by kernel_rfl, by kernel_rfl, by kernel_rfl⟩
theorem ok_laws_toNodeS : EntryOk Try.prog k_laws_toNodeS (fnOf k_laws_toNodeS_ic k_laws_toNodeS_rv []) := ⟨_, _, k_laws_toNodeS_vars, Try.func92, rfl, by kernel_rfl, by kernel_rfl, by kernel_rfl⟩
theorem ok_laws_eqNodeS : EntryOk Try.prog k_laws_eqNodeS (fnOf k_laws_eqNodeS_ic k_laws_eqNodeS_rv []) := ⟨_, _, k_laws_eqNodeS_vars, Try.func96, rfl, by kernel_rfl, by kernel_rfl, by kernel_rfl⟩
theorem ok_spec_Residuals : EntryOk Try.prog k_spec_Residuals (fnOf k_spec_Residuals_ic k_spec_Residuals_rv []) := ⟨_, _, k_spec_Residuals_vars, Try.func127, rfl, by kernel_rfl, by kernel_rfl, by kernel_rfl⟩
theorem ok_spec_LossOf : EntryOk Try.prog k_spec_LossOf (fnOf k_spec_LossOf_ic k_spec_LossOf_rv []) := ⟨_, _, k_spec_LossOf_vars, Try.func128, rfl, by kernel_rfl, by kernel_rfl, by kernel_rfl⟩
theorem ok_impl_Residuals : EntryOk Try.prog k_impl_Residuals (fnOf k_impl_Residuals_ic k_impl_Residuals_rv []) := ⟨_, _, k_impl_Residuals_vars, Try.func129, rfl, by kernel_rfl, by kernel_rfl, by kernel_rfl⟩
theorem ok_impl_LossOf : EntryOk Try.prog k_impl_LossOf (fnOf k_impl_LossOf_ic k_impl_LossOf_rv []) := ⟨_, _, k_impl_LossOf_vars, Try.func130, rfl, by kernel_rfl, by kernel_rfl, by kernel_rfl⟩
theorem ok_laws_toNode : EntryOk Try.prog k_laws_toNode (fnOf k_laws_toNode_ic k_laws_toNode_rv []) := ⟨_, _, k_laws_toNode_vars, Try.func149, rfl, by kernel_rfl, by kernel_rfl, by kernel_rfl⟩
theorem ok_laws_eqNode : EntryOk Try.prog k_laws_eqNode (fnOf k_laws_eqNode_ic k_laws_eqNode_rv []) := ⟨_, _, k_laws_eqNode_vars, Try.func155, rfl, by kernel_rfl, by kernel_rfl, by kernel_rfl⟩
theorem ok_spec_SubInt : EntryOk Try.prog k_spec_SubInt (fnOf k_spec_SubInt_ic k_spec_SubInt_rv []) := ⟨_, _, k_spec_SubInt_vars, Try.func181, rfl, by kernel_rfl, by kernel_rfl, by kernel_rfl⟩
theorem ok_spec_AddWide : EntryOk Try.prog k_spec_AddWide (fnOf k_spec_AddWide_ic k_spec_AddWide_rv []) := ⟨_, _, k_spec_AddWide_vars, Try.func182, rfl, by kernel_rfl, by kernel_rfl, by kernel_rfl⟩
theorem ok_spec_MulWide : EntryOk Try.prog k_spec_MulWide (fnOf k_spec_MulWide_ic k_spec_MulWide_rv []) := ⟨_, _, k_spec_MulWide_vars, Try.func183, rfl, by kernel_rfl, by kernel_rfl, by kernel_rfl⟩
theorem ok_impl_SubInt : EntryOk Try.prog k_impl_SubInt (fnOf k_impl_SubInt_ic k_impl_SubInt_rv []) := ⟨_, _, k_impl_SubInt_vars, Try.func184, rfl, by kernel_rfl, by kernel_rfl, by kernel_rfl⟩
theorem ok_impl_AddWide : EntryOk Try.prog k_impl_AddWide (fnOf k_impl_AddWide_ic k_impl_AddWide_rv []) := ⟨_, _, k_impl_AddWide_vars, Try.func185, rfl, by kernel_rfl, by kernel_rfl, by kernel_rfl⟩
theorem ok_impl_MulWide : EntryOk Try.prog k_impl_MulWide (fnOf k_impl_MulWide_ic k_impl_MulWide_rv []) := ⟨_, _, k_impl_MulWide_vars, Try.func186, rfl, by kernel_rfl, by kernel_rfl, by kernel_rfl⟩
theorem ok_spec_WideOk : EntryOk Try.prog k_spec_WideOk (fnOf k_spec_WideOk_ic k_spec_WideOk_rv []) := ⟨_, _, k_spec_WideOk_vars, Try.func216, rfl, by kernel_rfl, by kernel_rfl, by kernel_rfl⟩
theorem ok_spec_l3Order : EntryOk Try.prog k_spec_l3Order (fnOf k_spec_l3Order_ic k_spec_l3Order_rv []) := ⟨_, _, k_spec_l3Order_vars, Try.func217, rfl, by kernel_rfl, by kernel_rfl, by kernel_rfl⟩
theorem ok_spec_l3Zero : EntryOk Try.prog k_spec_l3Zero (fnOf k_spec_l3Zero_ic k_spec_l3Zero_rv []) := ⟨_, _, k_spec_l3Zero_vars, Try.func218, rfl, by kernel_rfl, by kernel_rfl, by kernel_rfl⟩
theorem ok_spec_l3Product : EntryOk Try.prog k_spec_l3Product (fnOf k_spec_l3Product_ic k_spec_l3Product_rv []) := ⟨_, _, k_spec_l3Product_vars, Try.func219, rfl, by kernel_rfl, by kernel_rfl, by kernel_rfl⟩
theorem ok_spec_l3Abs : EntryOk Try.prog k_spec_l3Abs (fnOf k_spec_l3Abs_ic k_spec_l3Abs_rv []) := ⟨_, _, k_spec_l3Abs_vars, Try.func220, rfl, by kernel_rfl, by kernel_rfl, by kernel_rfl⟩
theorem ok_impl_WideOk : EntryOk Try.prog k_impl_WideOk (fnOf k_impl_WideOk_ic k_impl_WideOk_rv []) := ⟨_, _, k_impl_WideOk_vars, Try.func221, rfl, by kernel_rfl, by kernel_rfl, by kernel_rfl⟩
theorem ok_impl_compareSizes : EntryOk Try.prog k_impl_compareSizes (fnOf k_impl_compareSizes_ic k_impl_compareSizes_rv []) := ⟨_, _, k_impl_compareSizes_vars, Try.func222, rfl, by kernel_rfl, by kernel_rfl, by kernel_rfl⟩
theorem ok_math_bits_Sub64 : EntryOk Try.prog k_math_bits_Sub64 (.ext sub64G) := sub64_ok Try.func223 (by kernel_rfl) (by kernel_rfl) (by kernel_rfl) (by kernel_rfl)
theorem ok_impl_wideOf : EntryOk Try.prog k_impl_wideOf (fnOf k_impl_wideOf_ic k_impl_wideOf_rv []) := ⟨_, _, k_impl_wideOf_vars, Try.func224, rfl, by kernel_rfl, by kernel_rfl, by kernel_rfl⟩
theorem ok_math_bits_Add64 : EntryOk Try.prog k_math_bits_Add64 (.ext add64G) := add64_ok Try.func225 (by kernel_rfl) (by kernel_rfl) (by kernel_rfl) (by kernel_rfl)
theorem ok_math_bits_Mul64 : EntryOk Try.prog k_math_bits_Mul64 (fnOf k_math_bits_Mul64_ic k_math_bits_Mul64_rv []) := ⟨_, _, k_math_bits_Mul64_vars, Try.func226, rfl, by kernel_rfl, by kernel_rfl, by kernel_rfl⟩
theorem ok_impl_size : EntryOk Try.prog k_impl_size (fnOf k_impl_size_ic k_impl_size_rv []) := ⟨_, _, k_impl_size_vars, Try.func227, rfl, by kernel_rfl, by kernel_rfl, by kernel_rfl⟩
theorem ok_cmp_Or_int_ : EntryOk Try.prog k_cmp_Or_int_ (fnOf k_cmp_Or_int__ic k_cmp_Or_int__rv []) := ⟨_, _, k_cmp_Or_int__vars, Try.func238, rfl, by kernel_rfl, by kernel_rfl, by kernel_rfl⟩
theorem ok_cmp_Compare_uint64_ : EntryOk Try.prog k_cmp_Compare_uint64_ (fnOf k_cmp_Compare_uint64__ic k_cmp_Compare_uint64__rv []) := ⟨_, _, k_cmp_Compare_uint64__vars, Try.func239, rfl, by kernel_rfl, by kernel_rfl, by kernel_rfl⟩
theorem ok_cmp_isNaN_uint64_ : EntryOk Try.prog k_cmp_isNaN_uint64_ (fnOf k_cmp_isNaN_uint64__ic k_cmp_isNaN_uint64__rv []) := ⟨_, _, k_cmp_isNaN_uint64__vars, Try.func246, rfl, by kernel_rfl, by kernel_rfl, by kernel_rfl⟩
theorem table_ok : TableOk Try.prog T := by
  refine tableOk_of ?_
  simp only [tbl, List.forall_mem_cons, List.not_mem_nil, false_imp_iff, implies_true, and_true]
  exact ⟨ok_laws_FnExactStateLoss, ok_laws_szTree, ok_laws_toTree, ok_laws_eqTree, ok_laws_toIntS, ok_laws_eqIntS, ok_laws_szTable, ok_laws_toTable, ok_laws_eqState, ok_laws_eqTable, ok_laws_szState, ok_spec_StateLoss, ok_laws_toState, ok_impl_StateLoss, ok_laws_eqWide, ok_laws_szIntSS, ok_laws_toIntSS, ok_laws_eqIntSS, ok_laws_szStringS, ok_laws_szIntS, ok_laws_szTreeS, ok_laws_toStringS, ok_laws_toTreeS, ok_laws_eqStringS, ok_laws_eqTreeS, ok_laws_szNodeS, ok_laws_toNodeS, ok_laws_eqNodeS, ok_spec_Residuals, ok_spec_LossOf, ok_impl_Residuals, ok_impl_LossOf, ok_laws_toNode, ok_laws_eqNode, ok_spec_SubInt, ok_spec_AddWide, ok_spec_MulWide, ok_impl_SubInt, ok_impl_AddWide, ok_impl_MulWide, ok_spec_WideOk, ok_spec_l3Order, ok_spec_l3Zero, ok_spec_l3Product, ok_spec_l3Abs, ok_impl_WideOk, ok_impl_compareSizes, ok_math_bits_Sub64, ok_impl_wideOf, ok_math_bits_Add64, ok_math_bits_Mul64, ok_impl_size, ok_cmp_Or_int_, ok_cmp_Compare_uint64_, ok_cmp_isNaN_uint64_⟩
end Go.Pe
