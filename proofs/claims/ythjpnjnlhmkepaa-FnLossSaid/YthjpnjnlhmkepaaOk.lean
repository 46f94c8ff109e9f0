/- Each compact text is its function of the program (table_ok); no condition. -/
import Derived.Test.YthjpnjnlhmkepaaRows
import Derived.Test.YthjpnjnlhmkepaaK0
import Derived.Test.YthjpnjnlhmkepaaEvB2
import Derived.KernelRfl
set_option linter.all false
namespace Go.Pe
open Go Go.Proofs
theorem ok_laws_FnLoss : EntryOk Try.prog k_laws_FnLoss (fnOf k_laws_FnLoss_ic k_laws_FnLoss_rv []) := ⟨_, _, k_laws_FnLoss_vars, Try.func9, rfl, by kernel_rfl, by kernel_rfl, by kernel_rfl⟩
theorem ok_laws_big : EntryOk Try.prog k_laws_big (fnOf k_laws_big_ic k_laws_big_rv []) := ⟨_, _, k_laws_big_vars, Try.func15, rfl, by kernel_rfl, by kernel_rfl, by kernel_rfl⟩
theorem ok_spec_LossOf : EntryOk Try.prog k_spec_LossOf (fnOf k_spec_LossOf_ic k_spec_LossOf_rv []) := ⟨_, _, k_spec_LossOf_vars, Try.func37, rfl, by kernel_rfl, by kernel_rfl, by kernel_rfl⟩
theorem ok_impl_LossOf : EntryOk Try.prog k_impl_LossOf (fnOf k_impl_LossOf_ic k_impl_LossOf_rv []) := ⟨_, _, k_impl_LossOf_vars, Try.func39, rfl, by kernel_rfl, by kernel_rfl, by kernel_rfl⟩
theorem ok_impl_LossRoom : EntryOk Try.prog k_impl_LossRoom (fnOf k_impl_LossRoom_ic k_impl_LossRoom_rv []) := ⟨_, _, k_impl_LossRoom_vars, Try.func43, rfl, by kernel_rfl, by kernel_rfl, by kernel_rfl⟩
theorem ok_spec_DrawLossOf : EntryOk Try.prog k_spec_DrawLossOf (fnOf k_spec_DrawLossOf_ic k_spec_DrawLossOf_rv []) := ⟨_, _, k_spec_DrawLossOf_vars, Try.func44, rfl, by kernel_rfl, by kernel_rfl, by kernel_rfl⟩
theorem ok_impl_MostOf : EntryOk Try.prog k_impl_MostOf (fnOf k_impl_MostOf_ic k_impl_MostOf_rv []) := ⟨_, _, k_impl_MostOf_vars, Try.func45, rfl, by kernel_rfl, by kernel_rfl, by kernel_rfl⟩
theorem ok_spec_MostOf : EntryOk Try.prog k_spec_MostOf (fnOf k_spec_MostOf_ic k_spec_MostOf_rv []) := ⟨_, _, k_spec_MostOf_vars, Try.func46, rfl, by kernel_rfl, by kernel_rfl, by kernel_rfl⟩
theorem ok_spec_CompareWide : EntryOk Try.prog k_spec_CompareWide (fnOf k_spec_CompareWide_ic k_spec_CompareWide_rv []) := ⟨_, _, k_spec_CompareWide_vars, Try.func47, rfl, by kernel_rfl, by kernel_rfl, by kernel_rfl⟩
theorem ok_spec_l10List : EntryOk Try.prog k_spec_l10List (fnOf k_spec_l10List_ic k_spec_l10List_rv [true]) := ⟨_, _, k_spec_l10List_vars, Try.func78, rfl, by kernel_rfl, by kernel_rfl, by kernel_rfl⟩
theorem ok_spec_l1New : EntryOk Try.prog k_spec_l1New (fnOf k_spec_l1New_ic k_spec_l1New_rv []) := ⟨_, _, k_spec_l1New_vars, Try.func79, rfl, by kernel_rfl, by kernel_rfl, by kernel_rfl⟩
theorem ok_spec_l1PickInt : EntryOk Try.prog k_spec_l1PickInt (fnOf k_spec_l1PickInt_ic k_spec_l1PickInt_rv [true, true]) := ⟨_, _, k_spec_l1PickInt_vars, Try.func82, rfl, by kernel_rfl, by kernel_rfl, by kernel_rfl⟩
theorem ok_spec_l1Whole : EntryOk Try.prog k_spec_l1Whole (fnOf k_spec_l1Whole_ic k_spec_l1Whole_rv [true]) := ⟨_, _, k_spec_l1Whole_vars, Try.func83, rfl, by kernel_rfl, by kernel_rfl, by kernel_rfl⟩
theorem ok_spec_l1Once : EntryOk Try.prog k_spec_l1Once (fnOf k_spec_l1Once_ic k_spec_l1Once_rv [true]) := ⟨_, _, k_spec_l1Once_vars, Try.func84, rfl, by kernel_rfl, by kernel_rfl, by kernel_rfl⟩
theorem ok_spec_AddWide : EntryOk Try.prog k_spec_AddWide (fnOf k_spec_AddWide_ic k_spec_AddWide_rv []) := ⟨_, _, k_spec_AddWide_vars, Try.func96, rfl, by kernel_rfl, by kernel_rfl, by kernel_rfl⟩
theorem ok_spec_MulWide : EntryOk Try.prog k_spec_MulWide (fnOf k_spec_MulWide_ic k_spec_MulWide_rv []) := ⟨_, _, k_spec_MulWide_vars, Try.func97, rfl, by kernel_rfl, by kernel_rfl, by kernel_rfl⟩
theorem ok_impl_AddWide : EntryOk Try.prog k_impl_AddWide (fnOf k_impl_AddWide_ic k_impl_AddWide_rv []) := ⟨_, _, k_impl_AddWide_vars, Try.func98, rfl, by kernel_rfl, by kernel_rfl, by kernel_rfl⟩
theorem ok_impl_MulWide : EntryOk Try.prog k_impl_MulWide (fnOf k_impl_MulWide_ic k_impl_MulWide_rv []) := ⟨_, _, k_impl_MulWide_vars, Try.func99, rfl, by kernel_rfl, by kernel_rfl, by kernel_rfl⟩
theorem ok_impl_WideOf : EntryOk Try.prog k_impl_WideOf (fnOf k_impl_WideOf_ic k_impl_WideOf_rv []) := ⟨_, _, k_impl_WideOf_vars, Try.func102, rfl, by kernel_rfl, by kernel_rfl, by kernel_rfl⟩
theorem ok_impl_ScaleWide : EntryOk Try.prog k_impl_ScaleWide (fnOf k_impl_ScaleWide_ic k_impl_ScaleWide_rv []) := ⟨_, _, k_impl_ScaleWide_vars, Try.func103, rfl, by kernel_rfl, by kernel_rfl, by kernel_rfl⟩
theorem ok_impl_size : EntryOk Try.prog k_impl_size (fnOf k_impl_size_ic k_impl_size_rv []) := ⟨_, _, k_impl_size_vars, Try.func104, rfl, by kernel_rfl, by kernel_rfl, by kernel_rfl⟩
theorem ok_spec_l1Max : EntryOk Try.prog k_spec_l1Max (fnOf k_spec_l1Max_ic k_spec_l1Max_rv []) := ⟨_, _, k_spec_l1Max_vars, Try.func105, rfl, by kernel_rfl, by kernel_rfl, by kernel_rfl⟩
theorem ok_spec_l3Zero : EntryOk Try.prog k_spec_l3Zero (fnOf k_spec_l3Zero_ic k_spec_l3Zero_rv []) := ⟨_, _, k_spec_l3Zero_vars, Try.func106, rfl, by kernel_rfl, by kernel_rfl, by kernel_rfl⟩
theorem ok_spec_l3Order : EntryOk Try.prog k_spec_l3Order (fnOf k_spec_l3Order_ic k_spec_l3Order_rv []) := ⟨_, _, k_spec_l3Order_vars, Try.func107, rfl, by kernel_rfl, by kernel_rfl, by kernel_rfl⟩
theorem ok_spec_l1Below : EntryOk Try.prog k_spec_l1Below (fnOf k_spec_l1Below_ic k_spec_l1Below_rv [true]) := ⟨_, _, k_spec_l1Below_vars, Try.func116, rfl, by kernel_rfl, by kernel_rfl, by kernel_rfl⟩
theorem ok_spec_l1Byte : EntryOk Try.prog k_spec_l1Byte (fnOf k_spec_l1Byte_ic k_spec_l1Byte_rv [true]) := ⟨_, _, k_spec_l1Byte_vars, Try.func130, rfl, by kernel_rfl, by kernel_rfl, by kernel_rfl⟩
theorem ok_spec_WideOk : EntryOk Try.prog k_spec_WideOk (fnOf k_spec_WideOk_ic k_spec_WideOk_rv []) := ⟨_, _, k_spec_WideOk_vars, Try.func141, rfl, by kernel_rfl, by kernel_rfl, by kernel_rfl⟩
theorem ok_spec_l3Product : EntryOk Try.prog k_spec_l3Product (fnOf k_spec_l3Product_ic k_spec_l3Product_rv []) := ⟨_, _, k_spec_l3Product_vars, Try.func142, rfl, by kernel_rfl, by kernel_rfl, by kernel_rfl⟩
theorem ok_spec_l3Abs : EntryOk Try.prog k_spec_l3Abs (fnOf k_spec_l3Abs_ic k_spec_l3Abs_rv []) := ⟨_, _, k_spec_l3Abs_vars, Try.func143, rfl, by kernel_rfl, by kernel_rfl, by kernel_rfl⟩
theorem ok_impl_WideOk : EntryOk Try.prog k_impl_WideOk (fnOf k_impl_WideOk_ic k_impl_WideOk_rv []) := ⟨_, _, k_impl_WideOk_vars, Try.func144, rfl, by kernel_rfl, by kernel_rfl, by kernel_rfl⟩
theorem ok_impl_compareSizes : EntryOk Try.prog k_impl_compareSizes (fnOf k_impl_compareSizes_ic k_impl_compareSizes_rv []) := ⟨_, _, k_impl_compareSizes_vars, Try.func145, rfl, by kernel_rfl, by kernel_rfl, by kernel_rfl⟩
theorem ok_math_bits_Sub64 : EntryOk Try.prog k_math_bits_Sub64 (.ext sub64G) := sub64_ok Try.func146 (by kernel_rfl) (by kernel_rfl) (by kernel_rfl) (by kernel_rfl)
theorem ok_impl_wideOf : EntryOk Try.prog k_impl_wideOf (fnOf k_impl_wideOf_ic k_impl_wideOf_rv []) := ⟨_, _, k_impl_wideOf_vars, Try.func147, rfl, by kernel_rfl, by kernel_rfl, by kernel_rfl⟩
theorem ok_math_bits_Add64 : EntryOk Try.prog k_math_bits_Add64 (.ext add64G) := add64_ok Try.func148 (by kernel_rfl) (by kernel_rfl) (by kernel_rfl) (by kernel_rfl)
theorem ok_math_bits_Mul64 : EntryOk Try.prog k_math_bits_Mul64 (fnOf k_math_bits_Mul64_ic k_math_bits_Mul64_rv []) := ⟨_, _, k_math_bits_Mul64_vars, Try.func149, rfl, by kernel_rfl, by kernel_rfl, by kernel_rfl⟩
theorem ok_cmp_Or_int_ : EntryOk Try.prog k_cmp_Or_int_ (fnOf k_cmp_Or_int__ic k_cmp_Or_int__rv []) := ⟨_, _, k_cmp_Or_int__vars, Try.func158, rfl, by kernel_rfl, by kernel_rfl, by kernel_rfl⟩
theorem ok_cmp_Compare_uint64_ : EntryOk Try.prog k_cmp_Compare_uint64_ (fnOf k_cmp_Compare_uint64__ic k_cmp_Compare_uint64__rv []) := ⟨_, _, k_cmp_Compare_uint64__vars, Try.func159, rfl, by kernel_rfl, by kernel_rfl, by kernel_rfl⟩
theorem ok_cmp_isNaN_uint64_ : EntryOk Try.prog k_cmp_isNaN_uint64_ (fnOf k_cmp_isNaN_uint64__ic k_cmp_isNaN_uint64__rv []) := ⟨_, _, k_cmp_isNaN_uint64__vars, Try.func161, rfl, by kernel_rfl, by kernel_rfl, by kernel_rfl⟩
theorem table_ok : TableOk Try.prog T := by
  refine tableOk_of ?_
  simp only [tbl, List.forall_mem_cons, List.not_mem_nil, false_imp_iff, implies_true, and_true]
  exact ⟨ok_laws_FnLoss, ok_laws_big, ok_spec_LossOf, ok_impl_LossOf, ok_impl_LossRoom, ok_spec_DrawLossOf, ok_impl_MostOf, ok_spec_MostOf, ok_spec_CompareWide, ok_spec_l10List, ok_spec_l1New, ok_spec_l1PickInt, ok_spec_l1Whole, ok_spec_l1Once, ok_spec_AddWide, ok_spec_MulWide, ok_impl_AddWide, ok_impl_MulWide, ok_impl_WideOf, ok_impl_ScaleWide, ok_impl_size, ok_spec_l1Max, ok_spec_l3Zero, ok_spec_l3Order, ok_spec_l1Below, ok_spec_l1Byte, ok_spec_WideOk, ok_spec_l3Product, ok_spec_l3Abs, ok_impl_WideOk, ok_impl_compareSizes, ok_math_bits_Sub64, ok_impl_wideOf, ok_math_bits_Add64, ok_math_bits_Mul64, ok_cmp_Or_int_, ok_cmp_Compare_uint64_, ok_cmp_isNaN_uint64_⟩
end Go.Pe
