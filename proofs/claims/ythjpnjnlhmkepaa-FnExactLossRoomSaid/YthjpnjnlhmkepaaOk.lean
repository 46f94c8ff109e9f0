/- Each compact text is its function of the program (table_ok); no condition. -/
import Derived.Test.YthjpnjnlhmkepaaRows
import Derived.Test.YthjpnjnlhmkepaaK0
import Derived.Test.YthjpnjnlhmkepaaEvB2
import Derived.KernelRfl
set_option linter.all false
namespace Go.Pe
open Go Go.Proofs
theorem ok_laws_FnExactLossRoom : EntryOk Try.prog k_laws_FnExactLossRoom (fnOf k_laws_FnExactLossRoom_ic k_laws_FnExactLossRoom_rv []) := ⟨_, _, k_laws_FnExactLossRoom_vars, Try.func8, rfl, by kernel_rfl, by kernel_rfl, by kernel_rfl⟩
theorem ok_laws_toIntS : EntryOk Try.prog k_laws_toIntS (fnOf k_laws_toIntS_ic k_laws_toIntS_rv []) := ⟨_, _, k_laws_toIntS_vars, Try.func38, rfl, by kernel_rfl, by kernel_rfl, by kernel_rfl⟩
theorem ok_laws_eqWide : EntryOk Try.prog k_laws_eqWide (fnOf k_laws_eqWide_ic k_laws_eqWide_rv []) := ⟨_, _, k_laws_eqWide_vars, Try.func40, rfl, by kernel_rfl, by kernel_rfl, by kernel_rfl⟩
theorem ok_laws_eqIntS : EntryOk Try.prog k_laws_eqIntS (fnOf k_laws_eqIntS_ic k_laws_eqIntS_rv []) := ⟨_, _, k_laws_eqIntS_vars, Try.func41, rfl, by kernel_rfl, by kernel_rfl, by kernel_rfl⟩
theorem ok_spec_LossRoom : EntryOk Try.prog k_spec_LossRoom (fnOf k_spec_LossRoom_ic k_spec_LossRoom_rv []) := ⟨_, _, k_spec_LossRoom_vars, Try.func42, rfl, by kernel_rfl, by kernel_rfl, by kernel_rfl⟩
theorem ok_impl_LossRoom : EntryOk Try.prog k_impl_LossRoom (fnOf k_impl_LossRoom_ic k_impl_LossRoom_rv []) := ⟨_, _, k_impl_LossRoom_vars, Try.func43, rfl, by kernel_rfl, by kernel_rfl, by kernel_rfl⟩
theorem ok_impl_MostOf : EntryOk Try.prog k_impl_MostOf (fnOf k_impl_MostOf_ic k_impl_MostOf_rv []) := ⟨_, _, k_impl_MostOf_vars, Try.func45, rfl, by kernel_rfl, by kernel_rfl, by kernel_rfl⟩
theorem ok_spec_MostOf : EntryOk Try.prog k_spec_MostOf (fnOf k_spec_MostOf_ic k_spec_MostOf_rv []) := ⟨_, _, k_spec_MostOf_vars, Try.func46, rfl, by kernel_rfl, by kernel_rfl, by kernel_rfl⟩
theorem ok_spec_AddWide : EntryOk Try.prog k_spec_AddWide (fnOf k_spec_AddWide_ic k_spec_AddWide_rv []) := ⟨_, _, k_spec_AddWide_vars, Try.func96, rfl, by kernel_rfl, by kernel_rfl, by kernel_rfl⟩
theorem ok_impl_AddWide : EntryOk Try.prog k_impl_AddWide (fnOf k_impl_AddWide_ic k_impl_AddWide_rv []) := ⟨_, _, k_impl_AddWide_vars, Try.func98, rfl, by kernel_rfl, by kernel_rfl, by kernel_rfl⟩
theorem ok_spec_WideOf : EntryOk Try.prog k_spec_WideOf (fnOf k_spec_WideOf_ic k_spec_WideOf_rv []) := ⟨_, _, k_spec_WideOf_vars, Try.func100, rfl, by kernel_rfl, by kernel_rfl, by kernel_rfl⟩
theorem ok_spec_ScaleWide : EntryOk Try.prog k_spec_ScaleWide (fnOf k_spec_ScaleWide_ic k_spec_ScaleWide_rv []) := ⟨_, _, k_spec_ScaleWide_vars, Try.func101, rfl, by kernel_rfl, by kernel_rfl, by kernel_rfl⟩
theorem ok_impl_WideOf : EntryOk Try.prog k_impl_WideOf (fnOf k_impl_WideOf_ic k_impl_WideOf_rv []) := ⟨_, _, k_impl_WideOf_vars, Try.func102, rfl, by kernel_rfl, by kernel_rfl, by kernel_rfl⟩
theorem ok_impl_ScaleWide : EntryOk Try.prog k_impl_ScaleWide (fnOf k_impl_ScaleWide_ic k_impl_ScaleWide_rv []) := ⟨_, _, k_impl_ScaleWide_vars, Try.func103, rfl, by kernel_rfl, by kernel_rfl, by kernel_rfl⟩
theorem ok_impl_size : EntryOk Try.prog k_impl_size (fnOf k_impl_size_ic k_impl_size_rv []) := ⟨_, _, k_impl_size_vars, Try.func104, rfl, by kernel_rfl, by kernel_rfl, by kernel_rfl⟩
theorem ok_spec_l1Max : EntryOk Try.prog k_spec_l1Max (fnOf k_spec_l1Max_ic k_spec_l1Max_rv []) := ⟨_, _, k_spec_l1Max_vars, Try.func105, rfl, by kernel_rfl, by kernel_rfl, by kernel_rfl⟩
theorem ok_spec_l3Zero : EntryOk Try.prog k_spec_l3Zero (fnOf k_spec_l3Zero_ic k_spec_l3Zero_rv []) := ⟨_, _, k_spec_l3Zero_vars, Try.func106, rfl, by kernel_rfl, by kernel_rfl, by kernel_rfl⟩
theorem ok_spec_l3Order : EntryOk Try.prog k_spec_l3Order (fnOf k_spec_l3Order_ic k_spec_l3Order_rv []) := ⟨_, _, k_spec_l3Order_vars, Try.func107, rfl, by kernel_rfl, by kernel_rfl, by kernel_rfl⟩
theorem ok_spec_WideOk : EntryOk Try.prog k_spec_WideOk (fnOf k_spec_WideOk_ic k_spec_WideOk_rv []) := ⟨_, _, k_spec_WideOk_vars, Try.func141, rfl, by kernel_rfl, by kernel_rfl, by kernel_rfl⟩
theorem ok_spec_l3Product : EntryOk Try.prog k_spec_l3Product (fnOf k_spec_l3Product_ic k_spec_l3Product_rv []) := ⟨_, _, k_spec_l3Product_vars, Try.func142, rfl, by kernel_rfl, by kernel_rfl, by kernel_rfl⟩
theorem ok_spec_l3Abs : EntryOk Try.prog k_spec_l3Abs (fnOf k_spec_l3Abs_ic k_spec_l3Abs_rv []) := ⟨_, _, k_spec_l3Abs_vars, Try.func143, rfl, by kernel_rfl, by kernel_rfl, by kernel_rfl⟩
theorem ok_impl_WideOk : EntryOk Try.prog k_impl_WideOk (fnOf k_impl_WideOk_ic k_impl_WideOk_rv []) := ⟨_, _, k_impl_WideOk_vars, Try.func144, rfl, by kernel_rfl, by kernel_rfl, by kernel_rfl⟩
theorem ok_impl_compareSizes : EntryOk Try.prog k_impl_compareSizes (fnOf k_impl_compareSizes_ic k_impl_compareSizes_rv []) := ⟨_, _, k_impl_compareSizes_vars, Try.func145, rfl, by kernel_rfl, by kernel_rfl, by kernel_rfl⟩
theorem ok_math_bits_Sub64 : EntryOk Try.prog k_math_bits_Sub64 (.ext sub64G) := sub64_ok Try.func146 (by kernel_rfl) (by kernel_rfl) (by kernel_rfl) (by kernel_rfl)
theorem ok_impl_wideOf : EntryOk Try.prog k_impl_wideOf (fnOf k_impl_wideOf_ic k_impl_wideOf_rv []) := ⟨_, _, k_impl_wideOf_vars, Try.func147, rfl, by kernel_rfl, by kernel_rfl, by kernel_rfl⟩
theorem ok_math_bits_Add64 : EntryOk Try.prog k_math_bits_Add64 (.ext add64G) := add64_ok Try.func148 (by kernel_rfl) (by kernel_rfl) (by kernel_rfl) (by kernel_rfl)
theorem ok_math_bits_Mul64 : EntryOk Try.prog k_math_bits_Mul64 (fnOf k_math_bits_Mul64_ic k_math_bits_Mul64_rv []) := ⟨_, _, k_math_bits_Mul64_vars, Try.func149, rfl, by kernel_rfl, by kernel_rfl, by kernel_rfl⟩
theorem ok_cmp_Or_int_ : EntryOk Try.prog k_cmp_Or_int_ (fnOf k_cmp_Or_int__ic k_cmp_Or_int__rv []) := ⟨_, _, k_cmp_Or_int__vars, Try.func158, rfl, by kernel_rfl, by kernel_rfl, by kernel_rfl⟩
theorem ok_cmp_Compare_uint64_ : EntryOk Try.prog k_cmp_Compare_uint64_ (fnOf k_cmp_Compare_uint64__ic k_cmp_Compare_uint64__rv []) := ⟨_, _, k_cmp_Compare_uint64__vars, Try.func159, rfl, by kernel_rfl, by kernel_rfl, by kernel_rfl⟩
theorem ok_cmp_isNaN_uint64_ : EntryOk Try.prog k_cmp_isNaN_uint64_ (fnOf k_cmp_isNaN_uint64__ic k_cmp_isNaN_uint64__rv []) := ⟨_, _, k_cmp_isNaN_uint64__vars, Try.func161, rfl, by kernel_rfl, by kernel_rfl, by kernel_rfl⟩
theorem table_ok : TableOk Try.prog T := by
  refine tableOk_of ?_
  simp only [tbl, List.forall_mem_cons, List.not_mem_nil, false_imp_iff, implies_true, and_true]
  exact ⟨ok_laws_FnExactLossRoom, ok_laws_toIntS, ok_laws_eqWide, ok_laws_eqIntS, ok_spec_LossRoom, ok_impl_LossRoom, ok_impl_MostOf, ok_spec_MostOf, ok_spec_AddWide, ok_impl_AddWide, ok_spec_WideOf, ok_spec_ScaleWide, ok_impl_WideOf, ok_impl_ScaleWide, ok_impl_size, ok_spec_l1Max, ok_spec_l3Zero, ok_spec_l3Order, ok_spec_WideOk, ok_spec_l3Product, ok_spec_l3Abs, ok_impl_WideOk, ok_impl_compareSizes, ok_math_bits_Sub64, ok_impl_wideOf, ok_math_bits_Add64, ok_math_bits_Mul64, ok_cmp_Or_int_, ok_cmp_Compare_uint64_, ok_cmp_isNaN_uint64_⟩
end Go.Pe
