/- Each compact text is its function of the program (table_ok); no condition. -/
import Derived.Test.YthjpnjnlhmkepaaRows
import Derived.Test.YthjpnjnlhmkepaaK0
import Derived.Test.YthjpnjnlhmkepaaEvB1
import Derived.KernelRfl
set_option linter.all false
namespace Go.Pe
open Go Go.Proofs
theorem ok_laws_FnResiduals : EntryOk Try.prog k_laws_FnResiduals (fnOf k_laws_FnResiduals_ic k_laws_FnResiduals_rv []) := ⟨_, _, k_laws_FnResiduals_vars, Try.func4, rfl, by kernel_rfl, by kernel_rfl, by kernel_rfl⟩
theorem ok_laws_big : EntryOk Try.prog k_laws_big (fnOf k_laws_big_ic k_laws_big_rv []) := ⟨_, _, k_laws_big_vars, Try.func15, rfl, by kernel_rfl, by kernel_rfl, by kernel_rfl⟩
theorem ok_spec_DrawResiduals : EntryOk Try.prog k_spec_DrawResiduals (fnOf k_spec_DrawResiduals_ic k_spec_DrawResiduals_rv []) := ⟨_, _, k_spec_DrawResiduals_vars, Try.func20, rfl, by kernel_rfl, by kernel_rfl, by kernel_rfl⟩
theorem ok_impl_Residuals : EntryOk Try.prog k_impl_Residuals (fnOf k_impl_Residuals_ic k_impl_Residuals_rv []) := ⟨_, _, k_impl_Residuals_vars, Try.func21, rfl, by kernel_rfl, by kernel_rfl, by kernel_rfl⟩
theorem ok_spec_Residuals : EntryOk Try.prog k_spec_Residuals (fnOf k_spec_Residuals_ic k_spec_Residuals_rv []) := ⟨_, _, k_spec_Residuals_vars, Try.func22, rfl, by kernel_rfl, by kernel_rfl, by kernel_rfl⟩
theorem ok_spec_AddInt : EntryOk Try.prog k_spec_AddInt (fnOf k_spec_AddInt_ic k_spec_AddInt_rv []) := ⟨_, _, k_spec_AddInt_vars, Try.func23, rfl, by kernel_rfl, by kernel_rfl, by kernel_rfl⟩
theorem ok_spec_l10List : EntryOk Try.prog k_spec_l10List (fnOf k_spec_l10List_ic k_spec_l10List_rv [true]) := ⟨_, _, k_spec_l10List_vars, Try.func78, rfl, by kernel_rfl, by kernel_rfl, by kernel_rfl⟩
theorem ok_spec_l1New : EntryOk Try.prog k_spec_l1New (fnOf k_spec_l1New_ic k_spec_l1New_rv []) := ⟨_, _, k_spec_l1New_vars, Try.func79, rfl, by kernel_rfl, by kernel_rfl, by kernel_rfl⟩
theorem ok_spec_l1PickInt : EntryOk Try.prog k_spec_l1PickInt (fnOf k_spec_l1PickInt_ic k_spec_l1PickInt_rv [true, true]) := ⟨_, _, k_spec_l1PickInt_vars, Try.func82, rfl, by kernel_rfl, by kernel_rfl, by kernel_rfl⟩
theorem ok_spec_l1Whole : EntryOk Try.prog k_spec_l1Whole (fnOf k_spec_l1Whole_ic k_spec_l1Whole_rv [true]) := ⟨_, _, k_spec_l1Whole_vars, Try.func83, rfl, by kernel_rfl, by kernel_rfl, by kernel_rfl⟩
theorem ok_spec_l1Once : EntryOk Try.prog k_spec_l1Once (fnOf k_spec_l1Once_ic k_spec_l1Once_rv [true]) := ⟨_, _, k_spec_l1Once_vars, Try.func84, rfl, by kernel_rfl, by kernel_rfl, by kernel_rfl⟩
theorem ok_impl_SubInt : EntryOk Try.prog k_impl_SubInt (fnOf k_impl_SubInt_ic k_impl_SubInt_rv []) := ⟨_, _, k_impl_SubInt_vars, Try.func85, rfl, by kernel_rfl, by kernel_rfl, by kernel_rfl⟩
theorem ok_spec_SubInt : EntryOk Try.prog k_spec_SubInt (fnOf k_spec_SubInt_ic k_spec_SubInt_rv []) := ⟨_, _, k_spec_SubInt_vars, Try.func86, rfl, by kernel_rfl, by kernel_rfl, by kernel_rfl⟩
theorem ok_spec_l1Below : EntryOk Try.prog k_spec_l1Below (fnOf k_spec_l1Below_ic k_spec_l1Below_rv [true]) := ⟨_, _, k_spec_l1Below_vars, Try.func116, rfl, by kernel_rfl, by kernel_rfl, by kernel_rfl⟩
theorem ok_spec_l1Byte : EntryOk Try.prog k_spec_l1Byte (fnOf k_spec_l1Byte_ic k_spec_l1Byte_rv [true]) := ⟨_, _, k_spec_l1Byte_vars, Try.func130, rfl, by kernel_rfl, by kernel_rfl, by kernel_rfl⟩
theorem table_ok : TableOk Try.prog T := by
  refine tableOk_of ?_
  simp only [tbl, List.forall_mem_cons, List.not_mem_nil, false_imp_iff, implies_true, and_true]
  exact ⟨ok_laws_FnResiduals, ok_laws_big, ok_spec_DrawResiduals, ok_impl_Residuals, ok_spec_Residuals, ok_spec_AddInt, ok_spec_l10List, ok_spec_l1New, ok_spec_l1PickInt, ok_spec_l1Whole, ok_spec_l1Once, ok_impl_SubInt, ok_spec_SubInt, ok_spec_l1Below, ok_spec_l1Byte⟩
end Go.Pe
