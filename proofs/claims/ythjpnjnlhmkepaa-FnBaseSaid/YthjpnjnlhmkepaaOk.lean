/- Each compact text is its function of the program (table_ok); no condition. -/
import Derived.Test.YthjpnjnlhmkepaaRows
import Derived.Test.YthjpnjnlhmkepaaK0
import Derived.Test.YthjpnjnlhmkepaaEvB1
import Derived.KernelRfl
set_option linter.all false
namespace Go.Pe
open Go Go.Proofs
theorem ok_laws_FnBase : EntryOk Try.prog k_laws_FnBase (fnOf k_laws_FnBase_ic k_laws_FnBase_rv []) := ⟨_, _, k_laws_FnBase_vars, Try.func3, rfl, by kernel_rfl, by kernel_rfl, by kernel_rfl⟩
theorem ok_laws_big : EntryOk Try.prog k_laws_big (fnOf k_laws_big_ic k_laws_big_rv []) := ⟨_, _, k_laws_big_vars, Try.func15, rfl, by kernel_rfl, by kernel_rfl, by kernel_rfl⟩
theorem ok_spec_DrawBaseOf : EntryOk Try.prog k_spec_DrawBaseOf (fnOf k_spec_DrawBaseOf_ic k_spec_DrawBaseOf_rv []) := ⟨_, _, k_spec_DrawBaseOf_vars, Try.func16, rfl, by kernel_rfl, by kernel_rfl, by kernel_rfl⟩
theorem ok_impl_BaseOf : EntryOk Try.prog k_impl_BaseOf (fnOf k_impl_BaseOf_ic k_impl_BaseOf_rv []) := ⟨_, _, k_impl_BaseOf_vars, Try.func17, rfl, by kernel_rfl, by kernel_rfl, by kernel_rfl⟩
theorem ok_spec_BaseOf : EntryOk Try.prog k_spec_BaseOf (fnOf k_spec_BaseOf_ic k_spec_BaseOf_rv []) := ⟨_, _, k_spec_BaseOf_vars, Try.func18, rfl, by kernel_rfl, by kernel_rfl, by kernel_rfl⟩
theorem ok_spec_FloorDiv : EntryOk Try.prog k_spec_FloorDiv (fnOf k_spec_FloorDiv_ic k_spec_FloorDiv_rv []) := ⟨_, _, k_spec_FloorDiv_vars, Try.func19, rfl, by kernel_rfl, by kernel_rfl, by kernel_rfl⟩
theorem ok_spec_AddInt : EntryOk Try.prog k_spec_AddInt (fnOf k_spec_AddInt_ic k_spec_AddInt_rv []) := ⟨_, _, k_spec_AddInt_vars, Try.func23, rfl, by kernel_rfl, by kernel_rfl, by kernel_rfl⟩
theorem ok_spec_l10List : EntryOk Try.prog k_spec_l10List (fnOf k_spec_l10List_ic k_spec_l10List_rv [true]) := ⟨_, _, k_spec_l10List_vars, Try.func78, rfl, by kernel_rfl, by kernel_rfl, by kernel_rfl⟩
theorem ok_spec_l1New : EntryOk Try.prog k_spec_l1New (fnOf k_spec_l1New_ic k_spec_l1New_rv []) := ⟨_, _, k_spec_l1New_vars, Try.func79, rfl, by kernel_rfl, by kernel_rfl, by kernel_rfl⟩
theorem ok_impl_AddInt : EntryOk Try.prog k_impl_AddInt (fnOf k_impl_AddInt_ic k_impl_AddInt_rv []) := ⟨_, _, k_impl_AddInt_vars, Try.func80, rfl, by kernel_rfl, by kernel_rfl, by kernel_rfl⟩
theorem ok_impl_FloorDiv : EntryOk Try.prog k_impl_FloorDiv (fnOf k_impl_FloorDiv_ic k_impl_FloorDiv_rv []) := ⟨_, _, k_impl_FloorDiv_vars, Try.func81, rfl, by kernel_rfl, by kernel_rfl, by kernel_rfl⟩
theorem ok_spec_l1PickInt : EntryOk Try.prog k_spec_l1PickInt (fnOf k_spec_l1PickInt_ic k_spec_l1PickInt_rv [true, true]) := ⟨_, _, k_spec_l1PickInt_vars, Try.func82, rfl, by kernel_rfl, by kernel_rfl, by kernel_rfl⟩
theorem ok_spec_l1Whole : EntryOk Try.prog k_spec_l1Whole (fnOf k_spec_l1Whole_ic k_spec_l1Whole_rv [true]) := ⟨_, _, k_spec_l1Whole_vars, Try.func83, rfl, by kernel_rfl, by kernel_rfl, by kernel_rfl⟩
theorem ok_spec_l1Once : EntryOk Try.prog k_spec_l1Once (fnOf k_spec_l1Once_ic k_spec_l1Once_rv [true]) := ⟨_, _, k_spec_l1Once_vars, Try.func84, rfl, by kernel_rfl, by kernel_rfl, by kernel_rfl⟩
theorem ok_spec_l1Below : EntryOk Try.prog k_spec_l1Below (fnOf k_spec_l1Below_ic k_spec_l1Below_rv [true]) := ⟨_, _, k_spec_l1Below_vars, Try.func116, rfl, by kernel_rfl, by kernel_rfl, by kernel_rfl⟩
theorem ok_spec_l1Byte : EntryOk Try.prog k_spec_l1Byte (fnOf k_spec_l1Byte_ic k_spec_l1Byte_rv [true]) := ⟨_, _, k_spec_l1Byte_vars, Try.func130, rfl, by kernel_rfl, by kernel_rfl, by kernel_rfl⟩
theorem table_ok : TableOk Try.prog T := by
  refine tableOk_of ?_
  simp only [tbl, List.forall_mem_cons, List.not_mem_nil, false_imp_iff, implies_true, and_true]
  exact ⟨ok_laws_FnBase, ok_laws_big, ok_spec_DrawBaseOf, ok_impl_BaseOf, ok_spec_BaseOf, ok_spec_FloorDiv, ok_spec_AddInt, ok_spec_l10List, ok_spec_l1New, ok_impl_AddInt, ok_impl_FloorDiv, ok_spec_l1PickInt, ok_spec_l1Whole, ok_spec_l1Once, ok_spec_l1Below, ok_spec_l1Byte⟩
end Go.Pe
