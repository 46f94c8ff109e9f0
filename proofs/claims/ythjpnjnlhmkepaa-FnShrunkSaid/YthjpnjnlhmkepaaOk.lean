/- Each compact text is its function of the program (table_ok); no condition. -/
import Derived.Test.YthjpnjnlhmkepaaRows
import Derived.Test.YthjpnjnlhmkepaaK0
import Derived.Test.YthjpnjnlhmkepaaEvB1
import Derived.KernelRfl
set_option linter.all false
namespace Go.Pe
open Go Go.Proofs
theorem ok_laws_FnShrunk : EntryOk Try.prog k_laws_FnShrunk (fnOf k_laws_FnShrunk_ic k_laws_FnShrunk_rv []) := ⟨_, _, k_laws_FnShrunk_vars, Try.func5, rfl, by kernel_rfl, by kernel_rfl, by kernel_rfl⟩
theorem ok_laws_big : EntryOk Try.prog k_laws_big (fnOf k_laws_big_ic k_laws_big_rv []) := ⟨_, _, k_laws_big_vars, Try.func15, rfl, by kernel_rfl, by kernel_rfl, by kernel_rfl⟩
theorem ok_spec_FloorDiv : EntryOk Try.prog k_spec_FloorDiv (fnOf k_spec_FloorDiv_ic k_spec_FloorDiv_rv []) := ⟨_, _, k_spec_FloorDiv_vars, Try.func19, rfl, by kernel_rfl, by kernel_rfl, by kernel_rfl⟩
theorem ok_spec_DrawShrunk : EntryOk Try.prog k_spec_DrawShrunk (fnOf k_spec_DrawShrunk_ic k_spec_DrawShrunk_rv []) := ⟨_, _, k_spec_DrawShrunk_vars, Try.func24, rfl, by kernel_rfl, by kernel_rfl, by kernel_rfl⟩
theorem ok_laws_tail : EntryOk Try.prog k_laws_tail (fnOf k_laws_tail_ic k_laws_tail_rv []) := ⟨_, _, k_laws_tail_vars, Try.func25, rfl, by kernel_rfl, by kernel_rfl, by kernel_rfl⟩
theorem ok_impl_Shrunk : EntryOk Try.prog k_impl_Shrunk (fnOf k_impl_Shrunk_ic k_impl_Shrunk_rv []) := ⟨_, _, k_impl_Shrunk_vars, Try.func26, rfl, by kernel_rfl, by kernel_rfl, by kernel_rfl⟩
theorem ok_spec_Shrunk : EntryOk Try.prog k_spec_Shrunk (fnOf k_spec_Shrunk_ic k_spec_Shrunk_rv []) := ⟨_, _, k_spec_Shrunk_vars, Try.func27, rfl, by kernel_rfl, by kernel_rfl, by kernel_rfl⟩
theorem ok_spec_l1New : EntryOk Try.prog k_spec_l1New (fnOf k_spec_l1New_ic k_spec_l1New_rv []) := ⟨_, _, k_spec_l1New_vars, Try.func79, rfl, by kernel_rfl, by kernel_rfl, by kernel_rfl⟩
theorem ok_impl_FloorDiv : EntryOk Try.prog k_impl_FloorDiv (fnOf k_impl_FloorDiv_ic k_impl_FloorDiv_rv []) := ⟨_, _, k_impl_FloorDiv_vars, Try.func81, rfl, by kernel_rfl, by kernel_rfl, by kernel_rfl⟩
theorem ok_spec_l1PickInt : EntryOk Try.prog k_spec_l1PickInt (fnOf k_spec_l1PickInt_ic k_spec_l1PickInt_rv [true, true]) := ⟨_, _, k_spec_l1PickInt_vars, Try.func82, rfl, by kernel_rfl, by kernel_rfl, by kernel_rfl⟩
theorem ok_spec_l1Whole : EntryOk Try.prog k_spec_l1Whole (fnOf k_spec_l1Whole_ic k_spec_l1Whole_rv [true]) := ⟨_, _, k_spec_l1Whole_vars, Try.func83, rfl, by kernel_rfl, by kernel_rfl, by kernel_rfl⟩
theorem ok_spec_l1Once : EntryOk Try.prog k_spec_l1Once (fnOf k_spec_l1Once_ic k_spec_l1Once_rv [true]) := ⟨_, _, k_spec_l1Once_vars, Try.func84, rfl, by kernel_rfl, by kernel_rfl, by kernel_rfl⟩
theorem ok_spec_l8Bent : EntryOk Try.prog k_spec_l8Bent (fnOf k_spec_l8Bent_ic k_spec_l8Bent_rv [true]) := ⟨_, _, k_spec_l8Bent_vars, Try.func87, rfl, by kernel_rfl, by kernel_rfl, by kernel_rfl⟩
theorem ok_impl_ConfigOk : EntryOk Try.prog k_impl_ConfigOk (fnOf k_impl_ConfigOk_ic k_impl_ConfigOk_rv []) := ⟨_, _, k_impl_ConfigOk_vars, Try.func88, rfl, by kernel_rfl, by kernel_rfl, by kernel_rfl⟩
theorem ok_impl_isLeafValue : EntryOk Try.prog k_impl_isLeafValue (fnOf k_impl_isLeafValue_ic k_impl_isLeafValue_rv []) := ⟨_, _, k_impl_isLeafValue_vars, Try.func89, rfl, by kernel_rfl, by kernel_rfl, by kernel_rfl⟩
theorem ok_spec_ConfigOk : EntryOk Try.prog k_spec_ConfigOk (fnOf k_spec_ConfigOk_ic k_spec_ConfigOk_rv []) := ⟨_, _, k_spec_ConfigOk_vars, Try.func90, rfl, by kernel_rfl, by kernel_rfl, by kernel_rfl⟩
theorem ok_spec_l14Leaf : EntryOk Try.prog k_spec_l14Leaf (fnOf k_spec_l14Leaf_ic k_spec_l14Leaf_rv []) := ⟨_, _, k_spec_l14Leaf_vars, Try.func91, rfl, by kernel_rfl, by kernel_rfl, by kernel_rfl⟩
theorem ok_impl_within : EntryOk Try.prog k_impl_within (fnOf k_impl_within_ic k_impl_within_rv []) := ⟨_, _, k_impl_within_vars, Try.func92, rfl, by kernel_rfl, by kernel_rfl, by kernel_rfl⟩
theorem ok_spec_l1In : EntryOk Try.prog k_spec_l1In (fnOf k_spec_l1In_ic k_spec_l1In_rv []) := ⟨_, _, k_spec_l1In_vars, Try.func112, rfl, by kernel_rfl, by kernel_rfl, by kernel_rfl⟩
theorem ok_spec_l1Below : EntryOk Try.prog k_spec_l1Below (fnOf k_spec_l1Below_ic k_spec_l1Below_rv [true]) := ⟨_, _, k_spec_l1Below_vars, Try.func116, rfl, by kernel_rfl, by kernel_rfl, by kernel_rfl⟩
theorem ok_spec_l1Byte : EntryOk Try.prog k_spec_l1Byte (fnOf k_spec_l1Byte_ic k_spec_l1Byte_rv [true]) := ⟨_, _, k_spec_l1Byte_vars, Try.func130, rfl, by kernel_rfl, by kernel_rfl, by kernel_rfl⟩
theorem ok_spec_l8Right : EntryOk Try.prog k_spec_l8Right (fnOf k_spec_l8Right_ic k_spec_l8Right_rv [true]) := ⟨_, _, k_spec_l8Right_vars, Try.func131, rfl, by kernel_rfl, by kernel_rfl, by kernel_rfl⟩
theorem ok_slices_ContainsFunc___int_int_ : EntryOk Try.prog k_slices_ContainsFunc___int_int_ (fnOf k_slices_ContainsFunc___int_int__ic k_slices_ContainsFunc___int_int__rv []) := ⟨_, _, k_slices_ContainsFunc___int_int__vars, Try.func132, rfl, by kernel_rfl, by kernel_rfl, by kernel_rfl⟩
theorem ok_impl_ConfigOk_1 : EntryOk Try.prog k_impl_ConfigOk_1 (fnOf k_impl_ConfigOk_1_ic k_impl_ConfigOk_1_rv []) := ⟨_, _, k_impl_ConfigOk_1_vars, Try.func133, rfl, by kernel_rfl, by kernel_rfl, by kernel_rfl⟩
theorem ok_impl_isSign : EntryOk Try.prog k_impl_isSign (fnOf k_impl_isSign_ic k_impl_isSign_rv []) := ⟨_, _, k_impl_isSign_vars, Try.func134, rfl, by kernel_rfl, by kernel_rfl, by kernel_rfl⟩
theorem ok_spec_l8Numbers : EntryOk Try.prog k_spec_l8Numbers (fnOf k_spec_l8Numbers_ic k_spec_l8Numbers_rv []) := ⟨_, _, k_spec_l8Numbers_vars, Try.func135, rfl, by kernel_rfl, by kernel_rfl, by kernel_rfl⟩
theorem ok_spec_l8Least : EntryOk Try.prog k_spec_l8Least (fnOf k_spec_l8Least_ic k_spec_l8Least_rv []) := ⟨_, _, k_spec_l8Least_vars, Try.func136, rfl, by kernel_rfl, by kernel_rfl, by kernel_rfl⟩
theorem ok_spec_l8Most : EntryOk Try.prog k_spec_l8Most (fnOf k_spec_l8Most_ic k_spec_l8Most_rv []) := ⟨_, _, k_spec_l8Most_vars, Try.func137, rfl, by kernel_rfl, by kernel_rfl, by kernel_rfl⟩
theorem ok_slices_IndexFunc___int_int_ : EntryOk Try.prog k_slices_IndexFunc___int_int_ (fnOf k_slices_IndexFunc___int_int__ic k_slices_IndexFunc___int_int__rv []) := ⟨_, _, k_slices_IndexFunc___int_int__vars, Try.func155, rfl, by kernel_rfl, by kernel_rfl, by kernel_rfl⟩
theorem table_ok : TableOk Try.prog T := by
  refine tableOk_of ?_
  simp only [tbl, List.forall_mem_cons, List.not_mem_nil, false_imp_iff, implies_true, and_true]
  exact ⟨ok_laws_FnShrunk, ok_laws_big, ok_spec_FloorDiv, ok_spec_DrawShrunk, ok_laws_tail, ok_impl_Shrunk, ok_spec_Shrunk, ok_spec_l1New, ok_impl_FloorDiv, ok_spec_l1PickInt, ok_spec_l1Whole, ok_spec_l1Once, ok_spec_l8Bent, ok_impl_ConfigOk, ok_impl_isLeafValue, ok_spec_ConfigOk, ok_spec_l14Leaf, ok_impl_within, ok_spec_l1In, ok_spec_l1Below, ok_spec_l1Byte, ok_spec_l8Right, ok_slices_ContainsFunc___int_int_, ok_impl_ConfigOk_1, ok_impl_isSign, ok_spec_l8Numbers, ok_spec_l8Least, ok_spec_l8Most, ok_slices_IndexFunc___int_int_⟩
end Go.Pe
