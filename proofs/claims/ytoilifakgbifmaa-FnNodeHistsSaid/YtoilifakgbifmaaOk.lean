/- Each compact text is its function of the program (table_ok); no condition. -/
import Derived.Test.YtoilifakgbifmaaRows
import Derived.Test.YtoilifakgbifmaaK0
import Derived.Test.YtoilifakgbifmaaEvB2
import Derived.KernelRfl
set_option linter.all false
namespace Go.Pe
open Go Go.Proofs
theorem ok_laws_FnNodeHists : EntryOk Try.prog k_laws_FnNodeHists (fnOf k_laws_FnNodeHists_ic k_laws_FnNodeHists_rv []) := ⟨_, _, k_laws_FnNodeHists_vars, Try.func12, rfl, by kernel_rfl, by kernel_rfl, by kernel_rfl⟩
theorem ok_spec_NodeHists : EntryOk Try.prog k_spec_NodeHists (fnOf k_spec_NodeHists_ic k_spec_NodeHists_rv []) := ⟨_, _, k_spec_NodeHists_vars, Try.func31, rfl, by kernel_rfl, by kernel_rfl, by kernel_rfl⟩
theorem ok_impl_NodeHists : EntryOk Try.prog k_impl_NodeHists (fnOf k_impl_NodeHists_ic k_impl_NodeHists_rv []) := ⟨_, _, k_impl_NodeHists_vars, Try.func34, rfl, by kernel_rfl, by kernel_rfl, by kernel_rfl⟩
theorem ok_laws_big : EntryOk Try.prog k_laws_big (fnOf k_laws_big_ic k_laws_big_rv []) := ⟨_, _, k_laws_big_vars, Try.func70, rfl, by kernel_rfl, by kernel_rfl, by kernel_rfl⟩
theorem ok_spec_DrawNodeHists : EntryOk Try.prog k_spec_DrawNodeHists (fnOf k_spec_DrawNodeHists_ic k_spec_DrawNodeHists_rv []) := ⟨_, _, k_spec_DrawNodeHists_vars, Try.func71, rfl, by kernel_rfl, by kernel_rfl, by kernel_rfl⟩
theorem ok_impl_TotalOf : EntryOk Try.prog k_impl_TotalOf (fnOf k_impl_TotalOf_ic k_impl_TotalOf_rv []) := ⟨_, _, k_impl_TotalOf_vars, Try.func72, rfl, by kernel_rfl, by kernel_rfl, by kernel_rfl⟩
theorem ok_spec_GridOk : EntryOk Try.prog k_spec_GridOk (fnOf k_spec_GridOk_ic k_spec_GridOk_rv []) := ⟨_, _, k_spec_GridOk_vars, Try.func99, rfl, by kernel_rfl, by kernel_rfl, by kernel_rfl⟩
theorem ok_spec_HistOf : EntryOk Try.prog k_spec_HistOf (fnOf k_spec_HistOf_ic k_spec_HistOf_rv []) := ⟨_, _, k_spec_HistOf_vars, Try.func100, rfl, by kernel_rfl, by kernel_rfl, by kernel_rfl⟩
theorem ok_impl_GridOk : EntryOk Try.prog k_impl_GridOk (fnOf k_impl_GridOk_ic k_impl_GridOk_rv []) := ⟨_, _, k_impl_GridOk_vars, Try.func101, rfl, by kernel_rfl, by kernel_rfl, by kernel_rfl⟩
theorem ok_impl_HistOf : EntryOk Try.prog k_impl_HistOf (fnOf k_impl_HistOf_ic k_impl_HistOf_rv []) := ⟨_, _, k_impl_HistOf_vars, Try.func102, rfl, by kernel_rfl, by kernel_rfl, by kernel_rfl⟩
theorem ok_spec_l1In : EntryOk Try.prog k_spec_l1In (fnOf k_spec_l1In_ic k_spec_l1In_rv []) := ⟨_, _, k_spec_l1In_vars, Try.func106, rfl, by kernel_rfl, by kernel_rfl, by kernel_rfl⟩
theorem ok_spec_l6Value : EntryOk Try.prog k_spec_l6Value (fnOf k_spec_l6Value_ic k_spec_l6Value_rv []) := ⟨_, _, k_spec_l6Value_vars, Try.func107, rfl, by kernel_rfl, by kernel_rfl, by kernel_rfl⟩
theorem ok_spec_NameOk : EntryOk Try.prog k_spec_NameOk (fnOf k_spec_NameOk_ic k_spec_NameOk_rv []) := ⟨_, _, k_spec_NameOk_vars, Try.func108, rfl, by kernel_rfl, by kernel_rfl, by kernel_rfl⟩
theorem ok_spec_l9Has : EntryOk Try.prog k_spec_l9Has (fnOf k_spec_l9Has_ic k_spec_l9Has_rv []) := ⟨_, _, k_spec_l9Has_vars, Try.func109, rfl, by kernel_rfl, by kernel_rfl, by kernel_rfl⟩
theorem ok_impl_within : EntryOk Try.prog k_impl_within (fnOf k_impl_within_ic k_impl_within_rv []) := ⟨_, _, k_impl_within_vars, Try.func111, rfl, by kernel_rfl, by kernel_rfl, by kernel_rfl⟩
theorem ok_slices_ContainsFunc___int_int_ : EntryOk Try.prog k_slices_ContainsFunc___int_int_ (fnOf k_slices_ContainsFunc___int_int__ic k_slices_ContainsFunc___int_int__rv []) := ⟨_, _, k_slices_ContainsFunc___int_int__vars, Try.func113, rfl, by kernel_rfl, by kernel_rfl, by kernel_rfl⟩
theorem ok_impl_isDecimal : EntryOk Try.prog k_impl_isDecimal (fnOf k_impl_isDecimal_ic k_impl_isDecimal_rv []) := ⟨_, _, k_impl_isDecimal_vars, Try.func116, rfl, by kernel_rfl, by kernel_rfl, by kernel_rfl⟩
theorem ok_spec_TableOk : EntryOk Try.prog k_spec_TableOk (fnOf k_spec_TableOk_ic k_spec_TableOk_rv []) := ⟨_, _, k_spec_TableOk_vars, Try.func120, rfl, by kernel_rfl, by kernel_rfl, by kernel_rfl⟩
theorem ok_spec_Distinct : EntryOk Try.prog k_spec_Distinct (fnOf k_spec_Distinct_ic k_spec_Distinct_rv []) := ⟨_, _, k_spec_Distinct_vars, Try.func134, rfl, by kernel_rfl, by kernel_rfl, by kernel_rfl⟩
theorem ok_spec_l19Args : EntryOk Try.prog k_spec_l19Args (fnOf k_spec_l19Args_ic k_spec_l19Args_rv []) := ⟨_, _, k_spec_l19Args_vars, Try.func136, rfl, by kernel_rfl, by kernel_rfl, by kernel_rfl⟩
theorem ok_spec_l12Rows : EntryOk Try.prog k_spec_l12Rows (fnOf k_spec_l12Rows_ic k_spec_l12Rows_rv [true]) := ⟨_, _, k_spec_l12Rows_vars, Try.func137, rfl, by kernel_rfl, by kernel_rfl, by kernel_rfl⟩
theorem ok_impl_Prefix : EntryOk Try.prog k_impl_Prefix (fnOf k_impl_Prefix_ic k_impl_Prefix_rv []) := ⟨_, _, k_impl_Prefix_vars, Try.func138, rfl, by kernel_rfl, by kernel_rfl, by kernel_rfl⟩
theorem ok_spec_l1New : EntryOk Try.prog k_spec_l1New (fnOf k_spec_l1New_ic k_spec_l1New_rv []) := ⟨_, _, k_spec_l1New_vars, Try.func139, rfl, by kernel_rfl, by kernel_rfl, by kernel_rfl⟩
theorem ok_spec_l1Once : EntryOk Try.prog k_spec_l1Once (fnOf k_spec_l1Once_ic k_spec_l1Once_rv [true]) := ⟨_, _, k_spec_l1Once_vars, Try.func141, rfl, by kernel_rfl, by kernel_rfl, by kernel_rfl⟩
theorem ok_spec_l1Below : EntryOk Try.prog k_spec_l1Below (fnOf k_spec_l1Below_ic k_spec_l1Below_rv [true]) := ⟨_, _, k_spec_l1Below_vars, Try.func142, rfl, by kernel_rfl, by kernel_rfl, by kernel_rfl⟩
theorem ok_spec_RowsIn : EntryOk Try.prog k_spec_RowsIn (fnOf k_spec_RowsIn_ic k_spec_RowsIn_rv []) := ⟨_, _, k_spec_RowsIn_vars, Try.func156, rfl, by kernel_rfl, by kernel_rfl, by kernel_rfl⟩
theorem ok_spec_CutsOk : EntryOk Try.prog k_spec_CutsOk (fnOf k_spec_CutsOk_ic k_spec_CutsOk_rv []) := ⟨_, _, k_spec_CutsOk_vars, Try.func157, rfl, by kernel_rfl, by kernel_rfl, by kernel_rfl⟩
theorem ok_spec_l13Add : EntryOk Try.prog k_spec_l13Add (fnOf k_spec_l13Add_ic k_spec_l13Add_rv []) := ⟨_, _, k_spec_l13Add_vars, Try.func158, rfl, by kernel_rfl, by kernel_rfl, by kernel_rfl⟩
theorem ok_impl_RowsIn : EntryOk Try.prog k_impl_RowsIn (fnOf k_impl_RowsIn_ic k_impl_RowsIn_rv []) := ⟨_, _, k_impl_RowsIn_vars, Try.func159, rfl, by kernel_rfl, by kernel_rfl, by kernel_rfl⟩
theorem ok_impl_CutsOk : EntryOk Try.prog k_impl_CutsOk (fnOf k_impl_CutsOk_ic k_impl_CutsOk_rv []) := ⟨_, _, k_impl_CutsOk_vars, Try.func160, rfl, by kernel_rfl, by kernel_rfl, by kernel_rfl⟩
theorem ok_impl_GridOk_1 : EntryOk Try.prog k_impl_GridOk_1 (fnOf k_impl_GridOk_1_ic k_impl_GridOk_1_rv []) := ⟨_, _, k_impl_GridOk_1_vars, Try.func161, rfl, by kernel_rfl, by kernel_rfl, by kernel_rfl⟩
theorem ok__impl_Slot__plus : EntryOk Try.prog k__impl_Slot__plus (fnOf k__impl_Slot__plus_ic k__impl_Slot__plus_rv []) := ⟨_, _, k__impl_Slot__plus_vars, Try.func162, rfl, by kernel_rfl, by kernel_rfl, by kernel_rfl⟩
theorem ok_slices_IndexFunc___int_int_ : EntryOk Try.prog k_slices_IndexFunc___int_int_ (fnOf k_slices_IndexFunc___int_int__ic k_slices_IndexFunc___int_int__rv []) := ⟨_, _, k_slices_IndexFunc___int_int__vars, Try.func169, rfl, by kernel_rfl, by kernel_rfl, by kernel_rfl⟩
theorem ok_spec_AddInt : EntryOk Try.prog k_spec_AddInt (fnOf k_spec_AddInt_ic k_spec_AddInt_rv []) := ⟨_, _, k_spec_AddInt_vars, Try.func174, rfl, by kernel_rfl, by kernel_rfl, by kernel_rfl⟩
theorem ok_impl_areDecimals : EntryOk Try.prog k_impl_areDecimals (fnOf k_impl_areDecimals_ic k_impl_areDecimals_rv []) := ⟨_, _, k_impl_areDecimals_vars, Try.func176, rfl, by kernel_rfl, by kernel_rfl, by kernel_rfl⟩
theorem ok_impl_AddInt : EntryOk Try.prog k_impl_AddInt (fnOf k_impl_AddInt_ic k_impl_AddInt_rv []) := ⟨_, _, k_impl_AddInt_vars, Try.func179, rfl, by kernel_rfl, by kernel_rfl, by kernel_rfl⟩
theorem ok_spec_SortInts : EntryOk Try.prog k_spec_SortInts (fnOf k_spec_SortInts_ic k_spec_SortInts_rv []) := ⟨_, _, k_spec_SortInts_vars, Try.func189, rfl, by kernel_rfl, by kernel_rfl, by kernel_rfl⟩
theorem ok_spec_l11Right : EntryOk Try.prog k_spec_l11Right (fnOf k_spec_l11Right_ic k_spec_l11Right_rv [true]) := ⟨_, _, k_spec_l11Right_vars, Try.func192, rfl, by kernel_rfl, by kernel_rfl, by kernel_rfl⟩
theorem ok_spec_l13Grads : EntryOk Try.prog k_spec_l13Grads (fnOf k_spec_l13Grads_ic k_spec_l13Grads_rv [true]) := ⟨_, _, k_spec_l13Grads_vars, Try.func193, rfl, by kernel_rfl, by kernel_rfl, by kernel_rfl⟩
theorem ok_spec_l1PickInt : EntryOk Try.prog k_spec_l1PickInt (fnOf k_spec_l1PickInt_ic k_spec_l1PickInt_rv [true, true, true]) := ⟨_, _, k_spec_l1PickInt_vars, Try.func194, rfl, by kernel_rfl, by kernel_rfl, by kernel_rfl⟩
theorem ok_spec_l8Right : EntryOk Try.prog k_spec_l8Right (fnOf k_spec_l8Right_ic k_spec_l8Right_rv [true]) := ⟨_, _, k_spec_l8Right_vars, Try.func195, rfl, by kernel_rfl, by kernel_rfl, by kernel_rfl⟩
theorem ok_spec_l8Bent : EntryOk Try.prog k_spec_l8Bent (fnOf k_spec_l8Bent_ic k_spec_l8Bent_rv [true]) := ⟨_, _, k_spec_l8Bent_vars, Try.func196, rfl, by kernel_rfl, by kernel_rfl, by kernel_rfl⟩
theorem ok_spec_l11Bent : EntryOk Try.prog k_spec_l11Bent (fnOf k_spec_l11Bent_ic k_spec_l11Bent_rv [true]) := ⟨_, _, k_spec_l11Bent_vars, Try.func197, rfl, by kernel_rfl, by kernel_rfl, by kernel_rfl⟩
theorem ok_spec_l1Byte : EntryOk Try.prog k_spec_l1Byte (fnOf k_spec_l1Byte_ic k_spec_l1Byte_rv [true]) := ⟨_, _, k_spec_l1Byte_vars, Try.func202, rfl, by kernel_rfl, by kernel_rfl, by kernel_rfl⟩
theorem ok_spec_l1Whole : EntryOk Try.prog k_spec_l1Whole (fnOf k_spec_l1Whole_ic k_spec_l1Whole_rv [true]) := ⟨_, _, k_spec_l1Whole_vars, Try.func203, rfl, by kernel_rfl, by kernel_rfl, by kernel_rfl⟩
theorem ok_impl_areDecimals_1 : EntryOk Try.prog k_impl_areDecimals_1 (fnOf k_impl_areDecimals_1_ic k_impl_areDecimals_1_rv []) := ⟨_, _, k_impl_areDecimals_1_vars, Try.func214, rfl, by kernel_rfl, by kernel_rfl, by kernel_rfl⟩
theorem ok_spec_GridOf : EntryOk Try.prog k_spec_GridOf (fnOf k_spec_GridOf_ic k_spec_GridOf_rv []) := ⟨_, _, k_spec_GridOf_vars, Try.func232, rfl, by kernel_rfl, by kernel_rfl, by kernel_rfl⟩
theorem ok_spec_l9Right : EntryOk Try.prog k_spec_l9Right (fnOf k_spec_l9Right_ic k_spec_l9Right_rv [true]) := ⟨_, _, k_spec_l9Right_vars, Try.func233, rfl, by kernel_rfl, by kernel_rfl, by kernel_rfl⟩
theorem ok_spec_l6Small : EntryOk Try.prog k_spec_l6Small (fnOf k_spec_l6Small_ic k_spec_l6Small_rv [true]) := ⟨_, _, k_spec_l6Small_vars, Try.func234, rfl, by kernel_rfl, by kernel_rfl, by kernel_rfl⟩
theorem ok_spec_Column : EntryOk Try.prog k_spec_Column (fnOf k_spec_Column_ic k_spec_Column_rv []) := ⟨_, _, k_spec_Column_vars, Try.func242, rfl, by kernel_rfl, by kernel_rfl, by kernel_rfl⟩
theorem ok_spec_CutsOf : EntryOk Try.prog k_spec_CutsOf (fnOf k_spec_CutsOf_ic k_spec_CutsOf_rv []) := ⟨_, _, k_spec_CutsOf_vars, Try.func243, rfl, by kernel_rfl, by kernel_rfl, by kernel_rfl⟩
theorem ok_spec_BinOf : EntryOk Try.prog k_spec_BinOf (fnOf k_spec_BinOf_ic k_spec_BinOf_rv []) := ⟨_, _, k_spec_BinOf_vars, Try.func244, rfl, by kernel_rfl, by kernel_rfl, by kernel_rfl⟩
theorem table_ok : TableOk Try.prog T := by
  refine tableOk_of ?_
  simp only [tbl, List.forall_mem_cons, List.not_mem_nil, false_imp_iff, implies_true, and_true]
  exact ⟨ok_laws_FnNodeHists, ok_spec_NodeHists, ok_impl_NodeHists, ok_laws_big, ok_spec_DrawNodeHists, ok_impl_TotalOf, ok_spec_GridOk, ok_spec_HistOf, ok_impl_GridOk, ok_impl_HistOf, ok_spec_l1In, ok_spec_l6Value, ok_spec_NameOk, ok_spec_l9Has, ok_impl_within, ok_slices_ContainsFunc___int_int_, ok_impl_isDecimal, ok_spec_TableOk, ok_spec_Distinct, ok_spec_l19Args, ok_spec_l12Rows, ok_impl_Prefix, ok_spec_l1New, ok_spec_l1Once, ok_spec_l1Below, ok_spec_RowsIn, ok_spec_CutsOk, ok_spec_l13Add, ok_impl_RowsIn, ok_impl_CutsOk, ok_impl_GridOk_1, ok__impl_Slot__plus, ok_slices_IndexFunc___int_int_, ok_spec_AddInt, ok_impl_areDecimals, ok_impl_AddInt, ok_spec_SortInts, ok_spec_l11Right, ok_spec_l13Grads, ok_spec_l1PickInt, ok_spec_l8Right, ok_spec_l8Bent, ok_spec_l11Bent, ok_spec_l1Byte, ok_spec_l1Whole, ok_impl_areDecimals_1, ok_spec_GridOf, ok_spec_l9Right, ok_spec_l6Small, ok_spec_Column, ok_spec_CutsOf, ok_spec_BinOf⟩
end Go.Pe
