/- Each compact text is its function of the program (table_ok); no condition. -/
import Derived.Test.YtoilifakgbifmaaRows
import Derived.Test.YtoilifakgbifmaaK0
import Derived.Test.YtoilifakgbifmaaEvB2
import Derived.KernelRfl
set_option linter.all false
namespace Go.Pe
open Go Go.Proofs
theorem ok_laws_FnExactNodeHists : EntryOk Try.prog k_laws_FnExactNodeHists (fnOf k_laws_FnExactNodeHists_ic k_laws_FnExactNodeHists_rv []) := ⟨_, _, k_laws_FnExactNodeHists_vars, Try.func5, rfl, by kernel_rfl, by kernel_rfl, by kernel_rfl⟩
theorem ok_laws_szGrid : EntryOk Try.prog k_laws_szGrid (fnOf k_laws_szGrid_ic k_laws_szGrid_rv []) := ⟨_, _, k_laws_szGrid_vars, Try.func30, rfl, by kernel_rfl, by kernel_rfl, by kernel_rfl⟩
theorem ok_spec_NodeHists : EntryOk Try.prog k_spec_NodeHists (fnOf k_spec_NodeHists_ic k_spec_NodeHists_rv []) := ⟨_, _, k_spec_NodeHists_vars, Try.func31, rfl, by kernel_rfl, by kernel_rfl, by kernel_rfl⟩
theorem ok_laws_toGrid : EntryOk Try.prog k_laws_toGrid (fnOf k_laws_toGrid_ic k_laws_toGrid_rv []) := ⟨_, _, k_laws_toGrid_vars, Try.func32, rfl, by kernel_rfl, by kernel_rfl, by kernel_rfl⟩
theorem ok_laws_toIntS : EntryOk Try.prog k_laws_toIntS (fnOf k_laws_toIntS_ic k_laws_toIntS_rv []) := ⟨_, _, k_laws_toIntS_vars, Try.func33, rfl, by kernel_rfl, by kernel_rfl, by kernel_rfl⟩
theorem ok_impl_NodeHists : EntryOk Try.prog k_impl_NodeHists (fnOf k_impl_NodeHists_ic k_impl_NodeHists_rv []) := ⟨_, _, k_impl_NodeHists_vars, Try.func34, rfl, by kernel_rfl, by kernel_rfl, by kernel_rfl⟩
theorem ok_laws_eqSlotSS : EntryOk Try.prog k_laws_eqSlotSS (fnOf k_laws_eqSlotSS_ic k_laws_eqSlotSS_rv []) := ⟨_, _, k_laws_eqSlotSS_vars, Try.func35, rfl, by kernel_rfl, by kernel_rfl, by kernel_rfl⟩
theorem ok_laws_eqGrid : EntryOk Try.prog k_laws_eqGrid (fnOf k_laws_eqGrid_ic k_laws_eqGrid_rv []) := ⟨_, _, k_laws_eqGrid_vars, Try.func36, rfl, by kernel_rfl, by kernel_rfl, by kernel_rfl⟩
theorem ok_laws_eqIntS : EntryOk Try.prog k_laws_eqIntS (fnOf k_laws_eqIntS_ic k_laws_eqIntS_rv []) := ⟨_, _, k_laws_eqIntS_vars, Try.func37, rfl, by kernel_rfl, by kernel_rfl, by kernel_rfl⟩
theorem ok_laws_markGrid : EntryOk Try.prog k_laws_markGrid (fnOf k_laws_markGrid_ic k_laws_markGrid_rv [true]) := ⟨_, _, k_laws_markGrid_vars, Try.func38, rfl, by kernel_rfl, by kernel_rfl, by kernel_rfl⟩
theorem ok_laws_markIntS : EntryOk Try.prog k_laws_markIntS (fnOf k_laws_markIntS_ic k_laws_markIntS_rv [true]) := ⟨_, _, k_laws_markIntS_vars, Try.func39, rfl, by kernel_rfl, by kernel_rfl, by kernel_rfl⟩
theorem ok_laws_markSlotSS : EntryOk Try.prog k_laws_markSlotSS (fnOf k_laws_markSlotSS_ic k_laws_markSlotSS_rv [true]) := ⟨_, _, k_laws_markSlotSS_vars, Try.func40, rfl, by kernel_rfl, by kernel_rfl, by kernel_rfl⟩
theorem ok_laws_heldSlotSS : EntryOk Try.prog k_laws_heldSlotSS (fnOf k_laws_heldSlotSS_ic k_laws_heldSlotSS_rv []) := ⟨_, _, k_laws_heldSlotSS_vars, Try.func41, rfl, by kernel_rfl, by kernel_rfl, by kernel_rfl⟩
theorem ok_laws_szIntSS : EntryOk Try.prog k_laws_szIntSS (fnOf k_laws_szIntSS_ic k_laws_szIntSS_rv []) := ⟨_, _, k_laws_szIntSS_vars, Try.func63, rfl, by kernel_rfl, by kernel_rfl, by kernel_rfl⟩
theorem ok_laws_toIntSS : EntryOk Try.prog k_laws_toIntSS (fnOf k_laws_toIntSS_ic k_laws_toIntSS_rv []) := ⟨_, _, k_laws_toIntSS_vars, Try.func65, rfl, by kernel_rfl, by kernel_rfl, by kernel_rfl⟩
theorem ok_laws_eqIntSS : EntryOk Try.prog k_laws_eqIntSS (fnOf k_laws_eqIntSS_ic k_laws_eqIntSS_rv []) := ⟨_, _, k_laws_eqIntSS_vars, Try.func67, rfl, by kernel_rfl, by kernel_rfl, by kernel_rfl⟩
theorem ok_laws_markIntSS : EntryOk Try.prog k_laws_markIntSS (fnOf k_laws_markIntSS_ic k_laws_markIntSS_rv [true]) := ⟨_, _, k_laws_markIntSS_vars, Try.func69, rfl, by kernel_rfl, by kernel_rfl, by kernel_rfl⟩
theorem ok_laws_szIntS : EntryOk Try.prog k_laws_szIntS (fnOf k_laws_szIntS_ic k_laws_szIntS_rv []) := ⟨_, _, k_laws_szIntS_vars, Try.func75, rfl, by kernel_rfl, by kernel_rfl, by kernel_rfl⟩
theorem ok_spec_GridOk : EntryOk Try.prog k_spec_GridOk (fnOf k_spec_GridOk_ic k_spec_GridOk_rv []) := ⟨_, _, k_spec_GridOk_vars, Try.func99, rfl, by kernel_rfl, by kernel_rfl, by kernel_rfl⟩
theorem ok_spec_HistOf : EntryOk Try.prog k_spec_HistOf (fnOf k_spec_HistOf_ic k_spec_HistOf_rv []) := ⟨_, _, k_spec_HistOf_vars, Try.func100, rfl, by kernel_rfl, by kernel_rfl, by kernel_rfl⟩
theorem ok_impl_GridOk : EntryOk Try.prog k_impl_GridOk (fnOf k_impl_GridOk_ic k_impl_GridOk_rv []) := ⟨_, _, k_impl_GridOk_vars, Try.func101, rfl, by kernel_rfl, by kernel_rfl, by kernel_rfl⟩
theorem ok_impl_HistOf : EntryOk Try.prog k_impl_HistOf (fnOf k_impl_HistOf_ic k_impl_HistOf_rv []) := ⟨_, _, k_impl_HistOf_vars, Try.func102, rfl, by kernel_rfl, by kernel_rfl, by kernel_rfl⟩
theorem ok_laws_eqSlotS : EntryOk Try.prog k_laws_eqSlotS (fnOf k_laws_eqSlotS_ic k_laws_eqSlotS_rv []) := ⟨_, _, k_laws_eqSlotS_vars, Try.func103, rfl, by kernel_rfl, by kernel_rfl, by kernel_rfl⟩
theorem ok_laws_markSlotS : EntryOk Try.prog k_laws_markSlotS (fnOf k_laws_markSlotS_ic k_laws_markSlotS_rv [true]) := ⟨_, _, k_laws_markSlotS_vars, Try.func104, rfl, by kernel_rfl, by kernel_rfl, by kernel_rfl⟩
theorem ok_laws_heldSlotS : EntryOk Try.prog k_laws_heldSlotS (fnOf k_laws_heldSlotS_ic k_laws_heldSlotS_rv []) := ⟨_, _, k_laws_heldSlotS_vars, Try.func105, rfl, by kernel_rfl, by kernel_rfl, by kernel_rfl⟩
theorem ok_spec_l1In : EntryOk Try.prog k_spec_l1In (fnOf k_spec_l1In_ic k_spec_l1In_rv []) := ⟨_, _, k_spec_l1In_vars, Try.func106, rfl, by kernel_rfl, by kernel_rfl, by kernel_rfl⟩
theorem ok_spec_l6Value : EntryOk Try.prog k_spec_l6Value (fnOf k_spec_l6Value_ic k_spec_l6Value_rv []) := ⟨_, _, k_spec_l6Value_vars, Try.func107, rfl, by kernel_rfl, by kernel_rfl, by kernel_rfl⟩
theorem ok_impl_within : EntryOk Try.prog k_impl_within (fnOf k_impl_within_ic k_impl_within_rv []) := ⟨_, _, k_impl_within_vars, Try.func111, rfl, by kernel_rfl, by kernel_rfl, by kernel_rfl⟩
theorem ok_slices_ContainsFunc___int_int_ : EntryOk Try.prog k_slices_ContainsFunc___int_int_ (fnOf k_slices_ContainsFunc___int_int__ic k_slices_ContainsFunc___int_int__rv []) := ⟨_, _, k_slices_ContainsFunc___int_int__vars, Try.func113, rfl, by kernel_rfl, by kernel_rfl, by kernel_rfl⟩
theorem ok_impl_isDecimal : EntryOk Try.prog k_impl_isDecimal (fnOf k_impl_isDecimal_ic k_impl_isDecimal_rv []) := ⟨_, _, k_impl_isDecimal_vars, Try.func116, rfl, by kernel_rfl, by kernel_rfl, by kernel_rfl⟩
theorem ok_spec_RowsIn : EntryOk Try.prog k_spec_RowsIn (fnOf k_spec_RowsIn_ic k_spec_RowsIn_rv []) := ⟨_, _, k_spec_RowsIn_vars, Try.func156, rfl, by kernel_rfl, by kernel_rfl, by kernel_rfl⟩
theorem ok_spec_CutsOk : EntryOk Try.prog k_spec_CutsOk (fnOf k_spec_CutsOk_ic k_spec_CutsOk_rv []) := ⟨_, _, k_spec_CutsOk_vars, Try.func157, rfl, by kernel_rfl, by kernel_rfl, by kernel_rfl⟩
theorem ok_spec_l13Add : EntryOk Try.prog k_spec_l13Add (fnOf k_spec_l13Add_ic k_spec_l13Add_rv []) := ⟨_, _, k_spec_l13Add_vars, Try.func158, rfl, by kernel_rfl, by kernel_rfl, by kernel_rfl⟩
theorem ok_impl_RowsIn : EntryOk Try.prog k_impl_RowsIn (fnOf k_impl_RowsIn_ic k_impl_RowsIn_rv []) := ⟨_, _, k_impl_RowsIn_vars, Try.func159, rfl, by kernel_rfl, by kernel_rfl, by kernel_rfl⟩
theorem ok_impl_CutsOk : EntryOk Try.prog k_impl_CutsOk (fnOf k_impl_CutsOk_ic k_impl_CutsOk_rv []) := ⟨_, _, k_impl_CutsOk_vars, Try.func160, rfl, by kernel_rfl, by kernel_rfl, by kernel_rfl⟩
theorem ok_impl_GridOk_1 : EntryOk Try.prog k_impl_GridOk_1 (fnOf k_impl_GridOk_1_ic k_impl_GridOk_1_rv []) := ⟨_, _, k_impl_GridOk_1_vars, Try.func161, rfl, by kernel_rfl, by kernel_rfl, by kernel_rfl⟩
theorem ok__impl_Slot__plus : EntryOk Try.prog k__impl_Slot__plus (fnOf k__impl_Slot__plus_ic k__impl_Slot__plus_rv []) := ⟨_, _, k__impl_Slot__plus_vars, Try.func162, rfl, by kernel_rfl, by kernel_rfl, by kernel_rfl⟩
theorem ok_laws_eqSlot : EntryOk Try.prog k_laws_eqSlot (fnOf k_laws_eqSlot_ic k_laws_eqSlot_rv []) := ⟨_, _, k_laws_eqSlot_vars, Try.func163, rfl, by kernel_rfl, by kernel_rfl, by kernel_rfl⟩
theorem ok_slices_IndexFunc___int_int_ : EntryOk Try.prog k_slices_IndexFunc___int_int_ (fnOf k_slices_IndexFunc___int_int__ic k_slices_IndexFunc___int_int__rv []) := ⟨_, _, k_slices_IndexFunc___int_int__vars, Try.func169, rfl, by kernel_rfl, by kernel_rfl, by kernel_rfl⟩
theorem ok_spec_AddInt : EntryOk Try.prog k_spec_AddInt (fnOf k_spec_AddInt_ic k_spec_AddInt_rv []) := ⟨_, _, k_spec_AddInt_vars, Try.func174, rfl, by kernel_rfl, by kernel_rfl, by kernel_rfl⟩
theorem ok_impl_areDecimals : EntryOk Try.prog k_impl_areDecimals (fnOf k_impl_areDecimals_ic k_impl_areDecimals_rv []) := ⟨_, _, k_impl_areDecimals_vars, Try.func176, rfl, by kernel_rfl, by kernel_rfl, by kernel_rfl⟩
theorem ok_impl_AddInt : EntryOk Try.prog k_impl_AddInt (fnOf k_impl_AddInt_ic k_impl_AddInt_rv []) := ⟨_, _, k_impl_AddInt_vars, Try.func179, rfl, by kernel_rfl, by kernel_rfl, by kernel_rfl⟩
theorem ok_impl_areDecimals_1 : EntryOk Try.prog k_impl_areDecimals_1 (fnOf k_impl_areDecimals_1_ic k_impl_areDecimals_1_rv []) := ⟨_, _, k_impl_areDecimals_1_vars, Try.func214, rfl, by kernel_rfl, by kernel_rfl, by kernel_rfl⟩
theorem table_ok : TableOk Try.prog T := by
  refine tableOk_of ?_
  simp only [tbl, List.forall_mem_cons, List.not_mem_nil, false_imp_iff, implies_true, and_true]
  exact ⟨ok_laws_FnExactNodeHists, ok_laws_szGrid, ok_spec_NodeHists, ok_laws_toGrid, ok_laws_toIntS, ok_impl_NodeHists, ok_laws_eqSlotSS, ok_laws_eqGrid, ok_laws_eqIntS, ok_laws_markGrid, ok_laws_markIntS, ok_laws_markSlotSS, ok_laws_heldSlotSS, ok_laws_szIntSS, ok_laws_toIntSS, ok_laws_eqIntSS, ok_laws_markIntSS, ok_laws_szIntS, ok_spec_GridOk, ok_spec_HistOf, ok_impl_GridOk, ok_impl_HistOf, ok_laws_eqSlotS, ok_laws_markSlotS, ok_laws_heldSlotS, ok_spec_l1In, ok_spec_l6Value, ok_impl_within, ok_slices_ContainsFunc___int_int_, ok_impl_isDecimal, ok_spec_RowsIn, ok_spec_CutsOk, ok_spec_l13Add, ok_impl_RowsIn, ok_impl_CutsOk, ok_impl_GridOk_1, ok__impl_Slot__plus, ok_laws_eqSlot, ok_slices_IndexFunc___int_int_, ok_spec_AddInt, ok_impl_areDecimals, ok_impl_AddInt, ok_impl_areDecimals_1⟩
end Go.Pe
