/- Each compact text is its function of the program (table_ok); no condition. -/
import Derived.Test.YtnioodedhoccaaaRows
import Derived.Test.YtnioodedhoccaaaK0
import Derived.Test.YtnioodedhoccaaaEvB1
import Derived.KernelRfl
set_option linter.all false
namespace Go.Pe
open Go Go.Proofs
theorem ok_laws_FnExactTaskOk : EntryOk Try.prog k_laws_FnExactTaskOk (fnOf k_laws_FnExactTaskOk_ic k_laws_FnExactTaskOk_rv []) := ⟨_, _, k_laws_FnExactTaskOk_vars, Try.func14, rfl, by kernel_rfl, by kernel_rfl, by kernel_rfl⟩
theorem ok_laws_eqIntS : EntryOk Try.prog k_laws_eqIntS (fnOf k_laws_eqIntS_ic k_laws_eqIntS_rv []) := ⟨_, _, k_laws_eqIntS_vars, Try.func22, rfl, by kernel_rfl, by kernel_rfl, by kernel_rfl⟩
theorem ok_laws_szConfig : EntryOk Try.prog k_laws_szConfig (fnOf k_laws_szConfig_ic k_laws_szConfig_rv []) := ⟨_, _, k_laws_szConfig_vars, Try.func26, rfl, by kernel_rfl, by kernel_rfl, by kernel_rfl⟩
theorem ok_laws_toConfig : EntryOk Try.prog k_laws_toConfig (fnOf k_laws_toConfig_ic k_laws_toConfig_rv []) := ⟨_, _, k_laws_toConfig_vars, Try.func28, rfl, by kernel_rfl, by kernel_rfl, by kernel_rfl⟩
theorem ok_laws_eqConfig : EntryOk Try.prog k_laws_eqConfig (fnOf k_laws_eqConfig_ic k_laws_eqConfig_rv []) := ⟨_, _, k_laws_eqConfig_vars, Try.func30, rfl, by kernel_rfl, by kernel_rfl, by kernel_rfl⟩
theorem ok_laws_toIntS : EntryOk Try.prog k_laws_toIntS (fnOf k_laws_toIntS_ic k_laws_toIntS_rv []) := ⟨_, _, k_laws_toIntS_vars, Try.func34, rfl, by kernel_rfl, by kernel_rfl, by kernel_rfl⟩
theorem ok_laws_szGrid : EntryOk Try.prog k_laws_szGrid (fnOf k_laws_szGrid_ic k_laws_szGrid_rv []) := ⟨_, _, k_laws_szGrid_vars, Try.func54, rfl, by kernel_rfl, by kernel_rfl, by kernel_rfl⟩
theorem ok_spec_TaskOk : EntryOk Try.prog k_spec_TaskOk (fnOf k_spec_TaskOk_ic k_spec_TaskOk_rv []) := ⟨_, _, k_spec_TaskOk_vars, Try.func55, rfl, by kernel_rfl, by kernel_rfl, by kernel_rfl⟩
theorem ok_laws_toGrid : EntryOk Try.prog k_laws_toGrid (fnOf k_laws_toGrid_ic k_laws_toGrid_rv []) := ⟨_, _, k_laws_toGrid_vars, Try.func56, rfl, by kernel_rfl, by kernel_rfl, by kernel_rfl⟩
theorem ok_impl_TaskOk : EntryOk Try.prog k_impl_TaskOk (fnOf k_impl_TaskOk_ic k_impl_TaskOk_rv []) := ⟨_, _, k_impl_TaskOk_vars, Try.func57, rfl, by kernel_rfl, by kernel_rfl, by kernel_rfl⟩
theorem ok_laws_eqGrid : EntryOk Try.prog k_laws_eqGrid (fnOf k_laws_eqGrid_ic k_laws_eqGrid_rv []) := ⟨_, _, k_laws_eqGrid_vars, Try.func58, rfl, by kernel_rfl, by kernel_rfl, by kernel_rfl⟩
theorem ok_spec_l1In : EntryOk Try.prog k_spec_l1In (fnOf k_spec_l1In_ic k_spec_l1In_rv []) := ⟨_, _, k_spec_l1In_vars, Try.func60, rfl, by kernel_rfl, by kernel_rfl, by kernel_rfl⟩
theorem ok_laws_szIntS : EntryOk Try.prog k_laws_szIntS (fnOf k_laws_szIntS_ic k_laws_szIntS_rv []) := ⟨_, _, k_laws_szIntS_vars, Try.func68, rfl, by kernel_rfl, by kernel_rfl, by kernel_rfl⟩
theorem ok_spec_ConfigOk : EntryOk Try.prog k_spec_ConfigOk (fnOf k_spec_ConfigOk_ic k_spec_ConfigOk_rv []) := ⟨_, _, k_spec_ConfigOk_vars, Try.func69, rfl, by kernel_rfl, by kernel_rfl, by kernel_rfl⟩
theorem ok_impl_ConfigOk : EntryOk Try.prog k_impl_ConfigOk (fnOf k_impl_ConfigOk_ic k_impl_ConfigOk_rv []) := ⟨_, _, k_impl_ConfigOk_vars, Try.func72, rfl, by kernel_rfl, by kernel_rfl, by kernel_rfl⟩
theorem ok_impl_within : EntryOk Try.prog k_impl_within (fnOf k_impl_within_ic k_impl_within_rv []) := ⟨_, _, k_impl_within_vars, Try.func89, rfl, by kernel_rfl, by kernel_rfl, by kernel_rfl⟩
theorem ok_laws_szIntSS : EntryOk Try.prog k_laws_szIntSS (fnOf k_laws_szIntSS_ic k_laws_szIntSS_rv []) := ⟨_, _, k_laws_szIntSS_vars, Try.func91, rfl, by kernel_rfl, by kernel_rfl, by kernel_rfl⟩
theorem ok_spec_GridOk : EntryOk Try.prog k_spec_GridOk (fnOf k_spec_GridOk_ic k_spec_GridOk_rv []) := ⟨_, _, k_spec_GridOk_vars, Try.func92, rfl, by kernel_rfl, by kernel_rfl, by kernel_rfl⟩
theorem ok_spec_RowsIn : EntryOk Try.prog k_spec_RowsIn (fnOf k_spec_RowsIn_ic k_spec_RowsIn_rv []) := ⟨_, _, k_spec_RowsIn_vars, Try.func93, rfl, by kernel_rfl, by kernel_rfl, by kernel_rfl⟩
theorem ok_laws_toIntSS : EntryOk Try.prog k_laws_toIntSS (fnOf k_laws_toIntSS_ic k_laws_toIntSS_rv []) := ⟨_, _, k_laws_toIntSS_vars, Try.func94, rfl, by kernel_rfl, by kernel_rfl, by kernel_rfl⟩
theorem ok_impl_GridOk : EntryOk Try.prog k_impl_GridOk (fnOf k_impl_GridOk_ic k_impl_GridOk_rv []) := ⟨_, _, k_impl_GridOk_vars, Try.func95, rfl, by kernel_rfl, by kernel_rfl, by kernel_rfl⟩
theorem ok_impl_RowsIn : EntryOk Try.prog k_impl_RowsIn (fnOf k_impl_RowsIn_ic k_impl_RowsIn_rv []) := ⟨_, _, k_impl_RowsIn_vars, Try.func96, rfl, by kernel_rfl, by kernel_rfl, by kernel_rfl⟩
theorem ok_slices_ContainsFunc___int_int_ : EntryOk Try.prog k_slices_ContainsFunc___int_int_ (fnOf k_slices_ContainsFunc___int_int__ic k_slices_ContainsFunc___int_int__rv []) := ⟨_, _, k_slices_ContainsFunc___int_int__vars, Try.func97, rfl, by kernel_rfl, by kernel_rfl, by kernel_rfl⟩
theorem ok_impl_TaskOk_1 : EntryOk Try.prog k_impl_TaskOk_1 (fnOf k_impl_TaskOk_1_ic k_impl_TaskOk_1_rv []) := ⟨_, _, k_impl_TaskOk_1_vars, Try.func98, rfl, by kernel_rfl, by kernel_rfl, by kernel_rfl⟩
theorem ok_laws_eqIntSS : EntryOk Try.prog k_laws_eqIntSS (fnOf k_laws_eqIntSS_ic k_laws_eqIntSS_rv []) := ⟨_, _, k_laws_eqIntSS_vars, Try.func99, rfl, by kernel_rfl, by kernel_rfl, by kernel_rfl⟩
theorem ok_spec_l8Numbers : EntryOk Try.prog k_spec_l8Numbers (fnOf k_spec_l8Numbers_ic k_spec_l8Numbers_rv []) := ⟨_, _, k_spec_l8Numbers_vars, Try.func104, rfl, by kernel_rfl, by kernel_rfl, by kernel_rfl⟩
theorem ok_spec_l8Least : EntryOk Try.prog k_spec_l8Least (fnOf k_spec_l8Least_ic k_spec_l8Least_rv []) := ⟨_, _, k_spec_l8Least_vars, Try.func105, rfl, by kernel_rfl, by kernel_rfl, by kernel_rfl⟩
theorem ok_spec_l8Most : EntryOk Try.prog k_spec_l8Most (fnOf k_spec_l8Most_ic k_spec_l8Most_rv []) := ⟨_, _, k_spec_l8Most_vars, Try.func106, rfl, by kernel_rfl, by kernel_rfl, by kernel_rfl⟩
theorem ok_impl_ConfigOk_1 : EntryOk Try.prog k_impl_ConfigOk_1 (fnOf k_impl_ConfigOk_1_ic k_impl_ConfigOk_1_rv []) := ⟨_, _, k_impl_ConfigOk_1_vars, Try.func107, rfl, by kernel_rfl, by kernel_rfl, by kernel_rfl⟩
theorem ok_impl_isSign : EntryOk Try.prog k_impl_isSign (fnOf k_impl_isSign_ic k_impl_isSign_rv []) := ⟨_, _, k_impl_isSign_vars, Try.func108, rfl, by kernel_rfl, by kernel_rfl, by kernel_rfl⟩
theorem ok_spec_l6Value : EntryOk Try.prog k_spec_l6Value (fnOf k_spec_l6Value_ic k_spec_l6Value_rv []) := ⟨_, _, k_spec_l6Value_vars, Try.func109, rfl, by kernel_rfl, by kernel_rfl, by kernel_rfl⟩
theorem ok_impl_isDecimal : EntryOk Try.prog k_impl_isDecimal (fnOf k_impl_isDecimal_ic k_impl_isDecimal_rv []) := ⟨_, _, k_impl_isDecimal_vars, Try.func110, rfl, by kernel_rfl, by kernel_rfl, by kernel_rfl⟩
theorem ok_spec_CutsOk : EntryOk Try.prog k_spec_CutsOk (fnOf k_spec_CutsOk_ic k_spec_CutsOk_rv []) := ⟨_, _, k_spec_CutsOk_vars, Try.func111, rfl, by kernel_rfl, by kernel_rfl, by kernel_rfl⟩
theorem ok_impl_CutsOk : EntryOk Try.prog k_impl_CutsOk (fnOf k_impl_CutsOk_ic k_impl_CutsOk_rv []) := ⟨_, _, k_impl_CutsOk_vars, Try.func112, rfl, by kernel_rfl, by kernel_rfl, by kernel_rfl⟩
theorem ok_impl_GridOk_1 : EntryOk Try.prog k_impl_GridOk_1 (fnOf k_impl_GridOk_1_ic k_impl_GridOk_1_rv []) := ⟨_, _, k_impl_GridOk_1_vars, Try.func113, rfl, by kernel_rfl, by kernel_rfl, by kernel_rfl⟩
theorem ok_slices_IndexFunc___int_int_ : EntryOk Try.prog k_slices_IndexFunc___int_int_ (fnOf k_slices_IndexFunc___int_int__ic k_slices_IndexFunc___int_int__rv []) := ⟨_, _, k_slices_IndexFunc___int_int__vars, Try.func114, rfl, by kernel_rfl, by kernel_rfl, by kernel_rfl⟩
theorem ok_impl_areDecimals : EntryOk Try.prog k_impl_areDecimals (fnOf k_impl_areDecimals_ic k_impl_areDecimals_rv []) := ⟨_, _, k_impl_areDecimals_vars, Try.func117, rfl, by kernel_rfl, by kernel_rfl, by kernel_rfl⟩
theorem ok_impl_areDecimals_1 : EntryOk Try.prog k_impl_areDecimals_1 (fnOf k_impl_areDecimals_1_ic k_impl_areDecimals_1_rv []) := ⟨_, _, k_impl_areDecimals_1_vars, Try.func118, rfl, by kernel_rfl, by kernel_rfl, by kernel_rfl⟩
theorem table_ok : TableOk Try.prog T := by
  refine tableOk_of ?_
  simp only [tbl, List.forall_mem_cons, List.not_mem_nil, false_imp_iff, implies_true, and_true]
  exact ⟨ok_laws_FnExactTaskOk, ok_laws_eqIntS, ok_laws_szConfig, ok_laws_toConfig, ok_laws_eqConfig, ok_laws_toIntS, ok_laws_szGrid, ok_spec_TaskOk, ok_laws_toGrid, ok_impl_TaskOk, ok_laws_eqGrid, ok_spec_l1In, ok_laws_szIntS, ok_spec_ConfigOk, ok_impl_ConfigOk, ok_impl_within, ok_laws_szIntSS, ok_spec_GridOk, ok_spec_RowsIn, ok_laws_toIntSS, ok_impl_GridOk, ok_impl_RowsIn, ok_slices_ContainsFunc___int_int_, ok_impl_TaskOk_1, ok_laws_eqIntSS, ok_spec_l8Numbers, ok_spec_l8Least, ok_spec_l8Most, ok_impl_ConfigOk_1, ok_impl_isSign, ok_spec_l6Value, ok_impl_isDecimal, ok_spec_CutsOk, ok_impl_CutsOk, ok_impl_GridOk_1, ok_slices_IndexFunc___int_int_, ok_impl_areDecimals, ok_impl_areDecimals_1⟩
end Go.Pe
