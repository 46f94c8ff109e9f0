/- Each compact text is its function of the program (table_ok); no condition. -/
import Derived.Test.YtnioodedhoccaaaRows
import Derived.Test.YtnioodedhoccaaaK0
import Derived.Test.YtnioodedhoccaaaEvB1
import Derived.KernelRfl
set_option linter.all false
namespace Go.Pe
open Go Go.Proofs
theorem ok_laws_FnExactShrunk : EntryOk Try.prog k_laws_FnExactShrunk (fnOf k_laws_FnExactShrunk_ic k_laws_FnExactShrunk_rv []) := ⟨_, _, k_laws_FnExactShrunk_vars, Try.func5, rfl, by kernel_rfl, by kernel_rfl, by kernel_rfl⟩
theorem ok_laws_eqIntS : EntryOk Try.prog k_laws_eqIntS (fnOf k_laws_eqIntS_ic k_laws_eqIntS_rv []) := ⟨_, _, k_laws_eqIntS_vars, Try.func22, rfl, by kernel_rfl, by kernel_rfl, by kernel_rfl⟩
theorem ok_laws_szConfig : EntryOk Try.prog k_laws_szConfig (fnOf k_laws_szConfig_ic k_laws_szConfig_rv []) := ⟨_, _, k_laws_szConfig_vars, Try.func26, rfl, by kernel_rfl, by kernel_rfl, by kernel_rfl⟩
theorem ok_spec_Shrunk : EntryOk Try.prog k_spec_Shrunk (fnOf k_spec_Shrunk_ic k_spec_Shrunk_rv []) := ⟨_, _, k_spec_Shrunk_vars, Try.func27, rfl, by kernel_rfl, by kernel_rfl, by kernel_rfl⟩
theorem ok_laws_toConfig : EntryOk Try.prog k_laws_toConfig (fnOf k_laws_toConfig_ic k_laws_toConfig_rv []) := ⟨_, _, k_laws_toConfig_vars, Try.func28, rfl, by kernel_rfl, by kernel_rfl, by kernel_rfl⟩
theorem ok_impl_Shrunk : EntryOk Try.prog k_impl_Shrunk (fnOf k_impl_Shrunk_ic k_impl_Shrunk_rv []) := ⟨_, _, k_impl_Shrunk_vars, Try.func29, rfl, by kernel_rfl, by kernel_rfl, by kernel_rfl⟩
theorem ok_laws_eqConfig : EntryOk Try.prog k_laws_eqConfig (fnOf k_laws_eqConfig_ic k_laws_eqConfig_rv []) := ⟨_, _, k_laws_eqConfig_vars, Try.func30, rfl, by kernel_rfl, by kernel_rfl, by kernel_rfl⟩
theorem ok_laws_toIntS : EntryOk Try.prog k_laws_toIntS (fnOf k_laws_toIntS_ic k_laws_toIntS_rv []) := ⟨_, _, k_laws_toIntS_vars, Try.func34, rfl, by kernel_rfl, by kernel_rfl, by kernel_rfl⟩
theorem ok_spec_l1In : EntryOk Try.prog k_spec_l1In (fnOf k_spec_l1In_ic k_spec_l1In_rv []) := ⟨_, _, k_spec_l1In_vars, Try.func60, rfl, by kernel_rfl, by kernel_rfl, by kernel_rfl⟩
theorem ok_laws_szIntS : EntryOk Try.prog k_laws_szIntS (fnOf k_laws_szIntS_ic k_laws_szIntS_rv []) := ⟨_, _, k_laws_szIntS_vars, Try.func68, rfl, by kernel_rfl, by kernel_rfl, by kernel_rfl⟩
theorem ok_spec_ConfigOk : EntryOk Try.prog k_spec_ConfigOk (fnOf k_spec_ConfigOk_ic k_spec_ConfigOk_rv []) := ⟨_, _, k_spec_ConfigOk_vars, Try.func69, rfl, by kernel_rfl, by kernel_rfl, by kernel_rfl⟩
theorem ok_spec_l14Leaf : EntryOk Try.prog k_spec_l14Leaf (fnOf k_spec_l14Leaf_ic k_spec_l14Leaf_rv []) := ⟨_, _, k_spec_l14Leaf_vars, Try.func70, rfl, by kernel_rfl, by kernel_rfl, by kernel_rfl⟩
theorem ok_spec_FloorDiv : EntryOk Try.prog k_spec_FloorDiv (fnOf k_spec_FloorDiv_ic k_spec_FloorDiv_rv []) := ⟨_, _, k_spec_FloorDiv_vars, Try.func71, rfl, by kernel_rfl, by kernel_rfl, by kernel_rfl⟩
theorem ok_impl_ConfigOk : EntryOk Try.prog k_impl_ConfigOk (fnOf k_impl_ConfigOk_ic k_impl_ConfigOk_rv []) := ⟨_, _, k_impl_ConfigOk_vars, Try.func72, rfl, by kernel_rfl, by kernel_rfl, by kernel_rfl⟩
theorem ok_impl_isLeafValue : EntryOk Try.prog k_impl_isLeafValue (fnOf k_impl_isLeafValue_ic k_impl_isLeafValue_rv []) := ⟨_, _, k_impl_isLeafValue_vars, Try.func73, rfl, by kernel_rfl, by kernel_rfl, by kernel_rfl⟩
theorem ok_impl_FloorDiv : EntryOk Try.prog k_impl_FloorDiv (fnOf k_impl_FloorDiv_ic k_impl_FloorDiv_rv []) := ⟨_, _, k_impl_FloorDiv_vars, Try.func74, rfl, by kernel_rfl, by kernel_rfl, by kernel_rfl⟩
theorem ok_impl_within : EntryOk Try.prog k_impl_within (fnOf k_impl_within_ic k_impl_within_rv []) := ⟨_, _, k_impl_within_vars, Try.func89, rfl, by kernel_rfl, by kernel_rfl, by kernel_rfl⟩
theorem ok_slices_ContainsFunc___int_int_ : EntryOk Try.prog k_slices_ContainsFunc___int_int_ (fnOf k_slices_ContainsFunc___int_int__ic k_slices_ContainsFunc___int_int__rv []) := ⟨_, _, k_slices_ContainsFunc___int_int__vars, Try.func97, rfl, by kernel_rfl, by kernel_rfl, by kernel_rfl⟩
theorem ok_spec_l8Numbers : EntryOk Try.prog k_spec_l8Numbers (fnOf k_spec_l8Numbers_ic k_spec_l8Numbers_rv []) := ⟨_, _, k_spec_l8Numbers_vars, Try.func104, rfl, by kernel_rfl, by kernel_rfl, by kernel_rfl⟩
theorem ok_spec_l8Least : EntryOk Try.prog k_spec_l8Least (fnOf k_spec_l8Least_ic k_spec_l8Least_rv []) := ⟨_, _, k_spec_l8Least_vars, Try.func105, rfl, by kernel_rfl, by kernel_rfl, by kernel_rfl⟩
theorem ok_spec_l8Most : EntryOk Try.prog k_spec_l8Most (fnOf k_spec_l8Most_ic k_spec_l8Most_rv []) := ⟨_, _, k_spec_l8Most_vars, Try.func106, rfl, by kernel_rfl, by kernel_rfl, by kernel_rfl⟩
theorem ok_impl_ConfigOk_1 : EntryOk Try.prog k_impl_ConfigOk_1 (fnOf k_impl_ConfigOk_1_ic k_impl_ConfigOk_1_rv []) := ⟨_, _, k_impl_ConfigOk_1_vars, Try.func107, rfl, by kernel_rfl, by kernel_rfl, by kernel_rfl⟩
theorem ok_impl_isSign : EntryOk Try.prog k_impl_isSign (fnOf k_impl_isSign_ic k_impl_isSign_rv []) := ⟨_, _, k_impl_isSign_vars, Try.func108, rfl, by kernel_rfl, by kernel_rfl, by kernel_rfl⟩
theorem ok_slices_IndexFunc___int_int_ : EntryOk Try.prog k_slices_IndexFunc___int_int_ (fnOf k_slices_IndexFunc___int_int__ic k_slices_IndexFunc___int_int__rv []) := ⟨_, _, k_slices_IndexFunc___int_int__vars, Try.func114, rfl, by kernel_rfl, by kernel_rfl, by kernel_rfl⟩
theorem table_ok : TableOk Try.prog T := by
  refine tableOk_of ?_
  simp only [tbl, List.forall_mem_cons, List.not_mem_nil, false_imp_iff, implies_true, and_true]
  exact ⟨ok_laws_FnExactShrunk, ok_laws_eqIntS, ok_laws_szConfig, ok_spec_Shrunk, ok_laws_toConfig, ok_impl_Shrunk, ok_laws_eqConfig, ok_laws_toIntS, ok_spec_l1In, ok_laws_szIntS, ok_spec_ConfigOk, ok_spec_l14Leaf, ok_spec_FloorDiv, ok_impl_ConfigOk, ok_impl_isLeafValue, ok_impl_FloorDiv, ok_impl_within, ok_slices_ContainsFunc___int_int_, ok_spec_l8Numbers, ok_spec_l8Least, ok_spec_l8Most, ok_impl_ConfigOk_1, ok_impl_isSign, ok_slices_IndexFunc___int_int_⟩
end Go.Pe
