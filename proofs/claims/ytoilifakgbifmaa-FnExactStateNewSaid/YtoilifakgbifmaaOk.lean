/- Each compact text is its function of the program (table_ok); no condition. -/
import Derived.Test.YtoilifakgbifmaaRows
import Derived.Test.YtoilifakgbifmaaK0
import Derived.Test.YtoilifakgbifmaaEvB2
import Derived.KernelRfl
set_option linter.all false
namespace Go.Pe
open Go Go.Proofs
theorem ok_laws_FnExactStateNew : EntryOk Try.prog k_laws_FnExactStateNew (fnOf k_laws_FnExactStateNew_ic k_laws_FnExactStateNew_rv []) := ⟨_, _, k_laws_FnExactStateNew_vars, Try.func7, rfl, by kernel_rfl, by kernel_rfl, by kernel_rfl⟩
theorem ok_laws_eqTree : EntryOk Try.prog k_laws_eqTree (fnOf k_laws_eqTree_ic k_laws_eqTree_rv []) := ⟨_, _, k_laws_eqTree_vars, Try.func25, rfl, by kernel_rfl, by kernel_rfl, by kernel_rfl⟩
theorem ok_laws_toIntS : EntryOk Try.prog k_laws_toIntS (fnOf k_laws_toIntS_ic k_laws_toIntS_rv []) := ⟨_, _, k_laws_toIntS_vars, Try.func33, rfl, by kernel_rfl, by kernel_rfl, by kernel_rfl⟩
theorem ok_laws_eqIntS : EntryOk Try.prog k_laws_eqIntS (fnOf k_laws_eqIntS_ic k_laws_eqIntS_rv []) := ⟨_, _, k_laws_eqIntS_vars, Try.func37, rfl, by kernel_rfl, by kernel_rfl, by kernel_rfl⟩
theorem ok_laws_markIntS : EntryOk Try.prog k_laws_markIntS (fnOf k_laws_markIntS_ic k_laws_markIntS_rv [true]) := ⟨_, _, k_laws_markIntS_vars, Try.func39, rfl, by kernel_rfl, by kernel_rfl, by kernel_rfl⟩
theorem ok_laws_szTable : EntryOk Try.prog k_laws_szTable (fnOf k_laws_szTable_ic k_laws_szTable_rv []) := ⟨_, _, k_laws_szTable_vars, Try.func44, rfl, by kernel_rfl, by kernel_rfl, by kernel_rfl⟩
theorem ok_spec_StateNew : EntryOk Try.prog k_spec_StateNew (fnOf k_spec_StateNew_ic k_spec_StateNew_rv []) := ⟨_, _, k_spec_StateNew_vars, Try.func45, rfl, by kernel_rfl, by kernel_rfl, by kernel_rfl⟩
theorem ok_laws_toTable : EntryOk Try.prog k_laws_toTable (fnOf k_laws_toTable_ic k_laws_toTable_rv []) := ⟨_, _, k_laws_toTable_vars, Try.func46, rfl, by kernel_rfl, by kernel_rfl, by kernel_rfl⟩
theorem ok_impl_StateNew : EntryOk Try.prog k_impl_StateNew (fnOf k_impl_StateNew_ic k_impl_StateNew_rv []) := ⟨_, _, k_impl_StateNew_vars, Try.func47, rfl, by kernel_rfl, by kernel_rfl, by kernel_rfl⟩
theorem ok_laws_eqState : EntryOk Try.prog k_laws_eqState (fnOf k_laws_eqState_ic k_laws_eqState_rv []) := ⟨_, _, k_laws_eqState_vars, Try.func48, rfl, by kernel_rfl, by kernel_rfl, by kernel_rfl⟩
theorem ok_laws_eqTable : EntryOk Try.prog k_laws_eqTable (fnOf k_laws_eqTable_ic k_laws_eqTable_rv []) := ⟨_, _, k_laws_eqTable_vars, Try.func49, rfl, by kernel_rfl, by kernel_rfl, by kernel_rfl⟩
theorem ok_laws_markTable : EntryOk Try.prog k_laws_markTable (fnOf k_laws_markTable_ic k_laws_markTable_rv [true]) := ⟨_, _, k_laws_markTable_vars, Try.func50, rfl, by kernel_rfl, by kernel_rfl, by kernel_rfl⟩
theorem ok_laws_markState : EntryOk Try.prog k_laws_markState (fnOf k_laws_markState_ic k_laws_markState_rv [true]) := ⟨_, _, k_laws_markState_vars, Try.func51, rfl, by kernel_rfl, by kernel_rfl, by kernel_rfl⟩
theorem ok_laws_heldState : EntryOk Try.prog k_laws_heldState (fnOf k_laws_heldState_ic k_laws_heldState_rv []) := ⟨_, _, k_laws_heldState_vars, Try.func52, rfl, by kernel_rfl, by kernel_rfl, by kernel_rfl⟩
theorem ok_laws_heldIntS : EntryOk Try.prog k_laws_heldIntS (fnOf k_laws_heldIntS_ic k_laws_heldIntS_rv []) := ⟨_, _, k_laws_heldIntS_vars, Try.func62, rfl, by kernel_rfl, by kernel_rfl, by kernel_rfl⟩
theorem ok_laws_szIntSS : EntryOk Try.prog k_laws_szIntSS (fnOf k_laws_szIntSS_ic k_laws_szIntSS_rv []) := ⟨_, _, k_laws_szIntSS_vars, Try.func63, rfl, by kernel_rfl, by kernel_rfl, by kernel_rfl⟩
theorem ok_laws_toIntSS : EntryOk Try.prog k_laws_toIntSS (fnOf k_laws_toIntSS_ic k_laws_toIntSS_rv []) := ⟨_, _, k_laws_toIntSS_vars, Try.func65, rfl, by kernel_rfl, by kernel_rfl, by kernel_rfl⟩
theorem ok_laws_eqIntSS : EntryOk Try.prog k_laws_eqIntSS (fnOf k_laws_eqIntSS_ic k_laws_eqIntSS_rv []) := ⟨_, _, k_laws_eqIntSS_vars, Try.func67, rfl, by kernel_rfl, by kernel_rfl, by kernel_rfl⟩
theorem ok_laws_markIntSS : EntryOk Try.prog k_laws_markIntSS (fnOf k_laws_markIntSS_ic k_laws_markIntSS_rv [true]) := ⟨_, _, k_laws_markIntSS_vars, Try.func69, rfl, by kernel_rfl, by kernel_rfl, by kernel_rfl⟩
theorem ok_laws_szStringS : EntryOk Try.prog k_laws_szStringS (fnOf k_laws_szStringS_ic k_laws_szStringS_rv []) := ⟨_, _, k_laws_szStringS_vars, Try.func74, rfl, by kernel_rfl, by kernel_rfl, by kernel_rfl⟩
theorem ok_laws_szIntS : EntryOk Try.prog k_laws_szIntS (fnOf k_laws_szIntS_ic k_laws_szIntS_rv []) := ⟨_, _, k_laws_szIntS_vars, Try.func75, rfl, by kernel_rfl, by kernel_rfl, by kernel_rfl⟩
theorem ok_laws_toStringS : EntryOk Try.prog k_laws_toStringS (fnOf k_laws_toStringS_ic k_laws_toStringS_rv []) := ⟨_, _, k_laws_toStringS_vars, Try.func80, rfl, by kernel_rfl, by kernel_rfl, by kernel_rfl⟩
theorem ok_laws_eqStringS : EntryOk Try.prog k_laws_eqStringS (fnOf k_laws_eqStringS_ic k_laws_eqStringS_rv []) := ⟨_, _, k_laws_eqStringS_vars, Try.func86, rfl, by kernel_rfl, by kernel_rfl, by kernel_rfl⟩
theorem ok_laws_eqTreeS : EntryOk Try.prog k_laws_eqTreeS (fnOf k_laws_eqTreeS_ic k_laws_eqTreeS_rv []) := ⟨_, _, k_laws_eqTreeS_vars, Try.func87, rfl, by kernel_rfl, by kernel_rfl, by kernel_rfl⟩
theorem ok_laws_eqNodeS : EntryOk Try.prog k_laws_eqNodeS (fnOf k_laws_eqNodeS_ic k_laws_eqNodeS_rv []) := ⟨_, _, k_laws_eqNodeS_vars, Try.func96, rfl, by kernel_rfl, by kernel_rfl, by kernel_rfl⟩
theorem ok_laws_markNodeS : EntryOk Try.prog k_laws_markNodeS (fnOf k_laws_markNodeS_ic k_laws_markNodeS_rv [true]) := ⟨_, _, k_laws_markNodeS_vars, Try.func97, rfl, by kernel_rfl, by kernel_rfl, by kernel_rfl⟩
theorem ok_laws_heldNodeS : EntryOk Try.prog k_laws_heldNodeS (fnOf k_laws_heldNodeS_ic k_laws_heldNodeS_rv []) := ⟨_, _, k_laws_heldNodeS_vars, Try.func98, rfl, by kernel_rfl, by kernel_rfl, by kernel_rfl⟩
theorem ok_spec_l1In : EntryOk Try.prog k_spec_l1In (fnOf k_spec_l1In_ic k_spec_l1In_rv []) := ⟨_, _, k_spec_l1In_vars, Try.func106, rfl, by kernel_rfl, by kernel_rfl, by kernel_rfl⟩
theorem ok_spec_l6Value : EntryOk Try.prog k_spec_l6Value (fnOf k_spec_l6Value_ic k_spec_l6Value_rv []) := ⟨_, _, k_spec_l6Value_vars, Try.func107, rfl, by kernel_rfl, by kernel_rfl, by kernel_rfl⟩
theorem ok_spec_NameOk : EntryOk Try.prog k_spec_NameOk (fnOf k_spec_NameOk_ic k_spec_NameOk_rv []) := ⟨_, _, k_spec_NameOk_vars, Try.func108, rfl, by kernel_rfl, by kernel_rfl, by kernel_rfl⟩
theorem ok_spec_l9Has : EntryOk Try.prog k_spec_l9Has (fnOf k_spec_l9Has_ic k_spec_l9Has_rv []) := ⟨_, _, k_spec_l9Has_vars, Try.func109, rfl, by kernel_rfl, by kernel_rfl, by kernel_rfl⟩
theorem ok_impl_within : EntryOk Try.prog k_impl_within (fnOf k_impl_within_ic k_impl_within_rv []) := ⟨_, _, k_impl_within_vars, Try.func111, rfl, by kernel_rfl, by kernel_rfl, by kernel_rfl⟩
theorem ok_impl_areNames : EntryOk Try.prog k_impl_areNames (fnOf k_impl_areNames_ic k_impl_areNames_rv []) := ⟨_, _, k_impl_areNames_vars, Try.func112, rfl, by kernel_rfl, by kernel_rfl, by kernel_rfl⟩
theorem ok_slices_ContainsFunc___int_int_ : EntryOk Try.prog k_slices_ContainsFunc___int_int_ (fnOf k_slices_ContainsFunc___int_int__ic k_slices_ContainsFunc___int_int__rv []) := ⟨_, _, k_slices_ContainsFunc___int_int__vars, Try.func113, rfl, by kernel_rfl, by kernel_rfl, by kernel_rfl⟩
theorem ok_impl_isDecimal : EntryOk Try.prog k_impl_isDecimal (fnOf k_impl_isDecimal_ic k_impl_isDecimal_rv []) := ⟨_, _, k_impl_isDecimal_vars, Try.func116, rfl, by kernel_rfl, by kernel_rfl, by kernel_rfl⟩
theorem ok_spec_TableOk : EntryOk Try.prog k_spec_TableOk (fnOf k_spec_TableOk_ic k_spec_TableOk_rv []) := ⟨_, _, k_spec_TableOk_vars, Try.func120, rfl, by kernel_rfl, by kernel_rfl, by kernel_rfl⟩
theorem ok_spec_BaseOf : EntryOk Try.prog k_spec_BaseOf (fnOf k_spec_BaseOf_ic k_spec_BaseOf_rv []) := ⟨_, _, k_spec_BaseOf_vars, Try.func121, rfl, by kernel_rfl, by kernel_rfl, by kernel_rfl⟩
theorem ok_impl_TableOk : EntryOk Try.prog k_impl_TableOk (fnOf k_impl_TableOk_ic k_impl_TableOk_rv []) := ⟨_, _, k_impl_TableOk_vars, Try.func122, rfl, by kernel_rfl, by kernel_rfl, by kernel_rfl⟩
theorem ok_impl_BaseOf : EntryOk Try.prog k_impl_BaseOf (fnOf k_impl_BaseOf_ic k_impl_BaseOf_rv []) := ⟨_, _, k_impl_BaseOf_vars, Try.func123, rfl, by kernel_rfl, by kernel_rfl, by kernel_rfl⟩
theorem ok_laws_markStringS : EntryOk Try.prog k_laws_markStringS (fnOf k_laws_markStringS_ic k_laws_markStringS_rv [true]) := ⟨_, _, k_laws_markStringS_vars, Try.func124, rfl, by kernel_rfl, by kernel_rfl, by kernel_rfl⟩
theorem ok_laws_markTreeS : EntryOk Try.prog k_laws_markTreeS (fnOf k_laws_markTreeS_ic k_laws_markTreeS_rv [true]) := ⟨_, _, k_laws_markTreeS_vars, Try.func125, rfl, by kernel_rfl, by kernel_rfl, by kernel_rfl⟩
theorem ok_laws_heldTreeS : EntryOk Try.prog k_laws_heldTreeS (fnOf k_laws_heldTreeS_ic k_laws_heldTreeS_rv []) := ⟨_, _, k_laws_heldTreeS_vars, Try.func126, rfl, by kernel_rfl, by kernel_rfl, by kernel_rfl⟩
theorem ok_spec_FloorDiv : EntryOk Try.prog k_spec_FloorDiv (fnOf k_spec_FloorDiv_ic k_spec_FloorDiv_rv []) := ⟨_, _, k_spec_FloorDiv_vars, Try.func148, rfl, by kernel_rfl, by kernel_rfl, by kernel_rfl⟩
theorem ok_impl_FloorDiv : EntryOk Try.prog k_impl_FloorDiv (fnOf k_impl_FloorDiv_ic k_impl_FloorDiv_rv []) := ⟨_, _, k_impl_FloorDiv_vars, Try.func154, rfl, by kernel_rfl, by kernel_rfl, by kernel_rfl⟩
theorem ok_laws_eqNode : EntryOk Try.prog k_laws_eqNode (fnOf k_laws_eqNode_ic k_laws_eqNode_rv []) := ⟨_, _, k_laws_eqNode_vars, Try.func155, rfl, by kernel_rfl, by kernel_rfl, by kernel_rfl⟩
theorem ok_impl_NameOk : EntryOk Try.prog k_impl_NameOk (fnOf k_impl_NameOk_ic k_impl_NameOk_rv []) := ⟨_, _, k_impl_NameOk_vars, Try.func167, rfl, by kernel_rfl, by kernel_rfl, by kernel_rfl⟩
theorem ok_slices_Contains___string_string_ : EntryOk Try.prog k_slices_Contains___string_string_ (fnOf k_slices_Contains___string_string__ic k_slices_Contains___string_string__rv []) := ⟨_, _, k_slices_Contains___string_string__vars, Try.func168, rfl, by kernel_rfl, by kernel_rfl, by kernel_rfl⟩
theorem ok_slices_IndexFunc___int_int_ : EntryOk Try.prog k_slices_IndexFunc___int_int_ (fnOf k_slices_IndexFunc___int_int__ic k_slices_IndexFunc___int_int__rv []) := ⟨_, _, k_slices_IndexFunc___int_int__vars, Try.func169, rfl, by kernel_rfl, by kernel_rfl, by kernel_rfl⟩
theorem ok_spec_AddInt : EntryOk Try.prog k_spec_AddInt (fnOf k_spec_AddInt_ic k_spec_AddInt_rv []) := ⟨_, _, k_spec_AddInt_vars, Try.func174, rfl, by kernel_rfl, by kernel_rfl, by kernel_rfl⟩
theorem ok_slices_Clone___string_string_ : EntryOk Try.prog k_slices_Clone___string_string_ (.known [] (cloneG 1 16)) := clone_ok (vars := [0, 2]) (z := [.v (.string ⟨#[]⟩)]) Try.func175 rfl rfl rfl (by kernel_rfl) (by kernel_rfl) (by kernel_rfl) (by kernel_rfl) (by kernel_rfl) (by kernel_rfl) rfl (by kernel_rfl) (by kernel_rfl) (by kernel_rfl) (by kernel_rfl)
theorem ok_impl_areDecimals : EntryOk Try.prog k_impl_areDecimals (fnOf k_impl_areDecimals_ic k_impl_areDecimals_rv []) := ⟨_, _, k_impl_areDecimals_vars, Try.func176, rfl, by kernel_rfl, by kernel_rfl, by kernel_rfl⟩
theorem ok_slices_ContainsFunc_____int___int_ : EntryOk Try.prog k_slices_ContainsFunc_____int___int_ (fnOf k_slices_ContainsFunc_____int___int__ic k_slices_ContainsFunc_____int___int__rv []) := ⟨_, _, k_slices_ContainsFunc_____int___int__vars, Try.func177, rfl, by kernel_rfl, by kernel_rfl, by kernel_rfl⟩
theorem ok_impl_TableOk_1 : EntryOk Try.prog k_impl_TableOk_1 (fnOf k_impl_TableOk_1_ic k_impl_TableOk_1_rv []) := ⟨_, _, k_impl_TableOk_1_vars, Try.func178, rfl, by kernel_rfl, by kernel_rfl, by kernel_rfl⟩
theorem ok_impl_AddInt : EntryOk Try.prog k_impl_AddInt (fnOf k_impl_AddInt_ic k_impl_AddInt_rv []) := ⟨_, _, k_impl_AddInt_vars, Try.func179, rfl, by kernel_rfl, by kernel_rfl, by kernel_rfl⟩
theorem ok_laws_markText : EntryOk Try.prog k_laws_markText (fnOf k_laws_markText_ic k_laws_markText_rv []) := ⟨_, _, k_laws_markText_vars, Try.func180, rfl, by kernel_rfl, by kernel_rfl, by kernel_rfl⟩
theorem ok_slices_Index___string_string_ : EntryOk Try.prog k_slices_Index___string_string_ (fnOf k_slices_Index___string_string__ic k_slices_Index___string_string__rv []) := ⟨_, _, k_slices_Index___string_string__vars, Try.func211, rfl, by kernel_rfl, by kernel_rfl, by kernel_rfl⟩
theorem ok_impl_areDecimals_1 : EntryOk Try.prog k_impl_areDecimals_1 (fnOf k_impl_areDecimals_1_ic k_impl_areDecimals_1_rv []) := ⟨_, _, k_impl_areDecimals_1_vars, Try.func214, rfl, by kernel_rfl, by kernel_rfl, by kernel_rfl⟩
theorem ok_slices_IndexFunc_____int___int_ : EntryOk Try.prog k_slices_IndexFunc_____int___int_ (fnOf k_slices_IndexFunc_____int___int__ic k_slices_IndexFunc_____int___int__rv []) := ⟨_, _, k_slices_IndexFunc_____int___int__vars, Try.func215, rfl, by kernel_rfl, by kernel_rfl, by kernel_rfl⟩
theorem table_ok : TableOk Try.prog T := by
  refine tableOk_of ?_
  simp only [tbl, List.forall_mem_cons, List.not_mem_nil, false_imp_iff, implies_true, and_true]
  exact ⟨ok_laws_FnExactStateNew, ok_laws_eqTree, ok_laws_toIntS, ok_laws_eqIntS, ok_laws_markIntS, ok_laws_szTable, ok_spec_StateNew, ok_laws_toTable, ok_impl_StateNew, ok_laws_eqState, ok_laws_eqTable, ok_laws_markTable, ok_laws_markState, ok_laws_heldState, ok_laws_heldIntS, ok_laws_szIntSS, ok_laws_toIntSS, ok_laws_eqIntSS, ok_laws_markIntSS, ok_laws_szStringS, ok_laws_szIntS, ok_laws_toStringS, ok_laws_eqStringS, ok_laws_eqTreeS, ok_laws_eqNodeS, ok_laws_markNodeS, ok_laws_heldNodeS, ok_spec_l1In, ok_spec_l6Value, ok_spec_NameOk, ok_spec_l9Has, ok_impl_within, ok_impl_areNames, ok_slices_ContainsFunc___int_int_, ok_impl_isDecimal, ok_spec_TableOk, ok_spec_BaseOf, ok_impl_TableOk, ok_impl_BaseOf, ok_laws_markStringS, ok_laws_markTreeS, ok_laws_heldTreeS, ok_spec_FloorDiv, ok_impl_FloorDiv, ok_laws_eqNode, ok_impl_NameOk, ok_slices_Contains___string_string_, ok_slices_IndexFunc___int_int_, ok_spec_AddInt, ok_slices_Clone___string_string_, ok_impl_areDecimals, ok_slices_ContainsFunc_____int___int_, ok_impl_TableOk_1, ok_impl_AddInt, ok_laws_markText, ok_slices_Index___string_string_, ok_impl_areDecimals_1, ok_slices_IndexFunc_____int___int_⟩
end Go.Pe
