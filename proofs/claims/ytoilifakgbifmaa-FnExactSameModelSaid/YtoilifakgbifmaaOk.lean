/- Each compact text is its function of the program (table_ok); no condition. -/
import Derived.Test.YtoilifakgbifmaaRows
import Derived.Test.YtoilifakgbifmaaK0
import Derived.Test.YtoilifakgbifmaaEvB1
import Derived.KernelRfl
set_option linter.all false
namespace Go.Pe
open Go Go.Proofs
theorem ok_laws_FnExactSameModel : EntryOk Try.prog k_laws_FnExactSameModel (fnOf k_laws_FnExactSameModel_ic k_laws_FnExactSameModel_rv []) := ⟨_, _, k_laws_FnExactSameModel_vars, Try.func3, rfl, by kernel_rfl, by kernel_rfl, by kernel_rfl⟩
theorem ok_laws_szModel : EntryOk Try.prog k_laws_szModel (fnOf k_laws_szModel_ic k_laws_szModel_rv []) := ⟨_, _, k_laws_szModel_vars, Try.func14, rfl, by kernel_rfl, by kernel_rfl, by kernel_rfl⟩
theorem ok_spec_SameModel : EntryOk Try.prog k_spec_SameModel (fnOf k_spec_SameModel_ic k_spec_SameModel_rv []) := ⟨_, _, k_spec_SameModel_vars, Try.func15, rfl, by kernel_rfl, by kernel_rfl, by kernel_rfl⟩
theorem ok_laws_toModel : EntryOk Try.prog k_laws_toModel (fnOf k_laws_toModel_ic k_laws_toModel_rv []) := ⟨_, _, k_laws_toModel_vars, Try.func16, rfl, by kernel_rfl, by kernel_rfl, by kernel_rfl⟩
theorem ok_impl_SameModel : EntryOk Try.prog k_impl_SameModel (fnOf k_impl_SameModel_ic k_impl_SameModel_rv []) := ⟨_, _, k_impl_SameModel_vars, Try.func17, rfl, by kernel_rfl, by kernel_rfl, by kernel_rfl⟩
theorem ok_laws_eqModel : EntryOk Try.prog k_laws_eqModel (fnOf k_laws_eqModel_ic k_laws_eqModel_rv []) := ⟨_, _, k_laws_eqModel_vars, Try.func18, rfl, by kernel_rfl, by kernel_rfl, by kernel_rfl⟩
theorem ok_laws_szTree : EntryOk Try.prog k_laws_szTree (fnOf k_laws_szTree_ic k_laws_szTree_rv []) := ⟨_, _, k_laws_szTree_vars, Try.func19, rfl, by kernel_rfl, by kernel_rfl, by kernel_rfl⟩
theorem ok_laws_toTree : EntryOk Try.prog k_laws_toTree (fnOf k_laws_toTree_ic k_laws_toTree_rv []) := ⟨_, _, k_laws_toTree_vars, Try.func22, rfl, by kernel_rfl, by kernel_rfl, by kernel_rfl⟩
theorem ok_laws_eqTree : EntryOk Try.prog k_laws_eqTree (fnOf k_laws_eqTree_ic k_laws_eqTree_rv []) := ⟨_, _, k_laws_eqTree_vars, Try.func25, rfl, by kernel_rfl, by kernel_rfl, by kernel_rfl⟩
theorem ok_laws_toIntS : EntryOk Try.prog k_laws_toIntS (fnOf k_laws_toIntS_ic k_laws_toIntS_rv []) := ⟨_, _, k_laws_toIntS_vars, Try.func33, rfl, by kernel_rfl, by kernel_rfl, by kernel_rfl⟩
theorem ok_laws_eqIntS : EntryOk Try.prog k_laws_eqIntS (fnOf k_laws_eqIntS_ic k_laws_eqIntS_rv []) := ⟨_, _, k_laws_eqIntS_vars, Try.func37, rfl, by kernel_rfl, by kernel_rfl, by kernel_rfl⟩
theorem ok_laws_szStringS : EntryOk Try.prog k_laws_szStringS (fnOf k_laws_szStringS_ic k_laws_szStringS_rv []) := ⟨_, _, k_laws_szStringS_vars, Try.func74, rfl, by kernel_rfl, by kernel_rfl, by kernel_rfl⟩
theorem ok_laws_szIntS : EntryOk Try.prog k_laws_szIntS (fnOf k_laws_szIntS_ic k_laws_szIntS_rv []) := ⟨_, _, k_laws_szIntS_vars, Try.func75, rfl, by kernel_rfl, by kernel_rfl, by kernel_rfl⟩
theorem ok_laws_szTreeS : EntryOk Try.prog k_laws_szTreeS (fnOf k_laws_szTreeS_ic k_laws_szTreeS_rv []) := ⟨_, _, k_laws_szTreeS_vars, Try.func76, rfl, by kernel_rfl, by kernel_rfl, by kernel_rfl⟩
theorem ok_spec_l9Texts : EntryOk Try.prog k_spec_l9Texts (fnOf k_spec_l9Texts_ic k_spec_l9Texts_rv []) := ⟨_, _, k_spec_l9Texts_vars, Try.func77, rfl, by kernel_rfl, by kernel_rfl, by kernel_rfl⟩
theorem ok_spec_l8Ints : EntryOk Try.prog k_spec_l8Ints (fnOf k_spec_l8Ints_ic k_spec_l8Ints_rv []) := ⟨_, _, k_spec_l8Ints_vars, Try.func78, rfl, by kernel_rfl, by kernel_rfl, by kernel_rfl⟩
theorem ok_spec_SameTree : EntryOk Try.prog k_spec_SameTree (fnOf k_spec_SameTree_ic k_spec_SameTree_rv []) := ⟨_, _, k_spec_SameTree_vars, Try.func79, rfl, by kernel_rfl, by kernel_rfl, by kernel_rfl⟩
theorem ok_laws_toStringS : EntryOk Try.prog k_laws_toStringS (fnOf k_laws_toStringS_ic k_laws_toStringS_rv []) := ⟨_, _, k_laws_toStringS_vars, Try.func80, rfl, by kernel_rfl, by kernel_rfl, by kernel_rfl⟩
theorem ok_laws_toTreeS : EntryOk Try.prog k_laws_toTreeS (fnOf k_laws_toTreeS_ic k_laws_toTreeS_rv []) := ⟨_, _, k_laws_toTreeS_vars, Try.func81, rfl, by kernel_rfl, by kernel_rfl, by kernel_rfl⟩
theorem ok_slices_Equal___string_string_ : EntryOk Try.prog k_slices_Equal___string_string_ (fnOf k_slices_Equal___string_string__ic k_slices_Equal___string_string__rv []) := ⟨_, _, k_slices_Equal___string_string__vars, Try.func82, rfl, by kernel_rfl, by kernel_rfl, by kernel_rfl⟩
theorem ok_slices_Equal___int_int_ : EntryOk Try.prog k_slices_Equal___int_int_ (fnOf k_slices_Equal___int_int__ic k_slices_Equal___int_int__rv []) := ⟨_, _, k_slices_Equal___int_int__vars, Try.func83, rfl, by kernel_rfl, by kernel_rfl, by kernel_rfl⟩
theorem ok_slices_EqualFunc___impl_Tree___impl_Tree_impl_Tree_impl_Tree_ : EntryOk Try.prog k_slices_EqualFunc___impl_Tree___impl_Tree_impl_Tree_impl_Tree_ (fnOf k_slices_EqualFunc___impl_Tree___impl_Tree_impl_Tree_impl_Tree__ic k_slices_EqualFunc___impl_Tree___impl_Tree_impl_Tree_impl_Tree__rv []) := ⟨_, _, k_slices_EqualFunc___impl_Tree___impl_Tree_impl_Tree_impl_Tree__vars, Try.func84, rfl, by kernel_rfl, by kernel_rfl, by kernel_rfl⟩
theorem ok_impl_SameTree : EntryOk Try.prog k_impl_SameTree (fnOf k_impl_SameTree_ic k_impl_SameTree_rv []) := ⟨_, _, k_impl_SameTree_vars, Try.func85, rfl, by kernel_rfl, by kernel_rfl, by kernel_rfl⟩
theorem ok_laws_eqStringS : EntryOk Try.prog k_laws_eqStringS (fnOf k_laws_eqStringS_ic k_laws_eqStringS_rv []) := ⟨_, _, k_laws_eqStringS_vars, Try.func86, rfl, by kernel_rfl, by kernel_rfl, by kernel_rfl⟩
theorem ok_laws_eqTreeS : EntryOk Try.prog k_laws_eqTreeS (fnOf k_laws_eqTreeS_ic k_laws_eqTreeS_rv []) := ⟨_, _, k_laws_eqTreeS_vars, Try.func87, rfl, by kernel_rfl, by kernel_rfl, by kernel_rfl⟩
theorem ok_laws_szNodeS : EntryOk Try.prog k_laws_szNodeS (fnOf k_laws_szNodeS_ic k_laws_szNodeS_rv []) := ⟨_, _, k_laws_szNodeS_vars, Try.func88, rfl, by kernel_rfl, by kernel_rfl, by kernel_rfl⟩
theorem ok_laws_toNodeS : EntryOk Try.prog k_laws_toNodeS (fnOf k_laws_toNodeS_ic k_laws_toNodeS_rv []) := ⟨_, _, k_laws_toNodeS_vars, Try.func92, rfl, by kernel_rfl, by kernel_rfl, by kernel_rfl⟩
theorem ok_laws_eqNodeS : EntryOk Try.prog k_laws_eqNodeS (fnOf k_laws_eqNodeS_ic k_laws_eqNodeS_rv []) := ⟨_, _, k_laws_eqNodeS_vars, Try.func96, rfl, by kernel_rfl, by kernel_rfl, by kernel_rfl⟩
theorem ok_spec_SameRows : EntryOk Try.prog k_spec_SameRows (fnOf k_spec_SameRows_ic k_spec_SameRows_rv []) := ⟨_, _, k_spec_SameRows_vars, Try.func144, rfl, by kernel_rfl, by kernel_rfl, by kernel_rfl⟩
theorem ok_slices_Equal___impl_Node_impl_Node_ : EntryOk Try.prog k_slices_Equal___impl_Node_impl_Node_ (fnOf k_slices_Equal___impl_Node_impl_Node__ic k_slices_Equal___impl_Node_impl_Node__rv []) := ⟨_, _, k_slices_Equal___impl_Node_impl_Node__vars, Try.func145, rfl, by kernel_rfl, by kernel_rfl, by kernel_rfl⟩
theorem ok_laws_toNode : EntryOk Try.prog k_laws_toNode (fnOf k_laws_toNode_ic k_laws_toNode_rv []) := ⟨_, _, k_laws_toNode_vars, Try.func149, rfl, by kernel_rfl, by kernel_rfl, by kernel_rfl⟩
theorem ok_laws_eqNode : EntryOk Try.prog k_laws_eqNode (fnOf k_laws_eqNode_ic k_laws_eqNode_rv []) := ⟨_, _, k_laws_eqNode_vars, Try.func155, rfl, by kernel_rfl, by kernel_rfl, by kernel_rfl⟩
theorem table_ok : TableOk Try.prog T := by
  refine tableOk_of ?_
  simp only [tbl, List.forall_mem_cons, List.not_mem_nil, false_imp_iff, implies_true, and_true]
  exact ⟨ok_laws_FnExactSameModel, ok_laws_szModel, ok_spec_SameModel, ok_laws_toModel, ok_impl_SameModel, ok_laws_eqModel, ok_laws_szTree, ok_laws_toTree, ok_laws_eqTree, ok_laws_toIntS, ok_laws_eqIntS, ok_laws_szStringS, ok_laws_szIntS, ok_laws_szTreeS, ok_spec_l9Texts, ok_spec_l8Ints, ok_spec_SameTree, ok_laws_toStringS, ok_laws_toTreeS, ok_slices_Equal___string_string_, ok_slices_Equal___int_int_, ok_slices_EqualFunc___impl_Tree___impl_Tree_impl_Tree_impl_Tree_, ok_impl_SameTree, ok_laws_eqStringS, ok_laws_eqTreeS, ok_laws_szNodeS, ok_laws_toNodeS, ok_laws_eqNodeS, ok_spec_SameRows, ok_slices_Equal___impl_Node_impl_Node_, ok_laws_toNode, ok_laws_eqNode⟩
end Go.Pe
