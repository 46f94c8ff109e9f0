/- Each compact text is its function of the program (table_ok); no condition. -/
import Derived.Test.YthjpnjnlhmkepaaRows
import Derived.Test.YthjpnjnlhmkepaaK0
import Derived.Test.YthjpnjnlhmkepaaEvB2
import Derived.KernelRfl
set_option linter.all false
namespace Go.Pe
open Go Go.Proofs
theorem ok_laws_FnExactRowsAt : EntryOk Try.prog k_laws_FnExactRowsAt (fnOf k_laws_FnExactRowsAt_ic k_laws_FnExactRowsAt_rv []) := ⟨_, _, k_laws_FnExactRowsAt_vars, Try.func14, rfl, by kernel_rfl, by kernel_rfl, by kernel_rfl⟩
theorem ok_laws_toIntS : EntryOk Try.prog k_laws_toIntS (fnOf k_laws_toIntS_ic k_laws_toIntS_rv []) := ⟨_, _, k_laws_toIntS_vars, Try.func38, rfl, by kernel_rfl, by kernel_rfl, by kernel_rfl⟩
theorem ok_laws_eqIntS : EntryOk Try.prog k_laws_eqIntS (fnOf k_laws_eqIntS_ic k_laws_eqIntS_rv []) := ⟨_, _, k_laws_eqIntS_vars, Try.func41, rfl, by kernel_rfl, by kernel_rfl, by kernel_rfl⟩
theorem ok_impl_RowsAt : EntryOk Try.prog k_impl_RowsAt (fnOf k_impl_RowsAt_ic k_impl_RowsAt_rv []) := ⟨_, _, k_impl_RowsAt_vars, Try.func58, rfl, by kernel_rfl, by kernel_rfl, by kernel_rfl⟩
theorem ok_spec_RowsAt : EntryOk Try.prog k_spec_RowsAt (fnOf k_spec_RowsAt_ic k_spec_RowsAt_rv []) := ⟨_, _, k_spec_RowsAt_vars, Try.func59, rfl, by kernel_rfl, by kernel_rfl, by kernel_rfl⟩
theorem ok_laws_szTree : EntryOk Try.prog k_laws_szTree (fnOf k_laws_szTree_ic k_laws_szTree_rv []) := ⟨_, _, k_laws_szTree_vars, Try.func68, rfl, by kernel_rfl, by kernel_rfl, by kernel_rfl⟩
theorem ok_laws_szIntSS : EntryOk Try.prog k_laws_szIntSS (fnOf k_laws_szIntSS_ic k_laws_szIntSS_rv []) := ⟨_, _, k_laws_szIntSS_vars, Try.func69, rfl, by kernel_rfl, by kernel_rfl, by kernel_rfl⟩
theorem ok_laws_toTree : EntryOk Try.prog k_laws_toTree (fnOf k_laws_toTree_ic k_laws_toTree_rv []) := ⟨_, _, k_laws_toTree_vars, Try.func70, rfl, by kernel_rfl, by kernel_rfl, by kernel_rfl⟩
theorem ok_laws_toIntSS : EntryOk Try.prog k_laws_toIntSS (fnOf k_laws_toIntSS_ic k_laws_toIntSS_rv []) := ⟨_, _, k_laws_toIntSS_vars, Try.func71, rfl, by kernel_rfl, by kernel_rfl, by kernel_rfl⟩
theorem ok_laws_eqTree : EntryOk Try.prog k_laws_eqTree (fnOf k_laws_eqTree_ic k_laws_eqTree_rv []) := ⟨_, _, k_laws_eqTree_vars, Try.func72, rfl, by kernel_rfl, by kernel_rfl, by kernel_rfl⟩
theorem ok_laws_eqIntSS : EntryOk Try.prog k_laws_eqIntSS (fnOf k_laws_eqIntSS_ic k_laws_eqIntSS_rv []) := ⟨_, _, k_laws_eqIntSS_vars, Try.func73, rfl, by kernel_rfl, by kernel_rfl, by kernel_rfl⟩
theorem ok_laws_markTree : EntryOk Try.prog k_laws_markTree (fnOf k_laws_markTree_ic k_laws_markTree_rv [true]) := ⟨_, _, k_laws_markTree_vars, Try.func74, rfl, by kernel_rfl, by kernel_rfl, by kernel_rfl⟩
theorem ok_laws_markIntSS : EntryOk Try.prog k_laws_markIntSS (fnOf k_laws_markIntSS_ic k_laws_markIntSS_rv [true]) := ⟨_, _, k_laws_markIntSS_vars, Try.func75, rfl, by kernel_rfl, by kernel_rfl, by kernel_rfl⟩
theorem ok_laws_markIntS : EntryOk Try.prog k_laws_markIntS (fnOf k_laws_markIntS_ic k_laws_markIntS_rv [true]) := ⟨_, _, k_laws_markIntS_vars, Try.func76, rfl, by kernel_rfl, by kernel_rfl, by kernel_rfl⟩
theorem ok_laws_heldIntS : EntryOk Try.prog k_laws_heldIntS (fnOf k_laws_heldIntS_ic k_laws_heldIntS_rv []) := ⟨_, _, k_laws_heldIntS_vars, Try.func77, rfl, by kernel_rfl, by kernel_rfl, by kernel_rfl⟩
theorem ok_impl_within : EntryOk Try.prog k_impl_within (fnOf k_impl_within_ic k_impl_within_rv []) := ⟨_, _, k_impl_within_vars, Try.func92, rfl, by kernel_rfl, by kernel_rfl, by kernel_rfl⟩
theorem ok_impl_isLeaf : EntryOk Try.prog k_impl_isLeaf (fnOf k_impl_isLeaf_ic k_impl_isLeaf_rv []) := ⟨_, _, k_impl_isLeaf_vars, Try.func94, rfl, by kernel_rfl, by kernel_rfl, by kernel_rfl⟩
theorem ok_spec_l1In : EntryOk Try.prog k_spec_l1In (fnOf k_spec_l1In_ic k_spec_l1In_rv []) := ⟨_, _, k_spec_l1In_vars, Try.func112, rfl, by kernel_rfl, by kernel_rfl, by kernel_rfl⟩
theorem ok_slices_Contains___int_int_ : EntryOk Try.prog k_slices_Contains___int_int_ (fnOf k_slices_Contains___int_int__ic k_slices_Contains___int_int__rv []) := ⟨_, _, k_slices_Contains___int_int__vars, Try.func118, rfl, by kernel_rfl, by kernel_rfl, by kernel_rfl⟩
theorem ok_impl_route : EntryOk Try.prog k_impl_route (fnOf k_impl_route_ic k_impl_route_rv []) := ⟨_, _, k_impl_route_vars, Try.func119, rfl, by kernel_rfl, by kernel_rfl, by kernel_rfl⟩
theorem ok_spec_l18Way : EntryOk Try.prog k_spec_l18Way (fnOf k_spec_l18Way_ic k_spec_l18Way_rv []) := ⟨_, _, k_spec_l18Way_vars, Try.func120, rfl, by kernel_rfl, by kernel_rfl, by kernel_rfl⟩
theorem ok_spec_l17Inner : EntryOk Try.prog k_spec_l17Inner (fnOf k_spec_l17Inner_ic k_spec_l17Inner_rv []) := ⟨_, _, k_spec_l17Inner_vars, Try.func122, rfl, by kernel_rfl, by kernel_rfl, by kernel_rfl⟩
theorem ok_laws_szNodeS : EntryOk Try.prog k_laws_szNodeS (fnOf k_laws_szNodeS_ic k_laws_szNodeS_rv []) := ⟨_, _, k_laws_szNodeS_vars, Try.func125, rfl, by kernel_rfl, by kernel_rfl, by kernel_rfl⟩
theorem ok_laws_szIntS : EntryOk Try.prog k_laws_szIntS (fnOf k_laws_szIntS_ic k_laws_szIntS_rv []) := ⟨_, _, k_laws_szIntS_vars, Try.func126, rfl, by kernel_rfl, by kernel_rfl, by kernel_rfl⟩
theorem ok_laws_toNodeS : EntryOk Try.prog k_laws_toNodeS (fnOf k_laws_toNodeS_ic k_laws_toNodeS_rv []) := ⟨_, _, k_laws_toNodeS_vars, Try.func127, rfl, by kernel_rfl, by kernel_rfl, by kernel_rfl⟩
theorem ok_laws_eqNodeS : EntryOk Try.prog k_laws_eqNodeS (fnOf k_laws_eqNodeS_ic k_laws_eqNodeS_rv []) := ⟨_, _, k_laws_eqNodeS_vars, Try.func128, rfl, by kernel_rfl, by kernel_rfl, by kernel_rfl⟩
theorem ok_laws_markNodeS : EntryOk Try.prog k_laws_markNodeS (fnOf k_laws_markNodeS_ic k_laws_markNodeS_rv [true]) := ⟨_, _, k_laws_markNodeS_vars, Try.func129, rfl, by kernel_rfl, by kernel_rfl, by kernel_rfl⟩
theorem ok_slices_Index___int_int_ : EntryOk Try.prog k_slices_Index___int_int_ (fnOf k_slices_Index___int_int__ic k_slices_Index___int_int__rv []) := ⟨_, _, k_slices_Index___int_int__vars, Try.func152, rfl, by kernel_rfl, by kernel_rfl, by kernel_rfl⟩
theorem ok_laws_toNode : EntryOk Try.prog k_laws_toNode (fnOf k_laws_toNode_ic k_laws_toNode_rv []) := ⟨_, _, k_laws_toNode_vars, Try.func153, rfl, by kernel_rfl, by kernel_rfl, by kernel_rfl⟩
theorem ok_laws_eqNode : EntryOk Try.prog k_laws_eqNode (fnOf k_laws_eqNode_ic k_laws_eqNode_rv []) := ⟨_, _, k_laws_eqNode_vars, Try.func154, rfl, by kernel_rfl, by kernel_rfl, by kernel_rfl⟩
theorem table_ok : TableOk Try.prog T := by
  refine tableOk_of ?_
  simp only [tbl, List.forall_mem_cons, List.not_mem_nil, false_imp_iff, implies_true, and_true]
  exact ⟨ok_laws_FnExactRowsAt, ok_laws_toIntS, ok_laws_eqIntS, ok_impl_RowsAt, ok_spec_RowsAt, ok_laws_szTree, ok_laws_szIntSS, ok_laws_toTree, ok_laws_toIntSS, ok_laws_eqTree, ok_laws_eqIntSS, ok_laws_markTree, ok_laws_markIntSS, ok_laws_markIntS, ok_laws_heldIntS, ok_impl_within, ok_impl_isLeaf, ok_spec_l1In, ok_slices_Contains___int_int_, ok_impl_route, ok_spec_l18Way, ok_spec_l17Inner, ok_laws_szNodeS, ok_laws_szIntS, ok_laws_toNodeS, ok_laws_eqNodeS, ok_laws_markNodeS, ok_slices_Index___int_int_, ok_laws_toNode, ok_laws_eqNode⟩
end Go.Pe
