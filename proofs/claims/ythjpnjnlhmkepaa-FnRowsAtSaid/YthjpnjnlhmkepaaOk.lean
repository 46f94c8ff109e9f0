/- Each compact text is its function of the program (table_ok); no condition. -/
import Derived.Test.YthjpnjnlhmkepaaRows
import Derived.Test.YthjpnjnlhmkepaaK0
import Derived.Test.YthjpnjnlhmkepaaEvB2
import Derived.KernelRfl
set_option linter.all false
namespace Go.Pe
open Go Go.Proofs
theorem ok_laws_FnRowsAt : EntryOk Try.prog k_laws_FnRowsAt (fnOf k_laws_FnRowsAt_ic k_laws_FnRowsAt_rv []) := ⟨_, _, k_laws_FnRowsAt_vars, Try.func12, rfl, by kernel_rfl, by kernel_rfl, by kernel_rfl⟩
theorem ok_laws_big : EntryOk Try.prog k_laws_big (fnOf k_laws_big_ic k_laws_big_rv []) := ⟨_, _, k_laws_big_vars, Try.func15, rfl, by kernel_rfl, by kernel_rfl, by kernel_rfl⟩
theorem ok_spec_OneLeaf : EntryOk Try.prog k_spec_OneLeaf (fnOf k_spec_OneLeaf_ic k_spec_OneLeaf_rv []) := ⟨_, _, k_spec_OneLeaf_vars, Try.func31, rfl, by kernel_rfl, by kernel_rfl, by kernel_rfl⟩
theorem ok_laws_sameInts : EntryOk Try.prog k_laws_sameInts (fnOf k_laws_sameInts_ic k_laws_sameInts_rv []) := ⟨_, _, k_laws_sameInts_vars, Try.func50, rfl, by kernel_rfl, by kernel_rfl, by kernel_rfl⟩
theorem ok_spec_TreeOk : EntryOk Try.prog k_spec_TreeOk (fnOf k_spec_TreeOk_ic k_spec_TreeOk_rv []) := ⟨_, _, k_spec_TreeOk_vars, Try.func54, rfl, by kernel_rfl, by kernel_rfl, by kernel_rfl⟩
theorem ok_spec_DepthOf : EntryOk Try.prog k_spec_DepthOf (fnOf k_spec_DepthOf_ic k_spec_DepthOf_rv []) := ⟨_, _, k_spec_DepthOf_vars, Try.func55, rfl, by kernel_rfl, by kernel_rfl, by kernel_rfl⟩
theorem ok_spec_DrawRowsAt : EntryOk Try.prog k_spec_DrawRowsAt (fnOf k_spec_DrawRowsAt_ic k_spec_DrawRowsAt_rv []) := ⟨_, _, k_spec_DrawRowsAt_vars, Try.func57, rfl, by kernel_rfl, by kernel_rfl, by kernel_rfl⟩
theorem ok_impl_RowsAt : EntryOk Try.prog k_impl_RowsAt (fnOf k_impl_RowsAt_ic k_impl_RowsAt_rv []) := ⟨_, _, k_impl_RowsAt_vars, Try.func58, rfl, by kernel_rfl, by kernel_rfl, by kernel_rfl⟩
theorem ok_spec_RowsAt : EntryOk Try.prog k_spec_RowsAt (fnOf k_spec_RowsAt_ic k_spec_RowsAt_rv []) := ⟨_, _, k_spec_RowsAt_vars, Try.func59, rfl, by kernel_rfl, by kernel_rfl, by kernel_rfl⟩
theorem ok_spec_MergedRows : EntryOk Try.prog k_spec_MergedRows (fnOf k_spec_MergedRows_ic k_spec_MergedRows_rv []) := ⟨_, _, k_spec_MergedRows_vars, Try.func60, rfl, by kernel_rfl, by kernel_rfl, by kernel_rfl⟩
theorem ok_spec_LeavesOf : EntryOk Try.prog k_spec_LeavesOf (fnOf k_spec_LeavesOf_ic k_spec_LeavesOf_rv []) := ⟨_, _, k_spec_LeavesOf_vars, Try.func64, rfl, by kernel_rfl, by kernel_rfl, by kernel_rfl⟩
theorem ok_spec_l1New : EntryOk Try.prog k_spec_l1New (fnOf k_spec_l1New_ic k_spec_l1New_rv []) := ⟨_, _, k_spec_l1New_vars, Try.func79, rfl, by kernel_rfl, by kernel_rfl, by kernel_rfl⟩
theorem ok_spec_l1PickInt : EntryOk Try.prog k_spec_l1PickInt (fnOf k_spec_l1PickInt_ic k_spec_l1PickInt_rv [true, true]) := ⟨_, _, k_spec_l1PickInt_vars, Try.func82, rfl, by kernel_rfl, by kernel_rfl, by kernel_rfl⟩
theorem ok_spec_l1Whole : EntryOk Try.prog k_spec_l1Whole (fnOf k_spec_l1Whole_ic k_spec_l1Whole_rv [true]) := ⟨_, _, k_spec_l1Whole_vars, Try.func83, rfl, by kernel_rfl, by kernel_rfl, by kernel_rfl⟩
theorem ok_spec_l1Once : EntryOk Try.prog k_spec_l1Once (fnOf k_spec_l1Once_ic k_spec_l1Once_rv [true]) := ⟨_, _, k_spec_l1Once_vars, Try.func84, rfl, by kernel_rfl, by kernel_rfl, by kernel_rfl⟩
theorem ok_spec_l14Leaf : EntryOk Try.prog k_spec_l14Leaf (fnOf k_spec_l14Leaf_ic k_spec_l14Leaf_rv []) := ⟨_, _, k_spec_l14Leaf_vars, Try.func91, rfl, by kernel_rfl, by kernel_rfl, by kernel_rfl⟩
theorem ok_impl_within : EntryOk Try.prog k_impl_within (fnOf k_impl_within_ic k_impl_within_rv []) := ⟨_, _, k_impl_within_vars, Try.func92, rfl, by kernel_rfl, by kernel_rfl, by kernel_rfl⟩
theorem ok_impl_isLeaf : EntryOk Try.prog k_impl_isLeaf (fnOf k_impl_isLeaf_ic k_impl_isLeaf_rv []) := ⟨_, _, k_impl_isLeaf_vars, Try.func94, rfl, by kernel_rfl, by kernel_rfl, by kernel_rfl⟩
theorem ok_spec_l1Max : EntryOk Try.prog k_spec_l1Max (fnOf k_spec_l1Max_ic k_spec_l1Max_rv []) := ⟨_, _, k_spec_l1Max_vars, Try.func105, rfl, by kernel_rfl, by kernel_rfl, by kernel_rfl⟩
theorem ok_spec_LevelOf : EntryOk Try.prog k_spec_LevelOf (fnOf k_spec_LevelOf_ic k_spec_LevelOf_rv []) := ⟨_, _, k_spec_LevelOf_vars, Try.func109, rfl, by kernel_rfl, by kernel_rfl, by kernel_rfl⟩
theorem ok_spec_l17Up : EntryOk Try.prog k_spec_l17Up (fnOf k_spec_l17Up_ic k_spec_l17Up_rv []) := ⟨_, _, k_spec_l17Up_vars, Try.func110, rfl, by kernel_rfl, by kernel_rfl, by kernel_rfl⟩
theorem ok_spec_l17Bent : EntryOk Try.prog k_spec_l17Bent (fnOf k_spec_l17Bent_ic k_spec_l17Bent_rv [true]) := ⟨_, _, k_spec_l17Bent_vars, Try.func111, rfl, by kernel_rfl, by kernel_rfl, by kernel_rfl⟩
theorem ok_spec_l1In : EntryOk Try.prog k_spec_l1In (fnOf k_spec_l1In_ic k_spec_l1In_rv []) := ⟨_, _, k_spec_l1In_vars, Try.func112, rfl, by kernel_rfl, by kernel_rfl, by kernel_rfl⟩
theorem ok_spec_l17Shape : EntryOk Try.prog k_spec_l17Shape (fnOf k_spec_l17Shape_ic k_spec_l17Shape_rv []) := ⟨_, _, k_spec_l17Shape_vars, Try.func113, rfl, by kernel_rfl, by kernel_rfl, by kernel_rfl⟩
theorem ok_spec_l17Ways : EntryOk Try.prog k_spec_l17Ways (fnOf k_spec_l17Ways_ic k_spec_l17Ways_rv []) := ⟨_, _, k_spec_l17Ways_vars, Try.func114, rfl, by kernel_rfl, by kernel_rfl, by kernel_rfl⟩
theorem ok_spec_l1Below : EntryOk Try.prog k_spec_l1Below (fnOf k_spec_l1Below_ic k_spec_l1Below_rv [true]) := ⟨_, _, k_spec_l1Below_vars, Try.func116, rfl, by kernel_rfl, by kernel_rfl, by kernel_rfl⟩
theorem ok_spec_l18Row : EntryOk Try.prog k_spec_l18Row (fnOf k_spec_l18Row_ic k_spec_l18Row_rv [true]) := ⟨_, _, k_spec_l18Row_vars, Try.func117, rfl, by kernel_rfl, by kernel_rfl, by kernel_rfl⟩
theorem ok_slices_Contains___int_int_ : EntryOk Try.prog k_slices_Contains___int_int_ (fnOf k_slices_Contains___int_int__ic k_slices_Contains___int_int__rv []) := ⟨_, _, k_slices_Contains___int_int__vars, Try.func118, rfl, by kernel_rfl, by kernel_rfl, by kernel_rfl⟩
theorem ok_impl_route : EntryOk Try.prog k_impl_route (fnOf k_impl_route_ic k_impl_route_rv []) := ⟨_, _, k_impl_route_vars, Try.func119, rfl, by kernel_rfl, by kernel_rfl, by kernel_rfl⟩
theorem ok_spec_l18Way : EntryOk Try.prog k_spec_l18Way (fnOf k_spec_l18Way_ic k_spec_l18Way_rv []) := ⟨_, _, k_spec_l18Way_vars, Try.func120, rfl, by kernel_rfl, by kernel_rfl, by kernel_rfl⟩
theorem ok_spec_SortInts : EntryOk Try.prog k_spec_SortInts (fnOf k_spec_SortInts_ic k_spec_SortInts_rv []) := ⟨_, _, k_spec_SortInts_vars, Try.func121, rfl, by kernel_rfl, by kernel_rfl, by kernel_rfl⟩
theorem ok_spec_l17Inner : EntryOk Try.prog k_spec_l17Inner (fnOf k_spec_l17Inner_ic k_spec_l17Inner_rv []) := ⟨_, _, k_spec_l17Inner_vars, Try.func122, rfl, by kernel_rfl, by kernel_rfl, by kernel_rfl⟩
theorem ok_spec_l1Byte : EntryOk Try.prog k_spec_l1Byte (fnOf k_spec_l1Byte_ic k_spec_l1Byte_rv [true]) := ⟨_, _, k_spec_l1Byte_vars, Try.func130, rfl, by kernel_rfl, by kernel_rfl, by kernel_rfl⟩
theorem ok_spec_l17Right : EntryOk Try.prog k_spec_l17Right (fnOf k_spec_l17Right_ic k_spec_l17Right_rv [true]) := ⟨_, _, k_spec_l17Right_vars, Try.func150, rfl, by kernel_rfl, by kernel_rfl, by kernel_rfl⟩
theorem ok_spec_l6Value : EntryOk Try.prog k_spec_l6Value (fnOf k_spec_l6Value_ic k_spec_l6Value_rv []) := ⟨_, _, k_spec_l6Value_vars, Try.func151, rfl, by kernel_rfl, by kernel_rfl, by kernel_rfl⟩
theorem ok_slices_Index___int_int_ : EntryOk Try.prog k_slices_Index___int_int_ (fnOf k_slices_Index___int_int__ic k_slices_Index___int_int__rv []) := ⟨_, _, k_slices_Index___int_int__vars, Try.func152, rfl, by kernel_rfl, by kernel_rfl, by kernel_rfl⟩
theorem ok_spec_l17Grown : EntryOk Try.prog k_spec_l17Grown (fnOf k_spec_l17Grown_ic k_spec_l17Grown_rv []) := ⟨_, _, k_spec_l17Grown_vars, Try.func160, rfl, by kernel_rfl, by kernel_rfl, by kernel_rfl⟩
theorem ok_spec_l17Levels : EntryOk Try.prog k_spec_l17Levels (fnOf k_spec_l17Levels_ic k_spec_l17Levels_rv []) := ⟨_, _, k_spec_l17Levels_vars, Try.func162, rfl, by kernel_rfl, by kernel_rfl, by kernel_rfl⟩
theorem table_ok : TableOk Try.prog T := by
  refine tableOk_of ?_
  simp only [tbl, List.forall_mem_cons, List.not_mem_nil, false_imp_iff, implies_true, and_true]
  exact ⟨ok_laws_FnRowsAt, ok_laws_big, ok_spec_OneLeaf, ok_laws_sameInts, ok_spec_TreeOk, ok_spec_DepthOf, ok_spec_DrawRowsAt, ok_impl_RowsAt, ok_spec_RowsAt, ok_spec_MergedRows, ok_spec_LeavesOf, ok_spec_l1New, ok_spec_l1PickInt, ok_spec_l1Whole, ok_spec_l1Once, ok_spec_l14Leaf, ok_impl_within, ok_impl_isLeaf, ok_spec_l1Max, ok_spec_LevelOf, ok_spec_l17Up, ok_spec_l17Bent, ok_spec_l1In, ok_spec_l17Shape, ok_spec_l17Ways, ok_spec_l1Below, ok_spec_l18Row, ok_slices_Contains___int_int_, ok_impl_route, ok_spec_l18Way, ok_spec_SortInts, ok_spec_l17Inner, ok_spec_l1Byte, ok_spec_l17Right, ok_spec_l6Value, ok_slices_Index___int_int_, ok_spec_l17Grown, ok_spec_l17Levels⟩
end Go.Pe
