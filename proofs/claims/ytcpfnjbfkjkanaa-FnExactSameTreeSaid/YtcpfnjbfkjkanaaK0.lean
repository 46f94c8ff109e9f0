/- The compact texts of the functions that the law reaches; no condition. -/
import Derived.Test.YtcpfnjbfkjkanaaEvA0
set_option linter.all false
namespace Go.Pe
open Go
def k_laws_FnExactSameTree : Nat := 8

def k_laws_eqTree : Nat := 26

def k_laws_szTree : Nat := 29

def k_spec_SameTree : Nat := 30

def k_laws_toTree : Nat := 31

def k_impl_SameTree : Nat := 32

def k_laws_eqNodeS : Nat := 45

def k_laws_szNodeS : Nat := 48

def k_laws_toNodeS : Nat := 49

def k_slices_Equal___impl_Node_impl_Node_ : Nat := 50

def k_laws_eqNode : Nat := 51

def k_laws_toNode : Nat := 52

def k_laws_FnExactSameTree_vars : List Nat := [0, 1, 2, 5, 3, 7, 8, 9, 6, 4]

def k_laws_FnExactSameTree_ic : IC := .seq (.reg [oV 2 (.box (.V 0)), oV 3 (.box (.V 1)), oV 4 (.mv (kb false))]) (.seq (.reg [oV 5 (.mv (ki 1048576))]) (.seq (.reg [oE 10 (.load true 1 (.V 2)), oE 11 (.mv (.V 5)), oE 12 (.call k_laws_szTree [([5], (.E 10)), ([0], (.E 11))]), oV 5 (.mv (.E 12))]) (.seq (.seq (.reg [oE 13 (.mv (.V 5)), oE 14 (.bin .lss (.E 13) (ki 0))]) (.cond (.E 14) (.seq (.reg [oV 4 (.mv (kb true))]) .ret) .skip)) (.seq (.reg [oE 15 (.load true 1 (.V 3)), oE 16 (.mv (.V 5)), oE 17 (.call k_laws_szTree [([5], (.E 15)), ([0], (.E 16))]), oV 5 (.mv (.E 17))]) (.seq (.seq (.reg [oE 18 (.mv (.V 5)), oE 19 (.bin .lss (.E 18) (ki 0))]) (.cond (.E 19) (.seq (.reg [oV 4 (.mv (kb true))]) .ret) .skip)) (.seq (.regD [(oE 20 (.load true 1 (.V 2)), 0, 0), (oE 21 (.call k_laws_toTree [([5], (.E 20))]), 0, 0), (oE 22 (.load true 1 (.V 3)), 1, 0), (oE 23 (.call k_laws_toTree [([5], (.E 22))]), 0, 0), (oE 24 (.call k_spec_SameTree [([5], (.E 21)), ([5], (.E 23))]), 0, 0), (oV 6 (.mv (.E 24)), 0, 0)]) (.seq (.reg [oE 25 (.load true 1 (.V 2)), oE 26 (.call k_laws_toTree [([5], (.E 25))]), oV 7 (.alloc [.e0]), oN (.store [5] (.V 7) (.E 26))]) (.seq (.reg [oE 27 (.load true 1 (.V 3)), oE 28 (.call k_laws_toTree [([5], (.E 27))]), oV 8 (.alloc [.e0]), oN (.store [5] (.V 8) (.E 28))]) (.seq (.reg [oE 29 (.load true 1 (.V 7)), oE 30 (.load true 1 (.V 8)), oE 31 (.call k_impl_SameTree [([5], (.E 29)), ([5], (.E 30))]), oV 9 (.mv (.E 31))]) (.seq (.seq (.reg [oE 32 (.mv (.V 9)), oE 33 (.mv (.V 6)), oE 34 (.eqb true [.b] (.E 32) (.E 33))]) (.cond (.E 34) (.seq (.reg [oV 4 (.mv (kb false))]) .ret) .skip)) (.seq (.seq (.regD [(oE 35 (.load true 1 (.V 7)), 0, 1), (oE 36 (.load true 1 (.V 2)), 0, 0), (oE 37 (.call k_laws_toTree [([5], (.E 36))]), 0, 0), (oE 38 (.call k_laws_eqTree [([5], (.E 35)), ([5], (.E 37))]), 0, 0), (oE 39 (.un .not (.E 38)), 0, 0)]) (.cond (.E 39) (.seq (.reg [oV 4 (.mv (kb false))]) .ret) .skip)) (.seq (.seq (.regD [(oE 40 (.load true 1 (.V 8)), 0, 1), (oE 41 (.load true 1 (.V 3)), 0, 0), (oE 42 (.call k_laws_toTree [([5], (.E 41))]), 0, 0), (oE 43 (.call k_laws_eqTree [([5], (.E 40)), ([5], (.E 42))]), 0, 0), (oE 44 (.un .not (.E 43)), 0, 0)]) (.cond (.E 44) (.seq (.reg [oV 4 (.mv (kb false))]) .ret) .skip)) (.seq (.reg [oV 4 (.mv (kb true))]) .ret)))))))))))))

def k_laws_FnExactSameTree_rv : List RV := [.tmp [0] 4]

def k_laws_eqTree_vars : List Nat := [0, 1, 2, 3, 4]

def k_laws_eqTree_ic : IC := .seq (.reg [oV 2 (.box (.V 0)), oV 3 (.box (.V 1)), oV 4 (.mv (kb false))]) (.seq (.seq (.reg [oE 5 (.faddr 0 (.V 2)), oE 6 (.load false 1 (.E 5)), oE 7 (.faddr 0 (.V 3)), oE 8 (.load false 1 (.E 7)), oE 9 (.call k_laws_eqNodeS [([5], (.E 6)), ([5], (.E 8))]), oE 10 (.un .not (.E 9))]) (.cond (.E 10) (.seq (.reg [oV 4 (.mv (kb false))]) .ret) .skip)) (.seq (.reg [oV 4 (.mv (kb true))]) .ret))

def k_laws_eqTree_rv : List RV := [.tmp [0] 4]

def k_laws_szTree_vars : List Nat := [0, 1, 2, 4]

def k_laws_szTree_ic : IC := .seq (.reg [oV 2 (.box (.V 0)), oV 4 (.mv (ki 0))]) (.seq (.reg [oE 5 (.faddr 0 (.V 2)), oE 6 (.load false 1 (.E 5)), oE 7 (.mv (.V 1)), oE 8 (.call k_laws_szNodeS [([5], (.E 6)), ([0], (.E 7))]), oV 1 (.mv (.E 8))]) (.seq (.seq (.reg [oE 9 (.mv (.V 1)), oE 10 (.bin .lss (.E 9) (ki 0))]) (.cond (.E 10) (.seq (.reg [oV 4 (.mv (ki (-1)))]) .ret) .skip)) (.seq (.reg [oE 11 (.mv (.V 1)), oV 4 (.mv (.E 11))]) .ret)))

def k_laws_szTree_rv : List RV := [.tmp [0] 4]

def k_spec_SameTree_vars : List Nat := [0, 1, 2, 3, 5, 4]

def k_spec_SameTree_b0 : IC := .seq (.seq (.reg [oE 13 (.mv (.V 5)), oE 14 (.faddr 0 (.V 2)), oE 15 (.load false 1 (.E 14)), oE 16 (.len (.E 15)), oE 17 (.bin .lss (.E 13) (.E 16))]) (.cond (.E 17) .skip (.exit 0))) (.seq (.block 1 (.seq (.regD [(oE 20 (.faddr 0 (.V 2)), 0, 0), (oE 21 (.load false 1 (.E 20)), 0, 0), (oE 22 (.mv (.V 5)), 0, 0), (oE 23 (.iaddr 5 (.E 21) (.E 22)), 0, 0), (oE 24 (.load true 5 (.E 23)), 0, 0), (oE 25 (.faddr 0 (.V 3)), 0, 0), (oE 26 (.load false 1 (.E 25)), 0, 0), (oE 27 (.mv (.V 5)), 0, 0), (oE 28 (.iaddr 5 (.E 26) (.E 27)), 0, 0), (oE 29 (.load true 5 (.E 28)), 0, 0), (oE 30 (.eqb true [.i .i64, .i .i64, .i .i64, .i .i64, .i .i64] (.E 24) (.E 29)), 0, 0)]) (.cond (.E 30) (.seq (.reg [oV 4 (.mv (kb false))]) .ret) .skip))) (.reg [oE 18 (.mv (.V 5)), oE 19 (.bin .add (.E 18) (ki 1)), oV 5 (.mv (.E 19))]))

def k_spec_SameTree_ic : IC := .seq (.reg [oV 2 (.box (.V 0)), oV 3 (.box (.V 1)), oV 4 (.mv (kb false))]) (.seq (.seq (.reg [oE 6 (.faddr 0 (.V 2)), oE 7 (.load false 1 (.E 6)), oE 8 (.len (.E 7)), oE 9 (.faddr 0 (.V 3)), oE 10 (.load false 1 (.E 9)), oE 11 (.len (.E 10)), oE 12 (.bin .neq (.E 8) (.E 11))]) (.cond (.E 12) (.seq (.reg [oV 4 (.mv (kb false))]) .ret) .skip)) (.seq (.seq (.reg [oV 5 (.mv (ki 0))]) (.block 0 (.loop k_spec_SameTree_b0))) (.seq (.reg [oV 4 (.mv (kb true))]) .ret)))

def k_spec_SameTree_rv : List RV := [.tmp [0] 4]

def k_laws_toTree_vars : List Nat := [0, 1, 3, 2]

def k_laws_toTree_ic : IC := .seq (.reg [oV 1 (.box (.V 0)), oV 2 (.alloc [.e0])]) (.seq (.reg [oV 3 (.alloc [.e0])]) (.seq (.reg [oE 4 (.faddr 0 (.V 1)), oE 5 (.load false 1 (.E 4)), oE 6 (.call k_laws_toNodeS [([5], (.E 5))]), oE 7 (.faddr 0 (.V 3)), oN (.store [5] (.E 7) (.E 6))]) (.seq (.reg [oE 8 (.load true 1 (.V 3)), oN (.store [5] (.V 2) (.E 8))]) .ret)))

def k_laws_toTree_rv : List RV := [.cell [5] 2 true]

def k_impl_SameTree_vars : List Nat := [0, 1, 2, 3, 4]

def k_impl_SameTree_ic : IC := .seq (.reg [oV 2 (.box (.V 0)), oV 3 (.box (.V 1)), oV 4 (.mv (kb false))]) (.seq (.reg [oE 5 (.faddr 0 (.V 2)), oE 6 (.load false 1 (.E 5)), oE 7 (.faddr 0 (.V 3)), oE 8 (.load false 1 (.E 7)), oE 9 (.call k_slices_Equal___impl_Node_impl_Node_ [([5], (.E 6)), ([5], (.E 8))]), oV 4 (.mv (.E 9))]) .ret)

def k_impl_SameTree_rv : List RV := [.tmp [0] 4]

def k_laws_eqNodeS_vars : List Nat := [0, 1, 5, 4]

def k_laws_eqNodeS_b0 : IC := .seq (.seq (.reg [oE 11 (.mv (.V 5)), oE 12 (.mv (.V 0)), oE 13 (.len (.E 12)), oE 14 (.bin .lss (.E 11) (.E 13))]) (.cond (.E 14) .skip (.exit 0))) (.seq (.block 1 (.seq (.regD [(oE 17 (.mv (.V 0)), 0, 0), (oE 18 (.mv (.V 5)), 0, 0), (oE 19 (.iaddr 5 (.E 17) (.E 18)), 0, 0), (oE 20 (.load true 5 (.E 19)), 0, 0), (oE 21 (.mv (.V 1)), 0, 0), (oE 22 (.mv (.V 5)), 0, 0), (oE 23 (.iaddr 5 (.E 21) (.E 22)), 0, 0), (oE 24 (.load true 5 (.E 23)), 0, 0), (oE 25 (.call k_laws_eqNode [([0, 0, 0, 0, 0], (.E 20)), ([0, 0, 0, 0, 0], (.E 24))]), 0, 0), (oE 26 (.un .not (.E 25)), 0, 0)]) (.cond (.E 26) (.seq (.reg [oV 4 (.mv (kb false))]) .ret) .skip))) (.reg [oE 15 (.mv (.V 5)), oE 16 (.bin .add (.E 15) (ki 1)), oV 5 (.mv (.E 16))]))

def k_laws_eqNodeS_ic : IC := .seq (.reg [oV 4 (.mv (kb false))]) (.seq (.seq (.reg [oE 6 (.mv (.V 0)), oE 7 (.len (.E 6)), oE 8 (.mv (.V 1)), oE 9 (.len (.E 8)), oE 10 (.bin .neq (.E 7) (.E 9))]) (.cond (.E 10) (.seq (.reg [oV 4 (.mv (kb false))]) .ret) .skip)) (.seq (.seq (.reg [oV 5 (.mv (ki 0))]) (.block 0 (.loop k_laws_eqNodeS_b0))) (.seq (.reg [oV 4 (.mv (kb true))]) .ret)))

def k_laws_eqNodeS_rv : List RV := [.tmp [0] 4]

def k_laws_szNodeS_vars : List Nat := [0, 1, 4]

def k_laws_szNodeS_ic : IC := .seq (.reg [oV 4 (.mv (ki 0))]) (.seq (.reg [oE 5 (.mv (.V 1)), oE 6 (.mv (.V 0)), oE 7 (.len (.E 6)), oE 8 (.bin .sub (.E 5) (.E 7)), oV 1 (.mv (.E 8))]) (.seq (.seq (.reg [oE 9 (.mv (.V 1)), oE 10 (.bin .lss (.E 9) (ki 0))]) (.cond (.E 10) (.seq (.reg [oV 4 (.mv (ki (-1)))]) .ret) .skip)) (.seq (.reg [oE 11 (.mv (.V 1)), oV 4 (.mv (.E 11))]) .ret)))

def k_laws_szNodeS_rv : List RV := [.tmp [0] 4]

def k_laws_toNodeS_vars : List Nat := [0, 4, 3, 2]

def k_laws_toNodeS_b0 : IC := .seq (.seq (.reg [oE 8 (.mv (.V 4)), oE 9 (.mv (.V 0)), oE 10 (.len (.E 9)), oE 11 (.bin .lss (.E 8) (.E 10))]) (.cond (.E 11) .skip (.exit 0))) (.seq (.block 1 (.reg [oE 14 (.mv (.V 3)), oE 15 (.mv (.V 4)), oE 16 (.mv (.V 0)), oE 17 (.mv (.V 4)), oE 18 (.iaddr 5 (.E 16) (.E 17)), oE 19 (.load true 5 (.E 18)), oE 20 (.call k_laws_toNode [([0, 0, 0, 0, 0], (.E 19))]), oE 21 (.iaddr 5 (.E 14) (.E 15)), oN (.store [0, 0, 0, 0, 0] (.E 21) (.E 20))])) (.reg [oE 12 (.mv (.V 4)), oE 13 (.bin .add (.E 12) (ki 1)), oV 4 (.mv (.E 13))]))

def k_laws_toNodeS_ic : IC := .seq (.reg [oV 2 (.mv (.C .e0))]) (.seq (.reg [oE 5 (.mv (.V 0)), oE 6 (.len (.E 5)), oE 7 (.mksl 40 5 [iv 0, iv 0, iv 0, iv 0, iv 0] (.E 6) (.E 6)), oV 3 (.mv (.E 7))]) (.seq (.seq (.reg [oV 4 (.mv (ki 0))]) (.block 0 (.loop k_laws_toNodeS_b0))) (.seq (.reg [oE 22 (.mv (.V 3)), oV 2 (.mv (.E 22))]) .ret)))

def k_laws_toNodeS_rv : List RV := [.tmp [5] 2]

def k_slices_Equal___impl_Node_impl_Node__vars : List Nat := [0, 1, 13, 12, 5, 4]

def k_slices_Equal___impl_Node_impl_Node__b0 : IC := .seq (.reg [oE 14 (.bin .lss (.V 13) (.V 12))]) (.seq (.cond (.E 14) .skip (.exit 0)) (.seq (.block 1 (.seq (.reg [oE 15 (.mv (.V 13)), oV 5 (.mv (.E 15))]) (.seq (.regD [(oE 16 (.mv (.V 0)), 0, 0), (oE 17 (.mv (.V 5)), 0, 0), (oE 18 (.iaddr 5 (.E 16) (.E 17)), 0, 0), (oE 19 (.load true 5 (.E 18)), 0, 0), (oE 20 (.mv (.V 1)), 0, 0), (oE 21 (.mv (.V 5)), 0, 0), (oE 22 (.iaddr 5 (.E 20) (.E 21)), 0, 0), (oE 23 (.load true 5 (.E 22)), 0, 0), (oE 24 (.eqb true [.i .i64, .i .i64, .i .i64, .i .i64, .i .i64] (.E 19) (.E 23)), 0, 0)]) (.cond (.E 24) (.seq (.reg [oV 4 (.mv (kb false))]) .ret) .skip)))) (.reg [oE 25 (.bin .add (.V 13) (ki 1)), oV 13 (.mv (.E 25))])))

def k_slices_Equal___impl_Node_impl_Node__ic : IC := .seq (.reg [oV 4 (.mv (kb false))]) (.seq (.seq (.reg [oE 6 (.mv (.V 0)), oE 7 (.len (.E 6)), oE 8 (.mv (.V 1)), oE 9 (.len (.E 8)), oE 10 (.bin .neq (.E 7) (.E 9))]) (.cond (.E 10) (.seq (.reg [oV 4 (.mv (kb false))]) .ret) .skip)) (.seq (.seq (.reg [oE 11 (.mv (.V 0)), oV 12 (.len (.E 11)), oV 13 (.mv (ki 0))]) (.block 0 (.loop k_slices_Equal___impl_Node_impl_Node__b0))) (.seq (.reg [oV 4 (.mv (kb true))]) .ret)))

def k_slices_Equal___impl_Node_impl_Node__rv : List RV := [.tmp [0] 4]

def k_laws_eqNode_vars : List Nat := [0, 1, 2, 3, 4]

def k_laws_eqNode_ic : IC := .seq (.reg [oV 2 (.box (.V 0)), oV 3 (.box (.V 1)), oV 4 (.mv (kb false))]) (.seq (.seq (.reg [oE 5 (.faddr 0 (.V 2)), oE 6 (.load false 1 (.E 5)), oE 7 (.faddr 0 (.V 3)), oE 8 (.load false 1 (.E 7)), oE 9 (.bin .neq (.E 6) (.E 8))]) (.cond (.E 9) (.seq (.reg [oV 4 (.mv (kb false))]) .ret) .skip)) (.seq (.seq (.reg [oE 10 (.faddr 1 (.V 2)), oE 11 (.load false 1 (.E 10)), oE 12 (.faddr 1 (.V 3)), oE 13 (.load false 1 (.E 12)), oE 14 (.bin .neq (.E 11) (.E 13))]) (.cond (.E 14) (.seq (.reg [oV 4 (.mv (kb false))]) .ret) .skip)) (.seq (.seq (.reg [oE 15 (.faddr 2 (.V 2)), oE 16 (.load false 1 (.E 15)), oE 17 (.faddr 2 (.V 3)), oE 18 (.load false 1 (.E 17)), oE 19 (.bin .neq (.E 16) (.E 18))]) (.cond (.E 19) (.seq (.reg [oV 4 (.mv (kb false))]) .ret) .skip)) (.seq (.seq (.reg [oE 20 (.faddr 3 (.V 2)), oE 21 (.load false 1 (.E 20)), oE 22 (.faddr 3 (.V 3)), oE 23 (.load false 1 (.E 22)), oE 24 (.bin .neq (.E 21) (.E 23))]) (.cond (.E 24) (.seq (.reg [oV 4 (.mv (kb false))]) .ret) .skip)) (.seq (.seq (.reg [oE 25 (.faddr 4 (.V 2)), oE 26 (.load false 1 (.E 25)), oE 27 (.faddr 4 (.V 3)), oE 28 (.load false 1 (.E 27)), oE 29 (.bin .neq (.E 26) (.E 28))]) (.cond (.E 29) (.seq (.reg [oV 4 (.mv (kb false))]) .ret) .skip)) (.seq (.reg [oV 4 (.mv (kb true))]) .ret))))))

def k_laws_eqNode_rv : List RV := [.tmp [0] 4]

def k_laws_toNode_vars : List Nat := [0, 1, 3, 2]

def k_laws_toNode_ic : IC := .seq (.reg [oV 1 (.box (.V 0)), oV 2 (.alloc [iv 0, iv 0, iv 0, iv 0, iv 0])]) (.seq (.reg [oV 3 (.alloc [iv 0, iv 0, iv 0, iv 0, iv 0])]) (.seq (.reg [oE 4 (.faddr 0 (.V 1)), oE 5 (.load false 1 (.E 4)), oE 6 (.faddr 0 (.V 3)), oN (.store [0] (.E 6) (.E 5))]) (.seq (.reg [oE 7 (.faddr 1 (.V 1)), oE 8 (.load false 1 (.E 7)), oE 9 (.faddr 1 (.V 3)), oN (.store [0] (.E 9) (.E 8))]) (.seq (.reg [oE 10 (.faddr 2 (.V 1)), oE 11 (.load false 1 (.E 10)), oE 12 (.faddr 2 (.V 3)), oN (.store [0] (.E 12) (.E 11))]) (.seq (.reg [oE 13 (.faddr 3 (.V 1)), oE 14 (.load false 1 (.E 13)), oE 15 (.faddr 3 (.V 3)), oN (.store [0] (.E 15) (.E 14))]) (.seq (.reg [oE 16 (.faddr 4 (.V 1)), oE 17 (.load false 1 (.E 16)), oE 18 (.faddr 4 (.V 3)), oN (.store [0] (.E 18) (.E 17))]) (.seq (.reg [oE 19 (.load true 5 (.V 3)), oN (.store [0, 0, 0, 0, 0] (.V 2) (.E 19))]) .ret)))))))

def k_laws_toNode_rv : List RV := [.cell [0, 0, 0, 0, 0] 2 true]

def tbl : List (Nat × Fun) := [
  (k_laws_FnExactSameTree, fnOf k_laws_FnExactSameTree_ic k_laws_FnExactSameTree_rv []),
  (k_laws_eqTree, fnOf k_laws_eqTree_ic k_laws_eqTree_rv []),
  (k_laws_szTree, fnOf k_laws_szTree_ic k_laws_szTree_rv []),
  (k_spec_SameTree, fnOf k_spec_SameTree_ic k_spec_SameTree_rv []),
  (k_laws_toTree, fnOf k_laws_toTree_ic k_laws_toTree_rv []),
  (k_impl_SameTree, fnOf k_impl_SameTree_ic k_impl_SameTree_rv []),
  (k_laws_eqNodeS, fnOf k_laws_eqNodeS_ic k_laws_eqNodeS_rv []),
  (k_laws_szNodeS, fnOf k_laws_szNodeS_ic k_laws_szNodeS_rv []),
  (k_laws_toNodeS, fnOf k_laws_toNodeS_ic k_laws_toNodeS_rv []),
  (k_slices_Equal___impl_Node_impl_Node_, fnOf k_slices_Equal___impl_Node_impl_Node__ic k_slices_Equal___impl_Node_impl_Node__rv []),
  (k_laws_eqNode, fnOf k_laws_eqNode_ic k_laws_eqNode_rv []),
  (k_laws_toNode, fnOf k_laws_toNode_ic k_laws_toNode_rv [])]

def T : Table := fun f => (tbl.find? fun q => q.1 == f).map fun q => q.2

theorem T_laws_FnExactSameTree : T k_laws_FnExactSameTree = some (fnOf k_laws_FnExactSameTree_ic k_laws_FnExactSameTree_rv []) := rfl

@[simp] theorem M_laws_FnExactSameTree : modesOf T k_laws_FnExactSameTree = [] := modesOf_code T_laws_FnExactSameTree

theorem T_laws_eqTree : T k_laws_eqTree = some (fnOf k_laws_eqTree_ic k_laws_eqTree_rv []) := rfl

@[simp] theorem M_laws_eqTree : modesOf T k_laws_eqTree = [] := modesOf_code T_laws_eqTree

theorem T_laws_szTree : T k_laws_szTree = some (fnOf k_laws_szTree_ic k_laws_szTree_rv []) := rfl

@[simp] theorem M_laws_szTree : modesOf T k_laws_szTree = [] := modesOf_code T_laws_szTree

theorem T_spec_SameTree : T k_spec_SameTree = some (fnOf k_spec_SameTree_ic k_spec_SameTree_rv []) := rfl

@[simp] theorem M_spec_SameTree : modesOf T k_spec_SameTree = [] := modesOf_code T_spec_SameTree

theorem T_laws_toTree : T k_laws_toTree = some (fnOf k_laws_toTree_ic k_laws_toTree_rv []) := rfl

@[simp] theorem M_laws_toTree : modesOf T k_laws_toTree = [] := modesOf_code T_laws_toTree

theorem T_impl_SameTree : T k_impl_SameTree = some (fnOf k_impl_SameTree_ic k_impl_SameTree_rv []) := rfl

@[simp] theorem M_impl_SameTree : modesOf T k_impl_SameTree = [] := modesOf_code T_impl_SameTree

theorem T_laws_eqNodeS : T k_laws_eqNodeS = some (fnOf k_laws_eqNodeS_ic k_laws_eqNodeS_rv []) := rfl

@[simp] theorem M_laws_eqNodeS : modesOf T k_laws_eqNodeS = [] := modesOf_code T_laws_eqNodeS

theorem T_laws_szNodeS : T k_laws_szNodeS = some (fnOf k_laws_szNodeS_ic k_laws_szNodeS_rv []) := rfl

@[simp] theorem M_laws_szNodeS : modesOf T k_laws_szNodeS = [] := modesOf_code T_laws_szNodeS

theorem T_laws_toNodeS : T k_laws_toNodeS = some (fnOf k_laws_toNodeS_ic k_laws_toNodeS_rv []) := rfl

@[simp] theorem M_laws_toNodeS : modesOf T k_laws_toNodeS = [] := modesOf_code T_laws_toNodeS

theorem T_slices_Equal___impl_Node_impl_Node_ : T k_slices_Equal___impl_Node_impl_Node_ = some (fnOf k_slices_Equal___impl_Node_impl_Node__ic k_slices_Equal___impl_Node_impl_Node__rv []) := rfl

@[simp] theorem M_slices_Equal___impl_Node_impl_Node_ : modesOf T k_slices_Equal___impl_Node_impl_Node_ = [] := modesOf_code T_slices_Equal___impl_Node_impl_Node_

theorem T_laws_eqNode : T k_laws_eqNode = some (fnOf k_laws_eqNode_ic k_laws_eqNode_rv []) := rfl

@[simp] theorem M_laws_eqNode : modesOf T k_laws_eqNode = [] := modesOf_code T_laws_eqNode

theorem T_laws_toNode : T k_laws_toNode = some (fnOf k_laws_toNode_ic k_laws_toNode_rv []) := rfl

@[simp] theorem M_laws_toNode : modesOf T k_laws_toNode = [] := modesOf_code T_laws_toNode

end Go.Pe
