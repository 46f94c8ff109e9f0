/- The compact texts of the functions that the law reaches; no condition. -/
import Derived.Test.YtnioodedhoccaaaEvA0
set_option linter.all false
namespace Go.Pe
open Go
def k_laws_FnExactBoxOf : Nat := 9

def k_laws_szTree : Nat := 15

def k_spec_LevelOf : Nat := 16

def k_laws_toTree : Nat := 17

def k_laws_eqTree : Nat := 19

def k_spec_BoxOf : Nat := 38

def k_impl_BoxOf : Nat := 39

def k_spec_WayTo : Nat := 40

def k_laws_szNodeS : Nat := 59

def k_spec_l1In : Nat := 60

def k_spec_l17Up : Nat := 61

def k_laws_toNodeS : Nat := 62

def k_impl_wayTo : Nat := 63

def k_laws_eqNodeS : Nat := 64

def k_spec_l17Inner : Nat := 65

def k_impl_isLeaf : Nat := 66

def k_spec_l1Max : Nat := 75

def k_spec_l1Min : Nat := 78

def k_impl_within : Nat := 89

def k_laws_toNode : Nat := 100

def k_impl_parent : Nat := 101

def k_slices_Reverse___int_int_ : Nat := 102

def k_laws_eqNode : Nat := 103

def k_slices_IndexFunc___impl_Node_impl_Node_ : Nat := 115

def k_impl_parent_1 : Nat := 116

def k_laws_FnExactBoxOf_vars : List Nat := [0, 1, 2, 3, 7, 10, 11, 8, 12, 9, 6]

def k_laws_FnExactBoxOf_ic : IC :=
 .seq (.reg [⟨(some (.V 3)), .box (.V 0), none⟩,
   ⟨(some (.V 6)), .mv (kb false), none⟩])
 (.seq (.reg [⟨(some (.V 7)), .mv (ki 1048576), none⟩])
 (.seq (.reg [⟨(some (.E 13)), .load true 1 (.V 3), none⟩,
   ⟨(some (.E 14)), .mv (.V 7), none⟩,
   ⟨(some (.E 15)), .call k_laws_szTree [([5], (.E 13)), ([0], (.E 14))], none⟩,
   ⟨(some (.V 7)), .mv (.E 15), none⟩])
 (.seq (.seq (.reg [⟨(some (.E 16)), .mv (.V 7), none⟩,
   ⟨(some (.E 17)), .bin .lss (.E 16) (ki 0), none⟩])
 (.cond (.E 17)
  (.seq (.reg [⟨(some (.V 6)), .mv (kb true), none⟩])
  (.ret))
  (.skip)))
 (.seq (.reg [⟨(some (.E 19)), .load true 1 (.V 3), none⟩,
   ⟨(some (.E 20)), .call k_laws_toTree [([5], (.E 19))], none⟩,
   ⟨(some (.E 21)), .mv (.V 1), none⟩,
   ⟨(some (.E 22)), .mv (.V 2), none⟩,
   ⟨(some (.E 23)), .call k_spec_BoxOf [([5], (.E 20)), ([0], (.E 21)), ([0], (.E 22))], none⟩,
   ⟨(some (.E 18)), .mv (.E 23), none⟩,
   ⟨(some (.E 24)), .ext 0 (.E 18), none⟩,
   ⟨(some (.E 25)), .ext 1 (.E 18), none⟩,
   ⟨(some (.V 8)), .mv (.E 24), none⟩,
   ⟨(some (.V 9)), .mv (.E 25), none⟩])
 (.seq (.reg [⟨(some (.E 26)), .load true 1 (.V 3), none⟩,
   ⟨(some (.E 27)), .call k_laws_toTree [([5], (.E 26))], none⟩,
   ⟨(some (.V 10)), .alloc [.e0], none⟩,
   ⟨none, .store [5] (.V 10) (.E 27), none⟩])
 (.seq (.reg [⟨(some (.E 29)), .load true 1 (.V 10), none⟩,
   ⟨(some (.E 30)), .mv (.V 1), none⟩,
   ⟨(some (.E 31)), .mv (.V 2), none⟩,
   ⟨(some (.E 32)), .call k_impl_BoxOf [([5], (.E 29)), ([0], (.E 30)), ([0], (.E 31))], none⟩,
   ⟨(some (.E 28)), .mv (.E 32), none⟩,
   ⟨(some (.E 33)), .ext 0 (.E 28), none⟩,
   ⟨(some (.E 34)), .ext 1 (.E 28), none⟩,
   ⟨(some (.V 11)), .mv (.E 33), none⟩,
   ⟨(some (.V 12)), .mv (.E 34), none⟩])
 (.seq (.seq (.reg [⟨(some (.E 35)), .mv (.V 11), none⟩,
   ⟨(some (.E 36)), .mv (.V 8), none⟩,
   ⟨(some (.E 37)), .bin .neq (.E 35) (.E 36), none⟩,
   ⟨(some (.E 38)), .mv (.E 37), none⟩,
   ⟨(some (.E 39)), .mv (.V 12), some ((.E 38), false)⟩,
   ⟨(some (.E 40)), .mv (.V 9), some ((.E 38), false)⟩,
   ⟨(some (.E 41)), .bin .neq (.E 39) (.E 40), some ((.E 38), false)⟩,
   ⟨(some (.E 42)), .pick (.E 38) (kb true) (.E 41), none⟩])
 (.cond (.E 42)
  (.seq (.reg [⟨(some (.V 6)), .mv (kb false), none⟩])
  (.ret))
  (.skip)))
 (.seq (.seq (.regD [(⟨(some (.E 43)), .load true 1 (.V 10), none⟩, 0, 1),
   (⟨(some (.E 44)), .load true 1 (.V 3), none⟩, 0, 0),
   (⟨(some (.E 45)), .call k_laws_toTree [([5], (.E 44))], none⟩, 0, 0),
   (⟨(some (.E 46)), .call k_laws_eqTree [([5], (.E 43)), ([5], (.E 45))], none⟩, 0, 0),
   (⟨(some (.E 47)), .un .not (.E 46), none⟩, 0, 0)])
 (.cond (.E 47)
  (.seq (.reg [⟨(some (.V 6)), .mv (kb false), none⟩])
  (.ret))
  (.skip)))
 (.seq (.reg [⟨(some (.V 6)), .mv (kb true), none⟩])
 (.ret))))))))))

def k_laws_FnExactBoxOf_rv : List RV := [.tmp [0] 6]

def k_laws_szTree_vars : List Nat := [0, 1, 2, 4]

def k_laws_szTree_ic : IC :=
 .seq (.reg [⟨(some (.V 2)), .box (.V 0), none⟩,
   ⟨(some (.V 4)), .mv (ki 0), none⟩])
 (.seq (.reg [⟨(some (.E 5)), .faddr 0 (.V 2), none⟩,
   ⟨(some (.E 6)), .load false 1 (.E 5), none⟩,
   ⟨(some (.E 7)), .mv (.V 1), none⟩,
   ⟨(some (.E 8)), .call k_laws_szNodeS [([5], (.E 6)), ([0], (.E 7))], none⟩,
   ⟨(some (.V 1)), .mv (.E 8), none⟩])
 (.seq (.seq (.reg [⟨(some (.E 9)), .mv (.V 1), none⟩,
   ⟨(some (.E 10)), .bin .lss (.E 9) (ki 0), none⟩])
 (.cond (.E 10)
  (.seq (.reg [⟨(some (.V 4)), .mv (ki (-1)), none⟩])
  (.ret))
  (.skip)))
 (.seq (.reg [⟨(some (.E 11)), .mv (.V 1), none⟩,
   ⟨(some (.V 4)), .mv (.E 11), none⟩])
 (.ret))))

def k_laws_szTree_rv : List RV := [.tmp [0] 4]

def k_spec_LevelOf_vars : List Nat := [0, 1, 2, 5, 4]

def k_spec_LevelOf_b0 : IC :=
 .seq (.seq (.reg [⟨(some (.E 13)), .mv (.V 5), none⟩,
   ⟨(some (.E 14)), .bin .leq (.E 13) (ki 31), none⟩])
 (.cond (.E 14)
  (.skip)
  (.exit 0)))
 (.block 1 (.seq (.reg [⟨(some (.E 15)), .load true 1 (.V 2), none⟩,
    ⟨(some (.E 16)), .mv (.V 1), none⟩,
    ⟨(some (.E 17)), .call k_spec_l17Up [([5], (.E 15)), ([0], (.E 16))], none⟩,
    ⟨(some (.V 1)), .mv (.E 17), none⟩])
  (.seq (.seq (.reg [⟨(some (.E 18)), .mv (.V 1), none⟩,
    ⟨(some (.E 19)), .bin .lss (.E 18) (ki 0), none⟩])
  (.cond (.E 19)
   (.seq (.reg [⟨(some (.E 20)), .mv (.V 5), none⟩,
     ⟨(some (.V 4)), .mv (.E 20), none⟩])
   (.ret))
   (.skip)))
  (.reg [⟨(some (.E 21)), .mv (.V 5), none⟩,
    ⟨(some (.E 22)), .bin .add (.E 21) (ki 1), none⟩,
    ⟨(some (.V 5)), .mv (.E 22), none⟩]))))

def k_spec_LevelOf_ic : IC :=
 .seq (.reg [⟨(some (.V 2)), .box (.V 0), none⟩,
   ⟨(some (.V 4)), .mv (ki 0), none⟩])
 (.seq (.seq (.reg [⟨(some (.E 6)), .mv (.V 1), none⟩,
   ⟨(some (.E 7)), .faddr 0 (.V 2), none⟩,
   ⟨(some (.E 8)), .load false 1 (.E 7), none⟩,
   ⟨(some (.E 9)), .len (.E 8), none⟩,
   ⟨(some (.E 10)), .bin .sub (.E 9) (ki 1), none⟩,
   ⟨(some (.E 11)), .call k_spec_l1In [([0], (.E 6)), ([0], (ki 0)), ([0], (.E 10))], none⟩,
   ⟨(some (.E 12)), .un .not (.E 11), none⟩])
 (.cond (.E 12)
  (.seq (.reg [⟨(some (.V 4)), .mv (ki (-1)), none⟩])
  (.ret))
  (.skip)))
 (.seq (.reg [⟨(some (.V 5)), .mv (ki 0), none⟩])
 (.seq (.block 0 (.loop k_spec_LevelOf_b0))
 (.seq (.reg [⟨(some (.V 4)), .mv (ki (-1)), none⟩])
 (.ret)))))

def k_spec_LevelOf_rv : List RV := [.tmp [0] 4]

def k_laws_toTree_vars : List Nat := [0, 1, 3, 2]

def k_laws_toTree_ic : IC :=
 .seq (.reg [⟨(some (.V 1)), .box (.V 0), none⟩,
   ⟨(some (.V 2)), .alloc [.e0], none⟩])
 (.seq (.reg [⟨(some (.V 3)), .alloc [.e0], none⟩])
 (.seq (.reg [⟨(some (.E 4)), .faddr 0 (.V 1), none⟩,
   ⟨(some (.E 5)), .load false 1 (.E 4), none⟩,
   ⟨(some (.E 6)), .call k_laws_toNodeS [([5], (.E 5))], none⟩,
   ⟨(some (.E 7)), .faddr 0 (.V 3), none⟩,
   ⟨none, .store [5] (.E 7) (.E 6), none⟩])
 (.seq (.reg [⟨(some (.E 8)), .load true 1 (.V 3), none⟩,
   ⟨none, .store [5] (.V 2) (.E 8), none⟩])
 (.ret))))

def k_laws_toTree_rv : List RV := [.cell [5] 2 true]

def k_laws_eqTree_vars : List Nat := [0, 1, 2, 3, 4]

def k_laws_eqTree_ic : IC :=
 .seq (.reg [⟨(some (.V 2)), .box (.V 0), none⟩,
   ⟨(some (.V 3)), .box (.V 1), none⟩,
   ⟨(some (.V 4)), .mv (kb false), none⟩])
 (.seq (.seq (.reg [⟨(some (.E 5)), .faddr 0 (.V 2), none⟩,
   ⟨(some (.E 6)), .load false 1 (.E 5), none⟩,
   ⟨(some (.E 7)), .faddr 0 (.V 3), none⟩,
   ⟨(some (.E 8)), .load false 1 (.E 7), none⟩,
   ⟨(some (.E 9)), .call k_laws_eqNodeS [([5], (.E 6)), ([5], (.E 8))], none⟩,
   ⟨(some (.E 10)), .un .not (.E 9), none⟩])
 (.cond (.E 10)
  (.seq (.reg [⟨(some (.V 4)), .mv (kb false), none⟩])
  (.ret))
  (.skip)))
 (.seq (.reg [⟨(some (.V 4)), .mv (kb true), none⟩])
 (.ret)))

def k_laws_eqTree_rv : List RV := [.tmp [0] 4]

def k_spec_BoxOf_vars : List Nat := [0, 1, 2, 3, 11, 10, 12, 9, 8, 6, 7]

def k_spec_BoxOf_b0 : IC :=
 .seq (.seq (.reg [⟨(some (.E 16)), .mv (.V 11), none⟩,
   ⟨(some (.E 17)), .bin .add (.E 16) (ki 1), none⟩,
   ⟨(some (.E 18)), .mv (.V 10), none⟩,
   ⟨(some (.E 19)), .len (.E 18), none⟩,
   ⟨(some (.E 20)), .bin .lss (.E 17) (.E 19), none⟩])
 (.cond (.E 20)
  (.skip)
  (.exit 0)))
 (.seq (.block 1 (.seq (.regD [(⟨(some (.E 23)), .faddr 0 (.V 3), none⟩, 0, 1),
    (⟨(some (.E 24)), .load false 1 (.E 23), none⟩, 0, 1),
    (⟨(some (.E 25)), .mv (.V 10), none⟩, 0, 0),
    (⟨(some (.E 26)), .mv (.V 11), none⟩, 0, 0),
    (⟨(some (.E 27)), .iaddr 1 (.E 25) (.E 26), none⟩, 0, 1),
    (⟨(some (.E 28)), .load false 1 (.E 27), none⟩, 0, 1),
    (⟨(some (.E 29)), .iaddr 5 (.E 24) (.E 28), none⟩, 0, 1),
    (⟨(some (.E 30)), .load true 5 (.E 29), none⟩, 0, 1),
    (⟨(some (.V 12)), .alloc [(.v (.int .i64 0)), (.v (.int .i64 0)), (.v (.int .i64 0)), (.v (.int .i64 0)), (.v (.int .i64 0))], none⟩, 0, 0),
    (⟨none, .store [0, 0, 0, 0, 0] (.V 12) (.E 30), none⟩, 0, 0)])
  (.seq (.seq (.reg [⟨(some (.E 31)), .faddr 0 (.V 12), none⟩,
    ⟨(some (.E 32)), .load false 1 (.E 31), none⟩,
    ⟨(some (.E 33)), .mv (.V 2), none⟩,
    ⟨(some (.E 34)), .bin .neq (.E 32) (.E 33), none⟩])
  (.cond (.E 34)
   (.exit 1)
   (.skip)))
  (.seq (.regD [(⟨(some (.E 35)), .faddr 2 (.V 12), none⟩, 0, 0),
    (⟨(some (.E 36)), .load false 1 (.E 35), none⟩, 0, 0),
    (⟨(some (.E 37)), .mv (.V 10), none⟩, 0, 0),
    (⟨(some (.E 38)), .mv (.V 11), none⟩, 0, 0),
    (⟨(some (.E 39)), .bin .add (.E 38) (ki 1), none⟩, 0, 0),
    (⟨(some (.E 40)), .iaddr 1 (.E 37) (.E 39), none⟩, 0, 0),
    (⟨(some (.E 41)), .load false 1 (.E 40), none⟩, 0, 0),
    (⟨(some (.E 42)), .bin .eql (.E 36) (.E 41), none⟩, 0, 0)])
  (.cond (.E 42)
   (.reg [⟨(some (.E 43)), .mv (.V 9), none⟩,
     ⟨(some (.E 44)), .faddr 1 (.V 12), none⟩,
     ⟨(some (.E 45)), .load false 1 (.E 44), none⟩,
     ⟨(some (.E 46)), .call k_spec_l1Min [([0], (.E 43)), ([0], (.E 45))], none⟩,
     ⟨(some (.V 9)), .mv (.E 46), none⟩])
   (.seq (.reg [⟨(some (.E 47)), .faddr 1 (.V 12), none⟩,
     ⟨(some (.E 48)), .load false 1 (.E 47), none⟩,
     ⟨(some (.E 49)), .bin .lss (.E 48) (ki 9223372036854775807), none⟩])
   (.cond (.E 49)
    (.reg [⟨(some (.E 50)), .mv (.V 8), none⟩,
      ⟨(some (.E 51)), .faddr 1 (.V 12), none⟩,
      ⟨(some (.E 52)), .load false 1 (.E 51), none⟩,
      ⟨(some (.E 53)), .bin .add (.E 52) (ki 1), none⟩,
      ⟨(some (.E 54)), .call k_spec_l1Max [([0], (.E 50)), ([0], (.E 53))], none⟩,
      ⟨(some (.V 8)), .mv (.E 54), none⟩])
    (.skip))))))))
 (.reg [⟨(some (.E 21)), .mv (.V 11), none⟩,
   ⟨(some (.E 22)), .bin .add (.E 21) (ki 1), none⟩,
   ⟨(some (.V 11)), .mv (.E 22), none⟩]))

def k_spec_BoxOf_ic : IC :=
 .seq (.reg [⟨(some (.V 3)), .box (.V 0), none⟩,
   ⟨(some (.V 6)), .mv (ki 0), none⟩,
   ⟨(some (.V 7)), .mv (ki 0), none⟩])
 (.seq (.reg [⟨(some (.V 8)), .mv (ki (-9223372036854775808)), none⟩])
 (.seq (.reg [⟨(some (.V 9)), .mv (ki 9223372036854775807), none⟩])
 (.seq (.reg [⟨(some (.E 13)), .load true 1 (.V 3), none⟩,
   ⟨(some (.E 14)), .mv (.V 1), none⟩,
   ⟨(some (.E 15)), .call k_spec_WayTo [([5], (.E 13)), ([0], (.E 14))], none⟩,
   ⟨(some (.V 10)), .mv (.E 15), none⟩])
 (.seq (.seq (.reg [⟨(some (.V 11)), .mv (ki 0), none⟩])
 (.block 0 (.loop k_spec_BoxOf_b0)))
 (.seq (.reg [⟨(some (.E 55)), .mv (.V 8), none⟩,
   ⟨(some (.E 56)), .mv (.V 9), none⟩,
   ⟨(some (.V 6)), .mv (.E 55), none⟩,
   ⟨(some (.V 7)), .mv (.E 56), none⟩])
 (.ret))))))

def k_spec_BoxOf_rv : List RV := [.tmp [0] 6, .tmp [0] 7]

def k_impl_BoxOf_vars : List Nat := [0, 1, 2, 3, 11, 10, 12, 9, 8, 6, 7]

def k_impl_BoxOf_b0 : IC :=
 .seq (.seq (.reg [⟨(some (.E 16)), .mv (.V 11), none⟩,
   ⟨(some (.E 17)), .bin .add (.E 16) (ki 1), none⟩,
   ⟨(some (.E 18)), .mv (.V 10), none⟩,
   ⟨(some (.E 19)), .len (.E 18), none⟩,
   ⟨(some (.E 20)), .bin .lss (.E 17) (.E 19), none⟩])
 (.cond (.E 20)
  (.skip)
  (.exit 0)))
 (.seq (.block 1 (.seq (.regD [(⟨(some (.E 23)), .faddr 0 (.V 3), none⟩, 0, 1),
    (⟨(some (.E 24)), .load false 1 (.E 23), none⟩, 0, 1),
    (⟨(some (.E 25)), .mv (.V 10), none⟩, 0, 0),
    (⟨(some (.E 26)), .mv (.V 11), none⟩, 0, 0),
    (⟨(some (.E 27)), .iaddr 1 (.E 25) (.E 26), none⟩, 0, 1),
    (⟨(some (.E 28)), .load false 1 (.E 27), none⟩, 0, 1),
    (⟨(some (.E 29)), .iaddr 5 (.E 24) (.E 28), none⟩, 0, 1),
    (⟨(some (.E 30)), .load true 5 (.E 29), none⟩, 0, 1),
    (⟨(some (.V 12)), .alloc [(.v (.int .i64 0)), (.v (.int .i64 0)), (.v (.int .i64 0)), (.v (.int .i64 0)), (.v (.int .i64 0))], none⟩, 0, 0),
    (⟨none, .store [0, 0, 0, 0, 0] (.V 12) (.E 30), none⟩, 0, 0)])
  (.block 2 (.seq (.reg [⟨(some (.E 32)), .faddr 0 (.V 12), none⟩,
     ⟨(some (.E 33)), .load false 1 (.E 32), none⟩,
     ⟨(some (.E 34)), .mv (.V 2), none⟩,
     ⟨(some (.E 35)), .bin .neq (.E 33) (.E 34), none⟩,
     ⟨(some (.E 31)), .mv (.E 35), none⟩])
   (.cond (.E 31)
    (.skip)
    (.seq (.regD [(⟨(some (.E 37)), .faddr 2 (.V 12), none⟩, 0, 0),
      (⟨(some (.E 38)), .load false 1 (.E 37), none⟩, 0, 0),
      (⟨(some (.E 39)), .mv (.V 10), none⟩, 0, 0),
      (⟨(some (.E 40)), .mv (.V 11), none⟩, 0, 0),
      (⟨(some (.E 41)), .bin .add (.E 40) (ki 1), none⟩, 0, 0),
      (⟨(some (.E 42)), .iaddr 1 (.E 39) (.E 41), none⟩, 0, 0),
      (⟨(some (.E 43)), .load false 1 (.E 42), none⟩, 0, 0),
      (⟨(some (.E 44)), .bin .eql (.E 38) (.E 43), none⟩, 0, 0),
      (⟨(some (.E 36)), .mv (.E 44), none⟩, 0, 0)])
    (.cond (.E 36)
     (.reg [⟨(some (.E 45)), .mv (.V 9), none⟩,
       ⟨(some (.E 46)), .faddr 1 (.V 12), none⟩,
       ⟨(some (.E 47)), .load false 1 (.E 46), none⟩,
       ⟨(some (.E 48)), .mx false (.E 45) (.E 47), none⟩,
       ⟨(some (.V 9)), .mv (.E 48), none⟩])
     (.seq (.reg [⟨(some (.E 50)), .faddr 1 (.V 12), none⟩,
       ⟨(some (.E 51)), .load false 1 (.E 50), none⟩,
       ⟨(some (.E 52)), .bin .neq (.E 51) (ki 9223372036854775807), none⟩,
       ⟨(some (.E 49)), .mv (.E 52), none⟩])
     (.cond (.E 49)
      (.reg [⟨(some (.E 53)), .mv (.V 8), none⟩,
        ⟨(some (.E 54)), .faddr 1 (.V 12), none⟩,
        ⟨(some (.E 55)), .load false 1 (.E 54), none⟩,
        ⟨(some (.E 56)), .bin .add (.E 55) (ki 1), none⟩,
        ⟨(some (.E 57)), .mx true (.E 53) (.E 56), none⟩,
        ⟨(some (.V 8)), .mv (.E 57), none⟩])
      (.skip))))))))))
 (.reg [⟨(some (.E 21)), .mv (.V 11), none⟩,
   ⟨(some (.E 22)), .bin .add (.E 21) (ki 1), none⟩,
   ⟨(some (.V 11)), .mv (.E 22), none⟩]))

def k_impl_BoxOf_ic : IC :=
 .seq (.reg [⟨(some (.V 3)), .box (.V 0), none⟩,
   ⟨(some (.V 6)), .mv (ki 0), none⟩,
   ⟨(some (.V 7)), .mv (ki 0), none⟩])
 (.seq (.reg [⟨(some (.V 8)), .mv (ki (-9223372036854775808)), none⟩,
   ⟨(some (.V 9)), .mv (ki 9223372036854775807), none⟩])
 (.seq (.reg [⟨(some (.E 13)), .load true 1 (.V 3), none⟩,
   ⟨(some (.E 14)), .mv (.V 1), none⟩,
   ⟨(some (.E 15)), .call k_impl_wayTo [([5], (.E 13)), ([0], (.E 14))], none⟩,
   ⟨(some (.V 10)), .mv (.E 15), none⟩])
 (.seq (.seq (.reg [⟨(some (.V 11)), .mv (ki 0), none⟩])
 (.block 0 (.loop k_impl_BoxOf_b0)))
 (.seq (.reg [⟨(some (.E 58)), .mv (.V 8), none⟩,
   ⟨(some (.E 59)), .mv (.V 9), none⟩,
   ⟨(some (.V 6)), .mv (.E 58), none⟩,
   ⟨(some (.V 7)), .mv (.E 59), none⟩])
 (.ret)))))

def k_impl_BoxOf_rv : List RV := [.tmp [0] 6, .tmp [0] 7]

def k_spec_WayTo_vars : List Nat := [0, 1, 2, 5, 4]

def k_spec_WayTo_b0 : IC :=
 .seq (.seq (.reg [⟨(some (.E 12)), .mv (.V 1), none⟩,
   ⟨(some (.E 13)), .bin .geq (.E 12) (ki 0), none⟩])
 (.cond (.E 13)
  (.skip)
  (.exit 0)))
 (.block 1 (.seq (.reg [⟨(some (.E 14)), .mv (.V 1), none⟩,
    ⟨(some (.E 15)), .bslice 1 1 [(.v (.int .i64 0))] [(0, (.E 14))], none⟩,
    ⟨(some (.E 16)), .mv (.V 5), none⟩,
    ⟨(some (.E 17)), .app 8 1 (.E 15) (.E 16), none⟩,
    ⟨(some (.V 5)), .mv (.E 17), none⟩])
  (.reg [⟨(some (.E 18)), .load true 1 (.V 2), none⟩,
    ⟨(some (.E 19)), .mv (.V 1), none⟩,
    ⟨(some (.E 20)), .call k_spec_l17Up [([5], (.E 18)), ([0], (.E 19))], none⟩,
    ⟨(some (.V 1)), .mv (.E 20), none⟩])))

def k_spec_WayTo_ic : IC :=
 .seq (.reg [⟨(some (.V 2)), .box (.V 0), none⟩,
   ⟨(some (.V 4)), .mv (.C .e0), none⟩])
 (.seq (.reg [⟨(some (.E 6)), .bslice 0 1 [(.v (.int .i64 0))] [], none⟩,
   ⟨(some (.V 5)), .mv (.E 6), none⟩])
 (.seq (.seq (.reg [⟨(some (.E 7)), .load true 1 (.V 2), none⟩,
   ⟨(some (.E 8)), .mv (.V 1), none⟩,
   ⟨(some (.E 9)), .call k_spec_LevelOf [([5], (.E 7)), ([0], (.E 8))], none⟩,
   ⟨(some (.E 10)), .bin .lss (.E 9) (ki 0), none⟩])
 (.cond (.E 10)
  (.seq (.reg [⟨(some (.E 11)), .mv (.V 5), none⟩,
    ⟨(some (.V 4)), .mv (.E 11), none⟩])
  (.ret))
  (.skip)))
 (.seq (.block 0 (.loop k_spec_WayTo_b0))
 (.seq (.reg [⟨(some (.E 21)), .mv (.V 5), none⟩,
   ⟨(some (.V 4)), .mv (.E 21), none⟩])
 (.ret)))))

def k_spec_WayTo_rv : List RV := [.tmp [1] 4]

def k_laws_szNodeS_vars : List Nat := [0, 1, 4]

def k_laws_szNodeS_ic : IC :=
 .seq (.reg [⟨(some (.V 4)), .mv (ki 0), none⟩])
 (.seq (.reg [⟨(some (.E 5)), .mv (.V 1), none⟩,
   ⟨(some (.E 6)), .mv (.V 0), none⟩,
   ⟨(some (.E 7)), .len (.E 6), none⟩,
   ⟨(some (.E 8)), .bin .sub (.E 5) (.E 7), none⟩,
   ⟨(some (.V 1)), .mv (.E 8), none⟩])
 (.seq (.seq (.reg [⟨(some (.E 9)), .mv (.V 1), none⟩,
   ⟨(some (.E 10)), .bin .lss (.E 9) (ki 0), none⟩])
 (.cond (.E 10)
  (.seq (.reg [⟨(some (.V 4)), .mv (ki (-1)), none⟩])
  (.ret))
  (.skip)))
 (.seq (.reg [⟨(some (.E 11)), .mv (.V 1), none⟩,
   ⟨(some (.V 4)), .mv (.E 11), none⟩])
 (.ret))))

def k_laws_szNodeS_rv : List RV := [.tmp [0] 4]

def k_spec_l1In_vars : List Nat := [0, 1, 2, 6]

def k_spec_l1In_ic : IC :=
 .seq (.reg [⟨(some (.V 6)), .mv (kb false), none⟩])
 (.seq (.reg [⟨(some (.E 7)), .mv (.V 0), none⟩,
   ⟨(some (.E 8)), .mv (.V 1), none⟩,
   ⟨(some (.E 9)), .bin .geq (.E 7) (.E 8), none⟩,
   ⟨(some (.E 10)), .mv (.E 9), none⟩,
   ⟨(some (.E 11)), .mv (.V 0), some ((.E 10), true)⟩,
   ⟨(some (.E 12)), .mv (.V 2), some ((.E 10), true)⟩,
   ⟨(some (.E 13)), .bin .leq (.E 11) (.E 12), some ((.E 10), true)⟩,
   ⟨(some (.E 14)), .pick (.E 10) (.E 13) (kb false), none⟩,
   ⟨(some (.V 6)), .mv (.E 14), none⟩])
 (.ret))

def k_spec_l1In_rv : List RV := [.tmp [0] 6]

def k_spec_l17Up_vars : List Nat := [0, 1, 5, 2, 4]

def k_spec_l17Up_b0 : IC :=
 .seq (.seq (.reg [⟨(some (.E 6)), .mv (.V 5), none⟩,
   ⟨(some (.E 7)), .faddr 0 (.V 2), none⟩,
   ⟨(some (.E 8)), .load false 1 (.E 7), none⟩,
   ⟨(some (.E 9)), .len (.E 8), none⟩,
   ⟨(some (.E 10)), .bin .lss (.E 6) (.E 9), none⟩])
 (.cond (.E 10)
  (.skip)
  (.exit 0)))
 (.seq (.block 1 (.seq (.reg [⟨(some (.E 13)), .faddr 0 (.V 2), none⟩,
    ⟨(some (.E 14)), .load false 1 (.E 13), none⟩,
    ⟨(some (.E 15)), .mv (.V 5), none⟩,
    ⟨(some (.E 16)), .iaddr 5 (.E 14) (.E 15), none⟩,
    ⟨(some (.E 17)), .load true 5 (.E 16), none⟩,
    ⟨(some (.E 18)), .call k_spec_l17Inner [([0, 0, 0, 0, 0], (.E 17))], none⟩,
    ⟨(some (.E 19)), .mv (.E 18), none⟩,
    ⟨(some (.E 20)), .faddr 0 (.V 2), some ((.E 19), true)⟩,
    ⟨(some (.E 21)), .load false 1 (.E 20), some ((.E 19), true)⟩,
    ⟨(some (.E 22)), .mv (.V 5), some ((.E 19), true)⟩,
    ⟨(some (.E 23)), .iaddr 5 (.E 21) (.E 22), some ((.E 19), true)⟩,
    ⟨(some (.E 24)), .faddr 2 (.E 23), some ((.E 19), true)⟩,
    ⟨(some (.E 25)), .load false 1 (.E 24), some ((.E 19), true)⟩,
    ⟨(some (.E 26)), .mv (.V 1), some ((.E 19), true)⟩,
    ⟨(some (.E 27)), .bin .eql (.E 25) (.E 26), some ((.E 19), true)⟩,
    ⟨(some (.E 28)), .mv (.E 27), some ((.E 19), true)⟩,
    ⟨(some (.E 29)), .faddr 0 (.V 2), some ((.E 28), false)⟩,
    ⟨(some (.E 30)), .load false 1 (.E 29), some ((.E 28), false)⟩,
    ⟨(some (.E 31)), .mv (.V 5), some ((.E 28), false)⟩,
    ⟨(some (.E 32)), .iaddr 5 (.E 30) (.E 31), some ((.E 28), false)⟩,
    ⟨(some (.E 33)), .faddr 3 (.E 32), some ((.E 28), false)⟩,
    ⟨(some (.E 34)), .load false 1 (.E 33), some ((.E 28), false)⟩,
    ⟨(some (.E 35)), .mv (.V 1), some ((.E 28), false)⟩,
    ⟨(some (.E 36)), .bin .eql (.E 34) (.E 35), some ((.E 28), false)⟩,
    ⟨(some (.E 37)), .pick (.E 28) (kb true) (.E 36), some ((.E 19), true)⟩,
    ⟨(some (.E 38)), .pick (.E 19) (.E 37) (kb false), none⟩])
  (.cond (.E 38)
   (.seq (.reg [⟨(some (.E 39)), .mv (.V 5), none⟩,
     ⟨(some (.V 4)), .mv (.E 39), none⟩])
   (.ret))
   (.skip))))
 (.reg [⟨(some (.E 11)), .mv (.V 5), none⟩,
   ⟨(some (.E 12)), .bin .add (.E 11) (ki 1), none⟩,
   ⟨(some (.V 5)), .mv (.E 12), none⟩]))

def k_spec_l17Up_ic : IC :=
 .seq (.reg [⟨(some (.V 2)), .box (.V 0), none⟩,
   ⟨(some (.V 4)), .mv (ki 0), none⟩])
 (.seq (.seq (.reg [⟨(some (.V 5)), .mv (ki 0), none⟩])
 (.block 0 (.loop k_spec_l17Up_b0)))
 (.seq (.reg [⟨(some (.V 4)), .mv (ki (-1)), none⟩])
 (.ret)))

def k_spec_l17Up_rv : List RV := [.tmp [0] 4]

def k_laws_toNodeS_vars : List Nat := [0, 4, 3, 2]

def k_laws_toNodeS_b0 : IC :=
 .seq (.seq (.reg [⟨(some (.E 8)), .mv (.V 4), none⟩,
   ⟨(some (.E 9)), .mv (.V 0), none⟩,
   ⟨(some (.E 10)), .len (.E 9), none⟩,
   ⟨(some (.E 11)), .bin .lss (.E 8) (.E 10), none⟩])
 (.cond (.E 11)
  (.skip)
  (.exit 0)))
 (.seq (.block 1 (.reg [⟨(some (.E 14)), .mv (.V 3), none⟩,
    ⟨(some (.E 15)), .mv (.V 4), none⟩,
    ⟨(some (.E 16)), .mv (.V 0), none⟩,
    ⟨(some (.E 17)), .mv (.V 4), none⟩,
    ⟨(some (.E 18)), .iaddr 5 (.E 16) (.E 17), none⟩,
    ⟨(some (.E 19)), .load true 5 (.E 18), none⟩,
    ⟨(some (.E 20)), .call k_laws_toNode [([0, 0, 0, 0, 0], (.E 19))], none⟩,
    ⟨(some (.E 21)), .iaddr 5 (.E 14) (.E 15), none⟩,
    ⟨none, .store [0, 0, 0, 0, 0] (.E 21) (.E 20), none⟩]))
 (.reg [⟨(some (.E 12)), .mv (.V 4), none⟩,
   ⟨(some (.E 13)), .bin .add (.E 12) (ki 1), none⟩,
   ⟨(some (.V 4)), .mv (.E 13), none⟩]))

def k_laws_toNodeS_ic : IC :=
 .seq (.reg [⟨(some (.V 2)), .mv (.C .e0), none⟩])
 (.seq (.reg [⟨(some (.E 5)), .mv (.V 0), none⟩,
   ⟨(some (.E 6)), .len (.E 5), none⟩,
   ⟨(some (.E 7)), .mksl 40 5 [(.v (.int .i64 0)), (.v (.int .i64 0)), (.v (.int .i64 0)), (.v (.int .i64 0)), (.v (.int .i64 0))] (.E 6) (.E 6), none⟩,
   ⟨(some (.V 3)), .mv (.E 7), none⟩])
 (.seq (.seq (.reg [⟨(some (.V 4)), .mv (ki 0), none⟩])
 (.block 0 (.loop k_laws_toNodeS_b0)))
 (.seq (.reg [⟨(some (.E 22)), .mv (.V 3), none⟩,
   ⟨(some (.V 2)), .mv (.E 22), none⟩])
 (.ret))))

def k_laws_toNodeS_rv : List RV := [.tmp [5] 2]

def k_impl_wayTo_vars : List Nat := [0, 1, 2, 6, 5, 4]

def k_impl_wayTo_b0 : IC :=
 .seq (.seq (.reg [⟨(some (.E 19)), .mv (.V 6), none⟩,
   ⟨(some (.E 20)), .bin .geq (.E 19) (ki 0), none⟩])
 (.cond (.E 20)
  (.skip)
  (.exit 0)))
 (.seq (.block 1 (.seq (.seq (.reg [⟨(some (.E 24)), .mv (.V 5), none⟩,
    ⟨(some (.E 25)), .len (.E 24), none⟩,
    ⟨(some (.E 26)), .bin .gtr (.E 25) (ki 31), none⟩])
  (.cond (.E 26)
   (.seq (.reg [⟨(some (.V 4)), .mv (.C .e0), none⟩])
   (.ret))
   (.skip)))
  (.reg [⟨(some (.E 27)), .mv (.V 5), none⟩,
    ⟨(some (.E 28)), .mv (.V 6), none⟩,
    ⟨(some (.E 29)), .bslice 1 1 [(.v (.int .i64 0))] [(0, (.E 28))], none⟩,
    ⟨(some (.E 30)), .app 8 1 (.E 27) (.E 29), none⟩,
    ⟨(some (.V 5)), .mv (.E 30), none⟩])))
 (.reg [⟨(some (.E 21)), .load true 1 (.V 2), none⟩,
   ⟨(some (.E 22)), .mv (.V 6), none⟩,
   ⟨(some (.E 23)), .call k_impl_parent [([5], (.E 21)), ([0], (.E 22))], none⟩,
   ⟨(some (.V 6)), .mv (.E 23), none⟩]))

def k_impl_wayTo_ic : IC :=
 .seq (.reg [⟨(some (.V 2)), .box (.V 0), none⟩,
   ⟨(some (.V 4)), .mv (.C .e0), none⟩])
 (.seq (.seq (.reg [⟨(some (.E 7)), .mv (.V 1), none⟩,
   ⟨(some (.E 8)), .faddr 0 (.V 2), none⟩,
   ⟨(some (.E 9)), .load false 1 (.E 8), none⟩,
   ⟨(some (.E 10)), .len (.E 9), none⟩,
   ⟨(some (.E 11)), .bin .sub (.E 10) (ki 1), none⟩,
   ⟨(some (.E 12)), .call k_impl_within [([0], (.E 7)), ([0], (ki 0)), ([0], (.E 11))], none⟩,
   ⟨(some (.E 13)), .un .not (.E 12), none⟩])
 (.cond (.E 13)
  (.seq (.reg [⟨(some (.V 4)), .mv (.C .e0), none⟩])
  (.ret))
  (.skip)))
 (.seq (.reg [⟨(some (.E 14)), .mv (.V 1), none⟩,
   ⟨(some (.E 15)), .bslice 1 1 [(.v (.int .i64 0))] [(0, (.E 14))], none⟩,
   ⟨(some (.V 5)), .mv (.E 15), none⟩])
 (.seq (.seq (.reg [⟨(some (.E 16)), .load true 1 (.V 2), none⟩,
   ⟨(some (.E 17)), .mv (.V 1), none⟩,
   ⟨(some (.E 18)), .call k_impl_parent [([5], (.E 16)), ([0], (.E 17))], none⟩,
   ⟨(some (.V 6)), .mv (.E 18), none⟩])
 (.block 0 (.loop k_impl_wayTo_b0)))
 (.seq (.reg [⟨(some (.E 31)), .mv (.V 5), none⟩,
   ⟨(some (.E 32)), .call k_slices_Reverse___int_int_ [([1], (.E 31))], none⟩])
 (.seq (.reg [⟨(some (.E 33)), .mv (.V 5), none⟩,
   ⟨(some (.V 4)), .mv (.E 33), none⟩])
 (.ret))))))

def k_impl_wayTo_rv : List RV := [.tmp [1] 4]

def k_laws_eqNodeS_vars : List Nat := [0, 1, 5, 4]

def k_laws_eqNodeS_b0 : IC :=
 .seq (.seq (.reg [⟨(some (.E 11)), .mv (.V 5), none⟩,
   ⟨(some (.E 12)), .mv (.V 0), none⟩,
   ⟨(some (.E 13)), .len (.E 12), none⟩,
   ⟨(some (.E 14)), .bin .lss (.E 11) (.E 13), none⟩])
 (.cond (.E 14)
  (.skip)
  (.exit 0)))
 (.seq (.block 1 (.seq (.regD [(⟨(some (.E 17)), .mv (.V 0), none⟩, 0, 0),
    (⟨(some (.E 18)), .mv (.V 5), none⟩, 0, 0),
    (⟨(some (.E 19)), .iaddr 5 (.E 17) (.E 18), none⟩, 0, 0),
    (⟨(some (.E 20)), .load true 5 (.E 19), none⟩, 0, 0),
    (⟨(some (.E 21)), .mv (.V 1), none⟩, 0, 0),
    (⟨(some (.E 22)), .mv (.V 5), none⟩, 0, 0),
    (⟨(some (.E 23)), .iaddr 5 (.E 21) (.E 22), none⟩, 0, 0),
    (⟨(some (.E 24)), .load true 5 (.E 23), none⟩, 0, 0),
    (⟨(some (.E 25)), .call k_laws_eqNode [([0, 0, 0, 0, 0], (.E 20)), ([0, 0, 0, 0, 0], (.E 24))], none⟩, 0, 0),
    (⟨(some (.E 26)), .un .not (.E 25), none⟩, 0, 0)])
  (.cond (.E 26)
   (.seq (.reg [⟨(some (.V 4)), .mv (kb false), none⟩])
   (.ret))
   (.skip))))
 (.reg [⟨(some (.E 15)), .mv (.V 5), none⟩,
   ⟨(some (.E 16)), .bin .add (.E 15) (ki 1), none⟩,
   ⟨(some (.V 5)), .mv (.E 16), none⟩]))

def k_laws_eqNodeS_ic : IC :=
 .seq (.reg [⟨(some (.V 4)), .mv (kb false), none⟩])
 (.seq (.seq (.reg [⟨(some (.E 6)), .mv (.V 0), none⟩,
   ⟨(some (.E 7)), .len (.E 6), none⟩,
   ⟨(some (.E 8)), .mv (.V 1), none⟩,
   ⟨(some (.E 9)), .len (.E 8), none⟩,
   ⟨(some (.E 10)), .bin .neq (.E 7) (.E 9), none⟩])
 (.cond (.E 10)
  (.seq (.reg [⟨(some (.V 4)), .mv (kb false), none⟩])
  (.ret))
  (.skip)))
 (.seq (.seq (.reg [⟨(some (.V 5)), .mv (ki 0), none⟩])
 (.block 0 (.loop k_laws_eqNodeS_b0)))
 (.seq (.reg [⟨(some (.V 4)), .mv (kb true), none⟩])
 (.ret))))

def k_laws_eqNodeS_rv : List RV := [.tmp [0] 4]

def k_spec_l17Inner_vars : List Nat := [0, 1, 2]

def k_spec_l17Inner_ic : IC :=
 .seq (.reg [⟨(some (.V 1)), .box (.V 0), none⟩,
   ⟨(some (.V 2)), .mv (kb false), none⟩])
 (.seq (.reg [⟨(some (.E 3)), .faddr 0 (.V 1), none⟩,
   ⟨(some (.E 4)), .load false 1 (.E 3), none⟩,
   ⟨(some (.E 5)), .bin .neq (.E 4) (ki (-1)), none⟩,
   ⟨(some (.V 2)), .mv (.E 5), none⟩])
 (.ret))

def k_spec_l17Inner_rv : List RV := [.tmp [0] 2]

def k_impl_isLeaf_vars : List Nat := [0, 1, 2]

def k_impl_isLeaf_ic : IC :=
 .seq (.reg [⟨(some (.V 1)), .box (.V 0), none⟩,
   ⟨(some (.V 2)), .mv (kb false), none⟩])
 (.seq (.reg [⟨(some (.E 3)), .faddr 0 (.V 1), none⟩,
   ⟨(some (.E 4)), .load false 1 (.E 3), none⟩,
   ⟨(some (.E 5)), .bin .eql (.E 4) (ki (-1)), none⟩,
   ⟨(some (.V 2)), .mv (.E 5), none⟩])
 (.ret))

def k_impl_isLeaf_rv : List RV := [.tmp [0] 2]

def k_spec_l1Max_vars : List Nat := [0, 1, 4]

def k_spec_l1Max_ic : IC :=
 .seq (.reg [⟨(some (.V 4)), .mv (ki 0), none⟩])
 (.seq (.seq (.reg [⟨(some (.E 5)), .mv (.V 0), none⟩,
   ⟨(some (.E 6)), .mv (.V 1), none⟩,
   ⟨(some (.E 7)), .bin .gtr (.E 5) (.E 6), none⟩])
 (.cond (.E 7)
  (.seq (.reg [⟨(some (.E 8)), .mv (.V 0), none⟩,
    ⟨(some (.V 4)), .mv (.E 8), none⟩])
  (.ret))
  (.skip)))
 (.seq (.reg [⟨(some (.E 9)), .mv (.V 1), none⟩,
   ⟨(some (.V 4)), .mv (.E 9), none⟩])
 (.ret)))

def k_spec_l1Max_rv : List RV := [.tmp [0] 4]

def k_spec_l1Min_vars : List Nat := [0, 1, 4]

def k_spec_l1Min_ic : IC :=
 .seq (.reg [⟨(some (.V 4)), .mv (ki 0), none⟩])
 (.seq (.seq (.reg [⟨(some (.E 5)), .mv (.V 0), none⟩,
   ⟨(some (.E 6)), .mv (.V 1), none⟩,
   ⟨(some (.E 7)), .bin .lss (.E 5) (.E 6), none⟩])
 (.cond (.E 7)
  (.seq (.reg [⟨(some (.E 8)), .mv (.V 0), none⟩,
    ⟨(some (.V 4)), .mv (.E 8), none⟩])
  (.ret))
  (.skip)))
 (.seq (.reg [⟨(some (.E 9)), .mv (.V 1), none⟩,
   ⟨(some (.V 4)), .mv (.E 9), none⟩])
 (.ret)))

def k_spec_l1Min_rv : List RV := [.tmp [0] 4]

def k_impl_within_vars : List Nat := [0, 1, 2, 6]

def k_impl_within_ic : IC :=
 .seq (.reg [⟨(some (.V 6)), .mv (kb false), none⟩])
 (.seq (.reg [⟨(some (.E 7)), .mv (.V 0), none⟩,
   ⟨(some (.E 8)), .mv (.V 1), none⟩,
   ⟨(some (.E 9)), .bin .geq (.E 7) (.E 8), none⟩,
   ⟨(some (.E 10)), .mv (.E 9), none⟩,
   ⟨(some (.E 11)), .mv (.V 0), some ((.E 10), true)⟩,
   ⟨(some (.E 12)), .mv (.V 2), some ((.E 10), true)⟩,
   ⟨(some (.E 13)), .bin .leq (.E 11) (.E 12), some ((.E 10), true)⟩,
   ⟨(some (.E 14)), .pick (.E 10) (.E 13) (kb false), none⟩,
   ⟨(some (.V 6)), .mv (.E 14), none⟩])
 (.ret))

def k_impl_within_rv : List RV := [.tmp [0] 6]

def k_laws_toNode_vars : List Nat := [0, 1, 3, 2]

def k_laws_toNode_ic : IC :=
 .seq (.reg [⟨(some (.V 1)), .box (.V 0), none⟩,
   ⟨(some (.V 2)), .alloc [(.v (.int .i64 0)), (.v (.int .i64 0)), (.v (.int .i64 0)), (.v (.int .i64 0)), (.v (.int .i64 0))], none⟩])
 (.seq (.reg [⟨(some (.V 3)), .alloc [(.v (.int .i64 0)), (.v (.int .i64 0)), (.v (.int .i64 0)), (.v (.int .i64 0)), (.v (.int .i64 0))], none⟩])
 (.seq (.reg [⟨(some (.E 4)), .faddr 0 (.V 1), none⟩,
   ⟨(some (.E 5)), .load false 1 (.E 4), none⟩,
   ⟨(some (.E 6)), .faddr 0 (.V 3), none⟩,
   ⟨none, .store [0] (.E 6) (.E 5), none⟩])
 (.seq (.reg [⟨(some (.E 7)), .faddr 1 (.V 1), none⟩,
   ⟨(some (.E 8)), .load false 1 (.E 7), none⟩,
   ⟨(some (.E 9)), .faddr 1 (.V 3), none⟩,
   ⟨none, .store [0] (.E 9) (.E 8), none⟩])
 (.seq (.reg [⟨(some (.E 10)), .faddr 2 (.V 1), none⟩,
   ⟨(some (.E 11)), .load false 1 (.E 10), none⟩,
   ⟨(some (.E 12)), .faddr 2 (.V 3), none⟩,
   ⟨none, .store [0] (.E 12) (.E 11), none⟩])
 (.seq (.reg [⟨(some (.E 13)), .faddr 3 (.V 1), none⟩,
   ⟨(some (.E 14)), .load false 1 (.E 13), none⟩,
   ⟨(some (.E 15)), .faddr 3 (.V 3), none⟩,
   ⟨none, .store [0] (.E 15) (.E 14), none⟩])
 (.seq (.reg [⟨(some (.E 16)), .faddr 4 (.V 1), none⟩,
   ⟨(some (.E 17)), .load false 1 (.E 16), none⟩,
   ⟨(some (.E 18)), .faddr 4 (.V 3), none⟩,
   ⟨none, .store [0] (.E 18) (.E 17), none⟩])
 (.seq (.reg [⟨(some (.E 19)), .load true 5 (.V 3), none⟩,
   ⟨none, .store [0, 0, 0, 0, 0] (.V 2) (.E 19), none⟩])
 (.ret))))))))

def k_laws_toNode_rv : List RV := [.cell [0, 0, 0, 0, 0] 2 true]

def k_impl_parent_vars : List Nat := [0, 1, 2, 3, 4]

def k_impl_parent_ic : IC :=
 .seq (.reg [⟨(some (.V 2)), .box (.V 0), none⟩,
   ⟨(some (.V 3)), .box (.V 1), none⟩,
   ⟨(some (.V 4)), .mv (ki 0), none⟩])
 (.seq (.reg [⟨(some (.E 5)), .faddr 0 (.V 2), none⟩,
   ⟨(some (.E 6)), .load false 1 (.E 5), none⟩,
   ⟨(some (.E 7)), .mkfn k_impl_parent_1 [(.V 3)], none⟩,
   ⟨(some (.E 8)), .call k_slices_IndexFunc___impl_Node_impl_Node_ [([5], (.E 6)), ([0], (.E 7))], none⟩,
   ⟨(some (.V 4)), .mv (.E 8), none⟩])
 (.ret))

def k_impl_parent_rv : List RV := [.tmp [0] 4]

def k_slices_Reverse___int_int__vars : List Nat := [0, 2, 3]

def k_slices_Reverse___int_int__b0 : IC :=
 .seq (.seq (.reg [⟨(some (.E 7)), .mv (.V 2), none⟩,
   ⟨(some (.E 8)), .mv (.V 3), none⟩,
   ⟨(some (.E 9)), .bin .lss (.E 7) (.E 8), none⟩])
 (.cond (.E 9)
  (.skip)
  (.exit 0)))
 (.seq (.block 1 (.regD [(⟨(some (.E 14)), .mv (.V 0), none⟩, 0, 0),
    (⟨(some (.E 15)), .mv (.V 2), none⟩, 0, 0),
    (⟨(some (.E 16)), .mv (.V 0), none⟩, 0, 0),
    (⟨(some (.E 17)), .mv (.V 3), none⟩, 0, 0),
    (⟨(some (.E 18)), .mv (.V 0), none⟩, 0, 0),
    (⟨(some (.E 19)), .mv (.V 3), none⟩, 0, 0),
    (⟨(some (.E 20)), .iaddr 1 (.E 18) (.E 19), none⟩, 0, 0),
    (⟨(some (.E 21)), .load false 1 (.E 20), none⟩, 0, 0),
    (⟨(some (.E 22)), .mv (.V 0), none⟩, 0, 0),
    (⟨(some (.E 23)), .mv (.V 2), none⟩, 0, 0),
    (⟨(some (.E 24)), .iaddr 1 (.E 22) (.E 23), none⟩, 0, 0),
    (⟨(some (.E 25)), .load false 1 (.E 24), none⟩, 0, 0),
    (⟨(some (.E 26)), .iaddr 1 (.E 14) (.E 15), none⟩, 0, 0),
    (⟨none, .store [0] (.E 26) (.E 21), none⟩, 0, 0),
    (⟨(some (.E 27)), .iaddr 1 (.E 16) (.E 17), none⟩, 0, 0),
    (⟨none, .store [0] (.E 27) (.E 25), none⟩, 0, 0)]))
 (.reg [⟨(some (.E 10)), .mv (.V 2), none⟩,
   ⟨(some (.E 11)), .bin .add (.E 10) (ki 1), none⟩,
   ⟨(some (.E 12)), .mv (.V 3), none⟩,
   ⟨(some (.E 13)), .bin .sub (.E 12) (ki 1), none⟩,
   ⟨(some (.V 2)), .mv (.E 11), none⟩,
   ⟨(some (.V 3)), .mv (.E 13), none⟩]))

def k_slices_Reverse___int_int__ic : IC :=
 .seq (.reg [⟨(some (.E 4)), .mv (.V 0), none⟩,
   ⟨(some (.E 5)), .len (.E 4), none⟩,
   ⟨(some (.E 6)), .bin .sub (.E 5) (ki 1), none⟩,
   ⟨(some (.V 2)), .mv (ki 0), none⟩,
   ⟨(some (.V 3)), .mv (.E 6), none⟩])
 (.block 0 (.loop k_slices_Reverse___int_int__b0))

def k_slices_Reverse___int_int__rv : List RV := []

def k_laws_eqNode_vars : List Nat := [0, 1, 2, 3, 4]

def k_laws_eqNode_ic : IC :=
 .seq (.reg [⟨(some (.V 2)), .box (.V 0), none⟩,
   ⟨(some (.V 3)), .box (.V 1), none⟩,
   ⟨(some (.V 4)), .mv (kb false), none⟩])
 (.seq (.seq (.reg [⟨(some (.E 5)), .faddr 0 (.V 2), none⟩,
   ⟨(some (.E 6)), .load false 1 (.E 5), none⟩,
   ⟨(some (.E 7)), .faddr 0 (.V 3), none⟩,
   ⟨(some (.E 8)), .load false 1 (.E 7), none⟩,
   ⟨(some (.E 9)), .bin .neq (.E 6) (.E 8), none⟩])
 (.cond (.E 9)
  (.seq (.reg [⟨(some (.V 4)), .mv (kb false), none⟩])
  (.ret))
  (.skip)))
 (.seq (.seq (.reg [⟨(some (.E 10)), .faddr 1 (.V 2), none⟩,
   ⟨(some (.E 11)), .load false 1 (.E 10), none⟩,
   ⟨(some (.E 12)), .faddr 1 (.V 3), none⟩,
   ⟨(some (.E 13)), .load false 1 (.E 12), none⟩,
   ⟨(some (.E 14)), .bin .neq (.E 11) (.E 13), none⟩])
 (.cond (.E 14)
  (.seq (.reg [⟨(some (.V 4)), .mv (kb false), none⟩])
  (.ret))
  (.skip)))
 (.seq (.seq (.reg [⟨(some (.E 15)), .faddr 2 (.V 2), none⟩,
   ⟨(some (.E 16)), .load false 1 (.E 15), none⟩,
   ⟨(some (.E 17)), .faddr 2 (.V 3), none⟩,
   ⟨(some (.E 18)), .load false 1 (.E 17), none⟩,
   ⟨(some (.E 19)), .bin .neq (.E 16) (.E 18), none⟩])
 (.cond (.E 19)
  (.seq (.reg [⟨(some (.V 4)), .mv (kb false), none⟩])
  (.ret))
  (.skip)))
 (.seq (.seq (.reg [⟨(some (.E 20)), .faddr 3 (.V 2), none⟩,
   ⟨(some (.E 21)), .load false 1 (.E 20), none⟩,
   ⟨(some (.E 22)), .faddr 3 (.V 3), none⟩,
   ⟨(some (.E 23)), .load false 1 (.E 22), none⟩,
   ⟨(some (.E 24)), .bin .neq (.E 21) (.E 23), none⟩])
 (.cond (.E 24)
  (.seq (.reg [⟨(some (.V 4)), .mv (kb false), none⟩])
  (.ret))
  (.skip)))
 (.seq (.seq (.reg [⟨(some (.E 25)), .faddr 4 (.V 2), none⟩,
   ⟨(some (.E 26)), .load false 1 (.E 25), none⟩,
   ⟨(some (.E 27)), .faddr 4 (.V 3), none⟩,
   ⟨(some (.E 28)), .load false 1 (.E 27), none⟩,
   ⟨(some (.E 29)), .bin .neq (.E 26) (.E 28), none⟩])
 (.cond (.E 29)
  (.seq (.reg [⟨(some (.V 4)), .mv (kb false), none⟩])
  (.ret))
  (.skip)))
 (.seq (.reg [⟨(some (.V 4)), .mv (kb true), none⟩])
 (.ret)))))))

def k_laws_eqNode_rv : List RV := [.tmp [0] 4]

def k_slices_IndexFunc___impl_Node_impl_Node__vars : List Nat := [0, 1, 8, 7, 5, 4]

def k_slices_IndexFunc___impl_Node_impl_Node__b0 : IC :=
 .seq (.reg [⟨(some (.E 9)), .bin .lss (.V 8) (.V 7), none⟩])
 (.seq (.cond (.E 9)
  (.skip)
  (.exit 0))
 (.seq (.block 1 (.seq (.reg [⟨(some (.E 10)), .mv (.V 8), none⟩,
    ⟨(some (.V 5)), .mv (.E 10), none⟩])
  (.seq (.reg [⟨(some (.E 11)), .mv (.V 1), none⟩,
    ⟨(some (.E 12)), .mv (.V 0), none⟩,
    ⟨(some (.E 13)), .mv (.V 5), none⟩,
    ⟨(some (.E 14)), .iaddr 5 (.E 12) (.E 13), none⟩,
    ⟨(some (.E 15)), .load true 5 (.E 14), none⟩,
    ⟨(some (.E 16)), .callv (.E 11) [([0, 0, 0, 0, 0], (.E 15))], none⟩])
  (.cond (.E 16)
   (.seq (.reg [⟨(some (.E 17)), .mv (.V 5), none⟩,
     ⟨(some (.V 4)), .mv (.E 17), none⟩])
   (.ret))
   (.skip)))))
 (.reg [⟨(some (.E 18)), .bin .add (.V 8) (ki 1), none⟩,
   ⟨(some (.V 8)), .mv (.E 18), none⟩])))

def k_slices_IndexFunc___impl_Node_impl_Node__ic : IC :=
 .seq (.reg [⟨(some (.V 4)), .mv (ki 0), none⟩])
 (.seq (.seq (.reg [⟨(some (.E 6)), .mv (.V 0), none⟩,
   ⟨(some (.V 7)), .len (.E 6), none⟩,
   ⟨(some (.V 8)), .mv (ki 0), none⟩])
 (.block 0 (.loop k_slices_IndexFunc___impl_Node_impl_Node__b0)))
 (.seq (.reg [⟨(some (.V 4)), .mv (ki (-1)), none⟩])
 (.ret)))

def k_slices_IndexFunc___impl_Node_impl_Node__rv : List RV := [.tmp [0] 4]

def k_impl_parent_1_vars : List Nat := [0, 1, 2, 3]

def k_impl_parent_1_ic : IC :=
 .seq (.reg [⟨(some (.V 2)), .box (.V 0), none⟩,
   ⟨(some (.V 3)), .mv (kb false), none⟩])
 (.seq (.reg [⟨(some (.E 4)), .load true 5 (.V 2), none⟩,
   ⟨(some (.E 5)), .call k_impl_isLeaf [([0, 0, 0, 0, 0], (.E 4))], none⟩,
   ⟨(some (.E 6)), .un .not (.E 5), none⟩,
   ⟨(some (.E 7)), .mv (.E 6), none⟩,
   ⟨(some (.E 8)), .faddr 2 (.V 2), some ((.E 7), true)⟩,
   ⟨(some (.E 9)), .load false 1 (.E 8), some ((.E 7), true)⟩,
   ⟨(some (.E 10)), .load false 1 (.V 1), some ((.E 7), true)⟩,
   ⟨(some (.E 11)), .bin .eql (.E 9) (.E 10), some ((.E 7), true)⟩,
   ⟨(some (.E 12)), .mv (.E 11), some ((.E 7), true)⟩,
   ⟨(some (.E 13)), .faddr 3 (.V 2), some ((.E 12), false)⟩,
   ⟨(some (.E 14)), .load false 1 (.E 13), some ((.E 12), false)⟩,
   ⟨(some (.E 15)), .load false 1 (.V 1), some ((.E 12), false)⟩,
   ⟨(some (.E 16)), .bin .eql (.E 14) (.E 15), some ((.E 12), false)⟩,
   ⟨(some (.E 17)), .pick (.E 12) (kb true) (.E 16), some ((.E 7), true)⟩,
   ⟨(some (.E 18)), .pick (.E 7) (.E 17) (kb false), none⟩,
   ⟨(some (.V 3)), .mv (.E 18), none⟩])
 (.ret))

def k_impl_parent_1_rv : List RV := [.tmp [0] 3]

def tbl : List (Nat × Fun) := [
  (k_laws_FnExactBoxOf, fnOf k_laws_FnExactBoxOf_ic k_laws_FnExactBoxOf_rv []),
  (k_laws_szTree, fnOf k_laws_szTree_ic k_laws_szTree_rv []),
  (k_spec_LevelOf, fnOf k_spec_LevelOf_ic k_spec_LevelOf_rv []),
  (k_laws_toTree, fnOf k_laws_toTree_ic k_laws_toTree_rv []),
  (k_laws_eqTree, fnOf k_laws_eqTree_ic k_laws_eqTree_rv []),
  (k_spec_BoxOf, fnOf k_spec_BoxOf_ic k_spec_BoxOf_rv []),
  (k_impl_BoxOf, fnOf k_impl_BoxOf_ic k_impl_BoxOf_rv []),
  (k_spec_WayTo, fnOf k_spec_WayTo_ic k_spec_WayTo_rv []),
  (k_laws_szNodeS, fnOf k_laws_szNodeS_ic k_laws_szNodeS_rv []),
  (k_spec_l1In, fnOf k_spec_l1In_ic k_spec_l1In_rv []),
  (k_spec_l17Up, fnOf k_spec_l17Up_ic k_spec_l17Up_rv []),
  (k_laws_toNodeS, fnOf k_laws_toNodeS_ic k_laws_toNodeS_rv []),
  (k_impl_wayTo, fnOf k_impl_wayTo_ic k_impl_wayTo_rv []),
  (k_laws_eqNodeS, fnOf k_laws_eqNodeS_ic k_laws_eqNodeS_rv []),
  (k_spec_l17Inner, fnOf k_spec_l17Inner_ic k_spec_l17Inner_rv []),
  (k_impl_isLeaf, fnOf k_impl_isLeaf_ic k_impl_isLeaf_rv []),
  (k_spec_l1Max, fnOf k_spec_l1Max_ic k_spec_l1Max_rv []),
  (k_spec_l1Min, fnOf k_spec_l1Min_ic k_spec_l1Min_rv []),
  (k_impl_within, fnOf k_impl_within_ic k_impl_within_rv []),
  (k_laws_toNode, fnOf k_laws_toNode_ic k_laws_toNode_rv []),
  (k_impl_parent, fnOf k_impl_parent_ic k_impl_parent_rv []),
  (k_slices_Reverse___int_int_, fnOf k_slices_Reverse___int_int__ic k_slices_Reverse___int_int__rv [true]),
  (k_laws_eqNode, fnOf k_laws_eqNode_ic k_laws_eqNode_rv []),
  (k_slices_IndexFunc___impl_Node_impl_Node_, fnOf k_slices_IndexFunc___impl_Node_impl_Node__ic k_slices_IndexFunc___impl_Node_impl_Node__rv []),
  (k_impl_parent_1, fnOf k_impl_parent_1_ic k_impl_parent_1_rv [])]

def T : Table := fun f => (tbl.find? fun q => q.1 == f).map fun q => q.2

theorem T_laws_FnExactBoxOf : T k_laws_FnExactBoxOf = some (fnOf k_laws_FnExactBoxOf_ic k_laws_FnExactBoxOf_rv []) := rfl

@[simp] theorem M_laws_FnExactBoxOf : modesOf T k_laws_FnExactBoxOf = [] := modesOf_code T_laws_FnExactBoxOf

theorem T_laws_szTree : T k_laws_szTree = some (fnOf k_laws_szTree_ic k_laws_szTree_rv []) := rfl

@[simp] theorem M_laws_szTree : modesOf T k_laws_szTree = [] := modesOf_code T_laws_szTree

theorem T_spec_LevelOf : T k_spec_LevelOf = some (fnOf k_spec_LevelOf_ic k_spec_LevelOf_rv []) := rfl

@[simp] theorem M_spec_LevelOf : modesOf T k_spec_LevelOf = [] := modesOf_code T_spec_LevelOf

theorem T_laws_toTree : T k_laws_toTree = some (fnOf k_laws_toTree_ic k_laws_toTree_rv []) := rfl

@[simp] theorem M_laws_toTree : modesOf T k_laws_toTree = [] := modesOf_code T_laws_toTree

theorem T_laws_eqTree : T k_laws_eqTree = some (fnOf k_laws_eqTree_ic k_laws_eqTree_rv []) := rfl

@[simp] theorem M_laws_eqTree : modesOf T k_laws_eqTree = [] := modesOf_code T_laws_eqTree

theorem T_spec_BoxOf : T k_spec_BoxOf = some (fnOf k_spec_BoxOf_ic k_spec_BoxOf_rv []) := rfl

@[simp] theorem M_spec_BoxOf : modesOf T k_spec_BoxOf = [] := modesOf_code T_spec_BoxOf

theorem T_impl_BoxOf : T k_impl_BoxOf = some (fnOf k_impl_BoxOf_ic k_impl_BoxOf_rv []) := rfl

@[simp] theorem M_impl_BoxOf : modesOf T k_impl_BoxOf = [] := modesOf_code T_impl_BoxOf

theorem T_spec_WayTo : T k_spec_WayTo = some (fnOf k_spec_WayTo_ic k_spec_WayTo_rv []) := rfl

@[simp] theorem M_spec_WayTo : modesOf T k_spec_WayTo = [] := modesOf_code T_spec_WayTo

theorem T_laws_szNodeS : T k_laws_szNodeS = some (fnOf k_laws_szNodeS_ic k_laws_szNodeS_rv []) := rfl

@[simp] theorem M_laws_szNodeS : modesOf T k_laws_szNodeS = [] := modesOf_code T_laws_szNodeS

theorem T_spec_l1In : T k_spec_l1In = some (fnOf k_spec_l1In_ic k_spec_l1In_rv []) := rfl

@[simp] theorem M_spec_l1In : modesOf T k_spec_l1In = [] := modesOf_code T_spec_l1In

theorem T_spec_l17Up : T k_spec_l17Up = some (fnOf k_spec_l17Up_ic k_spec_l17Up_rv []) := rfl

@[simp] theorem M_spec_l17Up : modesOf T k_spec_l17Up = [] := modesOf_code T_spec_l17Up

theorem T_laws_toNodeS : T k_laws_toNodeS = some (fnOf k_laws_toNodeS_ic k_laws_toNodeS_rv []) := rfl

@[simp] theorem M_laws_toNodeS : modesOf T k_laws_toNodeS = [] := modesOf_code T_laws_toNodeS

theorem T_impl_wayTo : T k_impl_wayTo = some (fnOf k_impl_wayTo_ic k_impl_wayTo_rv []) := rfl

@[simp] theorem M_impl_wayTo : modesOf T k_impl_wayTo = [] := modesOf_code T_impl_wayTo

theorem T_laws_eqNodeS : T k_laws_eqNodeS = some (fnOf k_laws_eqNodeS_ic k_laws_eqNodeS_rv []) := rfl

@[simp] theorem M_laws_eqNodeS : modesOf T k_laws_eqNodeS = [] := modesOf_code T_laws_eqNodeS

theorem T_spec_l17Inner : T k_spec_l17Inner = some (fnOf k_spec_l17Inner_ic k_spec_l17Inner_rv []) := rfl

@[simp] theorem M_spec_l17Inner : modesOf T k_spec_l17Inner = [] := modesOf_code T_spec_l17Inner

theorem T_impl_isLeaf : T k_impl_isLeaf = some (fnOf k_impl_isLeaf_ic k_impl_isLeaf_rv []) := rfl

@[simp] theorem M_impl_isLeaf : modesOf T k_impl_isLeaf = [] := modesOf_code T_impl_isLeaf

theorem T_spec_l1Max : T k_spec_l1Max = some (fnOf k_spec_l1Max_ic k_spec_l1Max_rv []) := rfl

@[simp] theorem M_spec_l1Max : modesOf T k_spec_l1Max = [] := modesOf_code T_spec_l1Max

theorem T_spec_l1Min : T k_spec_l1Min = some (fnOf k_spec_l1Min_ic k_spec_l1Min_rv []) := rfl

@[simp] theorem M_spec_l1Min : modesOf T k_spec_l1Min = [] := modesOf_code T_spec_l1Min

theorem T_impl_within : T k_impl_within = some (fnOf k_impl_within_ic k_impl_within_rv []) := rfl

@[simp] theorem M_impl_within : modesOf T k_impl_within = [] := modesOf_code T_impl_within

theorem T_laws_toNode : T k_laws_toNode = some (fnOf k_laws_toNode_ic k_laws_toNode_rv []) := rfl

@[simp] theorem M_laws_toNode : modesOf T k_laws_toNode = [] := modesOf_code T_laws_toNode

theorem T_impl_parent : T k_impl_parent = some (fnOf k_impl_parent_ic k_impl_parent_rv []) := rfl

@[simp] theorem M_impl_parent : modesOf T k_impl_parent = [] := modesOf_code T_impl_parent

theorem T_slices_Reverse___int_int_ : T k_slices_Reverse___int_int_ = some (fnOf k_slices_Reverse___int_int__ic k_slices_Reverse___int_int__rv [true]) := rfl

@[simp] theorem M_slices_Reverse___int_int_ : modesOf T k_slices_Reverse___int_int_ = [true] := modesOf_code T_slices_Reverse___int_int_

theorem T_laws_eqNode : T k_laws_eqNode = some (fnOf k_laws_eqNode_ic k_laws_eqNode_rv []) := rfl

@[simp] theorem M_laws_eqNode : modesOf T k_laws_eqNode = [] := modesOf_code T_laws_eqNode

theorem T_slices_IndexFunc___impl_Node_impl_Node_ : T k_slices_IndexFunc___impl_Node_impl_Node_ = some (fnOf k_slices_IndexFunc___impl_Node_impl_Node__ic k_slices_IndexFunc___impl_Node_impl_Node__rv []) := rfl

@[simp] theorem M_slices_IndexFunc___impl_Node_impl_Node_ : modesOf T k_slices_IndexFunc___impl_Node_impl_Node_ = [] := modesOf_code T_slices_IndexFunc___impl_Node_impl_Node_

theorem T_impl_parent_1 : T k_impl_parent_1 = some (fnOf k_impl_parent_1_ic k_impl_parent_1_rv []) := rfl

@[simp] theorem M_impl_parent_1 : modesOf T k_impl_parent_1 = [] := modesOf_code T_impl_parent_1

end Go.Pe
