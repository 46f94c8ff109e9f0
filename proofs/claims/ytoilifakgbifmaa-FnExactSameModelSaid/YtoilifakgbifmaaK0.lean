/- The compact texts of the functions that the law reaches; no condition. -/
import Derived.Test.YtoilifakgbifmaaEvA0
set_option linter.all false
namespace Go.Pe
open Go
def bs (l : List UInt8) : ByteArray := ⟨l.toArray⟩

def k_laws_FnExactSameModel : Nat := 3

def k_laws_szModel : Nat := 14

def k_spec_SameModel : Nat := 15

def k_laws_toModel : Nat := 16

def k_impl_SameModel : Nat := 17

def k_laws_eqModel : Nat := 18

def k_laws_szTree : Nat := 19

def k_laws_toTree : Nat := 22

def k_laws_eqTree : Nat := 25

def k_laws_toIntS : Nat := 33

def k_laws_eqIntS : Nat := 37

def k_laws_szStringS : Nat := 74

def k_laws_szIntS : Nat := 75

def k_laws_szTreeS : Nat := 76

def k_spec_l9Texts : Nat := 77

def k_spec_l8Ints : Nat := 78

def k_spec_SameTree : Nat := 79

def k_laws_toStringS : Nat := 80

def k_laws_toTreeS : Nat := 81

def k_slices_Equal___string_string_ : Nat := 82

def k_slices_Equal___int_int_ : Nat := 83

def k_slices_EqualFunc___impl_Tree___impl_Tree_impl_Tree_impl_Tree_ : Nat := 84

def k_impl_SameTree : Nat := 85

def k_laws_eqStringS : Nat := 86

def k_laws_eqTreeS : Nat := 87

def k_laws_szNodeS : Nat := 88

def k_laws_toNodeS : Nat := 92

def k_laws_eqNodeS : Nat := 96

def k_spec_SameRows : Nat := 144

def k_slices_Equal___impl_Node_impl_Node_ : Nat := 145

def k_laws_toNode : Nat := 149

def k_laws_eqNode : Nat := 155

def k_laws_FnExactSameModel_vars : List Nat := [0, 1, 2, 5, 3, 7, 8, 9, 6, 4]

def k_laws_FnExactSameModel_ic : IC :=
 .seq (.reg [⟨(some (.V 2)), .box (.V 0), none⟩,
   ⟨(some (.V 3)), .box (.V 1), none⟩,
   ⟨(some (.V 4)), .mv (kb false), none⟩])
 (.seq (.reg [⟨(some (.V 5)), .mv (ki 1048576), none⟩])
 (.seq (.reg [⟨(some (.E 10)), .load true 4 (.V 2), none⟩,
   ⟨(some (.E 11)), .mv (.V 5), none⟩,
   ⟨(some (.E 12)), .call k_laws_szModel [([1, 1, 0, 1], (.E 10)), ([0], (.E 11))], none⟩,
   ⟨(some (.V 5)), .mv (.E 12), none⟩])
 (.seq (.seq (.reg [⟨(some (.E 13)), .mv (.V 5), none⟩,
   ⟨(some (.E 14)), .bin .lss (.E 13) (ki 0), none⟩])
 (.cond (.E 14)
  (.seq (.reg [⟨(some (.V 4)), .mv (kb true), none⟩])
  (.ret))
  (.skip)))
 (.seq (.reg [⟨(some (.E 15)), .load true 4 (.V 3), none⟩,
   ⟨(some (.E 16)), .mv (.V 5), none⟩,
   ⟨(some (.E 17)), .call k_laws_szModel [([1, 1, 0, 1], (.E 15)), ([0], (.E 16))], none⟩,
   ⟨(some (.V 5)), .mv (.E 17), none⟩])
 (.seq (.seq (.reg [⟨(some (.E 18)), .mv (.V 5), none⟩,
   ⟨(some (.E 19)), .bin .lss (.E 18) (ki 0), none⟩])
 (.cond (.E 19)
  (.seq (.reg [⟨(some (.V 4)), .mv (kb true), none⟩])
  (.ret))
  (.skip)))
 (.seq (.regD [(⟨(some (.E 20)), .load true 4 (.V 2), none⟩, 0, 0),
   (⟨(some (.E 21)), .call k_laws_toModel [([1, 1, 0, 1], (.E 20))], none⟩, 0, 0),
   (⟨(some (.E 22)), .load true 4 (.V 3), none⟩, 1, 0),
   (⟨(some (.E 23)), .call k_laws_toModel [([1, 1, 0, 1], (.E 22))], none⟩, 0, 0),
   (⟨(some (.E 24)), .call k_spec_SameModel [([1, 1, 0, 1], (.E 21)), ([1, 1, 0, 1], (.E 23))], none⟩, 0, 0),
   (⟨(some (.V 6)), .mv (.E 24), none⟩, 0, 0)])
 (.seq (.reg [⟨(some (.E 25)), .load true 4 (.V 2), none⟩,
   ⟨(some (.E 26)), .call k_laws_toModel [([1, 1, 0, 1], (.E 25))], none⟩,
   ⟨(some (.V 7)), .alloc [.e0, .e0, (.v (.int .i64 0)), .e0], none⟩,
   ⟨none, .store [1, 1, 0, 1] (.V 7) (.E 26), none⟩])
 (.seq (.reg [⟨(some (.E 27)), .load true 4 (.V 3), none⟩,
   ⟨(some (.E 28)), .call k_laws_toModel [([1, 1, 0, 1], (.E 27))], none⟩,
   ⟨(some (.V 8)), .alloc [.e0, .e0, (.v (.int .i64 0)), .e0], none⟩,
   ⟨none, .store [1, 1, 0, 1] (.V 8) (.E 28), none⟩])
 (.seq (.reg [⟨(some (.E 29)), .load true 4 (.V 7), none⟩,
   ⟨(some (.E 30)), .load true 4 (.V 8), none⟩,
   ⟨(some (.E 31)), .call k_impl_SameModel [([1, 1, 0, 1], (.E 29)), ([1, 1, 0, 1], (.E 30))], none⟩,
   ⟨(some (.V 9)), .mv (.E 31), none⟩])
 (.seq (.seq (.reg [⟨(some (.E 32)), .mv (.V 9), none⟩,
   ⟨(some (.E 33)), .mv (.V 6), none⟩,
   ⟨(some (.E 34)), .eqb true [.b] (.E 32) (.E 33), none⟩])
 (.cond (.E 34)
  (.seq (.reg [⟨(some (.V 4)), .mv (kb false), none⟩])
  (.ret))
  (.skip)))
 (.seq (.seq (.regD [(⟨(some (.E 35)), .load true 4 (.V 7), none⟩, 0, 1),
   (⟨(some (.E 36)), .load true 4 (.V 2), none⟩, 0, 0),
   (⟨(some (.E 37)), .call k_laws_toModel [([1, 1, 0, 1], (.E 36))], none⟩, 0, 0),
   (⟨(some (.E 38)), .call k_laws_eqModel [([1, 1, 0, 1], (.E 35)), ([1, 1, 0, 1], (.E 37))], none⟩, 0, 0),
   (⟨(some (.E 39)), .un .not (.E 38), none⟩, 0, 0)])
 (.cond (.E 39)
  (.seq (.reg [⟨(some (.V 4)), .mv (kb false), none⟩])
  (.ret))
  (.skip)))
 (.seq (.seq (.regD [(⟨(some (.E 40)), .load true 4 (.V 8), none⟩, 0, 1),
   (⟨(some (.E 41)), .load true 4 (.V 3), none⟩, 0, 0),
   (⟨(some (.E 42)), .call k_laws_toModel [([1, 1, 0, 1], (.E 41))], none⟩, 0, 0),
   (⟨(some (.E 43)), .call k_laws_eqModel [([1, 1, 0, 1], (.E 40)), ([1, 1, 0, 1], (.E 42))], none⟩, 0, 0),
   (⟨(some (.E 44)), .un .not (.E 43), none⟩, 0, 0)])
 (.cond (.E 44)
  (.seq (.reg [⟨(some (.V 4)), .mv (kb false), none⟩])
  (.ret))
  (.skip)))
 (.seq (.reg [⟨(some (.V 4)), .mv (kb true), none⟩])
 (.ret))))))))))))))

def k_laws_FnExactSameModel_rv : List RV := [.tmp [0] 4]

def k_laws_szModel_vars : List Nat := [0, 1, 2, 4]

def k_laws_szModel_ic : IC :=
 .seq (.reg [⟨(some (.V 2)), .box (.V 0), none⟩,
   ⟨(some (.V 4)), .mv (ki 0), none⟩])
 (.seq (.reg [⟨(some (.E 5)), .faddr 0 (.V 2), none⟩,
   ⟨(some (.E 6)), .load false 1 (.E 5), none⟩,
   ⟨(some (.E 7)), .mv (.V 1), none⟩,
   ⟨(some (.E 8)), .call k_laws_szStringS [([1], (.E 6)), ([0], (.E 7))], none⟩,
   ⟨(some (.V 1)), .mv (.E 8), none⟩])
 (.seq (.seq (.reg [⟨(some (.E 9)), .mv (.V 1), none⟩,
   ⟨(some (.E 10)), .bin .lss (.E 9) (ki 0), none⟩])
 (.cond (.E 10)
  (.seq (.reg [⟨(some (.V 4)), .mv (ki (-1)), none⟩])
  (.ret))
  (.skip)))
 (.seq (.reg [⟨(some (.E 11)), .faddr 1 (.V 2), none⟩,
   ⟨(some (.E 12)), .load false 1 (.E 11), none⟩,
   ⟨(some (.E 13)), .mv (.V 1), none⟩,
   ⟨(some (.E 14)), .call k_laws_szIntS [([1], (.E 12)), ([0], (.E 13))], none⟩,
   ⟨(some (.V 1)), .mv (.E 14), none⟩])
 (.seq (.seq (.reg [⟨(some (.E 15)), .mv (.V 1), none⟩,
   ⟨(some (.E 16)), .bin .lss (.E 15) (ki 0), none⟩])
 (.cond (.E 16)
  (.seq (.reg [⟨(some (.V 4)), .mv (ki (-1)), none⟩])
  (.ret))
  (.skip)))
 (.seq (.reg [⟨(some (.E 17)), .faddr 3 (.V 2), none⟩,
   ⟨(some (.E 18)), .load false 1 (.E 17), none⟩,
   ⟨(some (.E 19)), .mv (.V 1), none⟩,
   ⟨(some (.E 20)), .call k_laws_szTreeS [([1], (.E 18)), ([0], (.E 19))], none⟩,
   ⟨(some (.V 1)), .mv (.E 20), none⟩])
 (.seq (.seq (.reg [⟨(some (.E 21)), .mv (.V 1), none⟩,
   ⟨(some (.E 22)), .bin .lss (.E 21) (ki 0), none⟩])
 (.cond (.E 22)
  (.seq (.reg [⟨(some (.V 4)), .mv (ki (-1)), none⟩])
  (.ret))
  (.skip)))
 (.seq (.reg [⟨(some (.E 23)), .mv (.V 1), none⟩,
   ⟨(some (.V 4)), .mv (.E 23), none⟩])
 (.ret))))))))

def k_laws_szModel_rv : List RV := [.tmp [0] 4]

def k_spec_SameModel_vars : List Nat := [0, 1, 2, 3, 5, 4]

def k_spec_SameModel_b0 : IC :=
 .seq (.seq (.reg [⟨(some (.E 36)), .mv (.V 5), none⟩,
   ⟨(some (.E 37)), .faddr 3 (.V 2), none⟩,
   ⟨(some (.E 38)), .load false 1 (.E 37), none⟩,
   ⟨(some (.E 39)), .len (.E 38), none⟩,
   ⟨(some (.E 40)), .bin .lss (.E 36) (.E 39), none⟩])
 (.cond (.E 40)
  (.skip)
  (.exit 0)))
 (.seq (.block 1 (.seq (.regD [(⟨(some (.E 43)), .faddr 3 (.V 2), none⟩, 0, 0),
    (⟨(some (.E 44)), .load false 1 (.E 43), none⟩, 0, 0),
    (⟨(some (.E 45)), .mv (.V 5), none⟩, 0, 0),
    (⟨(some (.E 46)), .iaddr 1 (.E 44) (.E 45), none⟩, 0, 0),
    (⟨(some (.E 47)), .load true 1 (.E 46), none⟩, 0, 0),
    (⟨(some (.E 48)), .faddr 3 (.V 3), none⟩, 0, 0),
    (⟨(some (.E 49)), .load false 1 (.E 48), none⟩, 0, 0),
    (⟨(some (.E 50)), .mv (.V 5), none⟩, 0, 0),
    (⟨(some (.E 51)), .iaddr 1 (.E 49) (.E 50), none⟩, 0, 0),
    (⟨(some (.E 52)), .load true 1 (.E 51), none⟩, 0, 0),
    (⟨(some (.E 53)), .call k_spec_SameTree [([5], (.E 47)), ([5], (.E 52))], none⟩, 0, 0),
    (⟨(some (.E 54)), .un .not (.E 53), none⟩, 0, 0)])
  (.cond (.E 54)
   (.seq (.reg [⟨(some (.V 4)), .mv (kb false), none⟩])
   (.ret))
   (.skip))))
 (.reg [⟨(some (.E 41)), .mv (.V 5), none⟩,
   ⟨(some (.E 42)), .bin .add (.E 41) (ki 1), none⟩,
   ⟨(some (.V 5)), .mv (.E 42), none⟩]))

def k_spec_SameModel_ic : IC :=
 .seq (.reg [⟨(some (.V 2)), .box (.V 0), none⟩,
   ⟨(some (.V 3)), .box (.V 1), none⟩,
   ⟨(some (.V 4)), .mv (kb false), none⟩])
 (.seq (.seq (.reg [⟨(some (.E 6)), .faddr 0 (.V 2), none⟩,
   ⟨(some (.E 7)), .load false 1 (.E 6), none⟩,
   ⟨(some (.E 8)), .faddr 0 (.V 3), none⟩,
   ⟨(some (.E 9)), .load false 1 (.E 8), none⟩,
   ⟨(some (.E 10)), .call k_spec_l9Texts [([1], (.E 7)), ([1], (.E 9))], none⟩,
   ⟨(some (.E 11)), .un .not (.E 10), none⟩,
   ⟨(some (.E 12)), .mv (.E 11), none⟩,
   ⟨(some (.E 13)), .faddr 1 (.V 2), some ((.E 12), false)⟩,
   ⟨(some (.E 14)), .load false 1 (.E 13), some ((.E 12), false)⟩,
   ⟨(some (.E 15)), .faddr 1 (.V 3), some ((.E 12), false)⟩,
   ⟨(some (.E 16)), .load false 1 (.E 15), some ((.E 12), false)⟩,
   ⟨(some (.E 17)), .call k_spec_l8Ints [([1], (.E 14)), ([1], (.E 16))], some ((.E 12), false)⟩,
   ⟨(some (.E 18)), .un .not (.E 17), some ((.E 12), false)⟩,
   ⟨(some (.E 19)), .pick (.E 12) (kb true) (.E 18), none⟩,
   ⟨(some (.E 20)), .mv (.E 19), none⟩,
   ⟨(some (.E 21)), .faddr 2 (.V 2), some ((.E 20), false)⟩,
   ⟨(some (.E 22)), .load false 1 (.E 21), some ((.E 20), false)⟩,
   ⟨(some (.E 23)), .faddr 2 (.V 3), some ((.E 20), false)⟩,
   ⟨(some (.E 24)), .load false 1 (.E 23), some ((.E 20), false)⟩,
   ⟨(some (.E 25)), .bin .neq (.E 22) (.E 24), some ((.E 20), false)⟩,
   ⟨(some (.E 26)), .pick (.E 20) (kb true) (.E 25), none⟩,
   ⟨(some (.E 27)), .mv (.E 26), none⟩,
   ⟨(some (.E 28)), .faddr 3 (.V 2), some ((.E 27), false)⟩,
   ⟨(some (.E 29)), .load false 1 (.E 28), some ((.E 27), false)⟩,
   ⟨(some (.E 30)), .len (.E 29), some ((.E 27), false)⟩,
   ⟨(some (.E 31)), .faddr 3 (.V 3), some ((.E 27), false)⟩,
   ⟨(some (.E 32)), .load false 1 (.E 31), some ((.E 27), false)⟩,
   ⟨(some (.E 33)), .len (.E 32), some ((.E 27), false)⟩,
   ⟨(some (.E 34)), .bin .neq (.E 30) (.E 33), some ((.E 27), false)⟩,
   ⟨(some (.E 35)), .pick (.E 27) (kb true) (.E 34), none⟩])
 (.cond (.E 35)
  (.seq (.reg [⟨(some (.V 4)), .mv (kb false), none⟩])
  (.ret))
  (.skip)))
 (.seq (.seq (.reg [⟨(some (.V 5)), .mv (ki 0), none⟩])
 (.block 0 (.loop k_spec_SameModel_b0)))
 (.seq (.reg [⟨(some (.V 4)), .mv (kb true), none⟩])
 (.ret))))

def k_spec_SameModel_rv : List RV := [.tmp [0] 4]

def k_laws_toModel_vars : List Nat := [0, 1, 3, 2]

def k_laws_toModel_ic : IC :=
 .seq (.reg [⟨(some (.V 1)), .box (.V 0), none⟩,
   ⟨(some (.V 2)), .alloc [.e0, .e0, (.v (.int .i64 0)), .e0], none⟩])
 (.seq (.reg [⟨(some (.V 3)), .alloc [.e0, .e0, (.v (.int .i64 0)), .e0], none⟩])
 (.seq (.reg [⟨(some (.E 4)), .faddr 0 (.V 1), none⟩,
   ⟨(some (.E 5)), .load false 1 (.E 4), none⟩,
   ⟨(some (.E 6)), .call k_laws_toStringS [([1], (.E 5))], none⟩,
   ⟨(some (.E 7)), .faddr 0 (.V 3), none⟩,
   ⟨none, .store [1] (.E 7) (.E 6), none⟩])
 (.seq (.reg [⟨(some (.E 8)), .faddr 1 (.V 1), none⟩,
   ⟨(some (.E 9)), .load false 1 (.E 8), none⟩,
   ⟨(some (.E 10)), .call k_laws_toIntS [([1], (.E 9))], none⟩,
   ⟨(some (.E 11)), .faddr 1 (.V 3), none⟩,
   ⟨none, .store [1] (.E 11) (.E 10), none⟩])
 (.seq (.reg [⟨(some (.E 12)), .faddr 2 (.V 1), none⟩,
   ⟨(some (.E 13)), .load false 1 (.E 12), none⟩,
   ⟨(some (.E 14)), .faddr 2 (.V 3), none⟩,
   ⟨none, .store [0] (.E 14) (.E 13), none⟩])
 (.seq (.reg [⟨(some (.E 15)), .faddr 3 (.V 1), none⟩,
   ⟨(some (.E 16)), .load false 1 (.E 15), none⟩,
   ⟨(some (.E 17)), .call k_laws_toTreeS [([1], (.E 16))], none⟩,
   ⟨(some (.E 18)), .faddr 3 (.V 3), none⟩,
   ⟨none, .store [1] (.E 18) (.E 17), none⟩])
 (.seq (.reg [⟨(some (.E 19)), .load true 4 (.V 3), none⟩,
   ⟨none, .store [1, 1, 0, 1] (.V 2) (.E 19), none⟩])
 (.ret)))))))

def k_laws_toModel_rv : List RV := [.cell [1, 1, 0, 1] 2 true]

def k_impl_SameModel_vars : List Nat := [0, 1, 2, 3, 4]

def k_impl_SameModel_ic : IC :=
 .seq (.reg [⟨(some (.V 2)), .box (.V 0), none⟩,
   ⟨(some (.V 3)), .box (.V 1), none⟩,
   ⟨(some (.V 4)), .mv (kb false), none⟩])
 (.seq (.reg [⟨(some (.E 5)), .faddr 0 (.V 2), none⟩,
   ⟨(some (.E 6)), .load false 1 (.E 5), none⟩,
   ⟨(some (.E 7)), .faddr 0 (.V 3), none⟩,
   ⟨(some (.E 8)), .load false 1 (.E 7), none⟩,
   ⟨(some (.E 9)), .call k_slices_Equal___string_string_ [([1], (.E 6)), ([1], (.E 8))], none⟩,
   ⟨(some (.E 10)), .mv (.E 9), none⟩,
   ⟨(some (.E 11)), .faddr 1 (.V 2), some ((.E 10), true)⟩,
   ⟨(some (.E 12)), .load false 1 (.E 11), some ((.E 10), true)⟩,
   ⟨(some (.E 13)), .faddr 1 (.V 3), some ((.E 10), true)⟩,
   ⟨(some (.E 14)), .load false 1 (.E 13), some ((.E 10), true)⟩,
   ⟨(some (.E 15)), .call k_slices_Equal___int_int_ [([1], (.E 12)), ([1], (.E 14))], some ((.E 10), true)⟩,
   ⟨(some (.E 16)), .pick (.E 10) (.E 15) (kb false), none⟩,
   ⟨(some (.E 17)), .mv (.E 16), none⟩,
   ⟨(some (.E 18)), .faddr 2 (.V 2), some ((.E 17), true)⟩,
   ⟨(some (.E 19)), .load false 1 (.E 18), some ((.E 17), true)⟩,
   ⟨(some (.E 20)), .faddr 2 (.V 3), some ((.E 17), true)⟩,
   ⟨(some (.E 21)), .load false 1 (.E 20), some ((.E 17), true)⟩,
   ⟨(some (.E 22)), .bin .eql (.E 19) (.E 21), some ((.E 17), true)⟩,
   ⟨(some (.E 23)), .pick (.E 17) (.E 22) (kb false), none⟩,
   ⟨(some (.E 24)), .mv (.E 23), none⟩,
   ⟨(some (.E 25)), .faddr 3 (.V 2), some ((.E 24), true)⟩,
   ⟨(some (.E 26)), .load false 1 (.E 25), some ((.E 24), true)⟩,
   ⟨(some (.E 27)), .faddr 3 (.V 3), some ((.E 24), true)⟩,
   ⟨(some (.E 28)), .load false 1 (.E 27), some ((.E 24), true)⟩,
   ⟨(some (.E 29)), .call k_slices_EqualFunc___impl_Tree___impl_Tree_impl_Tree_impl_Tree_ [([1], (.E 26)), ([1], (.E 28)), ([0], (.C (.fn k_impl_SameTree [])))], some ((.E 24), true)⟩,
   ⟨(some (.E 30)), .pick (.E 24) (.E 29) (kb false), none⟩,
   ⟨(some (.V 4)), .mv (.E 30), none⟩])
 (.ret))

def k_impl_SameModel_rv : List RV := [.tmp [0] 4]

def k_laws_eqModel_vars : List Nat := [0, 1, 2, 3, 4]

def k_laws_eqModel_ic : IC :=
 .seq (.reg [⟨(some (.V 2)), .box (.V 0), none⟩,
   ⟨(some (.V 3)), .box (.V 1), none⟩,
   ⟨(some (.V 4)), .mv (kb false), none⟩])
 (.seq (.seq (.reg [⟨(some (.E 5)), .faddr 0 (.V 2), none⟩,
   ⟨(some (.E 6)), .load false 1 (.E 5), none⟩,
   ⟨(some (.E 7)), .faddr 0 (.V 3), none⟩,
   ⟨(some (.E 8)), .load false 1 (.E 7), none⟩,
   ⟨(some (.E 9)), .call k_laws_eqStringS [([1], (.E 6)), ([1], (.E 8))], none⟩,
   ⟨(some (.E 10)), .un .not (.E 9), none⟩])
 (.cond (.E 10)
  (.seq (.reg [⟨(some (.V 4)), .mv (kb false), none⟩])
  (.ret))
  (.skip)))
 (.seq (.seq (.reg [⟨(some (.E 11)), .faddr 1 (.V 2), none⟩,
   ⟨(some (.E 12)), .load false 1 (.E 11), none⟩,
   ⟨(some (.E 13)), .faddr 1 (.V 3), none⟩,
   ⟨(some (.E 14)), .load false 1 (.E 13), none⟩,
   ⟨(some (.E 15)), .call k_laws_eqIntS [([1], (.E 12)), ([1], (.E 14))], none⟩,
   ⟨(some (.E 16)), .un .not (.E 15), none⟩])
 (.cond (.E 16)
  (.seq (.reg [⟨(some (.V 4)), .mv (kb false), none⟩])
  (.ret))
  (.skip)))
 (.seq (.seq (.reg [⟨(some (.E 17)), .faddr 2 (.V 2), none⟩,
   ⟨(some (.E 18)), .load false 1 (.E 17), none⟩,
   ⟨(some (.E 19)), .faddr 2 (.V 3), none⟩,
   ⟨(some (.E 20)), .load false 1 (.E 19), none⟩,
   ⟨(some (.E 21)), .bin .neq (.E 18) (.E 20), none⟩])
 (.cond (.E 21)
  (.seq (.reg [⟨(some (.V 4)), .mv (kb false), none⟩])
  (.ret))
  (.skip)))
 (.seq (.seq (.reg [⟨(some (.E 22)), .faddr 3 (.V 2), none⟩,
   ⟨(some (.E 23)), .load false 1 (.E 22), none⟩,
   ⟨(some (.E 24)), .faddr 3 (.V 3), none⟩,
   ⟨(some (.E 25)), .load false 1 (.E 24), none⟩,
   ⟨(some (.E 26)), .call k_laws_eqTreeS [([1], (.E 23)), ([1], (.E 25))], none⟩,
   ⟨(some (.E 27)), .un .not (.E 26), none⟩])
 (.cond (.E 27)
  (.seq (.reg [⟨(some (.V 4)), .mv (kb false), none⟩])
  (.ret))
  (.skip)))
 (.seq (.reg [⟨(some (.V 4)), .mv (kb true), none⟩])
 (.ret))))))

def k_laws_eqModel_rv : List RV := [.tmp [0] 4]

def k_laws_szTree_vars : List Nat := [0, 1, 2, 4]

def k_laws_szTree_ic : IC :=
 .seq (.reg [⟨(some (.V 2)), .box (.V 0), none⟩,
   ⟨(some (.V 4)), .mv (ki 0), none⟩])
 (.seq (.reg [⟨(some (.E 5)), .faddr 0 (.V 2), none⟩,
   ⟨(some (.E 6)), .load false 1 (.E 5), none⟩,
   ⟨(some (.E 7)), .mv (.V 1), none⟩,
   ⟨(some (.E 8)), .call k_laws_szNodeS [([5], (.E 6)), ([0], (.E 7))], none⟩,
   ⟨(some (.V 1)), .mv (.E 8), none⟩])
 (.seq (.seq (.reg [⟨(some (.E 9)), .mv (.V 1), none⟩,
   ⟨(some (.E 10)), .bin .lss (.E 9) (ki 0), none⟩])
 (.cond (.E 10)
  (.seq (.reg [⟨(some (.V 4)), .mv (ki (-1)), none⟩])
  (.ret))
  (.skip)))
 (.seq (.reg [⟨(some (.E 11)), .mv (.V 1), none⟩,
   ⟨(some (.V 4)), .mv (.E 11), none⟩])
 (.ret))))

def k_laws_szTree_rv : List RV := [.tmp [0] 4]

def k_laws_toTree_vars : List Nat := [0, 1, 3, 2]

def k_laws_toTree_ic : IC :=
 .seq (.reg [⟨(some (.V 1)), .box (.V 0), none⟩,
   ⟨(some (.V 2)), .alloc [.e0], none⟩])
 (.seq (.reg [⟨(some (.V 3)), .alloc [.e0], none⟩])
 (.seq (.reg [⟨(some (.E 4)), .faddr 0 (.V 1), none⟩,
   ⟨(some (.E 5)), .load false 1 (.E 4), none⟩,
   ⟨(some (.E 6)), .call k_laws_toNodeS [([5], (.E 5))], none⟩,
   ⟨(some (.E 7)), .faddr 0 (.V 3), none⟩,
   ⟨none, .store [5] (.E 7) (.E 6), none⟩])
 (.seq (.reg [⟨(some (.E 8)), .load true 1 (.V 3), none⟩,
   ⟨none, .store [5] (.V 2) (.E 8), none⟩])
 (.ret))))

def k_laws_toTree_rv : List RV := [.cell [5] 2 true]

def k_laws_eqTree_vars : List Nat := [0, 1, 2, 3, 4]

def k_laws_eqTree_ic : IC :=
 .seq (.reg [⟨(some (.V 2)), .box (.V 0), none⟩,
   ⟨(some (.V 3)), .box (.V 1), none⟩,
   ⟨(some (.V 4)), .mv (kb false), none⟩])
 (.seq (.seq (.reg [⟨(some (.E 5)), .faddr 0 (.V 2), none⟩,
   ⟨(some (.E 6)), .load false 1 (.E 5), none⟩,
   ⟨(some (.E 7)), .faddr 0 (.V 3), none⟩,
   ⟨(some (.E 8)), .load false 1 (.E 7), none⟩,
   ⟨(some (.E 9)), .call k_laws_eqNodeS [([5], (.E 6)), ([5], (.E 8))], none⟩,
   ⟨(some (.E 10)), .un .not (.E 9), none⟩])
 (.cond (.E 10)
  (.seq (.reg [⟨(some (.V 4)), .mv (kb false), none⟩])
  (.ret))
  (.skip)))
 (.seq (.reg [⟨(some (.V 4)), .mv (kb true), none⟩])
 (.ret)))

def k_laws_eqTree_rv : List RV := [.tmp [0] 4]

def k_laws_toIntS_vars : List Nat := [0, 4, 3, 2]

def k_laws_toIntS_b0 : IC :=
 .seq (.seq (.reg [⟨(some (.E 8)), .mv (.V 4), none⟩,
   ⟨(some (.E 9)), .mv (.V 0), none⟩,
   ⟨(some (.E 10)), .len (.E 9), none⟩,
   ⟨(some (.E 11)), .bin .lss (.E 8) (.E 10), none⟩])
 (.cond (.E 11)
  (.skip)
  (.exit 0)))
 (.seq (.block 1 (.reg [⟨(some (.E 14)), .mv (.V 3), none⟩,
    ⟨(some (.E 15)), .mv (.V 4), none⟩,
    ⟨(some (.E 16)), .mv (.V 0), none⟩,
    ⟨(some (.E 17)), .mv (.V 4), none⟩,
    ⟨(some (.E 18)), .iaddr 1 (.E 16) (.E 17), none⟩,
    ⟨(some (.E 19)), .load false 1 (.E 18), none⟩,
    ⟨(some (.E 20)), .iaddr 1 (.E 14) (.E 15), none⟩,
    ⟨none, .store [0] (.E 20) (.E 19), none⟩]))
 (.reg [⟨(some (.E 12)), .mv (.V 4), none⟩,
   ⟨(some (.E 13)), .bin .add (.E 12) (ki 1), none⟩,
   ⟨(some (.V 4)), .mv (.E 13), none⟩]))

def k_laws_toIntS_ic : IC :=
 .seq (.reg [⟨(some (.V 2)), .mv (.C .e0), none⟩])
 (.seq (.reg [⟨(some (.E 5)), .mv (.V 0), none⟩,
   ⟨(some (.E 6)), .len (.E 5), none⟩,
   ⟨(some (.E 7)), .mksl 8 1 [(.v (.int .i64 0))] (.E 6) (.E 6), none⟩,
   ⟨(some (.V 3)), .mv (.E 7), none⟩])
 (.seq (.seq (.reg [⟨(some (.V 4)), .mv (ki 0), none⟩])
 (.block 0 (.loop k_laws_toIntS_b0)))
 (.seq (.reg [⟨(some (.E 21)), .mv (.V 3), none⟩,
   ⟨(some (.V 2)), .mv (.E 21), none⟩])
 (.ret))))

def k_laws_toIntS_rv : List RV := [.tmp [1] 2]

def k_laws_eqIntS_vars : List Nat := [0, 1, 5, 4]

def k_laws_eqIntS_b0 : IC :=
 .seq (.seq (.reg [⟨(some (.E 11)), .mv (.V 5), none⟩,
   ⟨(some (.E 12)), .mv (.V 0), none⟩,
   ⟨(some (.E 13)), .len (.E 12), none⟩,
   ⟨(some (.E 14)), .bin .lss (.E 11) (.E 13), none⟩])
 (.cond (.E 14)
  (.skip)
  (.exit 0)))
 (.seq (.block 1 (.seq (.regD [(⟨(some (.E 17)), .mv (.V 0), none⟩, 0, 0),
    (⟨(some (.E 18)), .mv (.V 5), none⟩, 0, 0),
    (⟨(some (.E 19)), .iaddr 1 (.E 17) (.E 18), none⟩, 0, 0),
    (⟨(some (.E 20)), .load false 1 (.E 19), none⟩, 0, 0),
    (⟨(some (.E 21)), .mv (.V 1), none⟩, 0, 0),
    (⟨(some (.E 22)), .mv (.V 5), none⟩, 0, 0),
    (⟨(some (.E 23)), .iaddr 1 (.E 21) (.E 22), none⟩, 0, 0),
    (⟨(some (.E 24)), .load false 1 (.E 23), none⟩, 0, 0),
    (⟨(some (.E 25)), .bin .neq (.E 20) (.E 24), none⟩, 0, 0)])
  (.cond (.E 25)
   (.seq (.reg [⟨(some (.V 4)), .mv (kb false), none⟩])
   (.ret))
   (.skip))))
 (.reg [⟨(some (.E 15)), .mv (.V 5), none⟩,
   ⟨(some (.E 16)), .bin .add (.E 15) (ki 1), none⟩,
   ⟨(some (.V 5)), .mv (.E 16), none⟩]))

def k_laws_eqIntS_ic : IC :=
 .seq (.reg [⟨(some (.V 4)), .mv (kb false), none⟩])
 (.seq (.seq (.reg [⟨(some (.E 6)), .mv (.V 0), none⟩,
   ⟨(some (.E 7)), .len (.E 6), none⟩,
   ⟨(some (.E 8)), .mv (.V 1), none⟩,
   ⟨(some (.E 9)), .len (.E 8), none⟩,
   ⟨(some (.E 10)), .bin .neq (.E 7) (.E 9), none⟩])
 (.cond (.E 10)
  (.seq (.reg [⟨(some (.V 4)), .mv (kb false), none⟩])
  (.ret))
  (.skip)))
 (.seq (.seq (.reg [⟨(some (.V 5)), .mv (ki 0), none⟩])
 (.block 0 (.loop k_laws_eqIntS_b0)))
 (.seq (.reg [⟨(some (.V 4)), .mv (kb true), none⟩])
 (.ret))))

def k_laws_eqIntS_rv : List RV := [.tmp [0] 4]

def k_laws_szStringS_vars : List Nat := [0, 1, 5, 4]

def k_laws_szStringS_b0 : IC :=
 .seq (.seq (.reg [⟨(some (.E 12)), .mv (.V 5), none⟩,
   ⟨(some (.E 13)), .mv (.V 0), none⟩,
   ⟨(some (.E 14)), .len (.E 13), none⟩,
   ⟨(some (.E 15)), .bin .lss (.E 12) (.E 14), none⟩])
 (.cond (.E 15)
  (.skip)
  (.exit 0)))
 (.seq (.block 1 (.seq (.reg [⟨(some (.E 18)), .mv (.V 1), none⟩,
    ⟨(some (.E 19)), .mv (.V 0), none⟩,
    ⟨(some (.E 20)), .mv (.V 5), none⟩,
    ⟨(some (.E 21)), .iaddr 1 (.E 19) (.E 20), none⟩,
    ⟨(some (.E 22)), .load false 1 (.E 21), none⟩,
    ⟨(some (.E 23)), .lenS (.E 22), none⟩,
    ⟨(some (.E 24)), .bin .sub (.E 18) (.E 23), none⟩,
    ⟨(some (.V 1)), .mv (.E 24), none⟩])
  (.seq (.reg [⟨(some (.E 25)), .mv (.V 1), none⟩,
    ⟨(some (.E 26)), .bin .lss (.E 25) (ki 0), none⟩])
  (.cond (.E 26)
   (.seq (.reg [⟨(some (.V 4)), .mv (ki (-1)), none⟩])
   (.ret))
   (.skip)))))
 (.reg [⟨(some (.E 16)), .mv (.V 5), none⟩,
   ⟨(some (.E 17)), .bin .add (.E 16) (ki 1), none⟩,
   ⟨(some (.V 5)), .mv (.E 17), none⟩]))

def k_laws_szStringS_ic : IC :=
 .seq (.reg [⟨(some (.V 4)), .mv (ki 0), none⟩])
 (.seq (.reg [⟨(some (.E 6)), .mv (.V 1), none⟩,
   ⟨(some (.E 7)), .mv (.V 0), none⟩,
   ⟨(some (.E 8)), .len (.E 7), none⟩,
   ⟨(some (.E 9)), .bin .sub (.E 6) (.E 8), none⟩,
   ⟨(some (.V 1)), .mv (.E 9), none⟩])
 (.seq (.seq (.reg [⟨(some (.E 10)), .mv (.V 1), none⟩,
   ⟨(some (.E 11)), .bin .lss (.E 10) (ki 0), none⟩])
 (.cond (.E 11)
  (.seq (.reg [⟨(some (.V 4)), .mv (ki (-1)), none⟩])
  (.ret))
  (.skip)))
 (.seq (.seq (.reg [⟨(some (.V 5)), .mv (ki 0), none⟩])
 (.block 0 (.loop k_laws_szStringS_b0)))
 (.seq (.reg [⟨(some (.E 27)), .mv (.V 1), none⟩,
   ⟨(some (.V 4)), .mv (.E 27), none⟩])
 (.ret)))))

def k_laws_szStringS_rv : List RV := [.tmp [0] 4]

def k_laws_szIntS_vars : List Nat := [0, 1, 4]

def k_laws_szIntS_ic : IC :=
 .seq (.reg [⟨(some (.V 4)), .mv (ki 0), none⟩])
 (.seq (.reg [⟨(some (.E 5)), .mv (.V 1), none⟩,
   ⟨(some (.E 6)), .mv (.V 0), none⟩,
   ⟨(some (.E 7)), .len (.E 6), none⟩,
   ⟨(some (.E 8)), .bin .sub (.E 5) (.E 7), none⟩,
   ⟨(some (.V 1)), .mv (.E 8), none⟩])
 (.seq (.seq (.reg [⟨(some (.E 9)), .mv (.V 1), none⟩,
   ⟨(some (.E 10)), .bin .lss (.E 9) (ki 0), none⟩])
 (.cond (.E 10)
  (.seq (.reg [⟨(some (.V 4)), .mv (ki (-1)), none⟩])
  (.ret))
  (.skip)))
 (.seq (.reg [⟨(some (.E 11)), .mv (.V 1), none⟩,
   ⟨(some (.V 4)), .mv (.E 11), none⟩])
 (.ret))))

def k_laws_szIntS_rv : List RV := [.tmp [0] 4]

def k_laws_szTreeS_vars : List Nat := [0, 1, 5, 4]

def k_laws_szTreeS_b0 : IC :=
 .seq (.seq (.reg [⟨(some (.E 12)), .mv (.V 5), none⟩,
   ⟨(some (.E 13)), .mv (.V 0), none⟩,
   ⟨(some (.E 14)), .len (.E 13), none⟩,
   ⟨(some (.E 15)), .bin .lss (.E 12) (.E 14), none⟩])
 (.cond (.E 15)
  (.skip)
  (.exit 0)))
 (.seq (.block 1 (.seq (.reg [⟨(some (.E 18)), .mv (.V 0), none⟩,
    ⟨(some (.E 19)), .mv (.V 5), none⟩,
    ⟨(some (.E 20)), .iaddr 1 (.E 18) (.E 19), none⟩,
    ⟨(some (.E 21)), .load true 1 (.E 20), none⟩,
    ⟨(some (.E 22)), .mv (.V 1), none⟩,
    ⟨(some (.E 23)), .call k_laws_szTree [([5], (.E 21)), ([0], (.E 22))], none⟩,
    ⟨(some (.V 1)), .mv (.E 23), none⟩])
  (.seq (.reg [⟨(some (.E 24)), .mv (.V 1), none⟩,
    ⟨(some (.E 25)), .bin .lss (.E 24) (ki 0), none⟩])
  (.cond (.E 25)
   (.seq (.reg [⟨(some (.V 4)), .mv (ki (-1)), none⟩])
   (.ret))
   (.skip)))))
 (.reg [⟨(some (.E 16)), .mv (.V 5), none⟩,
   ⟨(some (.E 17)), .bin .add (.E 16) (ki 1), none⟩,
   ⟨(some (.V 5)), .mv (.E 17), none⟩]))

def k_laws_szTreeS_ic : IC :=
 .seq (.reg [⟨(some (.V 4)), .mv (ki 0), none⟩])
 (.seq (.reg [⟨(some (.E 6)), .mv (.V 1), none⟩,
   ⟨(some (.E 7)), .mv (.V 0), none⟩,
   ⟨(some (.E 8)), .len (.E 7), none⟩,
   ⟨(some (.E 9)), .bin .sub (.E 6) (.E 8), none⟩,
   ⟨(some (.V 1)), .mv (.E 9), none⟩])
 (.seq (.seq (.reg [⟨(some (.E 10)), .mv (.V 1), none⟩,
   ⟨(some (.E 11)), .bin .lss (.E 10) (ki 0), none⟩])
 (.cond (.E 11)
  (.seq (.reg [⟨(some (.V 4)), .mv (ki (-1)), none⟩])
  (.ret))
  (.skip)))
 (.seq (.seq (.reg [⟨(some (.V 5)), .mv (ki 0), none⟩])
 (.block 0 (.loop k_laws_szTreeS_b0)))
 (.seq (.reg [⟨(some (.E 26)), .mv (.V 1), none⟩,
   ⟨(some (.V 4)), .mv (.E 26), none⟩])
 (.ret)))))

def k_laws_szTreeS_rv : List RV := [.tmp [0] 4]

def k_spec_l9Texts_vars : List Nat := [0, 1, 4]

def k_spec_l9Texts_ic : IC :=
 .seq (.reg [⟨(some (.V 4)), .mv (kb false), none⟩])
 (.seq (.reg [⟨(some (.E 5)), .mv (.V 0), none⟩,
   ⟨(some (.E 6)), .bslice 1 1 [(.own 1 [])] [(0, (.E 5))], none⟩,
   ⟨(some (.E 7)), .mv (.V 1), none⟩,
   ⟨(some (.E 8)), .bslice 1 1 [(.own 1 [])] [(0, (.E 7))], none⟩,
   ⟨(some (.E 9)), .call k_spec_SameRows [([1], (.E 6)), ([1], (.E 8))], none⟩,
   ⟨(some (.V 4)), .mv (.E 9), none⟩])
 (.ret))

def k_spec_l9Texts_rv : List RV := [.tmp [0] 4]

def k_spec_l8Ints_vars : List Nat := [0, 1, 5, 4]

def k_spec_l8Ints_b0 : IC :=
 .seq (.seq (.reg [⟨(some (.E 11)), .mv (.V 5), none⟩,
   ⟨(some (.E 12)), .mv (.V 0), none⟩,
   ⟨(some (.E 13)), .len (.E 12), none⟩,
   ⟨(some (.E 14)), .bin .lss (.E 11) (.E 13), none⟩])
 (.cond (.E 14)
  (.skip)
  (.exit 0)))
 (.seq (.block 1 (.seq (.regD [(⟨(some (.E 17)), .mv (.V 0), none⟩, 0, 0),
    (⟨(some (.E 18)), .mv (.V 5), none⟩, 0, 0),
    (⟨(some (.E 19)), .iaddr 1 (.E 17) (.E 18), none⟩, 0, 0),
    (⟨(some (.E 20)), .load false 1 (.E 19), none⟩, 0, 0),
    (⟨(some (.E 21)), .mv (.V 1), none⟩, 0, 0),
    (⟨(some (.E 22)), .mv (.V 5), none⟩, 0, 0),
    (⟨(some (.E 23)), .iaddr 1 (.E 21) (.E 22), none⟩, 0, 0),
    (⟨(some (.E 24)), .load false 1 (.E 23), none⟩, 0, 0),
    (⟨(some (.E 25)), .bin .neq (.E 20) (.E 24), none⟩, 0, 0)])
  (.cond (.E 25)
   (.seq (.reg [⟨(some (.V 4)), .mv (kb false), none⟩])
   (.ret))
   (.skip))))
 (.reg [⟨(some (.E 15)), .mv (.V 5), none⟩,
   ⟨(some (.E 16)), .bin .add (.E 15) (ki 1), none⟩,
   ⟨(some (.V 5)), .mv (.E 16), none⟩]))

def k_spec_l8Ints_ic : IC :=
 .seq (.reg [⟨(some (.V 4)), .mv (kb false), none⟩])
 (.seq (.seq (.reg [⟨(some (.E 6)), .mv (.V 0), none⟩,
   ⟨(some (.E 7)), .len (.E 6), none⟩,
   ⟨(some (.E 8)), .mv (.V 1), none⟩,
   ⟨(some (.E 9)), .len (.E 8), none⟩,
   ⟨(some (.E 10)), .bin .neq (.E 7) (.E 9), none⟩])
 (.cond (.E 10)
  (.seq (.reg [⟨(some (.V 4)), .mv (kb false), none⟩])
  (.ret))
  (.skip)))
 (.seq (.seq (.reg [⟨(some (.V 5)), .mv (ki 0), none⟩])
 (.block 0 (.loop k_spec_l8Ints_b0)))
 (.seq (.reg [⟨(some (.V 4)), .mv (kb true), none⟩])
 (.ret))))

def k_spec_l8Ints_rv : List RV := [.tmp [0] 4]

def k_spec_SameTree_vars : List Nat := [0, 1, 2, 3, 5, 4]

def k_spec_SameTree_b0 : IC :=
 .seq (.seq (.reg [⟨(some (.E 13)), .mv (.V 5), none⟩,
   ⟨(some (.E 14)), .faddr 0 (.V 2), none⟩,
   ⟨(some (.E 15)), .load false 1 (.E 14), none⟩,
   ⟨(some (.E 16)), .len (.E 15), none⟩,
   ⟨(some (.E 17)), .bin .lss (.E 13) (.E 16), none⟩])
 (.cond (.E 17)
  (.skip)
  (.exit 0)))
 (.seq (.block 1 (.seq (.regD [(⟨(some (.E 20)), .faddr 0 (.V 2), none⟩, 0, 0),
    (⟨(some (.E 21)), .load false 1 (.E 20), none⟩, 0, 0),
    (⟨(some (.E 22)), .mv (.V 5), none⟩, 0, 0),
    (⟨(some (.E 23)), .iaddr 5 (.E 21) (.E 22), none⟩, 0, 0),
    (⟨(some (.E 24)), .load true 5 (.E 23), none⟩, 0, 0),
    (⟨(some (.E 25)), .faddr 0 (.V 3), none⟩, 0, 0),
    (⟨(some (.E 26)), .load false 1 (.E 25), none⟩, 0, 0),
    (⟨(some (.E 27)), .mv (.V 5), none⟩, 0, 0),
    (⟨(some (.E 28)), .iaddr 5 (.E 26) (.E 27), none⟩, 0, 0),
    (⟨(some (.E 29)), .load true 5 (.E 28), none⟩, 0, 0),
    (⟨(some (.E 30)), .eqb true [.i .i64, .i .i64, .i .i64, .i .i64, .i .i64] (.E 24) (.E 29), none⟩, 0, 0)])
  (.cond (.E 30)
   (.seq (.reg [⟨(some (.V 4)), .mv (kb false), none⟩])
   (.ret))
   (.skip))))
 (.reg [⟨(some (.E 18)), .mv (.V 5), none⟩,
   ⟨(some (.E 19)), .bin .add (.E 18) (ki 1), none⟩,
   ⟨(some (.V 5)), .mv (.E 19), none⟩]))

def k_spec_SameTree_ic : IC :=
 .seq (.reg [⟨(some (.V 2)), .box (.V 0), none⟩,
   ⟨(some (.V 3)), .box (.V 1), none⟩,
   ⟨(some (.V 4)), .mv (kb false), none⟩])
 (.seq (.seq (.reg [⟨(some (.E 6)), .faddr 0 (.V 2), none⟩,
   ⟨(some (.E 7)), .load false 1 (.E 6), none⟩,
   ⟨(some (.E 8)), .len (.E 7), none⟩,
   ⟨(some (.E 9)), .faddr 0 (.V 3), none⟩,
   ⟨(some (.E 10)), .load false 1 (.E 9), none⟩,
   ⟨(some (.E 11)), .len (.E 10), none⟩,
   ⟨(some (.E 12)), .bin .neq (.E 8) (.E 11), none⟩])
 (.cond (.E 12)
  (.seq (.reg [⟨(some (.V 4)), .mv (kb false), none⟩])
  (.ret))
  (.skip)))
 (.seq (.seq (.reg [⟨(some (.V 5)), .mv (ki 0), none⟩])
 (.block 0 (.loop k_spec_SameTree_b0)))
 (.seq (.reg [⟨(some (.V 4)), .mv (kb true), none⟩])
 (.ret))))

def k_spec_SameTree_rv : List RV := [.tmp [0] 4]

def k_laws_toStringS_vars : List Nat := [0, 4, 3, 2]

def k_laws_toStringS_b0 : IC :=
 .seq (.seq (.reg [⟨(some (.E 8)), .mv (.V 4), none⟩,
   ⟨(some (.E 9)), .mv (.V 0), none⟩,
   ⟨(some (.E 10)), .len (.E 9), none⟩,
   ⟨(some (.E 11)), .bin .lss (.E 8) (.E 10), none⟩])
 (.cond (.E 11)
  (.skip)
  (.exit 0)))
 (.seq (.block 1 (.reg [⟨(some (.E 14)), .mv (.V 3), none⟩,
    ⟨(some (.E 15)), .mv (.V 4), none⟩,
    ⟨(some (.E 16)), .mv (.V 0), none⟩,
    ⟨(some (.E 17)), .mv (.V 4), none⟩,
    ⟨(some (.E 18)), .iaddr 1 (.E 16) (.E 17), none⟩,
    ⟨(some (.E 19)), .load false 1 (.E 18), none⟩,
    ⟨(some (.E 20)), .iaddr 1 (.E 14) (.E 15), none⟩,
    ⟨none, .store [0] (.E 20) (.E 19), none⟩]))
 (.reg [⟨(some (.E 12)), .mv (.V 4), none⟩,
   ⟨(some (.E 13)), .bin .add (.E 12) (ki 1), none⟩,
   ⟨(some (.V 4)), .mv (.E 13), none⟩]))

def k_laws_toStringS_ic : IC :=
 .seq (.reg [⟨(some (.V 2)), .mv (.C .e0), none⟩])
 (.seq (.reg [⟨(some (.E 5)), .mv (.V 0), none⟩,
   ⟨(some (.E 6)), .len (.E 5), none⟩,
   ⟨(some (.E 7)), .mksl 16 1 [(.v (.string (bs [])))] (.E 6) (.E 6), none⟩,
   ⟨(some (.V 3)), .mv (.E 7), none⟩])
 (.seq (.seq (.reg [⟨(some (.V 4)), .mv (ki 0), none⟩])
 (.block 0 (.loop k_laws_toStringS_b0)))
 (.seq (.reg [⟨(some (.E 21)), .mv (.V 3), none⟩,
   ⟨(some (.V 2)), .mv (.E 21), none⟩])
 (.ret))))

def k_laws_toStringS_rv : List RV := [.tmp [1] 2]

def k_laws_toTreeS_vars : List Nat := [0, 4, 3, 2]

def k_laws_toTreeS_b0 : IC :=
 .seq (.seq (.reg [⟨(some (.E 8)), .mv (.V 4), none⟩,
   ⟨(some (.E 9)), .mv (.V 0), none⟩,
   ⟨(some (.E 10)), .len (.E 9), none⟩,
   ⟨(some (.E 11)), .bin .lss (.E 8) (.E 10), none⟩])
 (.cond (.E 11)
  (.skip)
  (.exit 0)))
 (.seq (.block 1 (.reg [⟨(some (.E 14)), .mv (.V 3), none⟩,
    ⟨(some (.E 15)), .mv (.V 4), none⟩,
    ⟨(some (.E 16)), .mv (.V 0), none⟩,
    ⟨(some (.E 17)), .mv (.V 4), none⟩,
    ⟨(some (.E 18)), .iaddr 1 (.E 16) (.E 17), none⟩,
    ⟨(some (.E 19)), .load true 1 (.E 18), none⟩,
    ⟨(some (.E 20)), .call k_laws_toTree [([5], (.E 19))], none⟩,
    ⟨(some (.E 21)), .iaddr 1 (.E 14) (.E 15), none⟩,
    ⟨none, .store [5] (.E 21) (.E 20), none⟩]))
 (.reg [⟨(some (.E 12)), .mv (.V 4), none⟩,
   ⟨(some (.E 13)), .bin .add (.E 12) (ki 1), none⟩,
   ⟨(some (.V 4)), .mv (.E 13), none⟩]))

def k_laws_toTreeS_ic : IC :=
 .seq (.reg [⟨(some (.V 2)), .mv (.C .e0), none⟩])
 (.seq (.reg [⟨(some (.E 5)), .mv (.V 0), none⟩,
   ⟨(some (.E 6)), .len (.E 5), none⟩,
   ⟨(some (.E 7)), .mksl 24 1 [(.own 5 [])] (.E 6) (.E 6), none⟩,
   ⟨(some (.V 3)), .mv (.E 7), none⟩])
 (.seq (.seq (.reg [⟨(some (.V 4)), .mv (ki 0), none⟩])
 (.block 0 (.loop k_laws_toTreeS_b0)))
 (.seq (.reg [⟨(some (.E 22)), .mv (.V 3), none⟩,
   ⟨(some (.V 2)), .mv (.E 22), none⟩])
 (.ret))))

def k_laws_toTreeS_rv : List RV := [.tmp [1] 2]

def k_slices_Equal___string_string__vars : List Nat := [0, 1, 13, 12, 5, 4]

def k_slices_Equal___string_string__b0 : IC :=
 .seq (.reg [⟨(some (.E 14)), .bin .lss (.V 13) (.V 12), none⟩])
 (.seq (.cond (.E 14)
  (.skip)
  (.exit 0))
 (.seq (.block 1 (.seq (.reg [⟨(some (.E 15)), .mv (.V 13), none⟩,
    ⟨(some (.V 5)), .mv (.E 15), none⟩])
  (.seq (.regD [(⟨(some (.E 16)), .mv (.V 0), none⟩, 0, 0),
    (⟨(some (.E 17)), .mv (.V 5), none⟩, 0, 0),
    (⟨(some (.E 18)), .iaddr 1 (.E 16) (.E 17), none⟩, 0, 0),
    (⟨(some (.E 19)), .load false 1 (.E 18), none⟩, 0, 0),
    (⟨(some (.E 20)), .mv (.V 1), none⟩, 0, 0),
    (⟨(some (.E 21)), .mv (.V 5), none⟩, 0, 0),
    (⟨(some (.E 22)), .iaddr 1 (.E 20) (.E 21), none⟩, 0, 0),
    (⟨(some (.E 23)), .load false 1 (.E 22), none⟩, 0, 0),
    (⟨(some (.E 24)), .bin .neq (.E 19) (.E 23), none⟩, 0, 0)])
  (.cond (.E 24)
   (.seq (.reg [⟨(some (.V 4)), .mv (kb false), none⟩])
   (.ret))
   (.skip)))))
 (.reg [⟨(some (.E 25)), .bin .add (.V 13) (ki 1), none⟩,
   ⟨(some (.V 13)), .mv (.E 25), none⟩])))

def k_slices_Equal___string_string__ic : IC :=
 .seq (.reg [⟨(some (.V 4)), .mv (kb false), none⟩])
 (.seq (.seq (.reg [⟨(some (.E 6)), .mv (.V 0), none⟩,
   ⟨(some (.E 7)), .len (.E 6), none⟩,
   ⟨(some (.E 8)), .mv (.V 1), none⟩,
   ⟨(some (.E 9)), .len (.E 8), none⟩,
   ⟨(some (.E 10)), .bin .neq (.E 7) (.E 9), none⟩])
 (.cond (.E 10)
  (.seq (.reg [⟨(some (.V 4)), .mv (kb false), none⟩])
  (.ret))
  (.skip)))
 (.seq (.seq (.reg [⟨(some (.E 11)), .mv (.V 0), none⟩,
   ⟨(some (.V 12)), .len (.E 11), none⟩,
   ⟨(some (.V 13)), .mv (ki 0), none⟩])
 (.block 0 (.loop k_slices_Equal___string_string__b0)))
 (.seq (.reg [⟨(some (.V 4)), .mv (kb true), none⟩])
 (.ret))))

def k_slices_Equal___string_string__rv : List RV := [.tmp [0] 4]

def k_slices_Equal___int_int__vars : List Nat := [0, 1, 13, 12, 5, 4]

def k_slices_Equal___int_int__b0 : IC :=
 .seq (.reg [⟨(some (.E 14)), .bin .lss (.V 13) (.V 12), none⟩])
 (.seq (.cond (.E 14)
  (.skip)
  (.exit 0))
 (.seq (.block 1 (.seq (.reg [⟨(some (.E 15)), .mv (.V 13), none⟩,
    ⟨(some (.V 5)), .mv (.E 15), none⟩])
  (.seq (.regD [(⟨(some (.E 16)), .mv (.V 0), none⟩, 0, 0),
    (⟨(some (.E 17)), .mv (.V 5), none⟩, 0, 0),
    (⟨(some (.E 18)), .iaddr 1 (.E 16) (.E 17), none⟩, 0, 0),
    (⟨(some (.E 19)), .load false 1 (.E 18), none⟩, 0, 0),
    (⟨(some (.E 20)), .mv (.V 1), none⟩, 0, 0),
    (⟨(some (.E 21)), .mv (.V 5), none⟩, 0, 0),
    (⟨(some (.E 22)), .iaddr 1 (.E 20) (.E 21), none⟩, 0, 0),
    (⟨(some (.E 23)), .load false 1 (.E 22), none⟩, 0, 0),
    (⟨(some (.E 24)), .bin .neq (.E 19) (.E 23), none⟩, 0, 0)])
  (.cond (.E 24)
   (.seq (.reg [⟨(some (.V 4)), .mv (kb false), none⟩])
   (.ret))
   (.skip)))))
 (.reg [⟨(some (.E 25)), .bin .add (.V 13) (ki 1), none⟩,
   ⟨(some (.V 13)), .mv (.E 25), none⟩])))

def k_slices_Equal___int_int__ic : IC :=
 .seq (.reg [⟨(some (.V 4)), .mv (kb false), none⟩])
 (.seq (.seq (.reg [⟨(some (.E 6)), .mv (.V 0), none⟩,
   ⟨(some (.E 7)), .len (.E 6), none⟩,
   ⟨(some (.E 8)), .mv (.V 1), none⟩,
   ⟨(some (.E 9)), .len (.E 8), none⟩,
   ⟨(some (.E 10)), .bin .neq (.E 7) (.E 9), none⟩])
 (.cond (.E 10)
  (.seq (.reg [⟨(some (.V 4)), .mv (kb false), none⟩])
  (.ret))
  (.skip)))
 (.seq (.seq (.reg [⟨(some (.E 11)), .mv (.V 0), none⟩,
   ⟨(some (.V 12)), .len (.E 11), none⟩,
   ⟨(some (.V 13)), .mv (ki 0), none⟩])
 (.block 0 (.loop k_slices_Equal___int_int__b0)))
 (.seq (.reg [⟨(some (.V 4)), .mv (kb true), none⟩])
 (.ret))))

def k_slices_Equal___int_int__rv : List RV := [.tmp [0] 4]

def k_slices_EqualFunc___impl_Tree___impl_Tree_impl_Tree_impl_Tree__vars : List Nat := [0, 1, 2, 17, 16, 15, 7, 8, 9, 6]

def k_slices_EqualFunc___impl_Tree___impl_Tree_impl_Tree_impl_Tree__b0 : IC :=
 .seq (.reg [⟨(some (.E 18)), .bin .lss (.V 17) (.V 16), none⟩])
 (.seq (.cond (.E 18)
  (.skip)
  (.exit 0))
 (.seq (.block 1 (.seq (.reg [⟨(some (.E 19)), .mv (.V 17), none⟩,
    ⟨(some (.E 20)), .iaddr 1 (.V 15) (.V 17), none⟩,
    ⟨(some (.E 21)), .load true 1 (.E 20), none⟩,
    ⟨(some (.V 8)), .alloc [.e0], none⟩,
    ⟨(some (.V 7)), .mv (.E 19), none⟩,
    ⟨none, .store [5] (.V 8) (.E 21), none⟩])
  (.seq (.reg [⟨(some (.E 22)), .mv (.V 1), none⟩,
    ⟨(some (.E 23)), .mv (.V 7), none⟩,
    ⟨(some (.E 24)), .iaddr 1 (.E 22) (.E 23), none⟩,
    ⟨(some (.E 25)), .load true 1 (.E 24), none⟩,
    ⟨(some (.V 9)), .alloc [.e0], none⟩,
    ⟨none, .store [5] (.V 9) (.E 25), none⟩])
  (.seq (.reg [⟨(some (.E 26)), .mv (.V 2), none⟩,
    ⟨(some (.E 27)), .load true 1 (.V 8), none⟩,
    ⟨(some (.E 28)), .load true 1 (.V 9), none⟩,
    ⟨(some (.E 29)), .callv (.E 26) [([5], (.E 27)), ([5], (.E 28))], none⟩,
    ⟨(some (.E 30)), .un .not (.E 29), none⟩])
  (.cond (.E 30)
   (.seq (.reg [⟨(some (.V 6)), .mv (kb false), none⟩])
   (.ret))
   (.skip))))))
 (.reg [⟨(some (.E 31)), .bin .add (.V 17) (ki 1), none⟩,
   ⟨(some (.V 17)), .mv (.E 31), none⟩])))

def k_slices_EqualFunc___impl_Tree___impl_Tree_impl_Tree_impl_Tree__ic : IC :=
 .seq (.reg [⟨(some (.V 6)), .mv (kb false), none⟩])
 (.seq (.seq (.reg [⟨(some (.E 10)), .mv (.V 0), none⟩,
   ⟨(some (.E 11)), .len (.E 10), none⟩,
   ⟨(some (.E 12)), .mv (.V 1), none⟩,
   ⟨(some (.E 13)), .len (.E 12), none⟩,
   ⟨(some (.E 14)), .bin .neq (.E 11) (.E 13), none⟩])
 (.cond (.E 14)
  (.seq (.reg [⟨(some (.V 6)), .mv (kb false), none⟩])
  (.ret))
  (.skip)))
 (.seq (.seq (.reg [⟨(some (.V 15)), .mv (.V 0), none⟩,
   ⟨(some (.V 16)), .len (.V 15), none⟩,
   ⟨(some (.V 17)), .mv (ki 0), none⟩])
 (.block 0 (.loop k_slices_EqualFunc___impl_Tree___impl_Tree_impl_Tree_impl_Tree__b0)))
 (.seq (.reg [⟨(some (.V 6)), .mv (kb true), none⟩])
 (.ret))))

def k_slices_EqualFunc___impl_Tree___impl_Tree_impl_Tree_impl_Tree__rv : List RV := [.tmp [0] 6]

def k_impl_SameTree_vars : List Nat := [0, 1, 2, 3, 4]

def k_impl_SameTree_ic : IC :=
 .seq (.reg [⟨(some (.V 2)), .box (.V 0), none⟩,
   ⟨(some (.V 3)), .box (.V 1), none⟩,
   ⟨(some (.V 4)), .mv (kb false), none⟩])
 (.seq (.reg [⟨(some (.E 5)), .faddr 0 (.V 2), none⟩,
   ⟨(some (.E 6)), .load false 1 (.E 5), none⟩,
   ⟨(some (.E 7)), .faddr 0 (.V 3), none⟩,
   ⟨(some (.E 8)), .load false 1 (.E 7), none⟩,
   ⟨(some (.E 9)), .call k_slices_Equal___impl_Node_impl_Node_ [([5], (.E 6)), ([5], (.E 8))], none⟩,
   ⟨(some (.V 4)), .mv (.E 9), none⟩])
 (.ret))

def k_impl_SameTree_rv : List RV := [.tmp [0] 4]

def k_laws_eqStringS_vars : List Nat := [0, 1, 5, 4]

def k_laws_eqStringS_b0 : IC :=
 .seq (.seq (.reg [⟨(some (.E 11)), .mv (.V 5), none⟩,
   ⟨(some (.E 12)), .mv (.V 0), none⟩,
   ⟨(some (.E 13)), .len (.E 12), none⟩,
   ⟨(some (.E 14)), .bin .lss (.E 11) (.E 13), none⟩])
 (.cond (.E 14)
  (.skip)
  (.exit 0)))
 (.seq (.block 1 (.seq (.regD [(⟨(some (.E 17)), .mv (.V 0), none⟩, 0, 0),
    (⟨(some (.E 18)), .mv (.V 5), none⟩, 0, 0),
    (⟨(some (.E 19)), .iaddr 1 (.E 17) (.E 18), none⟩, 0, 0),
    (⟨(some (.E 20)), .load false 1 (.E 19), none⟩, 0, 0),
    (⟨(some (.E 21)), .mv (.V 1), none⟩, 0, 0),
    (⟨(some (.E 22)), .mv (.V 5), none⟩, 0, 0),
    (⟨(some (.E 23)), .iaddr 1 (.E 21) (.E 22), none⟩, 0, 0),
    (⟨(some (.E 24)), .load false 1 (.E 23), none⟩, 0, 0),
    (⟨(some (.E 25)), .bin .neq (.E 20) (.E 24), none⟩, 0, 0)])
  (.cond (.E 25)
   (.seq (.reg [⟨(some (.V 4)), .mv (kb false), none⟩])
   (.ret))
   (.skip))))
 (.reg [⟨(some (.E 15)), .mv (.V 5), none⟩,
   ⟨(some (.E 16)), .bin .add (.E 15) (ki 1), none⟩,
   ⟨(some (.V 5)), .mv (.E 16), none⟩]))

def k_laws_eqStringS_ic : IC :=
 .seq (.reg [⟨(some (.V 4)), .mv (kb false), none⟩])
 (.seq (.seq (.reg [⟨(some (.E 6)), .mv (.V 0), none⟩,
   ⟨(some (.E 7)), .len (.E 6), none⟩,
   ⟨(some (.E 8)), .mv (.V 1), none⟩,
   ⟨(some (.E 9)), .len (.E 8), none⟩,
   ⟨(some (.E 10)), .bin .neq (.E 7) (.E 9), none⟩])
 (.cond (.E 10)
  (.seq (.reg [⟨(some (.V 4)), .mv (kb false), none⟩])
  (.ret))
  (.skip)))
 (.seq (.seq (.reg [⟨(some (.V 5)), .mv (ki 0), none⟩])
 (.block 0 (.loop k_laws_eqStringS_b0)))
 (.seq (.reg [⟨(some (.V 4)), .mv (kb true), none⟩])
 (.ret))))

def k_laws_eqStringS_rv : List RV := [.tmp [0] 4]

def k_laws_eqTreeS_vars : List Nat := [0, 1, 5, 4]

def k_laws_eqTreeS_b0 : IC :=
 .seq (.seq (.reg [⟨(some (.E 11)), .mv (.V 5), none⟩,
   ⟨(some (.E 12)), .mv (.V 0), none⟩,
   ⟨(some (.E 13)), .len (.E 12), none⟩,
   ⟨(some (.E 14)), .bin .lss (.E 11) (.E 13), none⟩])
 (.cond (.E 14)
  (.skip)
  (.exit 0)))
 (.seq (.block 1 (.seq (.regD [(⟨(some (.E 17)), .mv (.V 0), none⟩, 0, 0),
    (⟨(some (.E 18)), .mv (.V 5), none⟩, 0, 0),
    (⟨(some (.E 19)), .iaddr 1 (.E 17) (.E 18), none⟩, 0, 0),
    (⟨(some (.E 20)), .load true 1 (.E 19), none⟩, 0, 0),
    (⟨(some (.E 21)), .mv (.V 1), none⟩, 0, 0),
    (⟨(some (.E 22)), .mv (.V 5), none⟩, 0, 0),
    (⟨(some (.E 23)), .iaddr 1 (.E 21) (.E 22), none⟩, 0, 0),
    (⟨(some (.E 24)), .load true 1 (.E 23), none⟩, 0, 0),
    (⟨(some (.E 25)), .call k_laws_eqTree [([5], (.E 20)), ([5], (.E 24))], none⟩, 0, 0),
    (⟨(some (.E 26)), .un .not (.E 25), none⟩, 0, 0)])
  (.cond (.E 26)
   (.seq (.reg [⟨(some (.V 4)), .mv (kb false), none⟩])
   (.ret))
   (.skip))))
 (.reg [⟨(some (.E 15)), .mv (.V 5), none⟩,
   ⟨(some (.E 16)), .bin .add (.E 15) (ki 1), none⟩,
   ⟨(some (.V 5)), .mv (.E 16), none⟩]))

def k_laws_eqTreeS_ic : IC :=
 .seq (.reg [⟨(some (.V 4)), .mv (kb false), none⟩])
 (.seq (.seq (.reg [⟨(some (.E 6)), .mv (.V 0), none⟩,
   ⟨(some (.E 7)), .len (.E 6), none⟩,
   ⟨(some (.E 8)), .mv (.V 1), none⟩,
   ⟨(some (.E 9)), .len (.E 8), none⟩,
   ⟨(some (.E 10)), .bin .neq (.E 7) (.E 9), none⟩])
 (.cond (.E 10)
  (.seq (.reg [⟨(some (.V 4)), .mv (kb false), none⟩])
  (.ret))
  (.skip)))
 (.seq (.seq (.reg [⟨(some (.V 5)), .mv (ki 0), none⟩])
 (.block 0 (.loop k_laws_eqTreeS_b0)))
 (.seq (.reg [⟨(some (.V 4)), .mv (kb true), none⟩])
 (.ret))))

def k_laws_eqTreeS_rv : List RV := [.tmp [0] 4]

def k_laws_szNodeS_vars : List Nat := [0, 1, 4]

def k_laws_szNodeS_ic : IC :=
 .seq (.reg [⟨(some (.V 4)), .mv (ki 0), none⟩])
 (.seq (.reg [⟨(some (.E 5)), .mv (.V 1), none⟩,
   ⟨(some (.E 6)), .mv (.V 0), none⟩,
   ⟨(some (.E 7)), .len (.E 6), none⟩,
   ⟨(some (.E 8)), .bin .sub (.E 5) (.E 7), none⟩,
   ⟨(some (.V 1)), .mv (.E 8), none⟩])
 (.seq (.seq (.reg [⟨(some (.E 9)), .mv (.V 1), none⟩,
   ⟨(some (.E 10)), .bin .lss (.E 9) (ki 0), none⟩])
 (.cond (.E 10)
  (.seq (.reg [⟨(some (.V 4)), .mv (ki (-1)), none⟩])
  (.ret))
  (.skip)))
 (.seq (.reg [⟨(some (.E 11)), .mv (.V 1), none⟩,
   ⟨(some (.V 4)), .mv (.E 11), none⟩])
 (.ret))))

def k_laws_szNodeS_rv : List RV := [.tmp [0] 4]

def k_laws_toNodeS_vars : List Nat := [0, 4, 3, 2]

def k_laws_toNodeS_b0 : IC :=
 .seq (.seq (.reg [⟨(some (.E 8)), .mv (.V 4), none⟩,
   ⟨(some (.E 9)), .mv (.V 0), none⟩,
   ⟨(some (.E 10)), .len (.E 9), none⟩,
   ⟨(some (.E 11)), .bin .lss (.E 8) (.E 10), none⟩])
 (.cond (.E 11)
  (.skip)
  (.exit 0)))
 (.seq (.block 1 (.reg [⟨(some (.E 14)), .mv (.V 3), none⟩,
    ⟨(some (.E 15)), .mv (.V 4), none⟩,
    ⟨(some (.E 16)), .mv (.V 0), none⟩,
    ⟨(some (.E 17)), .mv (.V 4), none⟩,
    ⟨(some (.E 18)), .iaddr 5 (.E 16) (.E 17), none⟩,
    ⟨(some (.E 19)), .load true 5 (.E 18), none⟩,
    ⟨(some (.E 20)), .call k_laws_toNode [([0, 0, 0, 0, 0], (.E 19))], none⟩,
    ⟨(some (.E 21)), .iaddr 5 (.E 14) (.E 15), none⟩,
    ⟨none, .store [0, 0, 0, 0, 0] (.E 21) (.E 20), none⟩]))
 (.reg [⟨(some (.E 12)), .mv (.V 4), none⟩,
   ⟨(some (.E 13)), .bin .add (.E 12) (ki 1), none⟩,
   ⟨(some (.V 4)), .mv (.E 13), none⟩]))

def k_laws_toNodeS_ic : IC :=
 .seq (.reg [⟨(some (.V 2)), .mv (.C .e0), none⟩])
 (.seq (.reg [⟨(some (.E 5)), .mv (.V 0), none⟩,
   ⟨(some (.E 6)), .len (.E 5), none⟩,
   ⟨(some (.E 7)), .mksl 40 5 [(.v (.int .i64 0)), (.v (.int .i64 0)), (.v (.int .i64 0)), (.v (.int .i64 0)), (.v (.int .i64 0))] (.E 6) (.E 6), none⟩,
   ⟨(some (.V 3)), .mv (.E 7), none⟩])
 (.seq (.seq (.reg [⟨(some (.V 4)), .mv (ki 0), none⟩])
 (.block 0 (.loop k_laws_toNodeS_b0)))
 (.seq (.reg [⟨(some (.E 22)), .mv (.V 3), none⟩,
   ⟨(some (.V 2)), .mv (.E 22), none⟩])
 (.ret))))

def k_laws_toNodeS_rv : List RV := [.tmp [5] 2]

def k_laws_eqNodeS_vars : List Nat := [0, 1, 5, 4]

def k_laws_eqNodeS_b0 : IC :=
 .seq (.seq (.reg [⟨(some (.E 11)), .mv (.V 5), none⟩,
   ⟨(some (.E 12)), .mv (.V 0), none⟩,
   ⟨(some (.E 13)), .len (.E 12), none⟩,
   ⟨(some (.E 14)), .bin .lss (.E 11) (.E 13), none⟩])
 (.cond (.E 14)
  (.skip)
  (.exit 0)))
 (.seq (.block 1 (.seq (.regD [(⟨(some (.E 17)), .mv (.V 0), none⟩, 0, 0),
    (⟨(some (.E 18)), .mv (.V 5), none⟩, 0, 0),
    (⟨(some (.E 19)), .iaddr 5 (.E 17) (.E 18), none⟩, 0, 0),
    (⟨(some (.E 20)), .load true 5 (.E 19), none⟩, 0, 0),
    (⟨(some (.E 21)), .mv (.V 1), none⟩, 0, 0),
    (⟨(some (.E 22)), .mv (.V 5), none⟩, 0, 0),
    (⟨(some (.E 23)), .iaddr 5 (.E 21) (.E 22), none⟩, 0, 0),
    (⟨(some (.E 24)), .load true 5 (.E 23), none⟩, 0, 0),
    (⟨(some (.E 25)), .call k_laws_eqNode [([0, 0, 0, 0, 0], (.E 20)), ([0, 0, 0, 0, 0], (.E 24))], none⟩, 0, 0),
    (⟨(some (.E 26)), .un .not (.E 25), none⟩, 0, 0)])
  (.cond (.E 26)
   (.seq (.reg [⟨(some (.V 4)), .mv (kb false), none⟩])
   (.ret))
   (.skip))))
 (.reg [⟨(some (.E 15)), .mv (.V 5), none⟩,
   ⟨(some (.E 16)), .bin .add (.E 15) (ki 1), none⟩,
   ⟨(some (.V 5)), .mv (.E 16), none⟩]))

def k_laws_eqNodeS_ic : IC :=
 .seq (.reg [⟨(some (.V 4)), .mv (kb false), none⟩])
 (.seq (.seq (.reg [⟨(some (.E 6)), .mv (.V 0), none⟩,
   ⟨(some (.E 7)), .len (.E 6), none⟩,
   ⟨(some (.E 8)), .mv (.V 1), none⟩,
   ⟨(some (.E 9)), .len (.E 8), none⟩,
   ⟨(some (.E 10)), .bin .neq (.E 7) (.E 9), none⟩])
 (.cond (.E 10)
  (.seq (.reg [⟨(some (.V 4)), .mv (kb false), none⟩])
  (.ret))
  (.skip)))
 (.seq (.seq (.reg [⟨(some (.V 5)), .mv (ki 0), none⟩])
 (.block 0 (.loop k_laws_eqNodeS_b0)))
 (.seq (.reg [⟨(some (.V 4)), .mv (kb true), none⟩])
 (.ret))))

def k_laws_eqNodeS_rv : List RV := [.tmp [0] 4]

def k_spec_SameRows_vars : List Nat := [0, 1, 5, 6, 4]

def k_spec_SameRows_b0 : IC :=
 .seq (.seq (.reg [⟨(some (.E 29)), .mv (.V 6), none⟩,
   ⟨(some (.E 30)), .mv (.V 0), none⟩,
   ⟨(some (.E 31)), .mv (.V 5), none⟩,
   ⟨(some (.E 32)), .iaddr 1 (.E 30) (.E 31), none⟩,
   ⟨(some (.E 33)), .load false 1 (.E 32), none⟩,
   ⟨(some (.E 34)), .len (.E 33), none⟩,
   ⟨(some (.E 35)), .bin .lss (.E 29) (.E 34), none⟩])
 (.cond (.E 35)
  (.skip)
  (.exit 2)))
 (.seq (.block 3 (.seq (.regD [(⟨(some (.E 38)), .mv (.V 0), none⟩, 0, 0),
    (⟨(some (.E 39)), .mv (.V 5), none⟩, 0, 0),
    (⟨(some (.E 40)), .iaddr 1 (.E 38) (.E 39), none⟩, 0, 0),
    (⟨(some (.E 41)), .load false 1 (.E 40), none⟩, 0, 0),
    (⟨(some (.E 42)), .mv (.V 6), none⟩, 0, 0),
    (⟨(some (.E 43)), .iaddr 1 (.E 41) (.E 42), none⟩, 0, 0),
    (⟨(some (.E 44)), .load false 1 (.E 43), none⟩, 0, 0),
    (⟨(some (.E 45)), .mv (.V 1), none⟩, 0, 0),
    (⟨(some (.E 46)), .mv (.V 5), none⟩, 0, 0),
    (⟨(some (.E 47)), .iaddr 1 (.E 45) (.E 46), none⟩, 0, 0),
    (⟨(some (.E 48)), .load false 1 (.E 47), none⟩, 0, 0),
    (⟨(some (.E 49)), .mv (.V 6), none⟩, 0, 0),
    (⟨(some (.E 50)), .iaddr 1 (.E 48) (.E 49), none⟩, 0, 0),
    (⟨(some (.E 51)), .load false 1 (.E 50), none⟩, 0, 0),
    (⟨(some (.E 52)), .bin .neq (.E 44) (.E 51), none⟩, 0, 0)])
  (.cond (.E 52)
   (.seq (.reg [⟨(some (.V 4)), .mv (kb false), none⟩])
   (.ret))
   (.skip))))
 (.reg [⟨(some (.E 36)), .mv (.V 6), none⟩,
   ⟨(some (.E 37)), .bin .add (.E 36) (ki 1), none⟩,
   ⟨(some (.V 6)), .mv (.E 37), none⟩]))

def k_spec_SameRows_b1 : IC :=
 .seq (.seq (.reg [⟨(some (.E 12)), .mv (.V 5), none⟩,
   ⟨(some (.E 13)), .mv (.V 0), none⟩,
   ⟨(some (.E 14)), .len (.E 13), none⟩,
   ⟨(some (.E 15)), .bin .lss (.E 12) (.E 14), none⟩])
 (.cond (.E 15)
  (.skip)
  (.exit 0)))
 (.seq (.block 1 (.seq (.seq (.regD [(⟨(some (.E 18)), .mv (.V 0), none⟩, 0, 0),
    (⟨(some (.E 19)), .mv (.V 5), none⟩, 0, 0),
    (⟨(some (.E 20)), .iaddr 1 (.E 18) (.E 19), none⟩, 0, 0),
    (⟨(some (.E 21)), .load false 1 (.E 20), none⟩, 0, 0),
    (⟨(some (.E 22)), .len (.E 21), none⟩, 0, 0),
    (⟨(some (.E 23)), .mv (.V 1), none⟩, 0, 0),
    (⟨(some (.E 24)), .mv (.V 5), none⟩, 0, 0),
    (⟨(some (.E 25)), .iaddr 1 (.E 23) (.E 24), none⟩, 0, 0),
    (⟨(some (.E 26)), .load false 1 (.E 25), none⟩, 0, 0),
    (⟨(some (.E 27)), .len (.E 26), none⟩, 0, 0),
    (⟨(some (.E 28)), .bin .neq (.E 22) (.E 27), none⟩, 0, 0)])
  (.cond (.E 28)
   (.seq (.reg [⟨(some (.V 4)), .mv (kb false), none⟩])
   (.ret))
   (.skip)))
  (.seq (.reg [⟨(some (.V 6)), .mv (ki 0), none⟩])
  (.block 2 (.loop k_spec_SameRows_b0)))))
 (.reg [⟨(some (.E 16)), .mv (.V 5), none⟩,
   ⟨(some (.E 17)), .bin .add (.E 16) (ki 1), none⟩,
   ⟨(some (.V 5)), .mv (.E 17), none⟩]))

def k_spec_SameRows_ic : IC :=
 .seq (.reg [⟨(some (.V 4)), .mv (kb false), none⟩])
 (.seq (.seq (.reg [⟨(some (.E 7)), .mv (.V 0), none⟩,
   ⟨(some (.E 8)), .len (.E 7), none⟩,
   ⟨(some (.E 9)), .mv (.V 1), none⟩,
   ⟨(some (.E 10)), .len (.E 9), none⟩,
   ⟨(some (.E 11)), .bin .neq (.E 8) (.E 10), none⟩])
 (.cond (.E 11)
  (.seq (.reg [⟨(some (.V 4)), .mv (kb false), none⟩])
  (.ret))
  (.skip)))
 (.seq (.seq (.reg [⟨(some (.V 5)), .mv (ki 0), none⟩])
 (.block 0 (.loop k_spec_SameRows_b1)))
 (.seq (.reg [⟨(some (.V 4)), .mv (kb true), none⟩])
 (.ret))))

def k_spec_SameRows_rv : List RV := [.tmp [0] 4]

def k_slices_Equal___impl_Node_impl_Node__vars : List Nat := [0, 1, 13, 12, 5, 4]

def k_slices_Equal___impl_Node_impl_Node__b0 : IC :=
 .seq (.reg [⟨(some (.E 14)), .bin .lss (.V 13) (.V 12), none⟩])
 (.seq (.cond (.E 14)
  (.skip)
  (.exit 0))
 (.seq (.block 1 (.seq (.reg [⟨(some (.E 15)), .mv (.V 13), none⟩,
    ⟨(some (.V 5)), .mv (.E 15), none⟩])
  (.seq (.regD [(⟨(some (.E 16)), .mv (.V 0), none⟩, 0, 0),
    (⟨(some (.E 17)), .mv (.V 5), none⟩, 0, 0),
    (⟨(some (.E 18)), .iaddr 5 (.E 16) (.E 17), none⟩, 0, 0),
    (⟨(some (.E 19)), .load true 5 (.E 18), none⟩, 0, 0),
    (⟨(some (.E 20)), .mv (.V 1), none⟩, 0, 0),
    (⟨(some (.E 21)), .mv (.V 5), none⟩, 0, 0),
    (⟨(some (.E 22)), .iaddr 5 (.E 20) (.E 21), none⟩, 0, 0),
    (⟨(some (.E 23)), .load true 5 (.E 22), none⟩, 0, 0),
    (⟨(some (.E 24)), .eqb true [.i .i64, .i .i64, .i .i64, .i .i64, .i .i64] (.E 19) (.E 23), none⟩, 0, 0)])
  (.cond (.E 24)
   (.seq (.reg [⟨(some (.V 4)), .mv (kb false), none⟩])
   (.ret))
   (.skip)))))
 (.reg [⟨(some (.E 25)), .bin .add (.V 13) (ki 1), none⟩,
   ⟨(some (.V 13)), .mv (.E 25), none⟩])))

def k_slices_Equal___impl_Node_impl_Node__ic : IC :=
 .seq (.reg [⟨(some (.V 4)), .mv (kb false), none⟩])
 (.seq (.seq (.reg [⟨(some (.E 6)), .mv (.V 0), none⟩,
   ⟨(some (.E 7)), .len (.E 6), none⟩,
   ⟨(some (.E 8)), .mv (.V 1), none⟩,
   ⟨(some (.E 9)), .len (.E 8), none⟩,
   ⟨(some (.E 10)), .bin .neq (.E 7) (.E 9), none⟩])
 (.cond (.E 10)
  (.seq (.reg [⟨(some (.V 4)), .mv (kb false), none⟩])
  (.ret))
  (.skip)))
 (.seq (.seq (.reg [⟨(some (.E 11)), .mv (.V 0), none⟩,
   ⟨(some (.V 12)), .len (.E 11), none⟩,
   ⟨(some (.V 13)), .mv (ki 0), none⟩])
 (.block 0 (.loop k_slices_Equal___impl_Node_impl_Node__b0)))
 (.seq (.reg [⟨(some (.V 4)), .mv (kb true), none⟩])
 (.ret))))

def k_slices_Equal___impl_Node_impl_Node__rv : List RV := [.tmp [0] 4]

def k_laws_toNode_vars : List Nat := [0, 1, 3, 2]

def k_laws_toNode_ic : IC :=
 .seq (.reg [⟨(some (.V 1)), .box (.V 0), none⟩,
   ⟨(some (.V 2)), .alloc [(.v (.int .i64 0)), (.v (.int .i64 0)), (.v (.int .i64 0)), (.v (.int .i64 0)), (.v (.int .i64 0))], none⟩])
 (.seq (.reg [⟨(some (.V 3)), .alloc [(.v (.int .i64 0)), (.v (.int .i64 0)), (.v (.int .i64 0)), (.v (.int .i64 0)), (.v (.int .i64 0))], none⟩])
 (.seq (.reg [⟨(some (.E 4)), .faddr 0 (.V 1), none⟩,
   ⟨(some (.E 5)), .load false 1 (.E 4), none⟩,
   ⟨(some (.E 6)), .faddr 0 (.V 3), none⟩,
   ⟨none, .store [0] (.E 6) (.E 5), none⟩])
 (.seq (.reg [⟨(some (.E 7)), .faddr 1 (.V 1), none⟩,
   ⟨(some (.E 8)), .load false 1 (.E 7), none⟩,
   ⟨(some (.E 9)), .faddr 1 (.V 3), none⟩,
   ⟨none, .store [0] (.E 9) (.E 8), none⟩])
 (.seq (.reg [⟨(some (.E 10)), .faddr 2 (.V 1), none⟩,
   ⟨(some (.E 11)), .load false 1 (.E 10), none⟩,
   ⟨(some (.E 12)), .faddr 2 (.V 3), none⟩,
   ⟨none, .store [0] (.E 12) (.E 11), none⟩])
 (.seq (.reg [⟨(some (.E 13)), .faddr 3 (.V 1), none⟩,
   ⟨(some (.E 14)), .load false 1 (.E 13), none⟩,
   ⟨(some (.E 15)), .faddr 3 (.V 3), none⟩,
   ⟨none, .store [0] (.E 15) (.E 14), none⟩])
 (.seq (.reg [⟨(some (.E 16)), .faddr 4 (.V 1), none⟩,
   ⟨(some (.E 17)), .load false 1 (.E 16), none⟩,
   ⟨(some (.E 18)), .faddr 4 (.V 3), none⟩,
   ⟨none, .store [0] (.E 18) (.E 17), none⟩])
 (.seq (.reg [⟨(some (.E 19)), .load true 5 (.V 3), none⟩,
   ⟨none, .store [0, 0, 0, 0, 0] (.V 2) (.E 19), none⟩])
 (.ret))))))))

def k_laws_toNode_rv : List RV := [.cell [0, 0, 0, 0, 0] 2 true]

def k_laws_eqNode_vars : List Nat := [0, 1, 2, 3, 4]

def k_laws_eqNode_ic : IC :=
 .seq (.reg [⟨(some (.V 2)), .box (.V 0), none⟩,
   ⟨(some (.V 3)), .box (.V 1), none⟩,
   ⟨(some (.V 4)), .mv (kb false), none⟩])
 (.seq (.seq (.reg [⟨(some (.E 5)), .faddr 0 (.V 2), none⟩,
   ⟨(some (.E 6)), .load false 1 (.E 5), none⟩,
   ⟨(some (.E 7)), .faddr 0 (.V 3), none⟩,
   ⟨(some (.E 8)), .load false 1 (.E 7), none⟩,
   ⟨(some (.E 9)), .bin .neq (.E 6) (.E 8), none⟩])
 (.cond (.E 9)
  (.seq (.reg [⟨(some (.V 4)), .mv (kb false), none⟩])
  (.ret))
  (.skip)))
 (.seq (.seq (.reg [⟨(some (.E 10)), .faddr 1 (.V 2), none⟩,
   ⟨(some (.E 11)), .load false 1 (.E 10), none⟩,
   ⟨(some (.E 12)), .faddr 1 (.V 3), none⟩,
   ⟨(some (.E 13)), .load false 1 (.E 12), none⟩,
   ⟨(some (.E 14)), .bin .neq (.E 11) (.E 13), none⟩])
 (.cond (.E 14)
  (.seq (.reg [⟨(some (.V 4)), .mv (kb false), none⟩])
  (.ret))
  (.skip)))
 (.seq (.seq (.reg [⟨(some (.E 15)), .faddr 2 (.V 2), none⟩,
   ⟨(some (.E 16)), .load false 1 (.E 15), none⟩,
   ⟨(some (.E 17)), .faddr 2 (.V 3), none⟩,
   ⟨(some (.E 18)), .load false 1 (.E 17), none⟩,
   ⟨(some (.E 19)), .bin .neq (.E 16) (.E 18), none⟩])
 (.cond (.E 19)
  (.seq (.reg [⟨(some (.V 4)), .mv (kb false), none⟩])
  (.ret))
  (.skip)))
 (.seq (.seq (.reg [⟨(some (.E 20)), .faddr 3 (.V 2), none⟩,
   ⟨(some (.E 21)), .load false 1 (.E 20), none⟩,
   ⟨(some (.E 22)), .faddr 3 (.V 3), none⟩,
   ⟨(some (.E 23)), .load false 1 (.E 22), none⟩,
   ⟨(some (.E 24)), .bin .neq (.E 21) (.E 23), none⟩])
 (.cond (.E 24)
  (.seq (.reg [⟨(some (.V 4)), .mv (kb false), none⟩])
  (.ret))
  (.skip)))
 (.seq (.seq (.reg [⟨(some (.E 25)), .faddr 4 (.V 2), none⟩,
   ⟨(some (.E 26)), .load false 1 (.E 25), none⟩,
   ⟨(some (.E 27)), .faddr 4 (.V 3), none⟩,
   ⟨(some (.E 28)), .load false 1 (.E 27), none⟩,
   ⟨(some (.E 29)), .bin .neq (.E 26) (.E 28), none⟩])
 (.cond (.E 29)
  (.seq (.reg [⟨(some (.V 4)), .mv (kb false), none⟩])
  (.ret))
  (.skip)))
 (.seq (.reg [⟨(some (.V 4)), .mv (kb true), none⟩])
 (.ret)))))))

def k_laws_eqNode_rv : List RV := [.tmp [0] 4]

def tbl : List (Nat × Fun) := [
  (k_laws_FnExactSameModel, fnOf k_laws_FnExactSameModel_ic k_laws_FnExactSameModel_rv []),
  (k_laws_szModel, fnOf k_laws_szModel_ic k_laws_szModel_rv []),
  (k_spec_SameModel, fnOf k_spec_SameModel_ic k_spec_SameModel_rv []),
  (k_laws_toModel, fnOf k_laws_toModel_ic k_laws_toModel_rv []),
  (k_impl_SameModel, fnOf k_impl_SameModel_ic k_impl_SameModel_rv []),
  (k_laws_eqModel, fnOf k_laws_eqModel_ic k_laws_eqModel_rv []),
  (k_laws_szTree, fnOf k_laws_szTree_ic k_laws_szTree_rv []),
  (k_laws_toTree, fnOf k_laws_toTree_ic k_laws_toTree_rv []),
  (k_laws_eqTree, fnOf k_laws_eqTree_ic k_laws_eqTree_rv []),
  (k_laws_toIntS, fnOf k_laws_toIntS_ic k_laws_toIntS_rv []),
  (k_laws_eqIntS, fnOf k_laws_eqIntS_ic k_laws_eqIntS_rv []),
  (k_laws_szStringS, fnOf k_laws_szStringS_ic k_laws_szStringS_rv []),
  (k_laws_szIntS, fnOf k_laws_szIntS_ic k_laws_szIntS_rv []),
  (k_laws_szTreeS, fnOf k_laws_szTreeS_ic k_laws_szTreeS_rv []),
  (k_spec_l9Texts, fnOf k_spec_l9Texts_ic k_spec_l9Texts_rv []),
  (k_spec_l8Ints, fnOf k_spec_l8Ints_ic k_spec_l8Ints_rv []),
  (k_spec_SameTree, fnOf k_spec_SameTree_ic k_spec_SameTree_rv []),
  (k_laws_toStringS, fnOf k_laws_toStringS_ic k_laws_toStringS_rv []),
  (k_laws_toTreeS, fnOf k_laws_toTreeS_ic k_laws_toTreeS_rv []),
  (k_slices_Equal___string_string_, fnOf k_slices_Equal___string_string__ic k_slices_Equal___string_string__rv []),
  (k_slices_Equal___int_int_, fnOf k_slices_Equal___int_int__ic k_slices_Equal___int_int__rv []),
  (k_slices_EqualFunc___impl_Tree___impl_Tree_impl_Tree_impl_Tree_, fnOf k_slices_EqualFunc___impl_Tree___impl_Tree_impl_Tree_impl_Tree__ic k_slices_EqualFunc___impl_Tree___impl_Tree_impl_Tree_impl_Tree__rv []),
  (k_impl_SameTree, fnOf k_impl_SameTree_ic k_impl_SameTree_rv []),
  (k_laws_eqStringS, fnOf k_laws_eqStringS_ic k_laws_eqStringS_rv []),
  (k_laws_eqTreeS, fnOf k_laws_eqTreeS_ic k_laws_eqTreeS_rv []),
  (k_laws_szNodeS, fnOf k_laws_szNodeS_ic k_laws_szNodeS_rv []),
  (k_laws_toNodeS, fnOf k_laws_toNodeS_ic k_laws_toNodeS_rv []),
  (k_laws_eqNodeS, fnOf k_laws_eqNodeS_ic k_laws_eqNodeS_rv []),
  (k_spec_SameRows, fnOf k_spec_SameRows_ic k_spec_SameRows_rv []),
  (k_slices_Equal___impl_Node_impl_Node_, fnOf k_slices_Equal___impl_Node_impl_Node__ic k_slices_Equal___impl_Node_impl_Node__rv []),
  (k_laws_toNode, fnOf k_laws_toNode_ic k_laws_toNode_rv []),
  (k_laws_eqNode, fnOf k_laws_eqNode_ic k_laws_eqNode_rv [])]

def T : Table := fun f => (tbl.find? fun q => q.1 == f).map fun q => q.2

theorem T_laws_FnExactSameModel : T k_laws_FnExactSameModel = some (fnOf k_laws_FnExactSameModel_ic k_laws_FnExactSameModel_rv []) := rfl

@[simp] theorem M_laws_FnExactSameModel : modesOf T k_laws_FnExactSameModel = [] := modesOf_code T_laws_FnExactSameModel

theorem T_laws_szModel : T k_laws_szModel = some (fnOf k_laws_szModel_ic k_laws_szModel_rv []) := rfl

@[simp] theorem M_laws_szModel : modesOf T k_laws_szModel = [] := modesOf_code T_laws_szModel

theorem T_spec_SameModel : T k_spec_SameModel = some (fnOf k_spec_SameModel_ic k_spec_SameModel_rv []) := rfl

@[simp] theorem M_spec_SameModel : modesOf T k_spec_SameModel = [] := modesOf_code T_spec_SameModel

theorem T_laws_toModel : T k_laws_toModel = some (fnOf k_laws_toModel_ic k_laws_toModel_rv []) := rfl

@[simp] theorem M_laws_toModel : modesOf T k_laws_toModel = [] := modesOf_code T_laws_toModel

theorem T_impl_SameModel : T k_impl_SameModel = some (fnOf k_impl_SameModel_ic k_impl_SameModel_rv []) := rfl

@[simp] theorem M_impl_SameModel : modesOf T k_impl_SameModel = [] := modesOf_code T_impl_SameModel

theorem T_laws_eqModel : T k_laws_eqModel = some (fnOf k_laws_eqModel_ic k_laws_eqModel_rv []) := rfl

@[simp] theorem M_laws_eqModel : modesOf T k_laws_eqModel = [] := modesOf_code T_laws_eqModel

theorem T_laws_szTree : T k_laws_szTree = some (fnOf k_laws_szTree_ic k_laws_szTree_rv []) := rfl

@[simp] theorem M_laws_szTree : modesOf T k_laws_szTree = [] := modesOf_code T_laws_szTree

theorem T_laws_toTree : T k_laws_toTree = some (fnOf k_laws_toTree_ic k_laws_toTree_rv []) := rfl

@[simp] theorem M_laws_toTree : modesOf T k_laws_toTree = [] := modesOf_code T_laws_toTree

theorem T_laws_eqTree : T k_laws_eqTree = some (fnOf k_laws_eqTree_ic k_laws_eqTree_rv []) := rfl

@[simp] theorem M_laws_eqTree : modesOf T k_laws_eqTree = [] := modesOf_code T_laws_eqTree

theorem T_laws_toIntS : T k_laws_toIntS = some (fnOf k_laws_toIntS_ic k_laws_toIntS_rv []) := rfl

@[simp] theorem M_laws_toIntS : modesOf T k_laws_toIntS = [] := modesOf_code T_laws_toIntS

theorem T_laws_eqIntS : T k_laws_eqIntS = some (fnOf k_laws_eqIntS_ic k_laws_eqIntS_rv []) := rfl

@[simp] theorem M_laws_eqIntS : modesOf T k_laws_eqIntS = [] := modesOf_code T_laws_eqIntS

theorem T_laws_szStringS : T k_laws_szStringS = some (fnOf k_laws_szStringS_ic k_laws_szStringS_rv []) := rfl

@[simp] theorem M_laws_szStringS : modesOf T k_laws_szStringS = [] := modesOf_code T_laws_szStringS

theorem T_laws_szIntS : T k_laws_szIntS = some (fnOf k_laws_szIntS_ic k_laws_szIntS_rv []) := rfl

@[simp] theorem M_laws_szIntS : modesOf T k_laws_szIntS = [] := modesOf_code T_laws_szIntS

theorem T_laws_szTreeS : T k_laws_szTreeS = some (fnOf k_laws_szTreeS_ic k_laws_szTreeS_rv []) := rfl

@[simp] theorem M_laws_szTreeS : modesOf T k_laws_szTreeS = [] := modesOf_code T_laws_szTreeS

theorem T_spec_l9Texts : T k_spec_l9Texts = some (fnOf k_spec_l9Texts_ic k_spec_l9Texts_rv []) := rfl

@[simp] theorem M_spec_l9Texts : modesOf T k_spec_l9Texts = [] := modesOf_code T_spec_l9Texts

theorem T_spec_l8Ints : T k_spec_l8Ints = some (fnOf k_spec_l8Ints_ic k_spec_l8Ints_rv []) := rfl

@[simp] theorem M_spec_l8Ints : modesOf T k_spec_l8Ints = [] := modesOf_code T_spec_l8Ints

theorem T_spec_SameTree : T k_spec_SameTree = some (fnOf k_spec_SameTree_ic k_spec_SameTree_rv []) := rfl

@[simp] theorem M_spec_SameTree : modesOf T k_spec_SameTree = [] := modesOf_code T_spec_SameTree

theorem T_laws_toStringS : T k_laws_toStringS = some (fnOf k_laws_toStringS_ic k_laws_toStringS_rv []) := rfl

@[simp] theorem M_laws_toStringS : modesOf T k_laws_toStringS = [] := modesOf_code T_laws_toStringS

theorem T_laws_toTreeS : T k_laws_toTreeS = some (fnOf k_laws_toTreeS_ic k_laws_toTreeS_rv []) := rfl

@[simp] theorem M_laws_toTreeS : modesOf T k_laws_toTreeS = [] := modesOf_code T_laws_toTreeS

theorem T_slices_Equal___string_string_ : T k_slices_Equal___string_string_ = some (fnOf k_slices_Equal___string_string__ic k_slices_Equal___string_string__rv []) := rfl

@[simp] theorem M_slices_Equal___string_string_ : modesOf T k_slices_Equal___string_string_ = [] := modesOf_code T_slices_Equal___string_string_

theorem T_slices_Equal___int_int_ : T k_slices_Equal___int_int_ = some (fnOf k_slices_Equal___int_int__ic k_slices_Equal___int_int__rv []) := rfl

@[simp] theorem M_slices_Equal___int_int_ : modesOf T k_slices_Equal___int_int_ = [] := modesOf_code T_slices_Equal___int_int_

theorem T_slices_EqualFunc___impl_Tree___impl_Tree_impl_Tree_impl_Tree_ : T k_slices_EqualFunc___impl_Tree___impl_Tree_impl_Tree_impl_Tree_ = some (fnOf k_slices_EqualFunc___impl_Tree___impl_Tree_impl_Tree_impl_Tree__ic k_slices_EqualFunc___impl_Tree___impl_Tree_impl_Tree_impl_Tree__rv []) := rfl

@[simp] theorem M_slices_EqualFunc___impl_Tree___impl_Tree_impl_Tree_impl_Tree_ : modesOf T k_slices_EqualFunc___impl_Tree___impl_Tree_impl_Tree_impl_Tree_ = [] := modesOf_code T_slices_EqualFunc___impl_Tree___impl_Tree_impl_Tree_impl_Tree_

theorem T_impl_SameTree : T k_impl_SameTree = some (fnOf k_impl_SameTree_ic k_impl_SameTree_rv []) := rfl

@[simp] theorem M_impl_SameTree : modesOf T k_impl_SameTree = [] := modesOf_code T_impl_SameTree

theorem T_laws_eqStringS : T k_laws_eqStringS = some (fnOf k_laws_eqStringS_ic k_laws_eqStringS_rv []) := rfl

@[simp] theorem M_laws_eqStringS : modesOf T k_laws_eqStringS = [] := modesOf_code T_laws_eqStringS

theorem T_laws_eqTreeS : T k_laws_eqTreeS = some (fnOf k_laws_eqTreeS_ic k_laws_eqTreeS_rv []) := rfl

@[simp] theorem M_laws_eqTreeS : modesOf T k_laws_eqTreeS = [] := modesOf_code T_laws_eqTreeS

theorem T_laws_szNodeS : T k_laws_szNodeS = some (fnOf k_laws_szNodeS_ic k_laws_szNodeS_rv []) := rfl

@[simp] theorem M_laws_szNodeS : modesOf T k_laws_szNodeS = [] := modesOf_code T_laws_szNodeS

theorem T_laws_toNodeS : T k_laws_toNodeS = some (fnOf k_laws_toNodeS_ic k_laws_toNodeS_rv []) := rfl

@[simp] theorem M_laws_toNodeS : modesOf T k_laws_toNodeS = [] := modesOf_code T_laws_toNodeS

theorem T_laws_eqNodeS : T k_laws_eqNodeS = some (fnOf k_laws_eqNodeS_ic k_laws_eqNodeS_rv []) := rfl

@[simp] theorem M_laws_eqNodeS : modesOf T k_laws_eqNodeS = [] := modesOf_code T_laws_eqNodeS

theorem T_spec_SameRows : T k_spec_SameRows = some (fnOf k_spec_SameRows_ic k_spec_SameRows_rv []) := rfl

@[simp] theorem M_spec_SameRows : modesOf T k_spec_SameRows = [] := modesOf_code T_spec_SameRows

theorem T_slices_Equal___impl_Node_impl_Node_ : T k_slices_Equal___impl_Node_impl_Node_ = some (fnOf k_slices_Equal___impl_Node_impl_Node__ic k_slices_Equal___impl_Node_impl_Node__rv []) := rfl

@[simp] theorem M_slices_Equal___impl_Node_impl_Node_ : modesOf T k_slices_Equal___impl_Node_impl_Node_ = [] := modesOf_code T_slices_Equal___impl_Node_impl_Node_

theorem T_laws_toNode : T k_laws_toNode = some (fnOf k_laws_toNode_ic k_laws_toNode_rv []) := rfl

@[simp] theorem M_laws_toNode : modesOf T k_laws_toNode = [] := modesOf_code T_laws_toNode

theorem T_laws_eqNode : T k_laws_eqNode = some (fnOf k_laws_eqNode_ic k_laws_eqNode_rv []) := rfl

@[simp] theorem M_laws_eqNode : modesOf T k_laws_eqNode = [] := modesOf_code T_laws_eqNode

end Go.Pe
