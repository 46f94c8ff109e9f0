/- The compact texts of the functions that the law reaches; no condition. -/
import Derived.Test.YthjpnjnlhmkepaaEvA0
set_option linter.all false
namespace Go.Pe
open Go
def k_laws_FnExactRowsAt : Nat := 14

def k_laws_toIntS : Nat := 38

def k_laws_eqIntS : Nat := 41

def k_impl_RowsAt : Nat := 58

def k_spec_RowsAt : Nat := 59

def k_laws_szTree : Nat := 68

def k_laws_szIntSS : Nat := 69

def k_laws_toTree : Nat := 70

def k_laws_toIntSS : Nat := 71

def k_laws_eqTree : Nat := 72

def k_laws_eqIntSS : Nat := 73

def k_laws_markTree : Nat := 74

def k_laws_markIntSS : Nat := 75

def k_laws_markIntS : Nat := 76

def k_laws_heldIntS : Nat := 77

def k_impl_within : Nat := 92

def k_impl_isLeaf : Nat := 94

def k_spec_l1In : Nat := 112

def k_slices_Contains___int_int_ : Nat := 118

def k_impl_route : Nat := 119

def k_spec_l18Way : Nat := 120

def k_spec_l17Inner : Nat := 122

def k_laws_szNodeS : Nat := 125

def k_laws_szIntS : Nat := 126

def k_laws_toNodeS : Nat := 127

def k_laws_eqNodeS : Nat := 128

def k_laws_markNodeS : Nat := 129

def k_slices_Index___int_int_ : Nat := 152

def k_laws_toNode : Nat := 153

def k_laws_eqNode : Nat := 154

def k_laws_FnExactRowsAt_vars : List Nat := [0, 1, 2, 3, 7, 9, 10, 11, 8, 12, 13, 14, 15, 6]

def k_laws_FnExactRowsAt_ic : IC :=
 .seq (.reg [⟨(some (.V 3)), .box (.V 0), none⟩,
   ⟨(some (.V 6)), .mv (kb false), none⟩])
 (.seq (.reg [⟨(some (.V 7)), .mv (ki 1048576), none⟩])
 (.seq (.reg [⟨(some (.E 16)), .load true 1 (.V 3), none⟩,
   ⟨(some (.E 17)), .mv (.V 7), none⟩,
   ⟨(some (.E 18)), .call k_laws_szTree [([5], (.E 16)), ([0], (.E 17))], none⟩,
   ⟨(some (.V 7)), .mv (.E 18), none⟩])
 (.seq (.seq (.reg [⟨(some (.E 19)), .mv (.V 7), none⟩,
   ⟨(some (.E 20)), .bin .lss (.E 19) (ki 0), none⟩])
 (.cond (.E 20)
  (.seq (.reg [⟨(some (.V 6)), .mv (kb true), none⟩])
  (.ret))
  (.skip)))
 (.seq (.reg [⟨(some (.E 21)), .mv (.V 2), none⟩,
   ⟨(some (.E 22)), .mv (.V 7), none⟩,
   ⟨(some (.E 23)), .call k_laws_szIntSS [([1], (.E 21)), ([0], (.E 22))], none⟩,
   ⟨(some (.V 7)), .mv (.E 23), none⟩])
 (.seq (.seq (.reg [⟨(some (.E 24)), .mv (.V 7), none⟩,
   ⟨(some (.E 25)), .bin .lss (.E 24) (ki 0), none⟩])
 (.cond (.E 25)
  (.seq (.reg [⟨(some (.V 6)), .mv (kb true), none⟩])
  (.ret))
  (.skip)))
 (.seq (.reg [⟨(some (.E 26)), .load true 1 (.V 3), none⟩,
   ⟨(some (.E 27)), .call k_laws_toTree [([5], (.E 26))], none⟩,
   ⟨(some (.E 28)), .mv (.V 1), none⟩,
   ⟨(some (.E 29)), .mv (.V 2), none⟩,
   ⟨(some (.E 30)), .call k_laws_toIntSS [([1], (.E 29))], none⟩,
   ⟨(some (.E 31)), .call k_spec_RowsAt [([5], (.E 27)), ([0], (.E 28)), ([1], (.E 30))], none⟩,
   ⟨(some (.V 8)), .mv (.E 31), none⟩])
 (.seq (.reg [⟨(some (.E 32)), .load true 1 (.V 3), none⟩,
   ⟨(some (.E 33)), .call k_laws_toTree [([5], (.E 32))], none⟩,
   ⟨(some (.V 9)), .alloc [.e0], none⟩,
   ⟨none, .store [5] (.V 9) (.E 33), none⟩])
 (.seq (.reg [⟨(some (.E 34)), .mv (.V 2), none⟩,
   ⟨(some (.E 35)), .call k_laws_toIntSS [([1], (.E 34))], none⟩,
   ⟨(some (.V 10)), .mv (.E 35), none⟩])
 (.seq (.reg [⟨(some (.E 36)), .load true 1 (.V 9), none⟩,
   ⟨(some (.E 37)), .mv (.V 1), none⟩,
   ⟨(some (.E 38)), .mv (.V 10), none⟩,
   ⟨(some (.E 39)), .call k_impl_RowsAt [([5], (.E 36)), ([0], (.E 37)), ([1], (.E 38))], none⟩,
   ⟨(some (.V 11)), .mv (.E 39), none⟩])
 (.seq (.seq (.reg [⟨(some (.E 40)), .mv (.V 11), none⟩,
   ⟨(some (.E 41)), .mv (.V 8), none⟩,
   ⟨(some (.E 42)), .call k_laws_eqIntS [([1], (.E 40)), ([1], (.E 41))], none⟩,
   ⟨(some (.E 43)), .un .not (.E 42), none⟩])
 (.cond (.E 43)
  (.seq (.reg [⟨(some (.V 6)), .mv (kb false), none⟩])
  (.ret))
  (.skip)))
 (.seq (.seq (.regD [(⟨(some (.E 44)), .load true 1 (.V 9), none⟩, 0, 1),
   (⟨(some (.E 45)), .load true 1 (.V 3), none⟩, 0, 0),
   (⟨(some (.E 46)), .call k_laws_toTree [([5], (.E 45))], none⟩, 0, 0),
   (⟨(some (.E 47)), .call k_laws_eqTree [([5], (.E 44)), ([5], (.E 46))], none⟩, 0, 0),
   (⟨(some (.E 48)), .un .not (.E 47), none⟩, 0, 0)])
 (.cond (.E 48)
  (.seq (.reg [⟨(some (.V 6)), .mv (kb false), none⟩])
  (.ret))
  (.skip)))
 (.seq (.seq (.reg [⟨(some (.E 49)), .mv (.V 10), none⟩,
   ⟨(some (.E 50)), .mv (.V 2), none⟩,
   ⟨(some (.E 51)), .call k_laws_toIntSS [([1], (.E 50))], none⟩,
   ⟨(some (.E 52)), .call k_laws_eqIntSS [([1], (.E 49)), ([1], (.E 51))], none⟩,
   ⟨(some (.E 53)), .un .not (.E 52), none⟩])
 (.cond (.E 53)
  (.seq (.reg [⟨(some (.V 6)), .mv (kb false), none⟩])
  (.ret))
  (.skip)))
 (.seq (.reg [⟨(some (.V 12)), .mv (ki 1), none⟩])
 (.seq (.reg [⟨(some (.E 54)), .load true 1 (.V 9), none⟩,
   ⟨(some (.E 55)), .mv (.V 12), none⟩,
   ⟨(some (.E 56)), .call k_laws_markTree [([5], (.E 54)), ([0], (.E 55))], none⟩,
   ⟨(some (.V 12)), .mv (.E 56), none⟩])
 (.seq (.reg [⟨(some (.E 57)), .mv (.V 10), none⟩,
   ⟨(some (.E 58)), .mv (.V 12), none⟩,
   ⟨(some (.E 59)), .call k_laws_markIntSS [([1], (.E 57)), ([0], (.E 58))], none⟩,
   ⟨(some (.V 12)), .mv (.E 59), none⟩])
 (.seq (.seq (.reg [⟨(some (.E 60)), .mv (.V 12), none⟩,
   ⟨(some (.E 61)), .bin .lss (.E 60) (ki 0), none⟩,
   ⟨(some (.E 62)), .mv (.E 61), none⟩,
   ⟨(some (.E 63)), .mv (.V 11), some ((.E 62), false)⟩,
   ⟨(some (.E 64)), .mv (.V 8), some ((.E 62), false)⟩,
   ⟨(some (.E 65)), .call k_laws_eqIntS [([1], (.E 63)), ([1], (.E 64))], some ((.E 62), false)⟩,
   ⟨(some (.E 66)), .un .not (.E 65), some ((.E 62), false)⟩,
   ⟨(some (.E 67)), .pick (.E 62) (kb true) (.E 66), none⟩])
 (.cond (.E 67)
  (.seq (.reg [⟨(some (.V 6)), .mv (kb false), none⟩])
  (.ret))
  (.skip)))
 (.seq (.reg [⟨(some (.V 13)), .mv (ki 1), none⟩])
 (.seq (.reg [⟨(some (.E 68)), .mv (.V 11), none⟩,
   ⟨(some (.E 69)), .mv (.V 13), none⟩,
   ⟨(some (.E 70)), .call k_laws_markIntS [([1], (.E 68)), ([0], (.E 69))], none⟩,
   ⟨(some (.V 13)), .mv (.E 70), none⟩])
 (.seq (.reg [⟨(some (.V 14)), .mv (ki 1), none⟩])
 (.seq (.reg [⟨(some (.E 71)), .mv (.V 11), none⟩,
   ⟨(some (.E 72)), .mv (.V 14), none⟩,
   ⟨(some (.E 73)), .call k_laws_heldIntS [([1], (.E 71)), ([0], (.E 72))], none⟩,
   ⟨(some (.V 14)), .mv (.E 73), none⟩])
 (.seq (.seq (.reg [⟨(some (.E 74)), .mv (.V 14), none⟩,
   ⟨(some (.E 75)), .bin .lss (.E 74) (ki 0), none⟩])
 (.cond (.E 75)
  (.seq (.reg [⟨(some (.V 6)), .mv (kb false), none⟩])
  (.ret))
  (.skip)))
 (.seq (.seq (.reg [⟨(some (.E 76)), .mv (.V 14), none⟩,
   ⟨(some (.E 77)), .mv (.V 13), none⟩,
   ⟨(some (.E 78)), .bin .neq (.E 76) (.E 77), none⟩])
 (.cond (.E 78)
  (.seq (.reg [⟨(some (.V 6)), .mv (kb false), none⟩])
  (.ret))
  (.skip)))
 (.seq (.reg [⟨(some (.E 79)), .load true 1 (.V 3), none⟩,
   ⟨(some (.E 80)), .call k_laws_toTree [([5], (.E 79))], none⟩,
   ⟨(some (.E 81)), .mv (.V 1), none⟩,
   ⟨(some (.E 82)), .mv (.V 2), none⟩,
   ⟨(some (.E 83)), .call k_laws_toIntSS [([1], (.E 82))], none⟩,
   ⟨(some (.E 84)), .call k_impl_RowsAt [([5], (.E 80)), ([0], (.E 81)), ([1], (.E 83))], none⟩,
   ⟨(some (.V 15)), .mv (.E 84), none⟩])
 (.seq (.seq (.reg [⟨(some (.E 85)), .mv (.V 15), none⟩,
   ⟨(some (.E 86)), .mv (.V 8), none⟩,
   ⟨(some (.E 87)), .call k_laws_eqIntS [([1], (.E 85)), ([1], (.E 86))], none⟩,
   ⟨(some (.E 88)), .un .not (.E 87), none⟩])
 (.cond (.E 88)
  (.seq (.reg [⟨(some (.V 6)), .mv (kb false), none⟩])
  (.ret))
  (.skip)))
 (.seq (.reg [⟨(some (.V 14)), .mv (ki 1), none⟩])
 (.seq (.reg [⟨(some (.E 89)), .mv (.V 11), none⟩,
   ⟨(some (.E 90)), .mv (.V 14), none⟩,
   ⟨(some (.E 91)), .call k_laws_heldIntS [([1], (.E 89)), ([0], (.E 90))], none⟩,
   ⟨(some (.V 14)), .mv (.E 91), none⟩])
 (.seq (.seq (.reg [⟨(some (.E 92)), .mv (.V 14), none⟩,
   ⟨(some (.E 93)), .bin .lss (.E 92) (ki 0), none⟩])
 (.cond (.E 93)
  (.seq (.reg [⟨(some (.V 6)), .mv (kb false), none⟩])
  (.ret))
  (.skip)))
 (.seq (.seq (.reg [⟨(some (.E 94)), .mv (.V 14), none⟩,
   ⟨(some (.E 95)), .mv (.V 13), none⟩,
   ⟨(some (.E 96)), .bin .neq (.E 94) (.E 95), none⟩])
 (.cond (.E 96)
  (.seq (.reg [⟨(some (.V 6)), .mv (kb false), none⟩])
  (.ret))
  (.skip)))
 (.seq (.reg [⟨(some (.V 6)), .mv (kb true), none⟩])
 (.ret))))))))))))))))))))))))))))))

def k_laws_FnExactRowsAt_rv : List RV := [.tmp [0] 6]

def k_laws_toIntS_vars : List Nat := [0, 4, 3, 2]

def k_laws_toIntS_b0 : IC :=
 .seq (.seq (.reg [⟨(some (.E 8)), .mv (.V 4), none⟩,
   ⟨(some (.E 9)), .mv (.V 0), none⟩,
   ⟨(some (.E 10)), .len (.E 9), none⟩,
   ⟨(some (.E 11)), .bin .lss (.E 8) (.E 10), none⟩])
 (.cond (.E 11)
  (.skip)
  (.exit 0)))
 (.seq (.block 1 (.reg [⟨(some (.E 14)), .mv (.V 3), none⟩,
    ⟨(some (.E 15)), .mv (.V 4), none⟩,
    ⟨(some (.E 16)), .mv (.V 0), none⟩,
    ⟨(some (.E 17)), .mv (.V 4), none⟩,
    ⟨(some (.E 18)), .iaddr 1 (.E 16) (.E 17), none⟩,
    ⟨(some (.E 19)), .load false 1 (.E 18), none⟩,
    ⟨(some (.E 20)), .iaddr 1 (.E 14) (.E 15), none⟩,
    ⟨none, .store [0] (.E 20) (.E 19), none⟩]))
 (.reg [⟨(some (.E 12)), .mv (.V 4), none⟩,
   ⟨(some (.E 13)), .bin .add (.E 12) (ki 1), none⟩,
   ⟨(some (.V 4)), .mv (.E 13), none⟩]))

def k_laws_toIntS_ic : IC :=
 .seq (.reg [⟨(some (.V 2)), .mv (.C .e0), none⟩])
 (.seq (.reg [⟨(some (.E 5)), .mv (.V 0), none⟩,
   ⟨(some (.E 6)), .len (.E 5), none⟩,
   ⟨(some (.E 7)), .mksl 8 1 [(.v (.int .i64 0))] (.E 6) (.E 6), none⟩,
   ⟨(some (.V 3)), .mv (.E 7), none⟩])
 (.seq (.seq (.reg [⟨(some (.V 4)), .mv (ki 0), none⟩])
 (.block 0 (.loop k_laws_toIntS_b0)))
 (.seq (.reg [⟨(some (.E 21)), .mv (.V 3), none⟩,
   ⟨(some (.V 2)), .mv (.E 21), none⟩])
 (.ret))))

def k_laws_toIntS_rv : List RV := [.tmp [1] 2]

def k_laws_eqIntS_vars : List Nat := [0, 1, 5, 4]

def k_laws_eqIntS_b0 : IC :=
 .seq (.seq (.reg [⟨(some (.E 11)), .mv (.V 5), none⟩,
   ⟨(some (.E 12)), .mv (.V 0), none⟩,
   ⟨(some (.E 13)), .len (.E 12), none⟩,
   ⟨(some (.E 14)), .bin .lss (.E 11) (.E 13), none⟩])
 (.cond (.E 14)
  (.skip)
  (.exit 0)))
 (.seq (.block 1 (.seq (.regD [(⟨(some (.E 17)), .mv (.V 0), none⟩, 0, 0),
    (⟨(some (.E 18)), .mv (.V 5), none⟩, 0, 0),
    (⟨(some (.E 19)), .iaddr 1 (.E 17) (.E 18), none⟩, 0, 0),
    (⟨(some (.E 20)), .load false 1 (.E 19), none⟩, 0, 0),
    (⟨(some (.E 21)), .mv (.V 1), none⟩, 0, 0),
    (⟨(some (.E 22)), .mv (.V 5), none⟩, 0, 0),
    (⟨(some (.E 23)), .iaddr 1 (.E 21) (.E 22), none⟩, 0, 0),
    (⟨(some (.E 24)), .load false 1 (.E 23), none⟩, 0, 0),
    (⟨(some (.E 25)), .bin .neq (.E 20) (.E 24), none⟩, 0, 0)])
  (.cond (.E 25)
   (.seq (.reg [⟨(some (.V 4)), .mv (kb false), none⟩])
   (.ret))
   (.skip))))
 (.reg [⟨(some (.E 15)), .mv (.V 5), none⟩,
   ⟨(some (.E 16)), .bin .add (.E 15) (ki 1), none⟩,
   ⟨(some (.V 5)), .mv (.E 16), none⟩]))

def k_laws_eqIntS_ic : IC :=
 .seq (.reg [⟨(some (.V 4)), .mv (kb false), none⟩])
 (.seq (.seq (.reg [⟨(some (.E 6)), .mv (.V 0), none⟩,
   ⟨(some (.E 7)), .len (.E 6), none⟩,
   ⟨(some (.E 8)), .mv (.V 1), none⟩,
   ⟨(some (.E 9)), .len (.E 8), none⟩,
   ⟨(some (.E 10)), .bin .neq (.E 7) (.E 9), none⟩])
 (.cond (.E 10)
  (.seq (.reg [⟨(some (.V 4)), .mv (kb false), none⟩])
  (.ret))
  (.skip)))
 (.seq (.seq (.reg [⟨(some (.V 5)), .mv (ki 0), none⟩])
 (.block 0 (.loop k_laws_eqIntS_b0)))
 (.seq (.reg [⟨(some (.V 4)), .mv (kb true), none⟩])
 (.ret))))

def k_laws_eqIntS_rv : List RV := [.tmp [0] 4]

def k_impl_RowsAt_vars : List Nat := [0, 1, 2, 13, 12, 11, 3, 9, 7, 8, 6]

def k_impl_RowsAt_b0 : IC :=
 .seq (.reg [⟨(some (.E 14)), .bin .lss (.V 13) (.V 12), none⟩])
 (.seq (.cond (.E 14)
  (.skip)
  (.exit 0))
 (.seq (.block 1 (.seq (.reg [⟨(some (.E 15)), .mv (.V 13), none⟩,
    ⟨(some (.E 16)), .iaddr 1 (.V 11) (.V 13), none⟩,
    ⟨(some (.E 17)), .load false 1 (.E 16), none⟩,
    ⟨(some (.V 8)), .mv (.E 15), none⟩,
    ⟨(some (.V 9)), .mv (.E 17), none⟩])
  (.seq (.reg [⟨(some (.E 18)), .load true 1 (.V 3), none⟩,
    ⟨(some (.E 19)), .mv (.V 9), none⟩,
    ⟨(some (.E 20)), .call k_impl_route [([5], (.E 18)), ([1], (.E 19))], none⟩,
    ⟨(some (.E 21)), .mv (.V 1), none⟩,
    ⟨(some (.E 22)), .call k_slices_Contains___int_int_ [([1], (.E 20)), ([0], (.E 21))], none⟩])
  (.cond (.E 22)
   (.reg [⟨(some (.E 23)), .mv (.V 7), none⟩,
     ⟨(some (.E 24)), .mv (.V 8), none⟩,
     ⟨(some (.E 25)), .bslice 1 1 [(.v (.int .i64 0))] [(0, (.E 24))], none⟩,
     ⟨(some (.E 26)), .app 8 1 (.E 23) (.E 25), none⟩,
     ⟨(some (.V 7)), .mv (.E 26), none⟩])
   (.skip)))))
 (.reg [⟨(some (.E 27)), .bin .add (.V 13) (ki 1), none⟩,
   ⟨(some (.V 13)), .mv (.E 27), none⟩])))

def k_impl_RowsAt_ic : IC :=
 .seq (.reg [⟨(some (.V 3)), .box (.V 0), none⟩,
   ⟨(some (.V 6)), .mv (.C .e0), none⟩])
 (.seq (.reg [⟨(some (.E 10)), .bslice 0 1 [(.v (.int .i64 0))] [], none⟩,
   ⟨(some (.V 7)), .mv (.E 10), none⟩])
 (.seq (.seq (.reg [⟨(some (.V 11)), .mv (.V 2), none⟩,
   ⟨(some (.V 12)), .len (.V 11), none⟩,
   ⟨(some (.V 13)), .mv (ki 0), none⟩])
 (.block 0 (.loop k_impl_RowsAt_b0)))
 (.seq (.reg [⟨(some (.E 28)), .mv (.V 7), none⟩,
   ⟨(some (.V 6)), .mv (.E 28), none⟩])
 (.ret))))

def k_impl_RowsAt_rv : List RV := [.tmp [1] 6]

def k_spec_RowsAt_vars : List Nat := [0, 1, 2, 8, 3, 11, 9, 10, 7, 6]

def k_spec_RowsAt_b0 : IC :=
 .seq (.seq (.reg [⟨(some (.E 25)), .mv (.V 11), none⟩,
   ⟨(some (.E 26)), .mv (.V 9), none⟩,
   ⟨(some (.E 27)), .len (.E 26), none⟩,
   ⟨(some (.E 28)), .bin .lss (.E 25) (.E 27), none⟩])
 (.cond (.E 28)
  (.skip)
  (.exit 2)))
 (.seq (.block 3 (.reg [⟨(some (.E 31)), .mv (.V 10), none⟩,
    ⟨(some (.E 32)), .mv (.E 31), none⟩,
    ⟨(some (.E 33)), .mv (.V 9), some ((.E 32), false)⟩,
    ⟨(some (.E 34)), .mv (.V 11), some ((.E 32), false)⟩,
    ⟨(some (.E 35)), .iaddr 1 (.E 33) (.E 34), some ((.E 32), false)⟩,
    ⟨(some (.E 36)), .load false 1 (.E 35), some ((.E 32), false)⟩,
    ⟨(some (.E 37)), .mv (.V 1), some ((.E 32), false)⟩,
    ⟨(some (.E 38)), .bin .eql (.E 36) (.E 37), some ((.E 32), false)⟩,
    ⟨(some (.E 39)), .pick (.E 32) (kb true) (.E 38), none⟩,
    ⟨(some (.V 10)), .mv (.E 39), none⟩]))
 (.reg [⟨(some (.E 29)), .mv (.V 11), none⟩,
   ⟨(some (.E 30)), .bin .add (.E 29) (ki 1), none⟩,
   ⟨(some (.V 11)), .mv (.E 30), none⟩]))

def k_spec_RowsAt_b1 : IC :=
 .seq (.seq (.reg [⟨(some (.E 13)), .mv (.V 8), none⟩,
   ⟨(some (.E 14)), .mv (.V 2), none⟩,
   ⟨(some (.E 15)), .len (.E 14), none⟩,
   ⟨(some (.E 16)), .bin .lss (.E 13) (.E 15), none⟩])
 (.cond (.E 16)
  (.skip)
  (.exit 0)))
 (.seq (.block 1 (.seq (.regD [(⟨(some (.E 19)), .load true 1 (.V 3), none⟩, 0, 0),
    (⟨(some (.E 20)), .mv (.V 2), none⟩, 0, 0),
    (⟨(some (.E 21)), .mv (.V 8), none⟩, 0, 0),
    (⟨(some (.E 22)), .iaddr 1 (.E 20) (.E 21), none⟩, 0, 0),
    (⟨(some (.E 23)), .load false 1 (.E 22), none⟩, 0, 0),
    (⟨(some (.E 24)), .call k_spec_l18Way [([5], (.E 19)), ([1], (.E 23))], none⟩, 0, 0),
    (⟨(some (.V 9)), .mv (.E 24), none⟩, 0, 0)])
  (.seq (.reg [⟨(some (.V 10)), .mv (kb false), none⟩])
  (.seq (.seq (.reg [⟨(some (.V 11)), .mv (ki 0), none⟩])
  (.block 2 (.loop k_spec_RowsAt_b0)))
  (.seq (.reg [⟨(some (.E 40)), .mv (.V 10), none⟩])
  (.cond (.E 40)
   (.reg [⟨(some (.E 41)), .mv (.V 7), none⟩,
     ⟨(some (.E 42)), .mv (.V 8), none⟩,
     ⟨(some (.E 43)), .bslice 1 1 [(.v (.int .i64 0))] [(0, (.E 42))], none⟩,
     ⟨(some (.E 44)), .app 8 1 (.E 41) (.E 43), none⟩,
     ⟨(some (.V 7)), .mv (.E 44), none⟩])
   (.skip)))))))
 (.reg [⟨(some (.E 17)), .mv (.V 8), none⟩,
   ⟨(some (.E 18)), .bin .add (.E 17) (ki 1), none⟩,
   ⟨(some (.V 8)), .mv (.E 18), none⟩]))

def k_spec_RowsAt_ic : IC :=
 .seq (.reg [⟨(some (.V 3)), .box (.V 0), none⟩,
   ⟨(some (.V 6)), .mv (.C .e0), none⟩])
 (.seq (.reg [⟨(some (.E 12)), .bslice 0 1 [(.v (.int .i64 0))] [], none⟩,
   ⟨(some (.V 7)), .mv (.E 12), none⟩])
 (.seq (.seq (.reg [⟨(some (.V 8)), .mv (ki 0), none⟩])
 (.block 0 (.loop k_spec_RowsAt_b1)))
 (.seq (.reg [⟨(some (.E 45)), .mv (.V 7), none⟩,
   ⟨(some (.V 6)), .mv (.E 45), none⟩])
 (.ret))))

def k_spec_RowsAt_rv : List RV := [.tmp [1] 6]

def k_laws_szTree_vars : List Nat := [0, 1, 2, 4]

def k_laws_szTree_ic : IC :=
 .seq (.reg [⟨(some (.V 2)), .box (.V 0), none⟩,
   ⟨(some (.V 4)), .mv (ki 0), none⟩])
 (.seq (.reg [⟨(some (.E 5)), .faddr 0 (.V 2), none⟩,
   ⟨(some (.E 6)), .load false 1 (.E 5), none⟩,
   ⟨(some (.E 7)), .mv (.V 1), none⟩,
   ⟨(some (.E 8)), .call k_laws_szNodeS [([5], (.E 6)), ([0], (.E 7))], none⟩,
   ⟨(some (.V 1)), .mv (.E 8), none⟩])
 (.seq (.seq (.reg [⟨(some (.E 9)), .mv (.V 1), none⟩,
   ⟨(some (.E 10)), .bin .lss (.E 9) (ki 0), none⟩])
 (.cond (.E 10)
  (.seq (.reg [⟨(some (.V 4)), .mv (ki (-1)), none⟩])
  (.ret))
  (.skip)))
 (.seq (.reg [⟨(some (.E 11)), .mv (.V 1), none⟩,
   ⟨(some (.V 4)), .mv (.E 11), none⟩])
 (.ret))))

def k_laws_szTree_rv : List RV := [.tmp [0] 4]

def k_laws_szIntSS_vars : List Nat := [0, 1, 5, 4]

def k_laws_szIntSS_b0 : IC :=
 .seq (.seq (.reg [⟨(some (.E 12)), .mv (.V 5), none⟩,
   ⟨(some (.E 13)), .mv (.V 0), none⟩,
   ⟨(some (.E 14)), .len (.E 13), none⟩,
   ⟨(some (.E 15)), .bin .lss (.E 12) (.E 14), none⟩])
 (.cond (.E 15)
  (.skip)
  (.exit 0)))
 (.seq (.block 1 (.seq (.reg [⟨(some (.E 18)), .mv (.V 0), none⟩,
    ⟨(some (.E 19)), .mv (.V 5), none⟩,
    ⟨(some (.E 20)), .iaddr 1 (.E 18) (.E 19), none⟩,
    ⟨(some (.E 21)), .load false 1 (.E 20), none⟩,
    ⟨(some (.E 22)), .mv (.V 1), none⟩,
    ⟨(some (.E 23)), .call k_laws_szIntS [([1], (.E 21)), ([0], (.E 22))], none⟩,
    ⟨(some (.V 1)), .mv (.E 23), none⟩])
  (.seq (.reg [⟨(some (.E 24)), .mv (.V 1), none⟩,
    ⟨(some (.E 25)), .bin .lss (.E 24) (ki 0), none⟩])
  (.cond (.E 25)
   (.seq (.reg [⟨(some (.V 4)), .mv (ki (-1)), none⟩])
   (.ret))
   (.skip)))))
 (.reg [⟨(some (.E 16)), .mv (.V 5), none⟩,
   ⟨(some (.E 17)), .bin .add (.E 16) (ki 1), none⟩,
   ⟨(some (.V 5)), .mv (.E 17), none⟩]))

def k_laws_szIntSS_ic : IC :=
 .seq (.reg [⟨(some (.V 4)), .mv (ki 0), none⟩])
 (.seq (.reg [⟨(some (.E 6)), .mv (.V 1), none⟩,
   ⟨(some (.E 7)), .mv (.V 0), none⟩,
   ⟨(some (.E 8)), .len (.E 7), none⟩,
   ⟨(some (.E 9)), .bin .sub (.E 6) (.E 8), none⟩,
   ⟨(some (.V 1)), .mv (.E 9), none⟩])
 (.seq (.seq (.reg [⟨(some (.E 10)), .mv (.V 1), none⟩,
   ⟨(some (.E 11)), .bin .lss (.E 10) (ki 0), none⟩])
 (.cond (.E 11)
  (.seq (.reg [⟨(some (.V 4)), .mv (ki (-1)), none⟩])
  (.ret))
  (.skip)))
 (.seq (.seq (.reg [⟨(some (.V 5)), .mv (ki 0), none⟩])
 (.block 0 (.loop k_laws_szIntSS_b0)))
 (.seq (.reg [⟨(some (.E 26)), .mv (.V 1), none⟩,
   ⟨(some (.V 4)), .mv (.E 26), none⟩])
 (.ret)))))

def k_laws_szIntSS_rv : List RV := [.tmp [0] 4]

def k_laws_toTree_vars : List Nat := [0, 1, 3, 2]

def k_laws_toTree_ic : IC :=
 .seq (.reg [⟨(some (.V 1)), .box (.V 0), none⟩,
   ⟨(some (.V 2)), .alloc [.e0], none⟩])
 (.seq (.reg [⟨(some (.V 3)), .alloc [.e0], none⟩])
 (.seq (.reg [⟨(some (.E 4)), .faddr 0 (.V 1), none⟩,
   ⟨(some (.E 5)), .load false 1 (.E 4), none⟩,
   ⟨(some (.E 6)), .call k_laws_toNodeS [([5], (.E 5))], none⟩,
   ⟨(some (.E 7)), .faddr 0 (.V 3), none⟩,
   ⟨none, .store [5] (.E 7) (.E 6), none⟩])
 (.seq (.reg [⟨(some (.E 8)), .load true 1 (.V 3), none⟩,
   ⟨none, .store [5] (.V 2) (.E 8), none⟩])
 (.ret))))

def k_laws_toTree_rv : List RV := [.cell [5] 2 true]

def k_laws_toIntSS_vars : List Nat := [0, 4, 3, 2]

def k_laws_toIntSS_b0 : IC :=
 .seq (.seq (.reg [⟨(some (.E 8)), .mv (.V 4), none⟩,
   ⟨(some (.E 9)), .mv (.V 0), none⟩,
   ⟨(some (.E 10)), .len (.E 9), none⟩,
   ⟨(some (.E 11)), .bin .lss (.E 8) (.E 10), none⟩])
 (.cond (.E 11)
  (.skip)
  (.exit 0)))
 (.seq (.block 1 (.reg [⟨(some (.E 14)), .mv (.V 3), none⟩,
    ⟨(some (.E 15)), .mv (.V 4), none⟩,
    ⟨(some (.E 16)), .mv (.V 0), none⟩,
    ⟨(some (.E 17)), .mv (.V 4), none⟩,
    ⟨(some (.E 18)), .iaddr 1 (.E 16) (.E 17), none⟩,
    ⟨(some (.E 19)), .load false 1 (.E 18), none⟩,
    ⟨(some (.E 20)), .call k_laws_toIntS [([1], (.E 19))], none⟩,
    ⟨(some (.E 21)), .iaddr 1 (.E 14) (.E 15), none⟩,
    ⟨none, .store [1] (.E 21) (.E 20), none⟩]))
 (.reg [⟨(some (.E 12)), .mv (.V 4), none⟩,
   ⟨(some (.E 13)), .bin .add (.E 12) (ki 1), none⟩,
   ⟨(some (.V 4)), .mv (.E 13), none⟩]))

def k_laws_toIntSS_ic : IC :=
 .seq (.reg [⟨(some (.V 2)), .mv (.C .e0), none⟩])
 (.seq (.reg [⟨(some (.E 5)), .mv (.V 0), none⟩,
   ⟨(some (.E 6)), .len (.E 5), none⟩,
   ⟨(some (.E 7)), .mksl 24 1 [(.own 1 [])] (.E 6) (.E 6), none⟩,
   ⟨(some (.V 3)), .mv (.E 7), none⟩])
 (.seq (.seq (.reg [⟨(some (.V 4)), .mv (ki 0), none⟩])
 (.block 0 (.loop k_laws_toIntSS_b0)))
 (.seq (.reg [⟨(some (.E 22)), .mv (.V 3), none⟩,
   ⟨(some (.V 2)), .mv (.E 22), none⟩])
 (.ret))))

def k_laws_toIntSS_rv : List RV := [.tmp [1] 2]

def k_laws_eqTree_vars : List Nat := [0, 1, 2, 3, 4]

def k_laws_eqTree_ic : IC :=
 .seq (.reg [⟨(some (.V 2)), .box (.V 0), none⟩,
   ⟨(some (.V 3)), .box (.V 1), none⟩,
   ⟨(some (.V 4)), .mv (kb false), none⟩])
 (.seq (.seq (.reg [⟨(some (.E 5)), .faddr 0 (.V 2), none⟩,
   ⟨(some (.E 6)), .load false 1 (.E 5), none⟩,
   ⟨(some (.E 7)), .faddr 0 (.V 3), none⟩,
   ⟨(some (.E 8)), .load false 1 (.E 7), none⟩,
   ⟨(some (.E 9)), .call k_laws_eqNodeS [([5], (.E 6)), ([5], (.E 8))], none⟩,
   ⟨(some (.E 10)), .un .not (.E 9), none⟩])
 (.cond (.E 10)
  (.seq (.reg [⟨(some (.V 4)), .mv (kb false), none⟩])
  (.ret))
  (.skip)))
 (.seq (.reg [⟨(some (.V 4)), .mv (kb true), none⟩])
 (.ret)))

def k_laws_eqTree_rv : List RV := [.tmp [0] 4]

def k_laws_eqIntSS_vars : List Nat := [0, 1, 5, 4]

def k_laws_eqIntSS_b0 : IC :=
 .seq (.seq (.reg [⟨(some (.E 11)), .mv (.V 5), none⟩,
   ⟨(some (.E 12)), .mv (.V 0), none⟩,
   ⟨(some (.E 13)), .len (.E 12), none⟩,
   ⟨(some (.E 14)), .bin .lss (.E 11) (.E 13), none⟩])
 (.cond (.E 14)
  (.skip)
  (.exit 0)))
 (.seq (.block 1 (.seq (.regD [(⟨(some (.E 17)), .mv (.V 0), none⟩, 0, 0),
    (⟨(some (.E 18)), .mv (.V 5), none⟩, 0, 0),
    (⟨(some (.E 19)), .iaddr 1 (.E 17) (.E 18), none⟩, 0, 0),
    (⟨(some (.E 20)), .load false 1 (.E 19), none⟩, 0, 0),
    (⟨(some (.E 21)), .mv (.V 1), none⟩, 0, 0),
    (⟨(some (.E 22)), .mv (.V 5), none⟩, 0, 0),
    (⟨(some (.E 23)), .iaddr 1 (.E 21) (.E 22), none⟩, 0, 0),
    (⟨(some (.E 24)), .load false 1 (.E 23), none⟩, 0, 0),
    (⟨(some (.E 25)), .call k_laws_eqIntS [([1], (.E 20)), ([1], (.E 24))], none⟩, 0, 0),
    (⟨(some (.E 26)), .un .not (.E 25), none⟩, 0, 0)])
  (.cond (.E 26)
   (.seq (.reg [⟨(some (.V 4)), .mv (kb false), none⟩])
   (.ret))
   (.skip))))
 (.reg [⟨(some (.E 15)), .mv (.V 5), none⟩,
   ⟨(some (.E 16)), .bin .add (.E 15) (ki 1), none⟩,
   ⟨(some (.V 5)), .mv (.E 16), none⟩]))

def k_laws_eqIntSS_ic : IC :=
 .seq (.reg [⟨(some (.V 4)), .mv (kb false), none⟩])
 (.seq (.seq (.reg [⟨(some (.E 6)), .mv (.V 0), none⟩,
   ⟨(some (.E 7)), .len (.E 6), none⟩,
   ⟨(some (.E 8)), .mv (.V 1), none⟩,
   ⟨(some (.E 9)), .len (.E 8), none⟩,
   ⟨(some (.E 10)), .bin .neq (.E 7) (.E 9), none⟩])
 (.cond (.E 10)
  (.seq (.reg [⟨(some (.V 4)), .mv (kb false), none⟩])
  (.ret))
  (.skip)))
 (.seq (.seq (.reg [⟨(some (.V 5)), .mv (ki 0), none⟩])
 (.block 0 (.loop k_laws_eqIntSS_b0)))
 (.seq (.reg [⟨(some (.V 4)), .mv (kb true), none⟩])
 (.ret))))

def k_laws_eqIntSS_rv : List RV := [.tmp [0] 4]

def k_laws_markTree_vars : List Nat := [0, 1, 2, 4]

def k_laws_markTree_ic : IC :=
 .seq (.reg [⟨(some (.V 2)), .box (.V 0), none⟩,
   ⟨(some (.V 4)), .mv (ki 0), none⟩])
 (.seq (.reg [⟨(some (.E 5)), .faddr 0 (.V 2), none⟩,
   ⟨(some (.E 6)), .load false 1 (.E 5), none⟩,
   ⟨(some (.E 7)), .mv (.V 1), none⟩,
   ⟨(some (.E 8)), .call k_laws_markNodeS [([5], (.E 6)), ([0], (.E 7))], none⟩,
   ⟨(some (.V 1)), .mv (.E 8), none⟩])
 (.seq (.reg [⟨(some (.E 9)), .mv (.V 1), none⟩,
   ⟨(some (.V 4)), .mv (.E 9), none⟩])
 (.ret)))

def k_laws_markTree_rv : List RV := [.tmp [0] 4]

def k_laws_markIntSS_vars : List Nat := [0, 1, 5, 4]

def k_laws_markIntSS_b0 : IC :=
 .seq (.seq (.reg [⟨(some (.E 6)), .mv (.V 5), none⟩,
   ⟨(some (.E 7)), .mv (.V 0), none⟩,
   ⟨(some (.E 8)), .len (.E 7), none⟩,
   ⟨(some (.E 9)), .bin .lss (.E 6) (.E 8), none⟩])
 (.cond (.E 9)
  (.skip)
  (.exit 0)))
 (.seq (.block 1 (.reg [⟨(some (.E 12)), .mv (.V 0), none⟩,
    ⟨(some (.E 13)), .mv (.V 5), none⟩,
    ⟨(some (.E 14)), .iaddr 1 (.E 12) (.E 13), none⟩,
    ⟨(some (.E 15)), .load false 1 (.E 14), none⟩,
    ⟨(some (.E 16)), .mv (.V 1), none⟩,
    ⟨(some (.E 17)), .call k_laws_markIntS [([1], (.E 15)), ([0], (.E 16))], none⟩,
    ⟨(some (.V 1)), .mv (.E 17), none⟩]))
 (.reg [⟨(some (.E 10)), .mv (.V 5), none⟩,
   ⟨(some (.E 11)), .bin .add (.E 10) (ki 1), none⟩,
   ⟨(some (.V 5)), .mv (.E 11), none⟩]))

def k_laws_markIntSS_ic : IC :=
 .seq (.reg [⟨(some (.V 4)), .mv (ki 0), none⟩])
 (.seq (.seq (.reg [⟨(some (.V 5)), .mv (ki 0), none⟩])
 (.block 0 (.loop k_laws_markIntSS_b0)))
 (.seq (.reg [⟨(some (.E 18)), .mv (.V 1), none⟩,
   ⟨(some (.V 4)), .mv (.E 18), none⟩])
 (.ret)))

def k_laws_markIntSS_rv : List RV := [.tmp [0] 4]

def k_laws_markIntS_vars : List Nat := [0, 1, 5, 4]

def k_laws_markIntS_b0 : IC :=
 .seq (.seq (.reg [⟨(some (.E 6)), .mv (.V 5), none⟩,
   ⟨(some (.E 7)), .mv (.V 0), none⟩,
   ⟨(some (.E 8)), .len (.E 7), none⟩,
   ⟨(some (.E 9)), .bin .lss (.E 6) (.E 8), none⟩])
 (.cond (.E 9)
  (.skip)
  (.exit 0)))
 (.seq (.block 1 (.seq (.reg [⟨(some (.E 12)), .mv (.V 0), none⟩,
    ⟨(some (.E 13)), .mv (.V 5), none⟩,
    ⟨(some (.E 14)), .mv (.V 1), none⟩,
    ⟨(some (.E 15)), .iaddr 1 (.E 12) (.E 13), none⟩,
    ⟨none, .store [0] (.E 15) (.E 14), none⟩])
  (.reg [⟨(some (.E 16)), .mv (.V 1), none⟩,
    ⟨(some (.E 17)), .bin .add (.E 16) (ki 1), none⟩,
    ⟨(some (.V 1)), .mv (.E 17), none⟩])))
 (.reg [⟨(some (.E 10)), .mv (.V 5), none⟩,
   ⟨(some (.E 11)), .bin .add (.E 10) (ki 1), none⟩,
   ⟨(some (.V 5)), .mv (.E 11), none⟩]))

def k_laws_markIntS_ic : IC :=
 .seq (.reg [⟨(some (.V 4)), .mv (ki 0), none⟩])
 (.seq (.seq (.reg [⟨(some (.V 5)), .mv (ki 0), none⟩])
 (.block 0 (.loop k_laws_markIntS_b0)))
 (.seq (.reg [⟨(some (.E 18)), .mv (.V 1), none⟩,
   ⟨(some (.V 4)), .mv (.E 18), none⟩])
 (.ret)))

def k_laws_markIntS_rv : List RV := [.tmp [0] 4]

def k_laws_heldIntS_vars : List Nat := [0, 1, 5, 4]

def k_laws_heldIntS_b0 : IC :=
 .seq (.seq (.reg [⟨(some (.E 6)), .mv (.V 5), none⟩,
   ⟨(some (.E 7)), .mv (.V 0), none⟩,
   ⟨(some (.E 8)), .len (.E 7), none⟩,
   ⟨(some (.E 9)), .bin .lss (.E 6) (.E 8), none⟩])
 (.cond (.E 9)
  (.skip)
  (.exit 0)))
 (.seq (.block 1 (.seq (.seq (.reg [⟨(some (.E 12)), .mv (.V 0), none⟩,
    ⟨(some (.E 13)), .mv (.V 5), none⟩,
    ⟨(some (.E 14)), .iaddr 1 (.E 12) (.E 13), none⟩,
    ⟨(some (.E 15)), .load false 1 (.E 14), none⟩,
    ⟨(some (.E 16)), .mv (.V 1), none⟩,
    ⟨(some (.E 17)), .bin .neq (.E 15) (.E 16), none⟩])
  (.cond (.E 17)
   (.seq (.reg [⟨(some (.V 4)), .mv (ki (-1)), none⟩])
   (.ret))
   (.skip)))
  (.reg [⟨(some (.E 18)), .mv (.V 1), none⟩,
    ⟨(some (.E 19)), .bin .add (.E 18) (ki 1), none⟩,
    ⟨(some (.V 1)), .mv (.E 19), none⟩])))
 (.reg [⟨(some (.E 10)), .mv (.V 5), none⟩,
   ⟨(some (.E 11)), .bin .add (.E 10) (ki 1), none⟩,
   ⟨(some (.V 5)), .mv (.E 11), none⟩]))

def k_laws_heldIntS_ic : IC :=
 .seq (.reg [⟨(some (.V 4)), .mv (ki 0), none⟩])
 (.seq (.seq (.reg [⟨(some (.V 5)), .mv (ki 0), none⟩])
 (.block 0 (.loop k_laws_heldIntS_b0)))
 (.seq (.reg [⟨(some (.E 20)), .mv (.V 1), none⟩,
   ⟨(some (.V 4)), .mv (.E 20), none⟩])
 (.ret)))

def k_laws_heldIntS_rv : List RV := [.tmp [0] 4]

def k_impl_within_vars : List Nat := [0, 1, 2, 6]

def k_impl_within_ic : IC :=
 .seq (.reg [⟨(some (.V 6)), .mv (kb false), none⟩])
 (.seq (.reg [⟨(some (.E 7)), .mv (.V 0), none⟩,
   ⟨(some (.E 8)), .mv (.V 1), none⟩,
   ⟨(some (.E 9)), .bin .geq (.E 7) (.E 8), none⟩,
   ⟨(some (.E 10)), .mv (.E 9), none⟩,
   ⟨(some (.E 11)), .mv (.V 0), some ((.E 10), true)⟩,
   ⟨(some (.E 12)), .mv (.V 2), some ((.E 10), true)⟩,
   ⟨(some (.E 13)), .bin .leq (.E 11) (.E 12), some ((.E 10), true)⟩,
   ⟨(some (.E 14)), .pick (.E 10) (.E 13) (kb false), none⟩,
   ⟨(some (.V 6)), .mv (.E 14), none⟩])
 (.ret))

def k_impl_within_rv : List RV := [.tmp [0] 6]

def k_impl_isLeaf_vars : List Nat := [0, 1, 2]

def k_impl_isLeaf_ic : IC :=
 .seq (.reg [⟨(some (.V 1)), .box (.V 0), none⟩,
   ⟨(some (.V 2)), .mv (kb false), none⟩])
 (.seq (.reg [⟨(some (.E 3)), .faddr 0 (.V 1), none⟩,
   ⟨(some (.E 4)), .load false 1 (.E 3), none⟩,
   ⟨(some (.E 5)), .bin .eql (.E 4) (ki (-1)), none⟩,
   ⟨(some (.V 2)), .mv (.E 5), none⟩])
 (.ret))

def k_impl_isLeaf_rv : List RV := [.tmp [0] 2]

def k_spec_l1In_vars : List Nat := [0, 1, 2, 6]

def k_spec_l1In_ic : IC :=
 .seq (.reg [⟨(some (.V 6)), .mv (kb false), none⟩])
 (.seq (.reg [⟨(some (.E 7)), .mv (.V 0), none⟩,
   ⟨(some (.E 8)), .mv (.V 1), none⟩,
   ⟨(some (.E 9)), .bin .geq (.E 7) (.E 8), none⟩,
   ⟨(some (.E 10)), .mv (.E 9), none⟩,
   ⟨(some (.E 11)), .mv (.V 0), some ((.E 10), true)⟩,
   ⟨(some (.E 12)), .mv (.V 2), some ((.E 10), true)⟩,
   ⟨(some (.E 13)), .bin .leq (.E 11) (.E 12), some ((.E 10), true)⟩,
   ⟨(some (.E 14)), .pick (.E 10) (.E 13) (kb false), none⟩,
   ⟨(some (.V 6)), .mv (.E 14), none⟩])
 (.ret))

def k_spec_l1In_rv : List RV := [.tmp [0] 6]

def k_slices_Contains___int_int__vars : List Nat := [0, 1, 4]

def k_slices_Contains___int_int__ic : IC :=
 .seq (.reg [⟨(some (.V 4)), .mv (kb false), none⟩])
 (.seq (.reg [⟨(some (.E 5)), .mv (.V 0), none⟩,
   ⟨(some (.E 6)), .mv (.V 1), none⟩,
   ⟨(some (.E 7)), .call k_slices_Index___int_int_ [([1], (.E 5)), ([0], (.E 6))], none⟩,
   ⟨(some (.E 8)), .bin .geq (.E 7) (ki 0), none⟩,
   ⟨(some (.V 4)), .mv (.E 8), none⟩])
 (.ret))

def k_slices_Contains___int_int__rv : List RV := [.tmp [0] 4]

def k_impl_route_vars : List Nat := [0, 1, 2, 13, 12, 6, 5, 7, 4]

def k_impl_route_b0 : IC :=
 .seq (.reg [⟨(some (.E 14)), .bin .lss (.V 13) (.V 12), none⟩])
 (.seq (.cond (.E 14)
  (.skip)
  (.exit 0))
 (.seq (.block 1 (.seq (.seq (.reg [⟨(some (.E 15)), .mv (.V 6), none⟩,
    ⟨(some (.E 16)), .faddr 0 (.V 2), none⟩,
    ⟨(some (.E 17)), .load false 1 (.E 16), none⟩,
    ⟨(some (.E 18)), .len (.E 17), none⟩,
    ⟨(some (.E 19)), .bin .sub (.E 18) (ki 1), none⟩,
    ⟨(some (.E 20)), .call k_impl_within [([0], (.E 15)), ([0], (ki 0)), ([0], (.E 19))], none⟩,
    ⟨(some (.E 21)), .un .not (.E 20), none⟩])
  (.cond (.E 21)
   (.seq (.reg [⟨(some (.V 4)), .mv (.C .e0), none⟩])
   (.ret))
   (.skip)))
  (.seq (.reg [⟨(some (.E 22)), .faddr 0 (.V 2), none⟩,
    ⟨(some (.E 23)), .load false 1 (.E 22), none⟩,
    ⟨(some (.E 24)), .mv (.V 6), none⟩,
    ⟨(some (.E 25)), .iaddr 5 (.E 23) (.E 24), none⟩,
    ⟨(some (.E 26)), .load true 5 (.E 25), none⟩,
    ⟨(some (.V 7)), .alloc [(.v (.int .i64 0)), (.v (.int .i64 0)), (.v (.int .i64 0)), (.v (.int .i64 0)), (.v (.int .i64 0))], none⟩,
    ⟨none, .store [0, 0, 0, 0, 0] (.V 7) (.E 26), none⟩])
  (.seq (.reg [⟨(some (.E 27)), .mv (.V 5), none⟩,
    ⟨(some (.E 28)), .mv (.V 6), none⟩,
    ⟨(some (.E 29)), .bslice 1 1 [(.v (.int .i64 0))] [(0, (.E 28))], none⟩,
    ⟨(some (.E 30)), .app 8 1 (.E 27) (.E 29), none⟩,
    ⟨(some (.V 5)), .mv (.E 30), none⟩])
  (.block 2 (.seq (.reg [⟨(some (.E 34)), .load true 5 (.V 7), none⟩,
     ⟨(some (.E 35)), .call k_impl_isLeaf [([0, 0, 0, 0, 0], (.E 34))], none⟩,
     ⟨(some (.E 33)), .mv (.E 35), none⟩])
   (.cond (.E 33)
    (.seq (.reg [⟨(some (.E 36)), .mv (.V 5), none⟩,
      ⟨(some (.V 4)), .mv (.E 36), none⟩])
    (.ret))
    (.seq (.reg [⟨(some (.E 38)), .faddr 0 (.V 7), none⟩,
      ⟨(some (.E 39)), .load false 1 (.E 38), none⟩,
      ⟨(some (.E 40)), .mv (.V 1), none⟩,
      ⟨(some (.E 41)), .len (.E 40), none⟩,
      ⟨(some (.E 42)), .bin .sub (.E 41) (ki 1), none⟩,
      ⟨(some (.E 43)), .call k_impl_within [([0], (.E 39)), ([0], (ki 0)), ([0], (.E 42))], none⟩,
      ⟨(some (.E 44)), .un .not (.E 43), none⟩,
      ⟨(some (.E 37)), .mv (.E 44), none⟩])
    (.cond (.E 37)
     (.seq (.reg [⟨(some (.V 4)), .mv (.C .e0), none⟩])
     (.ret))
     (.seq (.regD [(⟨(some (.E 46)), .mv (.V 1), none⟩, 0, 0),
       (⟨(some (.E 47)), .faddr 0 (.V 7), none⟩, 0, 0),
       (⟨(some (.E 48)), .load false 1 (.E 47), none⟩, 0, 0),
       (⟨(some (.E 49)), .iaddr 1 (.E 46) (.E 48), none⟩, 0, 0),
       (⟨(some (.E 50)), .load false 1 (.E 49), none⟩, 0, 0),
       (⟨(some (.E 51)), .faddr 1 (.V 7), none⟩, 0, 0),
       (⟨(some (.E 52)), .load false 1 (.E 51), none⟩, 0, 0),
       (⟨(some (.E 53)), .bin .leq (.E 50) (.E 52), none⟩, 0, 0),
       (⟨(some (.E 45)), .mv (.E 53), none⟩, 0, 0)])
     (.cond (.E 45)
      (.reg [⟨(some (.E 54)), .faddr 2 (.V 7), none⟩,
        ⟨(some (.E 55)), .load false 1 (.E 54), none⟩,
        ⟨(some (.V 6)), .mv (.E 55), none⟩])
      (.reg [⟨(some (.E 31)), .faddr 3 (.V 7), none⟩,
        ⟨(some (.E 32)), .load false 1 (.E 31), none⟩,
        ⟨(some (.V 6)), .mv (.E 32), none⟩]))))))))))))
 (.reg [⟨(some (.E 56)), .bin .add (.V 13) (ki 1), none⟩,
   ⟨(some (.V 13)), .mv (.E 56), none⟩])))

def k_impl_route_ic : IC :=
 .seq (.reg [⟨(some (.V 2)), .box (.V 0), none⟩,
   ⟨(some (.V 4)), .mv (.C .e0), none⟩])
 (.seq (.reg [⟨(some (.E 8)), .bslice 0 1 [(.v (.int .i64 0))] [], none⟩,
   ⟨(some (.V 5)), .mv (.E 8), none⟩,
   ⟨(some (.V 6)), .mv (ki 0), none⟩])
 (.seq (.seq (.reg [⟨(some (.E 9)), .faddr 0 (.V 2), none⟩,
   ⟨(some (.E 10)), .load false 1 (.E 9), none⟩,
   ⟨(some (.E 11)), .len (.E 10), none⟩,
   ⟨(some (.V 12)), .bin .add (.E 11) (ki 1), none⟩,
   ⟨(some (.V 13)), .mv (ki 0), none⟩])
 (.block 0 (.loop k_impl_route_b0)))
 (.seq (.reg [⟨(some (.V 4)), .mv (.C .e0), none⟩])
 (.ret))))

def k_impl_route_rv : List RV := [.tmp [1] 4]

def k_spec_l18Way_vars : List Nat := [0, 1, 7, 2, 6, 5, 8, 4]

def k_spec_l18Way_b0 : IC :=
 .seq (.seq (.reg [⟨(some (.E 10)), .mv (.V 7), none⟩,
   ⟨(some (.E 11)), .faddr 0 (.V 2), none⟩,
   ⟨(some (.E 12)), .load false 1 (.E 11), none⟩,
   ⟨(some (.E 13)), .len (.E 12), none⟩,
   ⟨(some (.E 14)), .bin .leq (.E 10) (.E 13), none⟩])
 (.cond (.E 14)
  (.skip)
  (.exit 0)))
 (.seq (.block 1 (.seq (.seq (.reg [⟨(some (.E 17)), .mv (.V 6), none⟩,
    ⟨(some (.E 18)), .faddr 0 (.V 2), none⟩,
    ⟨(some (.E 19)), .load false 1 (.E 18), none⟩,
    ⟨(some (.E 20)), .len (.E 19), none⟩,
    ⟨(some (.E 21)), .bin .sub (.E 20) (ki 1), none⟩,
    ⟨(some (.E 22)), .call k_spec_l1In [([0], (.E 17)), ([0], (ki 0)), ([0], (.E 21))], none⟩,
    ⟨(some (.E 23)), .un .not (.E 22), none⟩])
  (.cond (.E 23)
   (.seq (.reg [⟨(some (.E 24)), .bslice 0 1 [(.v (.int .i64 0))] [], none⟩,
     ⟨(some (.V 4)), .mv (.E 24), none⟩])
   (.ret))
   (.skip)))
  (.seq (.reg [⟨(some (.E 25)), .faddr 0 (.V 2), none⟩,
    ⟨(some (.E 26)), .load false 1 (.E 25), none⟩,
    ⟨(some (.E 27)), .mv (.V 6), none⟩,
    ⟨(some (.E 28)), .iaddr 5 (.E 26) (.E 27), none⟩,
    ⟨(some (.E 29)), .load true 5 (.E 28), none⟩,
    ⟨(some (.V 8)), .alloc [(.v (.int .i64 0)), (.v (.int .i64 0)), (.v (.int .i64 0)), (.v (.int .i64 0)), (.v (.int .i64 0))], none⟩,
    ⟨none, .store [0, 0, 0, 0, 0] (.V 8) (.E 29), none⟩])
  (.seq (.reg [⟨(some (.E 30)), .mv (.V 5), none⟩,
    ⟨(some (.E 31)), .mv (.V 6), none⟩,
    ⟨(some (.E 32)), .bslice 1 1 [(.v (.int .i64 0))] [(0, (.E 31))], none⟩,
    ⟨(some (.E 33)), .app 8 1 (.E 30) (.E 32), none⟩,
    ⟨(some (.V 5)), .mv (.E 33), none⟩])
  (.seq (.seq (.reg [⟨(some (.E 34)), .load true 5 (.V 8), none⟩,
    ⟨(some (.E 35)), .call k_spec_l17Inner [([0, 0, 0, 0, 0], (.E 34))], none⟩,
    ⟨(some (.E 36)), .un .not (.E 35), none⟩])
  (.cond (.E 36)
   (.seq (.reg [⟨(some (.E 37)), .mv (.V 5), none⟩,
     ⟨(some (.V 4)), .mv (.E 37), none⟩])
   (.ret))
   (.skip)))
  (.seq (.seq (.reg [⟨(some (.E 38)), .faddr 0 (.V 8), none⟩,
    ⟨(some (.E 39)), .load false 1 (.E 38), none⟩,
    ⟨(some (.E 40)), .mv (.V 1), none⟩,
    ⟨(some (.E 41)), .len (.E 40), none⟩,
    ⟨(some (.E 42)), .bin .sub (.E 41) (ki 1), none⟩,
    ⟨(some (.E 43)), .call k_spec_l1In [([0], (.E 39)), ([0], (ki 0)), ([0], (.E 42))], none⟩,
    ⟨(some (.E 44)), .un .not (.E 43), none⟩])
  (.cond (.E 44)
   (.seq (.reg [⟨(some (.E 45)), .bslice 0 1 [(.v (.int .i64 0))] [], none⟩,
     ⟨(some (.V 4)), .mv (.E 45), none⟩])
   (.ret))
   (.skip)))
  (.seq (.regD [(⟨(some (.E 46)), .mv (.V 1), none⟩, 0, 0),
    (⟨(some (.E 47)), .faddr 0 (.V 8), none⟩, 0, 0),
    (⟨(some (.E 48)), .load false 1 (.E 47), none⟩, 0, 0),
    (⟨(some (.E 49)), .iaddr 1 (.E 46) (.E 48), none⟩, 0, 0),
    (⟨(some (.E 50)), .load false 1 (.E 49), none⟩, 0, 0),
    (⟨(some (.E 51)), .faddr 1 (.V 8), none⟩, 0, 0),
    (⟨(some (.E 52)), .load false 1 (.E 51), none⟩, 0, 0),
    (⟨(some (.E 53)), .bin .leq (.E 50) (.E 52), none⟩, 0, 0)])
  (.cond (.E 53)
   (.reg [⟨(some (.E 54)), .faddr 2 (.V 8), none⟩,
     ⟨(some (.E 55)), .load false 1 (.E 54), none⟩,
     ⟨(some (.V 6)), .mv (.E 55), none⟩])
   (.reg [⟨(some (.E 56)), .faddr 3 (.V 8), none⟩,
     ⟨(some (.E 57)), .load false 1 (.E 56), none⟩,
     ⟨(some (.V 6)), .mv (.E 57), none⟩])))))))))
 (.reg [⟨(some (.E 15)), .mv (.V 7), none⟩,
   ⟨(some (.E 16)), .bin .add (.E 15) (ki 1), none⟩,
   ⟨(some (.V 7)), .mv (.E 16), none⟩]))

def k_spec_l18Way_ic : IC :=
 .seq (.reg [⟨(some (.V 2)), .box (.V 0), none⟩,
   ⟨(some (.V 4)), .mv (.C .e0), none⟩])
 (.seq (.reg [⟨(some (.E 9)), .bslice 0 1 [(.v (.int .i64 0))] [], none⟩,
   ⟨(some (.V 5)), .mv (.E 9), none⟩])
 (.seq (.reg [⟨(some (.V 6)), .mv (ki 0), none⟩])
 (.seq (.seq (.reg [⟨(some (.V 7)), .mv (ki 0), none⟩])
 (.block 0 (.loop k_spec_l18Way_b0)))
 (.seq (.reg [⟨(some (.E 58)), .bslice 0 1 [(.v (.int .i64 0))] [], none⟩,
   ⟨(some (.V 4)), .mv (.E 58), none⟩])
 (.ret)))))

def k_spec_l18Way_rv : List RV := [.tmp [1] 4]

def k_spec_l17Inner_vars : List Nat := [0, 1, 2]

def k_spec_l17Inner_ic : IC :=
 .seq (.reg [⟨(some (.V 1)), .box (.V 0), none⟩,
   ⟨(some (.V 2)), .mv (kb false), none⟩])
 (.seq (.reg [⟨(some (.E 3)), .faddr 0 (.V 1), none⟩,
   ⟨(some (.E 4)), .load false 1 (.E 3), none⟩,
   ⟨(some (.E 5)), .bin .neq (.E 4) (ki (-1)), none⟩,
   ⟨(some (.V 2)), .mv (.E 5), none⟩])
 (.ret))

def k_spec_l17Inner_rv : List RV := [.tmp [0] 2]

def k_laws_szNodeS_vars : List Nat := [0, 1, 4]

def k_laws_szNodeS_ic : IC :=
 .seq (.reg [⟨(some (.V 4)), .mv (ki 0), none⟩])
 (.seq (.reg [⟨(some (.E 5)), .mv (.V 1), none⟩,
   ⟨(some (.E 6)), .mv (.V 0), none⟩,
   ⟨(some (.E 7)), .len (.E 6), none⟩,
   ⟨(some (.E 8)), .bin .sub (.E 5) (.E 7), none⟩,
   ⟨(some (.V 1)), .mv (.E 8), none⟩])
 (.seq (.seq (.reg [⟨(some (.E 9)), .mv (.V 1), none⟩,
   ⟨(some (.E 10)), .bin .lss (.E 9) (ki 0), none⟩])
 (.cond (.E 10)
  (.seq (.reg [⟨(some (.V 4)), .mv (ki (-1)), none⟩])
  (.ret))
  (.skip)))
 (.seq (.reg [⟨(some (.E 11)), .mv (.V 1), none⟩,
   ⟨(some (.V 4)), .mv (.E 11), none⟩])
 (.ret))))

def k_laws_szNodeS_rv : List RV := [.tmp [0] 4]

def k_laws_szIntS_vars : List Nat := [0, 1, 4]

def k_laws_szIntS_ic : IC :=
 .seq (.reg [⟨(some (.V 4)), .mv (ki 0), none⟩])
 (.seq (.reg [⟨(some (.E 5)), .mv (.V 1), none⟩,
   ⟨(some (.E 6)), .mv (.V 0), none⟩,
   ⟨(some (.E 7)), .len (.E 6), none⟩,
   ⟨(some (.E 8)), .bin .sub (.E 5) (.E 7), none⟩,
   ⟨(some (.V 1)), .mv (.E 8), none⟩])
 (.seq (.seq (.reg [⟨(some (.E 9)), .mv (.V 1), none⟩,
   ⟨(some (.E 10)), .bin .lss (.E 9) (ki 0), none⟩])
 (.cond (.E 10)
  (.seq (.reg [⟨(some (.V 4)), .mv (ki (-1)), none⟩])
  (.ret))
  (.skip)))
 (.seq (.reg [⟨(some (.E 11)), .mv (.V 1), none⟩,
   ⟨(some (.V 4)), .mv (.E 11), none⟩])
 (.ret))))

def k_laws_szIntS_rv : List RV := [.tmp [0] 4]

def k_laws_toNodeS_vars : List Nat := [0, 4, 3, 2]

def k_laws_toNodeS_b0 : IC :=
 .seq (.seq (.reg [⟨(some (.E 8)), .mv (.V 4), none⟩,
   ⟨(some (.E 9)), .mv (.V 0), none⟩,
   ⟨(some (.E 10)), .len (.E 9), none⟩,
   ⟨(some (.E 11)), .bin .lss (.E 8) (.E 10), none⟩])
 (.cond (.E 11)
  (.skip)
  (.exit 0)))
 (.seq (.block 1 (.reg [⟨(some (.E 14)), .mv (.V 3), none⟩,
    ⟨(some (.E 15)), .mv (.V 4), none⟩,
    ⟨(some (.E 16)), .mv (.V 0), none⟩,
    ⟨(some (.E 17)), .mv (.V 4), none⟩,
    ⟨(some (.E 18)), .iaddr 5 (.E 16) (.E 17), none⟩,
    ⟨(some (.E 19)), .load true 5 (.E 18), none⟩,
    ⟨(some (.E 20)), .call k_laws_toNode [([0, 0, 0, 0, 0], (.E 19))], none⟩,
    ⟨(some (.E 21)), .iaddr 5 (.E 14) (.E 15), none⟩,
    ⟨none, .store [0, 0, 0, 0, 0] (.E 21) (.E 20), none⟩]))
 (.reg [⟨(some (.E 12)), .mv (.V 4), none⟩,
   ⟨(some (.E 13)), .bin .add (.E 12) (ki 1), none⟩,
   ⟨(some (.V 4)), .mv (.E 13), none⟩]))

def k_laws_toNodeS_ic : IC :=
 .seq (.reg [⟨(some (.V 2)), .mv (.C .e0), none⟩])
 (.seq (.reg [⟨(some (.E 5)), .mv (.V 0), none⟩,
   ⟨(some (.E 6)), .len (.E 5), none⟩,
   ⟨(some (.E 7)), .mksl 40 5 [(.v (.int .i64 0)), (.v (.int .i64 0)), (.v (.int .i64 0)), (.v (.int .i64 0)), (.v (.int .i64 0))] (.E 6) (.E 6), none⟩,
   ⟨(some (.V 3)), .mv (.E 7), none⟩])
 (.seq (.seq (.reg [⟨(some (.V 4)), .mv (ki 0), none⟩])
 (.block 0 (.loop k_laws_toNodeS_b0)))
 (.seq (.reg [⟨(some (.E 22)), .mv (.V 3), none⟩,
   ⟨(some (.V 2)), .mv (.E 22), none⟩])
 (.ret))))

def k_laws_toNodeS_rv : List RV := [.tmp [5] 2]

def k_laws_eqNodeS_vars : List Nat := [0, 1, 5, 4]

def k_laws_eqNodeS_b0 : IC :=
 .seq (.seq (.reg [⟨(some (.E 11)), .mv (.V 5), none⟩,
   ⟨(some (.E 12)), .mv (.V 0), none⟩,
   ⟨(some (.E 13)), .len (.E 12), none⟩,
   ⟨(some (.E 14)), .bin .lss (.E 11) (.E 13), none⟩])
 (.cond (.E 14)
  (.skip)
  (.exit 0)))
 (.seq (.block 1 (.seq (.regD [(⟨(some (.E 17)), .mv (.V 0), none⟩, 0, 0),
    (⟨(some (.E 18)), .mv (.V 5), none⟩, 0, 0),
    (⟨(some (.E 19)), .iaddr 5 (.E 17) (.E 18), none⟩, 0, 0),
    (⟨(some (.E 20)), .load true 5 (.E 19), none⟩, 0, 0),
    (⟨(some (.E 21)), .mv (.V 1), none⟩, 0, 0),
    (⟨(some (.E 22)), .mv (.V 5), none⟩, 0, 0),
    (⟨(some (.E 23)), .iaddr 5 (.E 21) (.E 22), none⟩, 0, 0),
    (⟨(some (.E 24)), .load true 5 (.E 23), none⟩, 0, 0),
    (⟨(some (.E 25)), .call k_laws_eqNode [([0, 0, 0, 0, 0], (.E 20)), ([0, 0, 0, 0, 0], (.E 24))], none⟩, 0, 0),
    (⟨(some (.E 26)), .un .not (.E 25), none⟩, 0, 0)])
  (.cond (.E 26)
   (.seq (.reg [⟨(some (.V 4)), .mv (kb false), none⟩])
   (.ret))
   (.skip))))
 (.reg [⟨(some (.E 15)), .mv (.V 5), none⟩,
   ⟨(some (.E 16)), .bin .add (.E 15) (ki 1), none⟩,
   ⟨(some (.V 5)), .mv (.E 16), none⟩]))

def k_laws_eqNodeS_ic : IC :=
 .seq (.reg [⟨(some (.V 4)), .mv (kb false), none⟩])
 (.seq (.seq (.reg [⟨(some (.E 6)), .mv (.V 0), none⟩,
   ⟨(some (.E 7)), .len (.E 6), none⟩,
   ⟨(some (.E 8)), .mv (.V 1), none⟩,
   ⟨(some (.E 9)), .len (.E 8), none⟩,
   ⟨(some (.E 10)), .bin .neq (.E 7) (.E 9), none⟩])
 (.cond (.E 10)
  (.seq (.reg [⟨(some (.V 4)), .mv (kb false), none⟩])
  (.ret))
  (.skip)))
 (.seq (.seq (.reg [⟨(some (.V 5)), .mv (ki 0), none⟩])
 (.block 0 (.loop k_laws_eqNodeS_b0)))
 (.seq (.reg [⟨(some (.V 4)), .mv (kb true), none⟩])
 (.ret))))

def k_laws_eqNodeS_rv : List RV := [.tmp [0] 4]

def k_laws_markNodeS_vars : List Nat := [0, 1, 5, 4]

def k_laws_markNodeS_b0 : IC :=
 .seq (.seq (.reg [⟨(some (.E 6)), .mv (.V 5), none⟩,
   ⟨(some (.E 7)), .mv (.V 0), none⟩,
   ⟨(some (.E 8)), .len (.E 7), none⟩,
   ⟨(some (.E 9)), .bin .lss (.E 6) (.E 8), none⟩])
 (.cond (.E 9)
  (.skip)
  (.exit 0)))
 (.seq (.block 1 (.seq (.reg [⟨(some (.E 12)), .mv (.V 0), none⟩,
    ⟨(some (.E 13)), .mv (.V 5), none⟩,
    ⟨(some (.E 14)), .mv (.V 1), none⟩,
    ⟨(some (.E 15)), .iaddr 5 (.E 12) (.E 13), none⟩,
    ⟨(some (.E 16)), .faddr 0 (.E 15), none⟩,
    ⟨none, .store [0] (.E 16) (.E 14), none⟩])
  (.seq (.reg [⟨(some (.E 17)), .mv (.V 1), none⟩,
    ⟨(some (.E 18)), .bin .add (.E 17) (ki 1), none⟩,
    ⟨(some (.V 1)), .mv (.E 18), none⟩])
  (.seq (.reg [⟨(some (.E 19)), .mv (.V 0), none⟩,
    ⟨(some (.E 20)), .mv (.V 5), none⟩,
    ⟨(some (.E 21)), .mv (.V 1), none⟩,
    ⟨(some (.E 22)), .iaddr 5 (.E 19) (.E 20), none⟩,
    ⟨(some (.E 23)), .faddr 1 (.E 22), none⟩,
    ⟨none, .store [0] (.E 23) (.E 21), none⟩])
  (.seq (.reg [⟨(some (.E 24)), .mv (.V 1), none⟩,
    ⟨(some (.E 25)), .bin .add (.E 24) (ki 1), none⟩,
    ⟨(some (.V 1)), .mv (.E 25), none⟩])
  (.seq (.reg [⟨(some (.E 26)), .mv (.V 0), none⟩,
    ⟨(some (.E 27)), .mv (.V 5), none⟩,
    ⟨(some (.E 28)), .mv (.V 1), none⟩,
    ⟨(some (.E 29)), .iaddr 5 (.E 26) (.E 27), none⟩,
    ⟨(some (.E 30)), .faddr 2 (.E 29), none⟩,
    ⟨none, .store [0] (.E 30) (.E 28), none⟩])
  (.seq (.reg [⟨(some (.E 31)), .mv (.V 1), none⟩,
    ⟨(some (.E 32)), .bin .add (.E 31) (ki 1), none⟩,
    ⟨(some (.V 1)), .mv (.E 32), none⟩])
  (.seq (.reg [⟨(some (.E 33)), .mv (.V 0), none⟩,
    ⟨(some (.E 34)), .mv (.V 5), none⟩,
    ⟨(some (.E 35)), .mv (.V 1), none⟩,
    ⟨(some (.E 36)), .iaddr 5 (.E 33) (.E 34), none⟩,
    ⟨(some (.E 37)), .faddr 3 (.E 36), none⟩,
    ⟨none, .store [0] (.E 37) (.E 35), none⟩])
  (.seq (.reg [⟨(some (.E 38)), .mv (.V 1), none⟩,
    ⟨(some (.E 39)), .bin .add (.E 38) (ki 1), none⟩,
    ⟨(some (.V 1)), .mv (.E 39), none⟩])
  (.seq (.reg [⟨(some (.E 40)), .mv (.V 0), none⟩,
    ⟨(some (.E 41)), .mv (.V 5), none⟩,
    ⟨(some (.E 42)), .mv (.V 1), none⟩,
    ⟨(some (.E 43)), .iaddr 5 (.E 40) (.E 41), none⟩,
    ⟨(some (.E 44)), .faddr 4 (.E 43), none⟩,
    ⟨none, .store [0] (.E 44) (.E 42), none⟩])
  (.reg [⟨(some (.E 45)), .mv (.V 1), none⟩,
    ⟨(some (.E 46)), .bin .add (.E 45) (ki 1), none⟩,
    ⟨(some (.V 1)), .mv (.E 46), none⟩])))))))))))
 (.reg [⟨(some (.E 10)), .mv (.V 5), none⟩,
   ⟨(some (.E 11)), .bin .add (.E 10) (ki 1), none⟩,
   ⟨(some (.V 5)), .mv (.E 11), none⟩]))

def k_laws_markNodeS_ic : IC :=
 .seq (.reg [⟨(some (.V 4)), .mv (ki 0), none⟩])
 (.seq (.seq (.reg [⟨(some (.V 5)), .mv (ki 0), none⟩])
 (.block 0 (.loop k_laws_markNodeS_b0)))
 (.seq (.reg [⟨(some (.E 47)), .mv (.V 1), none⟩,
   ⟨(some (.V 4)), .mv (.E 47), none⟩])
 (.ret)))

def k_laws_markNodeS_rv : List RV := [.tmp [0] 4]

def k_slices_Index___int_int__vars : List Nat := [0, 1, 8, 7, 5, 4]

def k_slices_Index___int_int__b0 : IC :=
 .seq (.reg [⟨(some (.E 9)), .bin .lss (.V 8) (.V 7), none⟩])
 (.seq (.cond (.E 9)
  (.skip)
  (.exit 0))
 (.seq (.block 1 (.seq (.reg [⟨(some (.E 10)), .mv (.V 8), none⟩,
    ⟨(some (.V 5)), .mv (.E 10), none⟩])
  (.seq (.reg [⟨(some (.E 11)), .mv (.V 1), none⟩,
    ⟨(some (.E 12)), .mv (.V 0), none⟩,
    ⟨(some (.E 13)), .mv (.V 5), none⟩,
    ⟨(some (.E 14)), .iaddr 1 (.E 12) (.E 13), none⟩,
    ⟨(some (.E 15)), .load false 1 (.E 14), none⟩,
    ⟨(some (.E 16)), .bin .eql (.E 11) (.E 15), none⟩])
  (.cond (.E 16)
   (.seq (.reg [⟨(some (.E 17)), .mv (.V 5), none⟩,
     ⟨(some (.V 4)), .mv (.E 17), none⟩])
   (.ret))
   (.skip)))))
 (.reg [⟨(some (.E 18)), .bin .add (.V 8) (ki 1), none⟩,
   ⟨(some (.V 8)), .mv (.E 18), none⟩])))

def k_slices_Index___int_int__ic : IC :=
 .seq (.reg [⟨(some (.V 4)), .mv (ki 0), none⟩])
 (.seq (.seq (.reg [⟨(some (.E 6)), .mv (.V 0), none⟩,
   ⟨(some (.V 7)), .len (.E 6), none⟩,
   ⟨(some (.V 8)), .mv (ki 0), none⟩])
 (.block 0 (.loop k_slices_Index___int_int__b0)))
 (.seq (.reg [⟨(some (.V 4)), .mv (ki (-1)), none⟩])
 (.ret)))

def k_slices_Index___int_int__rv : List RV := [.tmp [0] 4]

def k_laws_toNode_vars : List Nat := [0, 1, 3, 2]

def k_laws_toNode_ic : IC :=
 .seq (.reg [⟨(some (.V 1)), .box (.V 0), none⟩,
   ⟨(some (.V 2)), .alloc [(.v (.int .i64 0)), (.v (.int .i64 0)), (.v (.int .i64 0)), (.v (.int .i64 0)), (.v (.int .i64 0))], none⟩])
 (.seq (.reg [⟨(some (.V 3)), .alloc [(.v (.int .i64 0)), (.v (.int .i64 0)), (.v (.int .i64 0)), (.v (.int .i64 0)), (.v (.int .i64 0))], none⟩])
 (.seq (.reg [⟨(some (.E 4)), .faddr 0 (.V 1), none⟩,
   ⟨(some (.E 5)), .load false 1 (.E 4), none⟩,
   ⟨(some (.E 6)), .faddr 0 (.V 3), none⟩,
   ⟨none, .store [0] (.E 6) (.E 5), none⟩])
 (.seq (.reg [⟨(some (.E 7)), .faddr 1 (.V 1), none⟩,
   ⟨(some (.E 8)), .load false 1 (.E 7), none⟩,
   ⟨(some (.E 9)), .faddr 1 (.V 3), none⟩,
   ⟨none, .store [0] (.E 9) (.E 8), none⟩])
 (.seq (.reg [⟨(some (.E 10)), .faddr 2 (.V 1), none⟩,
   ⟨(some (.E 11)), .load false 1 (.E 10), none⟩,
   ⟨(some (.E 12)), .faddr 2 (.V 3), none⟩,
   ⟨none, .store [0] (.E 12) (.E 11), none⟩])
 (.seq (.reg [⟨(some (.E 13)), .faddr 3 (.V 1), none⟩,
   ⟨(some (.E 14)), .load false 1 (.E 13), none⟩,
   ⟨(some (.E 15)), .faddr 3 (.V 3), none⟩,
   ⟨none, .store [0] (.E 15) (.E 14), none⟩])
 (.seq (.reg [⟨(some (.E 16)), .faddr 4 (.V 1), none⟩,
   ⟨(some (.E 17)), .load false 1 (.E 16), none⟩,
   ⟨(some (.E 18)), .faddr 4 (.V 3), none⟩,
   ⟨none, .store [0] (.E 18) (.E 17), none⟩])
 (.seq (.reg [⟨(some (.E 19)), .load true 5 (.V 3), none⟩,
   ⟨none, .store [0, 0, 0, 0, 0] (.V 2) (.E 19), none⟩])
 (.ret))))))))

def k_laws_toNode_rv : List RV := [.cell [0, 0, 0, 0, 0] 2 true]

def k_laws_eqNode_vars : List Nat := [0, 1, 2, 3, 4]

def k_laws_eqNode_ic : IC :=
 .seq (.reg [⟨(some (.V 2)), .box (.V 0), none⟩,
   ⟨(some (.V 3)), .box (.V 1), none⟩,
   ⟨(some (.V 4)), .mv (kb false), none⟩])
 (.seq (.seq (.reg [⟨(some (.E 5)), .faddr 0 (.V 2), none⟩,
   ⟨(some (.E 6)), .load false 1 (.E 5), none⟩,
   ⟨(some (.E 7)), .faddr 0 (.V 3), none⟩,
   ⟨(some (.E 8)), .load false 1 (.E 7), none⟩,
   ⟨(some (.E 9)), .bin .neq (.E 6) (.E 8), none⟩])
 (.cond (.E 9)
  (.seq (.reg [⟨(some (.V 4)), .mv (kb false), none⟩])
  (.ret))
  (.skip)))
 (.seq (.seq (.reg [⟨(some (.E 10)), .faddr 1 (.V 2), none⟩,
   ⟨(some (.E 11)), .load false 1 (.E 10), none⟩,
   ⟨(some (.E 12)), .faddr 1 (.V 3), none⟩,
   ⟨(some (.E 13)), .load false 1 (.E 12), none⟩,
   ⟨(some (.E 14)), .bin .neq (.E 11) (.E 13), none⟩])
 (.cond (.E 14)
  (.seq (.reg [⟨(some (.V 4)), .mv (kb false), none⟩])
  (.ret))
  (.skip)))
 (.seq (.seq (.reg [⟨(some (.E 15)), .faddr 2 (.V 2), none⟩,
   ⟨(some (.E 16)), .load false 1 (.E 15), none⟩,
   ⟨(some (.E 17)), .faddr 2 (.V 3), none⟩,
   ⟨(some (.E 18)), .load false 1 (.E 17), none⟩,
   ⟨(some (.E 19)), .bin .neq (.E 16) (.E 18), none⟩])
 (.cond (.E 19)
  (.seq (.reg [⟨(some (.V 4)), .mv (kb false), none⟩])
  (.ret))
  (.skip)))
 (.seq (.seq (.reg [⟨(some (.E 20)), .faddr 3 (.V 2), none⟩,
   ⟨(some (.E 21)), .load false 1 (.E 20), none⟩,
   ⟨(some (.E 22)), .faddr 3 (.V 3), none⟩,
   ⟨(some (.E 23)), .load false 1 (.E 22), none⟩,
   ⟨(some (.E 24)), .bin .neq (.E 21) (.E 23), none⟩])
 (.cond (.E 24)
  (.seq (.reg [⟨(some (.V 4)), .mv (kb false), none⟩])
  (.ret))
  (.skip)))
 (.seq (.seq (.reg [⟨(some (.E 25)), .faddr 4 (.V 2), none⟩,
   ⟨(some (.E 26)), .load false 1 (.E 25), none⟩,
   ⟨(some (.E 27)), .faddr 4 (.V 3), none⟩,
   ⟨(some (.E 28)), .load false 1 (.E 27), none⟩,
   ⟨(some (.E 29)), .bin .neq (.E 26) (.E 28), none⟩])
 (.cond (.E 29)
  (.seq (.reg [⟨(some (.V 4)), .mv (kb false), none⟩])
  (.ret))
  (.skip)))
 (.seq (.reg [⟨(some (.V 4)), .mv (kb true), none⟩])
 (.ret)))))))

def k_laws_eqNode_rv : List RV := [.tmp [0] 4]

def tbl : List (Nat × Fun) := [
  (k_laws_FnExactRowsAt, fnOf k_laws_FnExactRowsAt_ic k_laws_FnExactRowsAt_rv []),
  (k_laws_toIntS, fnOf k_laws_toIntS_ic k_laws_toIntS_rv []),
  (k_laws_eqIntS, fnOf k_laws_eqIntS_ic k_laws_eqIntS_rv []),
  (k_impl_RowsAt, fnOf k_impl_RowsAt_ic k_impl_RowsAt_rv []),
  (k_spec_RowsAt, fnOf k_spec_RowsAt_ic k_spec_RowsAt_rv []),
  (k_laws_szTree, fnOf k_laws_szTree_ic k_laws_szTree_rv []),
  (k_laws_szIntSS, fnOf k_laws_szIntSS_ic k_laws_szIntSS_rv []),
  (k_laws_toTree, fnOf k_laws_toTree_ic k_laws_toTree_rv []),
  (k_laws_toIntSS, fnOf k_laws_toIntSS_ic k_laws_toIntSS_rv []),
  (k_laws_eqTree, fnOf k_laws_eqTree_ic k_laws_eqTree_rv []),
  (k_laws_eqIntSS, fnOf k_laws_eqIntSS_ic k_laws_eqIntSS_rv []),
  (k_laws_markTree, fnOf k_laws_markTree_ic k_laws_markTree_rv [true]),
  (k_laws_markIntSS, fnOf k_laws_markIntSS_ic k_laws_markIntSS_rv [true]),
  (k_laws_markIntS, fnOf k_laws_markIntS_ic k_laws_markIntS_rv [true]),
  (k_laws_heldIntS, fnOf k_laws_heldIntS_ic k_laws_heldIntS_rv []),
  (k_impl_within, fnOf k_impl_within_ic k_impl_within_rv []),
  (k_impl_isLeaf, fnOf k_impl_isLeaf_ic k_impl_isLeaf_rv []),
  (k_spec_l1In, fnOf k_spec_l1In_ic k_spec_l1In_rv []),
  (k_slices_Contains___int_int_, fnOf k_slices_Contains___int_int__ic k_slices_Contains___int_int__rv []),
  (k_impl_route, fnOf k_impl_route_ic k_impl_route_rv []),
  (k_spec_l18Way, fnOf k_spec_l18Way_ic k_spec_l18Way_rv []),
  (k_spec_l17Inner, fnOf k_spec_l17Inner_ic k_spec_l17Inner_rv []),
  (k_laws_szNodeS, fnOf k_laws_szNodeS_ic k_laws_szNodeS_rv []),
  (k_laws_szIntS, fnOf k_laws_szIntS_ic k_laws_szIntS_rv []),
  (k_laws_toNodeS, fnOf k_laws_toNodeS_ic k_laws_toNodeS_rv []),
  (k_laws_eqNodeS, fnOf k_laws_eqNodeS_ic k_laws_eqNodeS_rv []),
  (k_laws_markNodeS, fnOf k_laws_markNodeS_ic k_laws_markNodeS_rv [true]),
  (k_slices_Index___int_int_, fnOf k_slices_Index___int_int__ic k_slices_Index___int_int__rv []),
  (k_laws_toNode, fnOf k_laws_toNode_ic k_laws_toNode_rv []),
  (k_laws_eqNode, fnOf k_laws_eqNode_ic k_laws_eqNode_rv [])]

def T : Table := fun f => (tbl.find? fun q => q.1 == f).map fun q => q.2

theorem T_laws_FnExactRowsAt : T k_laws_FnExactRowsAt = some (fnOf k_laws_FnExactRowsAt_ic k_laws_FnExactRowsAt_rv []) := rfl

@[simp] theorem M_laws_FnExactRowsAt : modesOf T k_laws_FnExactRowsAt = [] := modesOf_code T_laws_FnExactRowsAt

theorem T_laws_toIntS : T k_laws_toIntS = some (fnOf k_laws_toIntS_ic k_laws_toIntS_rv []) := rfl

@[simp] theorem M_laws_toIntS : modesOf T k_laws_toIntS = [] := modesOf_code T_laws_toIntS

theorem T_laws_eqIntS : T k_laws_eqIntS = some (fnOf k_laws_eqIntS_ic k_laws_eqIntS_rv []) := rfl

@[simp] theorem M_laws_eqIntS : modesOf T k_laws_eqIntS = [] := modesOf_code T_laws_eqIntS

theorem T_impl_RowsAt : T k_impl_RowsAt = some (fnOf k_impl_RowsAt_ic k_impl_RowsAt_rv []) := rfl

@[simp] theorem M_impl_RowsAt : modesOf T k_impl_RowsAt = [] := modesOf_code T_impl_RowsAt

theorem T_spec_RowsAt : T k_spec_RowsAt = some (fnOf k_spec_RowsAt_ic k_spec_RowsAt_rv []) := rfl

@[simp] theorem M_spec_RowsAt : modesOf T k_spec_RowsAt = [] := modesOf_code T_spec_RowsAt

theorem T_laws_szTree : T k_laws_szTree = some (fnOf k_laws_szTree_ic k_laws_szTree_rv []) := rfl

@[simp] theorem M_laws_szTree : modesOf T k_laws_szTree = [] := modesOf_code T_laws_szTree

theorem T_laws_szIntSS : T k_laws_szIntSS = some (fnOf k_laws_szIntSS_ic k_laws_szIntSS_rv []) := rfl

@[simp] theorem M_laws_szIntSS : modesOf T k_laws_szIntSS = [] := modesOf_code T_laws_szIntSS

theorem T_laws_toTree : T k_laws_toTree = some (fnOf k_laws_toTree_ic k_laws_toTree_rv []) := rfl

@[simp] theorem M_laws_toTree : modesOf T k_laws_toTree = [] := modesOf_code T_laws_toTree

theorem T_laws_toIntSS : T k_laws_toIntSS = some (fnOf k_laws_toIntSS_ic k_laws_toIntSS_rv []) := rfl

@[simp] theorem M_laws_toIntSS : modesOf T k_laws_toIntSS = [] := modesOf_code T_laws_toIntSS

theorem T_laws_eqTree : T k_laws_eqTree = some (fnOf k_laws_eqTree_ic k_laws_eqTree_rv []) := rfl

@[simp] theorem M_laws_eqTree : modesOf T k_laws_eqTree = [] := modesOf_code T_laws_eqTree

theorem T_laws_eqIntSS : T k_laws_eqIntSS = some (fnOf k_laws_eqIntSS_ic k_laws_eqIntSS_rv []) := rfl

@[simp] theorem M_laws_eqIntSS : modesOf T k_laws_eqIntSS = [] := modesOf_code T_laws_eqIntSS

theorem T_laws_markTree : T k_laws_markTree = some (fnOf k_laws_markTree_ic k_laws_markTree_rv [true]) := rfl

@[simp] theorem M_laws_markTree : modesOf T k_laws_markTree = [true] := modesOf_code T_laws_markTree

theorem T_laws_markIntSS : T k_laws_markIntSS = some (fnOf k_laws_markIntSS_ic k_laws_markIntSS_rv [true]) := rfl

@[simp] theorem M_laws_markIntSS : modesOf T k_laws_markIntSS = [true] := modesOf_code T_laws_markIntSS

theorem T_laws_markIntS : T k_laws_markIntS = some (fnOf k_laws_markIntS_ic k_laws_markIntS_rv [true]) := rfl

@[simp] theorem M_laws_markIntS : modesOf T k_laws_markIntS = [true] := modesOf_code T_laws_markIntS

theorem T_laws_heldIntS : T k_laws_heldIntS = some (fnOf k_laws_heldIntS_ic k_laws_heldIntS_rv []) := rfl

@[simp] theorem M_laws_heldIntS : modesOf T k_laws_heldIntS = [] := modesOf_code T_laws_heldIntS

theorem T_impl_within : T k_impl_within = some (fnOf k_impl_within_ic k_impl_within_rv []) := rfl

@[simp] theorem M_impl_within : modesOf T k_impl_within = [] := modesOf_code T_impl_within

theorem T_impl_isLeaf : T k_impl_isLeaf = some (fnOf k_impl_isLeaf_ic k_impl_isLeaf_rv []) := rfl

@[simp] theorem M_impl_isLeaf : modesOf T k_impl_isLeaf = [] := modesOf_code T_impl_isLeaf

theorem T_spec_l1In : T k_spec_l1In = some (fnOf k_spec_l1In_ic k_spec_l1In_rv []) := rfl

@[simp] theorem M_spec_l1In : modesOf T k_spec_l1In = [] := modesOf_code T_spec_l1In

theorem T_slices_Contains___int_int_ : T k_slices_Contains___int_int_ = some (fnOf k_slices_Contains___int_int__ic k_slices_Contains___int_int__rv []) := rfl

@[simp] theorem M_slices_Contains___int_int_ : modesOf T k_slices_Contains___int_int_ = [] := modesOf_code T_slices_Contains___int_int_

theorem T_impl_route : T k_impl_route = some (fnOf k_impl_route_ic k_impl_route_rv []) := rfl

@[simp] theorem M_impl_route : modesOf T k_impl_route = [] := modesOf_code T_impl_route

theorem T_spec_l18Way : T k_spec_l18Way = some (fnOf k_spec_l18Way_ic k_spec_l18Way_rv []) := rfl

@[simp] theorem M_spec_l18Way : modesOf T k_spec_l18Way = [] := modesOf_code T_spec_l18Way

theorem T_spec_l17Inner : T k_spec_l17Inner = some (fnOf k_spec_l17Inner_ic k_spec_l17Inner_rv []) := rfl

@[simp] theorem M_spec_l17Inner : modesOf T k_spec_l17Inner = [] := modesOf_code T_spec_l17Inner

theorem T_laws_szNodeS : T k_laws_szNodeS = some (fnOf k_laws_szNodeS_ic k_laws_szNodeS_rv []) := rfl

@[simp] theorem M_laws_szNodeS : modesOf T k_laws_szNodeS = [] := modesOf_code T_laws_szNodeS

theorem T_laws_szIntS : T k_laws_szIntS = some (fnOf k_laws_szIntS_ic k_laws_szIntS_rv []) := rfl

@[simp] theorem M_laws_szIntS : modesOf T k_laws_szIntS = [] := modesOf_code T_laws_szIntS

theorem T_laws_toNodeS : T k_laws_toNodeS = some (fnOf k_laws_toNodeS_ic k_laws_toNodeS_rv []) := rfl

@[simp] theorem M_laws_toNodeS : modesOf T k_laws_toNodeS = [] := modesOf_code T_laws_toNodeS

theorem T_laws_eqNodeS : T k_laws_eqNodeS = some (fnOf k_laws_eqNodeS_ic k_laws_eqNodeS_rv []) := rfl

@[simp] theorem M_laws_eqNodeS : modesOf T k_laws_eqNodeS = [] := modesOf_code T_laws_eqNodeS

theorem T_laws_markNodeS : T k_laws_markNodeS = some (fnOf k_laws_markNodeS_ic k_laws_markNodeS_rv [true]) := rfl

@[simp] theorem M_laws_markNodeS : modesOf T k_laws_markNodeS = [true] := modesOf_code T_laws_markNodeS

theorem T_slices_Index___int_int_ : T k_slices_Index___int_int_ = some (fnOf k_slices_Index___int_int__ic k_slices_Index___int_int__rv []) := rfl

@[simp] theorem M_slices_Index___int_int_ : modesOf T k_slices_Index___int_int_ = [] := modesOf_code T_slices_Index___int_int_

theorem T_laws_toNode : T k_laws_toNode = some (fnOf k_laws_toNode_ic k_laws_toNode_rv []) := rfl

@[simp] theorem M_laws_toNode : modesOf T k_laws_toNode = [] := modesOf_code T_laws_toNode

theorem T_laws_eqNode : T k_laws_eqNode = some (fnOf k_laws_eqNode_ic k_laws_eqNode_rv []) := rfl

@[simp] theorem M_laws_eqNode : modesOf T k_laws_eqNode = [] := modesOf_code T_laws_eqNode

end Go.Pe
