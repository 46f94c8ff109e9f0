/- The compact texts of the functions that the law reaches; no condition. -/
import Derived.Test.YthjpnjnlhmkepaaEvA0
set_option linter.all false
namespace Go.Pe
open Go
def k_laws_FnShrunk : Nat := 5

def k_laws_big : Nat := 15

def k_spec_FloorDiv : Nat := 19

def k_spec_DrawShrunk : Nat := 24

def k_laws_tail : Nat := 25

def k_impl_Shrunk : Nat := 26

def k_spec_Shrunk : Nat := 27

def k_spec_l1New : Nat := 79

def k_impl_FloorDiv : Nat := 81

def k_spec_l1PickInt : Nat := 82

def k_spec_l1Whole : Nat := 83

def k_spec_l1Once : Nat := 84

def k_spec_l8Bent : Nat := 87

def k_impl_ConfigOk : Nat := 88

def k_impl_isLeafValue : Nat := 89

def k_spec_ConfigOk : Nat := 90

def k_spec_l14Leaf : Nat := 91

def k_impl_within : Nat := 92

def k_spec_l1In : Nat := 112

def k_spec_l1Below : Nat := 116

def k_spec_l1Byte : Nat := 130

def k_spec_l8Right : Nat := 131

def k_slices_ContainsFunc___int_int_ : Nat := 132

def k_impl_ConfigOk_1 : Nat := 133

def k_impl_isSign : Nat := 134

def k_spec_l8Numbers : Nat := 135

def k_spec_l8Least : Nat := 136

def k_spec_l8Most : Nat := 137

def k_slices_IndexFunc___int_int_ : Nat := 155

def k_laws_FnShrunk_vars : List Nat := [0, 3, 4, 5, 8, 12, 7, 10, 9, 2]

def k_laws_FnShrunk_ic : IC :=
 .seq (.reg [⟨(some (.V 2)), .mv (kb false), none⟩])
 (.seq (.seq (.reg [⟨(some (.E 13)), .mv (.V 0), none⟩,
   ⟨(some (.E 14)), .call k_laws_big [([1], (.E 13))], none⟩])
 (.cond (.E 14)
  (.seq (.reg [⟨(some (.V 2)), .mv (kb true), none⟩])
  (.ret))
  (.skip)))
 (.seq (.reg [⟨(some (.E 16)), .mv (.V 0), none⟩,
   ⟨(some (.E 17)), .call k_spec_DrawShrunk [([1], (.E 16))], none⟩,
   ⟨(some (.E 15)), .mv (.E 17), none⟩,
   ⟨(some (.E 18)), .ext 0 (.E 15), none⟩,
   ⟨(some (.E 19)), .ext 1 (.E 15), none⟩,
   ⟨(some (.V 4)), .alloc [(.v (.int .i64 0)), (.v (.int .i64 0)), (.v (.int .i64 0)), (.v (.int .i64 0)), (.v (.int .i64 0)), (.v (.int .i64 0)), (.v (.int .i64 0)), .e0], none⟩,
   ⟨(some (.V 3)), .mv (.E 18), none⟩,
   ⟨none, .store [0, 0, 0, 0, 0, 0, 0, 1] (.V 4) (.E 19), none⟩])
 (.seq (.reg [⟨(some (.E 21)), .mv (.V 0), none⟩,
   ⟨(some (.E 22)), .call k_laws_tail [([1], (.E 21))], none⟩,
   ⟨(some (.E 23)), .call k_spec_DrawShrunk [([1], (.E 22))], none⟩,
   ⟨(some (.E 20)), .mv (.E 23), none⟩,
   ⟨(some (.E 24)), .ext 0 (.E 20), none⟩,
   ⟨(some (.E 25)), .ext 1 (.E 20), none⟩,
   ⟨(some (.E 6)), .alloc [(.v (.int .i64 0)), (.v (.int .i64 0)), (.v (.int .i64 0)), (.v (.int .i64 0)), (.v (.int .i64 0)), (.v (.int .i64 0)), (.v (.int .i64 0)), .e0], none⟩,
   ⟨(some (.V 5)), .mv (.E 24), none⟩,
   ⟨none, .store [0, 0, 0, 0, 0, 0, 0, 1] (.E 6) (.E 25), none⟩])
 (.seq (.reg [⟨(some (.E 27)), .mv (.V 3), none⟩,
   ⟨(some (.E 28)), .load true 8 (.V 4), none⟩,
   ⟨(some (.E 29)), .call k_impl_Shrunk [([0], (.E 27)), ([0, 0, 0, 0, 0, 0, 0, 1], (.E 28))], none⟩,
   ⟨(some (.E 26)), .mv (.E 29), none⟩,
   ⟨(some (.E 30)), .ext 0 (.E 26), none⟩,
   ⟨(some (.E 31)), .ext 1 (.E 26), none⟩,
   ⟨(some (.V 7)), .mv (.E 30), none⟩,
   ⟨(some (.V 8)), .mv (.E 31), none⟩])
 (.seq (.reg [⟨(some (.E 33)), .mv (.V 5), none⟩,
   ⟨(some (.E 34)), .load true 8 (.V 4), none⟩,
   ⟨(some (.E 35)), .call k_impl_Shrunk [([0], (.E 33)), ([0, 0, 0, 0, 0, 0, 0, 1], (.E 34))], none⟩,
   ⟨(some (.E 32)), .mv (.E 35), none⟩,
   ⟨(some (.E 36)), .ext 0 (.E 32), none⟩,
   ⟨(some (.E 37)), .ext 1 (.E 32), none⟩,
   ⟨(some (.V 9)), .mv (.E 36), none⟩,
   ⟨(some (.V 10)), .mv (.E 37), none⟩])
 (.seq (.reg [⟨(some (.E 39)), .mv (.V 3), none⟩,
   ⟨(some (.E 40)), .load true 8 (.V 4), none⟩,
   ⟨(some (.E 41)), .call k_spec_Shrunk [([0], (.E 39)), ([0, 0, 0, 0, 0, 0, 0, 1], (.E 40))], none⟩,
   ⟨(some (.E 38)), .mv (.E 41), none⟩,
   ⟨(some (.E 42)), .ext 0 (.E 38), none⟩,
   ⟨(some (.E 43)), .ext 1 (.E 38), none⟩,
   ⟨(some (.E 11)), .mv (.E 42), none⟩,
   ⟨(some (.V 12)), .mv (.E 43), none⟩])
 (.seq (.seq (.reg [⟨(some (.E 44)), .mv (.V 8), none⟩,
   ⟨(some (.E 45)), .mv (.V 12), none⟩,
   ⟨(some (.E 46)), .eqb true [.b] (.E 44) (.E 45), none⟩])
 (.cond (.E 46)
  (.seq (.reg [⟨(some (.V 2)), .mv (kb false), none⟩])
  (.ret))
  (.skip)))
 (.seq (.seq (.reg [⟨(some (.E 47)), .mv (.V 8), none⟩,
   ⟨(some (.E 48)), .un .not (.E 47), none⟩])
 (.cond (.E 48)
  (.seq (.reg [⟨(some (.E 49)), .mv (.V 7), none⟩,
    ⟨(some (.E 50)), .bin .eql (.E 49) (ki 0), none⟩,
    ⟨(some (.V 2)), .mv (.E 50), none⟩])
  (.ret))
  (.skip)))
 (.seq (.reg [⟨(some (.E 51)), .mv (.V 3), none⟩,
   ⟨(some (.E 52)), .bin .geq (.E 51) (ki 0), none⟩,
   ⟨(some (.E 53)), .mv (.E 52), none⟩,
   ⟨(some (.E 54)), .mv (.V 7), some ((.E 53), true)⟩,
   ⟨(some (.E 55)), .bin .geq (.E 54) (ki 0), some ((.E 53), true)⟩,
   ⟨(some (.E 56)), .pick (.E 53) (.E 55) (kb false), none⟩,
   ⟨(some (.E 57)), .mv (.E 56), none⟩,
   ⟨(some (.E 58)), .mv (.V 7), some ((.E 57), true)⟩,
   ⟨(some (.E 59)), .mv (.V 3), some ((.E 57), true)⟩,
   ⟨(some (.E 60)), .bin .leq (.E 58) (.E 59), some ((.E 57), true)⟩,
   ⟨(some (.E 61)), .pick (.E 57) (.E 60) (kb false), none⟩,
   ⟨(some (.E 62)), .mv (.E 61), none⟩,
   ⟨(some (.E 63)), .mv (.V 3), some ((.E 62), false)⟩,
   ⟨(some (.E 64)), .bin .lss (.E 63) (ki 0), some ((.E 62), false)⟩,
   ⟨(some (.E 65)), .mv (.E 64), some ((.E 62), false)⟩,
   ⟨(some (.E 66)), .mv (.V 7), some ((.E 65), true)⟩,
   ⟨(some (.E 67)), .bin .leq (.E 66) (ki 0), some ((.E 65), true)⟩,
   ⟨(some (.E 68)), .pick (.E 65) (.E 67) (kb false), some ((.E 62), false)⟩,
   ⟨(some (.E 69)), .mv (.E 68), some ((.E 62), false)⟩,
   ⟨(some (.E 70)), .mv (.V 7), some ((.E 69), true)⟩,
   ⟨(some (.E 71)), .mv (.V 3), some ((.E 69), true)⟩,
   ⟨(some (.E 72)), .bin .sub (.E 71) (ki 1), some ((.E 69), true)⟩,
   ⟨(some (.E 73)), .bin .geq (.E 70) (.E 72), some ((.E 69), true)⟩,
   ⟨(some (.E 74)), .pick (.E 69) (.E 73) (kb false), some ((.E 62), false)⟩,
   ⟨(some (.E 75)), .pick (.E 62) (kb true) (.E 74), none⟩,
   ⟨(some (.E 76)), .mv (.E 75), none⟩,
   ⟨(some (.E 77)), .mv (.V 10), some ((.E 76), true)⟩,
   ⟨(some (.E 78)), .un .not (.E 77), some ((.E 76), true)⟩,
   ⟨(some (.E 79)), .mv (.E 78), some ((.E 76), true)⟩,
   ⟨(some (.E 80)), .mv (.V 3), some ((.E 79), false)⟩,
   ⟨(some (.E 81)), .mv (.V 5), some ((.E 79), false)⟩,
   ⟨(some (.E 82)), .bin .gtr (.E 80) (.E 81), some ((.E 79), false)⟩,
   ⟨(some (.E 83)), .pick (.E 79) (kb true) (.E 82), some ((.E 76), true)⟩,
   ⟨(some (.E 84)), .mv (.E 83), some ((.E 76), true)⟩,
   ⟨(some (.E 85)), .mv (.V 7), some ((.E 84), false)⟩,
   ⟨(some (.E 86)), .mv (.V 9), some ((.E 84), false)⟩,
   ⟨(some (.E 87)), .bin .leq (.E 85) (.E 86), some ((.E 84), false)⟩,
   ⟨(some (.E 88)), .pick (.E 84) (kb true) (.E 87), some ((.E 76), true)⟩,
   ⟨(some (.E 89)), .pick (.E 76) (.E 88) (kb false), none⟩,
   ⟨(some (.V 2)), .mv (.E 89), none⟩])
 (.ret))))))))))

def k_laws_FnShrunk_rv : List RV := [.tmp [0] 2]

def k_laws_big_vars : List Nat := [0, 2]

def k_laws_big_ic : IC :=
 .seq (.reg [⟨(some (.V 2)), .mv (kb false), none⟩])
 (.seq (.reg [⟨(some (.E 3)), .mv (.V 0), none⟩,
   ⟨(some (.E 4)), .len (.E 3), none⟩,
   ⟨(some (.E 5)), .bin .gtr (.E 4) (ki 1048576), none⟩,
   ⟨(some (.V 2)), .mv (.E 5), none⟩])
 (.ret))

def k_laws_big_rv : List RV := [.tmp [0] 2]

def k_spec_FloorDiv_vars : List Nat := [0, 1, 6, 4, 5]

def k_spec_FloorDiv_ic : IC :=
 .seq (.reg [⟨(some (.V 4)), .mv (ki 0), none⟩,
   ⟨(some (.V 5)), .mv (kb false), none⟩])
 (.seq (.seq (.reg [⟨(some (.E 7)), .mv (.V 1), none⟩,
   ⟨(some (.E 8)), .bin .eql (.E 7) (ki 0), none⟩,
   ⟨(some (.E 9)), .mv (.E 8), none⟩,
   ⟨(some (.E 10)), .mv (.V 1), some ((.E 9), false)⟩,
   ⟨(some (.E 11)), .bin .eql (.E 10) (ki (-1)), some ((.E 9), false)⟩,
   ⟨(some (.E 12)), .mv (.E 11), some ((.E 9), false)⟩,
   ⟨(some (.E 13)), .mv (.V 0), some ((.E 12), true)⟩,
   ⟨(some (.E 14)), .bin .eql (.E 13) (ki (-9223372036854775808)), some ((.E 12), true)⟩,
   ⟨(some (.E 15)), .pick (.E 12) (.E 14) (kb false), some ((.E 9), false)⟩,
   ⟨(some (.E 16)), .pick (.E 9) (kb true) (.E 15), none⟩])
 (.cond (.E 16)
  (.seq (.reg [⟨(some (.V 4)), .mv (ki 0), none⟩,
    ⟨(some (.V 5)), .mv (kb false), none⟩])
  (.ret))
  (.skip)))
 (.seq (.reg [⟨(some (.E 17)), .mv (.V 0), none⟩,
   ⟨(some (.E 18)), .mv (.V 1), none⟩,
   ⟨(some (.E 19)), .bin .quo (.E 17) (.E 18), none⟩,
   ⟨(some (.V 6)), .mv (.E 19), none⟩])
 (.seq (.seq (.reg [⟨(some (.E 20)), .mv (.V 0), none⟩,
   ⟨(some (.E 21)), .mv (.V 1), none⟩,
   ⟨(some (.E 22)), .bin .rem (.E 20) (.E 21), none⟩,
   ⟨(some (.E 23)), .bin .neq (.E 22) (ki 0), none⟩,
   ⟨(some (.E 24)), .mv (.E 23), none⟩,
   ⟨(some (.E 25)), .mv (.V 0), some ((.E 24), true)⟩,
   ⟨(some (.E 26)), .bin .lss (.E 25) (ki 0), some ((.E 24), true)⟩,
   ⟨(some (.E 27)), .mv (.V 1), some ((.E 24), true)⟩,
   ⟨(some (.E 28)), .bin .lss (.E 27) (ki 0), some ((.E 24), true)⟩,
   ⟨(some (.E 29)), .eqb true [.b] (.E 26) (.E 28), some ((.E 24), true)⟩,
   ⟨(some (.E 30)), .pick (.E 24) (.E 29) (kb false), none⟩])
 (.cond (.E 30)
  (.reg [⟨(some (.E 31)), .mv (.V 6), none⟩,
    ⟨(some (.E 32)), .bin .sub (.E 31) (ki 1), none⟩,
    ⟨(some (.V 6)), .mv (.E 32), none⟩])
  (.skip)))
 (.seq (.reg [⟨(some (.E 33)), .mv (.V 6), none⟩,
   ⟨(some (.V 4)), .mv (.E 33), none⟩,
   ⟨(some (.V 5)), .mv (kb true), none⟩])
 (.ret)))))

def k_spec_FloorDiv_rv : List RV := [.tmp [0] 4, .tmp [0] 5]

def k_spec_DrawShrunk_vars : List Nat := [0, 4, 3, 2]

def k_spec_DrawShrunk_ic : IC :=
 .seq (.reg [⟨(some (.V 2)), .mv (ki 0), none⟩,
   ⟨(some (.V 3)), .alloc [(.v (.int .i64 0)), (.v (.int .i64 0)), (.v (.int .i64 0)), (.v (.int .i64 0)), (.v (.int .i64 0)), (.v (.int .i64 0)), (.v (.int .i64 0)), .e0], none⟩])
 (.seq (.reg [⟨(some (.E 5)), .mv (.V 0), none⟩,
   ⟨(some (.E 6)), .call k_spec_l1New [([1], (.E 5))], none⟩,
   ⟨(some (.V 4)), .mv (.E 6), none⟩])
 (.seq (.reg [⟨(some (.E 7)), .mv (.V 4), none⟩,
   ⟨(some (.E 8)), .mv (.V 4), none⟩,
   ⟨(some (.E 9)), .call k_spec_l1Whole [([0], (.E 8))], none⟩,
   ⟨(some (.E 10)), .bslice 9 1 [(.v (.int .i64 0))] [(0, (ki 0)), (1, (ki 1)), (2, (ki (-1))), (3, (ki 7)), (4, (ki (-7))), (5, (ki 1099511627776)), (6, (ki (-1099511627776))), (7, (ki 1099511627777)), (8, (.E 9))], none⟩,
   ⟨(some (.E 11)), .call k_spec_l1PickInt [([0], (.E 7)), ([1], (.E 10))], none⟩,
   ⟨(some (.E 12)), .mv (.V 4), none⟩,
   ⟨(some (.E 13)), .call k_spec_l8Bent [([0], (.E 12))], none⟩,
   ⟨(some (.V 2)), .mv (.E 11), none⟩,
   ⟨none, .store [0, 0, 0, 0, 0, 0, 0, 1] (.V 3) (.E 13), none⟩])
 (.ret)))

def k_spec_DrawShrunk_rv : List RV := [.tmp [0] 2, .cell [0, 0, 0, 0, 0, 0, 0, 1] 3 true]

def k_laws_tail_vars : List Nat := [0, 2]

def k_laws_tail_ic : IC :=
 .seq (.reg [⟨(some (.V 2)), .mv (.C .e0), none⟩])
 (.seq (.seq (.reg [⟨(some (.E 3)), .mv (.V 0), none⟩,
   ⟨(some (.E 4)), .len (.E 3), none⟩,
   ⟨(some (.E 5)), .bin .eql (.E 4) (ki 0), none⟩])
 (.cond (.E 5)
  (.seq (.reg [⟨(some (.E 6)), .mv (.V 0), none⟩,
    ⟨(some (.V 2)), .mv (.E 6), none⟩])
  (.ret))
  (.skip)))
 (.seq (.reg [⟨(some (.E 7)), .mv (.V 0), none⟩,
   ⟨(some (.E 8)), .slice 1 (.E 7) (some (ki 1)) none none, none⟩,
   ⟨(some (.V 2)), .mv (.E 8), none⟩])
 (.ret)))

def k_laws_tail_rv : List RV := [.tmp [1] 2]

def k_impl_Shrunk_vars : List Nat := [0, 1, 3, 4, 5]

def k_impl_Shrunk_ic : IC :=
 .seq (.reg [⟨(some (.V 3)), .box (.V 1), none⟩,
   ⟨(some (.V 4)), .mv (ki 0), none⟩,
   ⟨(some (.V 5)), .mv (kb false), none⟩])
 (.seq (.seq (.reg [⟨(some (.E 6)), .load true 8 (.V 3), none⟩,
   ⟨(some (.E 7)), .call k_impl_ConfigOk [([0, 0, 0, 0, 0, 0, 0, 1], (.E 6))], none⟩,
   ⟨(some (.E 8)), .un .not (.E 7), none⟩,
   ⟨(some (.E 9)), .mv (.E 8), none⟩,
   ⟨(some (.E 10)), .mv (.V 0), some ((.E 9), false)⟩,
   ⟨(some (.E 11)), .call k_impl_isLeafValue [([0], (.E 10))], some ((.E 9), false)⟩,
   ⟨(some (.E 12)), .un .not (.E 11), some ((.E 9), false)⟩,
   ⟨(some (.E 13)), .pick (.E 9) (kb true) (.E 12), none⟩])
 (.cond (.E 13)
  (.seq (.reg [⟨(some (.V 4)), .mv (ki 0), none⟩,
    ⟨(some (.V 5)), .mv (kb false), none⟩])
  (.ret))
  (.skip)))
 (.seq (.reg [⟨(some (.E 14)), .mv (.V 0), none⟩,
   ⟨(some (.E 15)), .faddr 5 (.V 3), none⟩,
   ⟨(some (.E 16)), .load false 1 (.E 15), none⟩,
   ⟨(some (.E 17)), .bin .mul (.E 14) (.E 16), none⟩,
   ⟨(some (.E 18)), .faddr 6 (.V 3), none⟩,
   ⟨(some (.E 19)), .load false 1 (.E 18), none⟩,
   ⟨(some (.E 20)), .call k_impl_FloorDiv [([0], (.E 17)), ([0], (.E 19))], none⟩,
   ⟨(some (.E 21)), .ext 0 (.E 20), none⟩,
   ⟨(some (.E 22)), .ext 1 (.E 20), none⟩,
   ⟨(some (.V 4)), .mv (.E 21), none⟩,
   ⟨(some (.V 5)), .mv (.E 22), none⟩])
 (.ret)))

def k_impl_Shrunk_rv : List RV := [.tmp [0] 4, .tmp [0] 5]

def k_spec_Shrunk_vars : List Nat := [0, 1, 3, 4, 5]

def k_spec_Shrunk_ic : IC :=
 .seq (.reg [⟨(some (.V 3)), .box (.V 1), none⟩,
   ⟨(some (.V 4)), .mv (ki 0), none⟩,
   ⟨(some (.V 5)), .mv (kb false), none⟩])
 (.seq (.seq (.reg [⟨(some (.E 6)), .load true 8 (.V 3), none⟩,
   ⟨(some (.E 7)), .call k_spec_ConfigOk [([0, 0, 0, 0, 0, 0, 0, 1], (.E 6))], none⟩,
   ⟨(some (.E 8)), .un .not (.E 7), none⟩,
   ⟨(some (.E 9)), .mv (.E 8), none⟩,
   ⟨(some (.E 10)), .mv (.V 0), some ((.E 9), false)⟩,
   ⟨(some (.E 11)), .call k_spec_l14Leaf [([0], (.E 10))], some ((.E 9), false)⟩,
   ⟨(some (.E 12)), .un .not (.E 11), some ((.E 9), false)⟩,
   ⟨(some (.E 13)), .pick (.E 9) (kb true) (.E 12), none⟩])
 (.cond (.E 13)
  (.seq (.reg [⟨(some (.V 4)), .mv (ki 0), none⟩,
    ⟨(some (.V 5)), .mv (kb false), none⟩])
  (.ret))
  (.skip)))
 (.seq (.reg [⟨(some (.E 14)), .mv (.V 0), none⟩,
   ⟨(some (.E 15)), .faddr 5 (.V 3), none⟩,
   ⟨(some (.E 16)), .load false 1 (.E 15), none⟩,
   ⟨(some (.E 17)), .bin .mul (.E 14) (.E 16), none⟩,
   ⟨(some (.E 18)), .faddr 6 (.V 3), none⟩,
   ⟨(some (.E 19)), .load false 1 (.E 18), none⟩,
   ⟨(some (.E 20)), .call k_spec_FloorDiv [([0], (.E 17)), ([0], (.E 19))], none⟩,
   ⟨(some (.E 21)), .ext 0 (.E 20), none⟩,
   ⟨(some (.E 22)), .ext 1 (.E 20), none⟩,
   ⟨(some (.V 4)), .mv (.E 21), none⟩,
   ⟨(some (.V 5)), .mv (.E 22), none⟩])
 (.ret)))

def k_spec_Shrunk_rv : List RV := [.tmp [0] 4, .tmp [0] 5]

def k_spec_l1New_vars : List Nat := [0, 4, 3, 2]

def k_spec_l1New_b0 : IC :=
 .seq (.seq (.reg [⟨(some (.E 8)), .mv (.V 4), none⟩,
   ⟨(some (.E 9)), .mv (.V 0), none⟩,
   ⟨(some (.E 10)), .len (.E 9), none⟩,
   ⟨(some (.E 11)), .bin .lss (.E 8) (.E 10), none⟩,
   ⟨(some (.E 12)), .mv (.E 11), none⟩,
   ⟨(some (.E 13)), .mv (.V 4), some ((.E 12), true)⟩,
   ⟨(some (.E 14)), .bin .lss (.E 13) (ki 4000), some ((.E 12), true)⟩,
   ⟨(some (.E 15)), .pick (.E 12) (.E 14) (kb false), none⟩])
 (.cond (.E 15)
  (.skip)
  (.exit 0)))
 (.seq (.block 1 (.reg [⟨(some (.E 18)), .mv (.V 3), none⟩,
    ⟨(some (.E 19)), .bin .mul (.E 18) (ki 131), none⟩,
    ⟨(some (.E 20)), .mv (.V 0), none⟩,
    ⟨(some (.E 21)), .mv (.V 4), none⟩,
    ⟨(some (.E 22)), .iaddr 1 (.E 20) (.E 21), none⟩,
    ⟨(some (.E 23)), .load false 1 (.E 22), none⟩,
    ⟨(some (.E 24)), .convI .i64 (.E 23), none⟩,
    ⟨(some (.E 25)), .bin .add (.E 19) (.E 24), none⟩,
    ⟨(some (.E 26)), .bin .add (.E 25) (ki 7), none⟩,
    ⟨(some (.E 27)), .bin .and (.E 26) (ki 1073741823), none⟩,
    ⟨(some (.V 3)), .mv (.E 27), none⟩]))
 (.reg [⟨(some (.E 16)), .mv (.V 4), none⟩,
   ⟨(some (.E 17)), .bin .add (.E 16) (ki 1), none⟩,
   ⟨(some (.V 4)), .mv (.E 17), none⟩]))

def k_spec_l1New_ic : IC :=
 .seq (.reg [⟨(some (.V 2)), .mv (.C (.v (.pointer none))), none⟩])
 (.seq (.reg [⟨(some (.E 5)), .mv (.V 0), none⟩,
   ⟨(some (.E 6)), .len (.E 5), none⟩,
   ⟨(some (.E 7)), .bin .add (ki 28507) (.E 6), none⟩,
   ⟨(some (.V 3)), .mv (.E 7), none⟩])
 (.seq (.seq (.reg [⟨(some (.V 4)), .mv (ki 0), none⟩])
 (.block 0 (.loop k_spec_l1New_b0)))
 (.seq (.reg [⟨(some (.E 28)), .mv (.V 0), none⟩,
   ⟨(some (.E 29)), .mv (.V 3), none⟩,
   ⟨(some (.E 30)), .build [.e0, (.v (.int .i64 0)), (.v (.int .i64 0))] [(0, 1, (.E 28)), (2, 1, (.E 29))], none⟩,
   ⟨(some (.E 31)), .box (.E 30), none⟩,
   ⟨(some (.V 2)), .mv (.E 31), none⟩])
 (.ret))))

def k_spec_l1New_rv : List RV := [.tmp [0] 2]

def k_impl_FloorDiv_vars : List Nat := [0, 1, 6, 4, 5]

def k_impl_FloorDiv_ic : IC :=
 .seq (.reg [⟨(some (.V 4)), .mv (ki 0), none⟩,
   ⟨(some (.V 5)), .mv (kb false), none⟩])
 (.seq (.seq (.reg [⟨(some (.E 7)), .mv (.V 1), none⟩,
   ⟨(some (.E 8)), .bin .eql (.E 7) (ki 0), none⟩,
   ⟨(some (.E 9)), .mv (.E 8), none⟩,
   ⟨(some (.E 10)), .mv (.V 0), some ((.E 9), false)⟩,
   ⟨(some (.E 11)), .bin .eql (.E 10) (ki (-9223372036854775808)), some ((.E 9), false)⟩,
   ⟨(some (.E 12)), .mv (.E 11), some ((.E 9), false)⟩,
   ⟨(some (.E 13)), .mv (.V 1), some ((.E 12), true)⟩,
   ⟨(some (.E 14)), .bin .eql (.E 13) (ki (-1)), some ((.E 12), true)⟩,
   ⟨(some (.E 15)), .pick (.E 12) (.E 14) (kb false), some ((.E 9), false)⟩,
   ⟨(some (.E 16)), .pick (.E 9) (kb true) (.E 15), none⟩])
 (.cond (.E 16)
  (.seq (.reg [⟨(some (.V 4)), .mv (ki 0), none⟩,
    ⟨(some (.V 5)), .mv (kb false), none⟩])
  (.ret))
  (.skip)))
 (.seq (.reg [⟨(some (.E 17)), .mv (.V 0), none⟩,
   ⟨(some (.E 18)), .mv (.V 1), none⟩,
   ⟨(some (.E 19)), .bin .quo (.E 17) (.E 18), none⟩,
   ⟨(some (.V 6)), .mv (.E 19), none⟩])
 (.seq (.seq (.reg [⟨(some (.E 20)), .mv (.V 0), none⟩,
   ⟨(some (.E 21)), .mv (.V 1), none⟩,
   ⟨(some (.E 22)), .bin .rem (.E 20) (.E 21), none⟩,
   ⟨(some (.E 23)), .bin .neq (.E 22) (ki 0), none⟩,
   ⟨(some (.E 24)), .mv (.E 23), none⟩,
   ⟨(some (.E 25)), .mv (.V 0), some ((.E 24), true)⟩,
   ⟨(some (.E 26)), .bin .lss (.E 25) (ki 0), some ((.E 24), true)⟩,
   ⟨(some (.E 27)), .mv (.V 1), some ((.E 24), true)⟩,
   ⟨(some (.E 28)), .bin .lss (.E 27) (ki 0), some ((.E 24), true)⟩,
   ⟨(some (.E 29)), .eqb true [.b] (.E 26) (.E 28), some ((.E 24), true)⟩,
   ⟨(some (.E 30)), .pick (.E 24) (.E 29) (kb false), none⟩])
 (.cond (.E 30)
  (.reg [⟨(some (.E 31)), .mv (.V 6), none⟩,
    ⟨(some (.E 32)), .bin .sub (.E 31) (ki 1), none⟩,
    ⟨(some (.V 6)), .mv (.E 32), none⟩])
  (.skip)))
 (.seq (.reg [⟨(some (.E 33)), .mv (.V 6), none⟩,
   ⟨(some (.V 4)), .mv (.E 33), none⟩,
   ⟨(some (.V 5)), .mv (kb true), none⟩])
 (.ret)))))

def k_impl_FloorDiv_rv : List RV := [.tmp [0] 4, .tmp [0] 5]

def k_spec_l1PickInt_vars : List Nat := [0, 1, 4]

def k_spec_l1PickInt_ic : IC :=
 .seq (.reg [⟨(some (.V 4)), .mv (ki 0), none⟩])
 (.seq (.reg [⟨(some (.E 5)), .mv (.V 1), none⟩,
   ⟨(some (.E 6)), .mv (.V 0), none⟩,
   ⟨(some (.E 7)), .mv (.V 1), none⟩,
   ⟨(some (.E 8)), .len (.E 7), none⟩,
   ⟨(some (.E 9)), .call k_spec_l1Below [([0], (.E 6)), ([0], (.E 8))], none⟩,
   ⟨(some (.E 10)), .iaddr 1 (.E 5) (.E 9), none⟩,
   ⟨(some (.E 11)), .load false 1 (.E 10), none⟩,
   ⟨(some (.V 4)), .mv (.E 11), none⟩])
 (.ret))

def k_spec_l1PickInt_rv : List RV := [.tmp [0] 4]

def k_spec_l1Whole_vars : List Nat := [0, 6, 4, 3, 2]

def k_spec_l1Whole_b0 : IC :=
 .seq (.seq (.reg [⟨(some (.E 14)), .mv (.V 4), none⟩,
   ⟨(some (.E 15)), .bin .lss (.E 14) (ki 8), none⟩])
 (.cond (.E 15)
  (.skip)
  (.exit 1)))
 (.seq (.block 2 (.reg [⟨(some (.E 18)), .mv (.V 3), none⟩,
    ⟨(some (.E 19)), .bin .mul (.E 18) (ki 256), none⟩,
    ⟨(some (.E 20)), .mv (.V 0), none⟩,
    ⟨(some (.E 21)), .call k_spec_l1Byte [([0], (.E 20))], none⟩,
    ⟨(some (.E 22)), .bin .add (.E 19) (.E 21), none⟩,
    ⟨(some (.V 3)), .mv (.E 22), none⟩]))
 (.reg [⟨(some (.E 16)), .mv (.V 4), none⟩,
   ⟨(some (.E 17)), .bin .add (.E 16) (ki 1), none⟩,
   ⟨(some (.V 4)), .mv (.E 17), none⟩]))

def k_spec_l1Whole_ic : IC :=
 .seq (.reg [⟨(some (.V 2)), .mv (ki 0), none⟩])
 (.seq (.seq (.reg [⟨(some (.E 5)), .mv (.V 0), none⟩,
   ⟨(some (.V 6)), .call k_spec_l1Below [([0], (.E 5)), ([0], (ki 4))], none⟩])
 (.block 0 (.seq (.reg [⟨(some (.E 8)), .bin .eql (.V 6) (ki 0), none⟩,
    ⟨(some (.E 7)), .mv (.E 8), none⟩])
  (.cond (.E 7)
   (.seq (.reg [⟨(some (.E 9)), .mv (.V 0), none⟩,
     ⟨(some (.E 10)), .bslice 14 1 [(.v (.int .i64 0))] [(0, (ki 0)), (1, (ki 1)), (2, (ki (-1))), (3, (ki 9)), (4, (ki 10)), (5, (ki 999)), (6, (ki 1000)), (7, (ki 2147483647)), (8, (ki (-2147483648))), (9, (ki 3037000499)), (10, (ki 3037000500)), (11, (ki 9223372036854775807)), (12, (ki (-9223372036854775807))), (13, (ki (-9223372036854775808)))], none⟩,
     ⟨(some (.E 11)), .call k_spec_l1PickInt [([0], (.E 9)), ([1], (.E 10))], none⟩,
     ⟨(some (.V 2)), .mv (.E 11), none⟩])
   (.ret))
   (.seq (.reg [⟨(some (.E 13)), .bin .eql (.V 6) (ki 1), none⟩,
     ⟨(some (.E 12)), .mv (.E 13), none⟩])
   (.cond (.E 12)
    (.seq (.reg [⟨(some (.V 3)), .mv (ki 0), none⟩])
    (.seq (.seq (.reg [⟨(some (.V 4)), .mv (ki 0), none⟩])
    (.block 1 (.loop k_spec_l1Whole_b0)))
    (.seq (.reg [⟨(some (.E 23)), .mv (.V 3), none⟩,
      ⟨(some (.V 2)), .mv (.E 23), none⟩])
    (.ret))))
    (.seq (.reg [⟨(some (.E 25)), .bin .eql (.V 6) (ki 2), none⟩,
      ⟨(some (.E 24)), .mv (.E 25), none⟩])
    (.cond (.E 24)
     (.seq (.reg [⟨(some (.E 26)), .mv (.V 0), none⟩,
       ⟨(some (.E 27)), .call k_spec_l1Below [([0], (.E 26)), ([0], (ki 1000000))], none⟩,
       ⟨(some (.E 28)), .bin .sub (.E 27) (ki 500000), none⟩,
       ⟨(some (.V 2)), .mv (.E 28), none⟩])
     (.ret))
     (.skip)))))))))
 (.seq (.reg [⟨(some (.E 29)), .mv (.V 0), none⟩,
   ⟨(some (.E 30)), .call k_spec_l1Below [([0], (.E 29)), ([0], (ki 41))], none⟩,
   ⟨(some (.E 31)), .bin .sub (.E 30) (ki 20), none⟩,
   ⟨(some (.V 2)), .mv (.E 31), none⟩])
 (.ret)))

def k_spec_l1Whole_rv : List RV := [.tmp [0] 2]

def k_spec_l1Once_vars : List Nat := [0, 1, 4]

def k_spec_l1Once_ic : IC :=
 .seq (.reg [⟨(some (.V 4)), .mv (kb false), none⟩])
 (.seq (.reg [⟨(some (.E 5)), .mv (.V 0), none⟩,
   ⟨(some (.E 6)), .mv (.V 1), none⟩,
   ⟨(some (.E 7)), .call k_spec_l1Below [([0], (.E 5)), ([0], (.E 6))], none⟩,
   ⟨(some (.E 8)), .bin .eql (.E 7) (ki 0), none⟩,
   ⟨(some (.V 4)), .mv (.E 8), none⟩])
 (.ret))

def k_spec_l1Once_rv : List RV := [.tmp [0] 4]

def k_spec_l8Bent_vars : List Nat := [0, 7, 3, 2]

def k_spec_l8Bent_ic : IC :=
 .seq (.reg [⟨(some (.V 2)), .alloc [(.v (.int .i64 0)), (.v (.int .i64 0)), (.v (.int .i64 0)), (.v (.int .i64 0)), (.v (.int .i64 0)), (.v (.int .i64 0)), (.v (.int .i64 0)), .e0], none⟩])
 (.seq (.reg [⟨(some (.E 4)), .mv (.V 0), none⟩,
   ⟨(some (.E 5)), .call k_spec_l8Right [([0], (.E 4))], none⟩,
   ⟨(some (.V 3)), .alloc [(.v (.int .i64 0)), (.v (.int .i64 0)), (.v (.int .i64 0)), (.v (.int .i64 0)), (.v (.int .i64 0)), (.v (.int .i64 0)), (.v (.int .i64 0)), .e0], none⟩,
   ⟨none, .store [0, 0, 0, 0, 0, 0, 0, 1] (.V 3) (.E 5), none⟩])
 (.seq (.seq (.reg [⟨(some (.E 6)), .mv (.V 0), none⟩,
   ⟨(some (.V 7)), .call k_spec_l1Below [([0], (.E 6)), ([0], (ki 12))], none⟩])
 (.block 0 (.seq (.reg [⟨(some (.E 9)), .bin .eql (.V 7) (ki 0), none⟩,
    ⟨(some (.E 8)), .mv (.E 9), none⟩])
  (.cond (.E 8)
   (.reg [⟨(some (.E 10)), .mv (.V 0), none⟩,
     ⟨(some (.E 11)), .bslice 5 1 [(.v (.int .i64 0))] [(0, (ki 0)), (1, (ki 1)), (2, (ki 8)), (3, (ki 9)), (4, (ki (-1)))], none⟩,
     ⟨(some (.E 12)), .call k_spec_l1PickInt [([0], (.E 10)), ([1], (.E 11))], none⟩,
     ⟨(some (.E 13)), .faddr 0 (.V 3), none⟩,
     ⟨none, .store [0] (.E 13) (.E 12), none⟩])
   (.seq (.reg [⟨(some (.E 15)), .bin .eql (.V 7) (ki 1), none⟩,
     ⟨(some (.E 14)), .mv (.E 15), none⟩])
   (.cond (.E 14)
    (.reg [⟨(some (.E 16)), .mv (.V 0), none⟩,
      ⟨(some (.E 17)), .bslice 4 1 [(.v (.int .i64 0))] [(0, (ki (-1))), (1, (ki 0)), (2, (ki 4)), (3, (ki 5))], none⟩,
      ⟨(some (.E 18)), .call k_spec_l1PickInt [([0], (.E 16)), ([1], (.E 17))], none⟩,
      ⟨(some (.E 19)), .faddr 1 (.V 3), none⟩,
      ⟨none, .store [0] (.E 19) (.E 18), none⟩])
    (.seq (.reg [⟨(some (.E 21)), .bin .eql (.V 7) (ki 2), none⟩,
      ⟨(some (.E 20)), .mv (.E 21), none⟩])
    (.cond (.E 20)
     (.reg [⟨(some (.E 22)), .mv (.V 0), none⟩,
       ⟨(some (.E 23)), .bslice 4 1 [(.v (.int .i64 0))] [(0, (ki 1)), (1, (ki 2)), (2, (ki 8)), (3, (ki 9))], none⟩,
       ⟨(some (.E 24)), .call k_spec_l1PickInt [([0], (.E 22)), ([1], (.E 23))], none⟩,
       ⟨(some (.E 25)), .faddr 2 (.V 3), none⟩,
       ⟨none, .store [0] (.E 25) (.E 24), none⟩])
     (.seq (.reg [⟨(some (.E 27)), .bin .eql (.V 7) (ki 3), none⟩,
       ⟨(some (.E 26)), .mv (.E 27), none⟩])
     (.cond (.E 26)
      (.reg [⟨(some (.E 28)), .mv (.V 0), none⟩,
        ⟨(some (.E 29)), .bslice 5 1 [(.v (.int .i64 0))] [(0, (ki 0)), (1, (ki 1)), (2, (ki 100)), (3, (ki 101)), (4, (ki 9223372036854775807))], none⟩,
        ⟨(some (.E 30)), .call k_spec_l1PickInt [([0], (.E 28)), ([1], (.E 29))], none⟩,
        ⟨(some (.E 31)), .faddr 3 (.V 3), none⟩,
        ⟨none, .store [0] (.E 31) (.E 30), none⟩])
      (.seq (.reg [⟨(some (.E 33)), .bin .eql (.V 7) (ki 4), none⟩,
        ⟨(some (.E 32)), .mv (.E 33), none⟩])
      (.cond (.E 32)
       (.reg [⟨(some (.E 34)), .mv (.V 0), none⟩,
         ⟨(some (.E 35)), .bslice 4 1 [(.v (.int .i64 0))] [(0, (ki 0)), (1, (ki 1)), (2, (ki 20)), (3, (ki 21))], none⟩,
         ⟨(some (.E 36)), .call k_spec_l1PickInt [([0], (.E 34)), ([1], (.E 35))], none⟩,
         ⟨(some (.E 37)), .faddr 4 (.V 3), none⟩,
         ⟨none, .store [0] (.E 37) (.E 36), none⟩])
       (.seq (.reg [⟨(some (.E 39)), .bin .eql (.V 7) (ki 5), none⟩,
         ⟨(some (.E 38)), .mv (.E 39), none⟩])
       (.cond (.E 38)
        (.reg [⟨(some (.E 40)), .mv (.V 0), none⟩,
          ⟨(some (.E 41)), .faddr 6 (.V 3), none⟩,
          ⟨(some (.E 42)), .load false 1 (.E 41), none⟩,
          ⟨(some (.E 43)), .faddr 6 (.V 3), none⟩,
          ⟨(some (.E 44)), .load false 1 (.E 43), none⟩,
          ⟨(some (.E 45)), .bin .add (.E 44) (ki 1), none⟩,
          ⟨(some (.E 46)), .bslice 5 1 [(.v (.int .i64 0))] [(0, (ki 0)), (1, (ki 1)), (2, (.E 42)), (3, (.E 45)), (4, (ki (-1)))], none⟩,
          ⟨(some (.E 47)), .call k_spec_l1PickInt [([0], (.E 40)), ([1], (.E 46))], none⟩,
          ⟨(some (.E 48)), .faddr 5 (.V 3), none⟩,
          ⟨none, .store [0] (.E 48) (.E 47), none⟩])
        (.seq (.reg [⟨(some (.E 50)), .bin .eql (.V 7) (ki 6), none⟩,
          ⟨(some (.E 49)), .mv (.E 50), none⟩])
        (.cond (.E 49)
         (.reg [⟨(some (.E 51)), .mv (.V 0), none⟩,
           ⟨(some (.E 52)), .bslice 5 1 [(.v (.int .i64 0))] [(0, (ki 0)), (1, (ki 1)), (2, (ki 1000)), (3, (ki 1001)), (4, (ki 9223372036854775807))], none⟩,
           ⟨(some (.E 53)), .call k_spec_l1PickInt [([0], (.E 51)), ([1], (.E 52))], none⟩,
           ⟨(some (.E 54)), .faddr 6 (.V 3), none⟩,
           ⟨none, .store [0] (.E 54) (.E 53), none⟩])
         (.seq (.reg [⟨(some (.E 56)), .bin .eql (.V 7) (ki 7), none⟩,
           ⟨(some (.E 55)), .mv (.E 56), none⟩])
         (.cond (.E 55)
          (.regD [(⟨(some (.E 57)), .faddr 7 (.V 3), none⟩, 0, 2),
            (⟨(some (.E 58)), .load false 1 (.E 57), none⟩, 0, 2),
            (⟨(some (.E 59)), .mv (.V 0), none⟩, 0, 0),
            (⟨(some (.E 60)), .call k_spec_l1Below [([0], (.E 59)), ([0], (ki 5))], none⟩, 0, 0),
            (⟨(some (.E 61)), .bin .sub (.E 60) (ki 2), none⟩, 0, 0),
            (⟨(some (.E 62)), .bslice 1 1 [(.v (.int .i64 0))] [(0, (.E 61))], none⟩, 0, 0),
            (⟨(some (.E 63)), .app 8 1 (.E 58) (.E 62), none⟩, 0, 0),
            (⟨(some (.E 64)), .faddr 7 (.V 3), none⟩, 0, 0),
            (⟨none, .store [1] (.E 64) (.E 63), none⟩, 0, 0)])
          (.skip)))))))))))))))))))
 (.seq (.reg [⟨(some (.E 65)), .load true 8 (.V 3), none⟩,
   ⟨none, .store [0, 0, 0, 0, 0, 0, 0, 1] (.V 2) (.E 65), none⟩])
 (.ret))))

def k_spec_l8Bent_rv : List RV := [.cell [0, 0, 0, 0, 0, 0, 0, 1] 2 true]

def k_impl_ConfigOk_vars : List Nat := [0, 1, 2]

def k_impl_ConfigOk_ic : IC :=
 .seq (.reg [⟨(some (.V 1)), .box (.V 0), none⟩,
   ⟨(some (.V 2)), .mv (kb false), none⟩])
 (.seq (.reg [⟨(some (.E 3)), .faddr 0 (.V 1), none⟩,
   ⟨(some (.E 4)), .load false 1 (.E 3), none⟩,
   ⟨(some (.E 5)), .call k_impl_within [([0], (.E 4)), ([0], (ki 1)), ([0], (ki 8))], none⟩,
   ⟨(some (.E 6)), .mv (.E 5), none⟩,
   ⟨(some (.E 7)), .faddr 1 (.V 1), some ((.E 6), true)⟩,
   ⟨(some (.E 8)), .load false 1 (.E 7), some ((.E 6), true)⟩,
   ⟨(some (.E 9)), .call k_impl_within [([0], (.E 8)), ([0], (ki 0)), ([0], (ki 4))], some ((.E 6), true)⟩,
   ⟨(some (.E 10)), .pick (.E 6) (.E 9) (kb false), none⟩,
   ⟨(some (.E 11)), .mv (.E 10), none⟩,
   ⟨(some (.E 12)), .faddr 2 (.V 1), some ((.E 11), true)⟩,
   ⟨(some (.E 13)), .load false 1 (.E 12), some ((.E 11), true)⟩,
   ⟨(some (.E 14)), .call k_impl_within [([0], (.E 13)), ([0], (ki 2)), ([0], (ki 8))], some ((.E 11), true)⟩,
   ⟨(some (.E 15)), .pick (.E 11) (.E 14) (kb false), none⟩,
   ⟨(some (.E 16)), .mv (.E 15), none⟩,
   ⟨(some (.E 17)), .faddr 3 (.V 1), some ((.E 16), true)⟩,
   ⟨(some (.E 18)), .load false 1 (.E 17), some ((.E 16), true)⟩,
   ⟨(some (.E 19)), .call k_impl_within [([0], (.E 18)), ([0], (ki 1)), ([0], (ki 100))], some ((.E 16), true)⟩,
   ⟨(some (.E 20)), .pick (.E 16) (.E 19) (kb false), none⟩,
   ⟨(some (.E 21)), .mv (.E 20), none⟩,
   ⟨(some (.E 22)), .faddr 4 (.V 1), some ((.E 21), true)⟩,
   ⟨(some (.E 23)), .load false 1 (.E 22), some ((.E 21), true)⟩,
   ⟨(some (.E 24)), .call k_impl_within [([0], (.E 23)), ([0], (ki 1)), ([0], (ki 20))], some ((.E 21), true)⟩,
   ⟨(some (.E 25)), .pick (.E 21) (.E 24) (kb false), none⟩,
   ⟨(some (.E 26)), .mv (.E 25), none⟩,
   ⟨(some (.E 27)), .faddr 6 (.V 1), some ((.E 26), true)⟩,
   ⟨(some (.E 28)), .load false 1 (.E 27), some ((.E 26), true)⟩,
   ⟨(some (.E 29)), .call k_impl_within [([0], (.E 28)), ([0], (ki 1)), ([0], (ki 1000))], some ((.E 26), true)⟩,
   ⟨(some (.E 30)), .pick (.E 26) (.E 29) (kb false), none⟩,
   ⟨(some (.E 31)), .mv (.E 30), none⟩,
   ⟨(some (.E 32)), .faddr 5 (.V 1), some ((.E 31), true)⟩,
   ⟨(some (.E 33)), .load false 1 (.E 32), some ((.E 31), true)⟩,
   ⟨(some (.E 34)), .faddr 6 (.V 1), some ((.E 31), true)⟩,
   ⟨(some (.E 35)), .load false 1 (.E 34), some ((.E 31), true)⟩,
   ⟨(some (.E 36)), .call k_impl_within [([0], (.E 33)), ([0], (ki 1)), ([0], (.E 35))], some ((.E 31), true)⟩,
   ⟨(some (.E 37)), .pick (.E 31) (.E 36) (kb false), none⟩,
   ⟨(some (.E 38)), .mv (.E 37), none⟩,
   ⟨(some (.E 39)), .faddr 7 (.V 1), some ((.E 38), true)⟩,
   ⟨(some (.E 40)), .load false 1 (.E 39), some ((.E 38), true)⟩,
   ⟨(some (.E 41)), .len (.E 40), some ((.E 38), true)⟩,
   ⟨(some (.E 42)), .bin .leq (.E 41) (ki 4), some ((.E 38), true)⟩,
   ⟨(some (.E 43)), .pick (.E 38) (.E 42) (kb false), none⟩,
   ⟨(some (.E 44)), .mv (.E 43), none⟩,
   ⟨(some (.E 45)), .faddr 7 (.V 1), some ((.E 44), true)⟩,
   ⟨(some (.E 46)), .load false 1 (.E 45), some ((.E 44), true)⟩,
   ⟨(some (.E 47)), .call k_slices_ContainsFunc___int_int_ [([1], (.E 46)), ([0], (.C (.fn k_impl_ConfigOk_1 [])))], some ((.E 44), true)⟩,
   ⟨(some (.E 48)), .un .not (.E 47), some ((.E 44), true)⟩,
   ⟨(some (.E 49)), .pick (.E 44) (.E 48) (kb false), none⟩,
   ⟨(some (.V 2)), .mv (.E 49), none⟩])
 (.ret))

def k_impl_ConfigOk_rv : List RV := [.tmp [0] 2]

def k_impl_isLeafValue_vars : List Nat := [0, 2]

def k_impl_isLeafValue_ic : IC :=
 .seq (.reg [⟨(some (.V 2)), .mv (kb false), none⟩])
 (.seq (.reg [⟨(some (.E 3)), .mv (.V 0), none⟩,
   ⟨(some (.E 4)), .call k_impl_within [([0], (.E 3)), ([0], (ki (-1099511627776))), ([0], (ki 1099511627776))], none⟩,
   ⟨(some (.V 2)), .mv (.E 4), none⟩])
 (.ret))

def k_impl_isLeafValue_rv : List RV := [.tmp [0] 2]

def k_spec_ConfigOk_vars : List Nat := [0, 1, 4, 3, 5, 2]

def k_spec_ConfigOk_b0 : IC :=
 .seq (.seq (.reg [⟨(some (.E 8)), .mv (.V 4), none⟩,
   ⟨(some (.E 9)), .bin .lss (.E 8) (ki 5), none⟩])
 (.cond (.E 9)
  (.skip)
  (.exit 0)))
 (.seq (.block 1 (.seq (.regD [(⟨(some (.E 12)), .mv (.V 3), none⟩, 0, 0),
    (⟨(some (.E 13)), .mv (.V 4), none⟩, 0, 0),
    (⟨(some (.E 14)), .iaddr 1 (.E 12) (.E 13), none⟩, 0, 2),
    (⟨(some (.E 15)), .load false 1 (.E 14), none⟩, 0, 2),
    (⟨(some (.E 16)), .call k_spec_l8Least [], none⟩, 0, 0),
    (⟨(some (.E 17)), .mv (.V 4), none⟩, 0, 0),
    (⟨(some (.E 18)), .iaddr 1 (.E 16) (.E 17), none⟩, 0, 1),
    (⟨(some (.E 19)), .load false 1 (.E 18), none⟩, 0, 1),
    (⟨(some (.E 20)), .call k_spec_l8Most [], none⟩, 0, 0),
    (⟨(some (.E 21)), .mv (.V 4), none⟩, 0, 0),
    (⟨(some (.E 22)), .iaddr 1 (.E 20) (.E 21), none⟩, 0, 0),
    (⟨(some (.E 23)), .load false 1 (.E 22), none⟩, 0, 0),
    (⟨(some (.E 24)), .call k_spec_l1In [([0], (.E 15)), ([0], (.E 19)), ([0], (.E 23))], none⟩, 0, 0),
    (⟨(some (.E 25)), .un .not (.E 24), none⟩, 0, 0)])
  (.cond (.E 25)
   (.seq (.reg [⟨(some (.V 2)), .mv (kb false), none⟩])
   (.ret))
   (.skip))))
 (.reg [⟨(some (.E 10)), .mv (.V 4), none⟩,
   ⟨(some (.E 11)), .bin .add (.E 10) (ki 1), none⟩,
   ⟨(some (.V 4)), .mv (.E 11), none⟩]))

def k_spec_ConfigOk_b1 : IC :=
 .seq (.seq (.reg [⟨(some (.E 26)), .mv (.V 5), none⟩,
   ⟨(some (.E 27)), .faddr 7 (.V 1), none⟩,
   ⟨(some (.E 28)), .load false 1 (.E 27), none⟩,
   ⟨(some (.E 29)), .len (.E 28), none⟩,
   ⟨(some (.E 30)), .bin .lss (.E 26) (.E 29), none⟩])
 (.cond (.E 30)
  (.skip)
  (.exit 2)))
 (.seq (.block 3 (.seq (.reg [⟨(some (.E 33)), .faddr 7 (.V 1), none⟩,
    ⟨(some (.E 34)), .load false 1 (.E 33), none⟩,
    ⟨(some (.E 35)), .mv (.V 5), none⟩,
    ⟨(some (.E 36)), .iaddr 1 (.E 34) (.E 35), none⟩,
    ⟨(some (.E 37)), .load false 1 (.E 36), none⟩,
    ⟨(some (.E 38)), .call k_spec_l1In [([0], (.E 37)), ([0], (ki (-1))), ([0], (ki 1))], none⟩,
    ⟨(some (.E 39)), .un .not (.E 38), none⟩])
  (.cond (.E 39)
   (.seq (.reg [⟨(some (.V 2)), .mv (kb false), none⟩])
   (.ret))
   (.skip))))
 (.reg [⟨(some (.E 31)), .mv (.V 5), none⟩,
   ⟨(some (.E 32)), .bin .add (.E 31) (ki 1), none⟩,
   ⟨(some (.V 5)), .mv (.E 32), none⟩]))

def k_spec_ConfigOk_ic : IC :=
 .seq (.reg [⟨(some (.V 1)), .box (.V 0), none⟩,
   ⟨(some (.V 2)), .mv (kb false), none⟩])
 (.seq (.reg [⟨(some (.E 6)), .load true 8 (.V 1), none⟩,
   ⟨(some (.E 7)), .call k_spec_l8Numbers [([0, 0, 0, 0, 0, 0, 0, 1], (.E 6))], none⟩,
   ⟨(some (.V 3)), .mv (.E 7), none⟩])
 (.seq (.seq (.reg [⟨(some (.V 4)), .mv (ki 0), none⟩])
 (.block 0 (.loop k_spec_ConfigOk_b0)))
 (.seq (.seq (.reg [⟨(some (.V 5)), .mv (ki 0), none⟩])
 (.block 2 (.loop k_spec_ConfigOk_b1)))
 (.seq (.reg [⟨(some (.E 40)), .faddr 6 (.V 1), none⟩,
   ⟨(some (.E 41)), .load false 1 (.E 40), none⟩,
   ⟨(some (.E 42)), .call k_spec_l1In [([0], (.E 41)), ([0], (ki 1)), ([0], (ki 1000))], none⟩,
   ⟨(some (.E 43)), .mv (.E 42), none⟩,
   ⟨(some (.E 44)), .faddr 5 (.V 1), some ((.E 43), true)⟩,
   ⟨(some (.E 45)), .load false 1 (.E 44), some ((.E 43), true)⟩,
   ⟨(some (.E 46)), .faddr 6 (.V 1), some ((.E 43), true)⟩,
   ⟨(some (.E 47)), .load false 1 (.E 46), some ((.E 43), true)⟩,
   ⟨(some (.E 48)), .call k_spec_l1In [([0], (.E 45)), ([0], (ki 1)), ([0], (.E 47))], some ((.E 43), true)⟩,
   ⟨(some (.E 49)), .pick (.E 43) (.E 48) (kb false), none⟩,
   ⟨(some (.E 50)), .mv (.E 49), none⟩,
   ⟨(some (.E 51)), .faddr 7 (.V 1), some ((.E 50), true)⟩,
   ⟨(some (.E 52)), .load false 1 (.E 51), some ((.E 50), true)⟩,
   ⟨(some (.E 53)), .len (.E 52), some ((.E 50), true)⟩,
   ⟨(some (.E 54)), .bin .leq (.E 53) (ki 4), some ((.E 50), true)⟩,
   ⟨(some (.E 55)), .pick (.E 50) (.E 54) (kb false), none⟩,
   ⟨(some (.V 2)), .mv (.E 55), none⟩])
 (.ret)))))

def k_spec_ConfigOk_rv : List RV := [.tmp [0] 2]

def k_spec_l14Leaf_vars : List Nat := [0, 2]

def k_spec_l14Leaf_ic : IC :=
 .seq (.reg [⟨(some (.V 2)), .mv (kb false), none⟩])
 (.seq (.reg [⟨(some (.E 3)), .mv (.V 0), none⟩,
   ⟨(some (.E 4)), .call k_spec_l1In [([0], (.E 3)), ([0], (ki (-1099511627776))), ([0], (ki 1099511627776))], none⟩,
   ⟨(some (.V 2)), .mv (.E 4), none⟩])
 (.ret))

def k_spec_l14Leaf_rv : List RV := [.tmp [0] 2]

def k_impl_within_vars : List Nat := [0, 1, 2, 6]

def k_impl_within_ic : IC :=
 .seq (.reg [⟨(some (.V 6)), .mv (kb false), none⟩])
 (.seq (.reg [⟨(some (.E 7)), .mv (.V 0), none⟩,
   ⟨(some (.E 8)), .mv (.V 1), none⟩,
   ⟨(some (.E 9)), .bin .geq (.E 7) (.E 8), none⟩,
   ⟨(some (.E 10)), .mv (.E 9), none⟩,
   ⟨(some (.E 11)), .mv (.V 0), some ((.E 10), true)⟩,
   ⟨(some (.E 12)), .mv (.V 2), some ((.E 10), true)⟩,
   ⟨(some (.E 13)), .bin .leq (.E 11) (.E 12), some ((.E 10), true)⟩,
   ⟨(some (.E 14)), .pick (.E 10) (.E 13) (kb false), none⟩,
   ⟨(some (.V 6)), .mv (.E 14), none⟩])
 (.ret))

def k_impl_within_rv : List RV := [.tmp [0] 6]

def k_spec_l1In_vars : List Nat := [0, 1, 2, 6]

def k_spec_l1In_ic : IC :=
 .seq (.reg [⟨(some (.V 6)), .mv (kb false), none⟩])
 (.seq (.reg [⟨(some (.E 7)), .mv (.V 0), none⟩,
   ⟨(some (.E 8)), .mv (.V 1), none⟩,
   ⟨(some (.E 9)), .bin .geq (.E 7) (.E 8), none⟩,
   ⟨(some (.E 10)), .mv (.E 9), none⟩,
   ⟨(some (.E 11)), .mv (.V 0), some ((.E 10), true)⟩,
   ⟨(some (.E 12)), .mv (.V 2), some ((.E 10), true)⟩,
   ⟨(some (.E 13)), .bin .leq (.E 11) (.E 12), some ((.E 10), true)⟩,
   ⟨(some (.E 14)), .pick (.E 10) (.E 13) (kb false), none⟩,
   ⟨(some (.V 6)), .mv (.E 14), none⟩])
 (.ret))

def k_spec_l1In_rv : List RV := [.tmp [0] 6]

def k_spec_l1Below_vars : List Nat := [0, 1, 5, 6, 7, 8, 4]

def k_spec_l1Below_ic : IC :=
 .seq (.reg [⟨(some (.V 4)), .mv (ki 0), none⟩])
 (.seq (.seq (.reg [⟨(some (.E 9)), .mv (.V 1), none⟩,
   ⟨(some (.E 10)), .bin .leq (.E 9) (ki 0), none⟩])
 (.cond (.E 10)
  (.seq (.reg [⟨(some (.V 4)), .mv (ki 0), none⟩])
  (.ret))
  (.skip)))
 (.seq (.seq (.reg [⟨(some (.E 11)), .mv (.V 1), none⟩,
   ⟨(some (.E 12)), .bin .leq (.E 11) (ki 256), none⟩])
 (.cond (.E 12)
  (.seq (.reg [⟨(some (.E 13)), .mv (.V 0), none⟩,
    ⟨(some (.E 14)), .call k_spec_l1Byte [([0], (.E 13))], none⟩,
    ⟨(some (.E 15)), .mv (.V 1), none⟩,
    ⟨(some (.E 16)), .bin .rem (.E 14) (.E 15), none⟩,
    ⟨(some (.V 4)), .mv (.E 16), none⟩])
  (.ret))
  (.skip)))
 (.seq (.reg [⟨(some (.E 17)), .mv (.V 0), none⟩,
   ⟨(some (.E 18)), .call k_spec_l1Byte [([0], (.E 17))], none⟩,
   ⟨(some (.V 5)), .mv (.E 18), none⟩])
 (.seq (.reg [⟨(some (.E 19)), .mv (.V 0), none⟩,
   ⟨(some (.E 20)), .call k_spec_l1Byte [([0], (.E 19))], none⟩,
   ⟨(some (.V 6)), .mv (.E 20), none⟩])
 (.seq (.reg [⟨(some (.E 21)), .mv (.V 0), none⟩,
   ⟨(some (.E 22)), .call k_spec_l1Byte [([0], (.E 21))], none⟩,
   ⟨(some (.V 7)), .mv (.E 22), none⟩])
 (.seq (.reg [⟨(some (.E 23)), .mv (.V 0), none⟩,
   ⟨(some (.E 24)), .call k_spec_l1Byte [([0], (.E 23))], none⟩,
   ⟨(some (.V 8)), .mv (.E 24), none⟩])
 (.seq (.reg [⟨(some (.E 25)), .mv (.V 5), none⟩,
   ⟨(some (.E 26)), .bin .mul (.E 25) (ki 16777216), none⟩,
   ⟨(some (.E 27)), .mv (.V 6), none⟩,
   ⟨(some (.E 28)), .bin .mul (.E 27) (ki 65536), none⟩,
   ⟨(some (.E 29)), .bin .add (.E 26) (.E 28), none⟩,
   ⟨(some (.E 30)), .mv (.V 7), none⟩,
   ⟨(some (.E 31)), .bin .mul (.E 30) (ki 256), none⟩,
   ⟨(some (.E 32)), .bin .add (.E 29) (.E 31), none⟩,
   ⟨(some (.E 33)), .mv (.V 8), none⟩,
   ⟨(some (.E 34)), .bin .add (.E 32) (.E 33), none⟩,
   ⟨(some (.E 35)), .mv (.V 1), none⟩,
   ⟨(some (.E 36)), .bin .rem (.E 34) (.E 35), none⟩,
   ⟨(some (.V 4)), .mv (.E 36), none⟩])
 (.ret))))))))

def k_spec_l1Below_rv : List RV := [.tmp [0] 4]

def k_spec_l1Byte_vars : List Nat := [0, 3, 2]

def k_spec_l1Byte_ic : IC :=
 .seq (.reg [⟨(some (.V 2)), .mv (ki 0), none⟩])
 (.seq (.reg [⟨(some (.E 4)), .mv (.V 0), none⟩,
   ⟨(some (.E 5)), .mv (.V 0), none⟩,
   ⟨(some (.E 6)), .nilc (.E 5), none⟩,
   ⟨(some (.E 7)), .faddr 2 (.E 6), none⟩,
   ⟨(some (.E 8)), .load false 1 (.E 7), none⟩,
   ⟨(some (.E 9)), .bin .mul (.E 8) (ki 6364136223846793005), none⟩,
   ⟨(some (.E 10)), .bin .add (.E 9) (ki 1442695040888963407), none⟩,
   ⟨(some (.E 11)), .nilc (.E 4), none⟩,
   ⟨(some (.E 12)), .faddr 2 (.E 11), none⟩,
   ⟨none, .store [0] (.E 12) (.E 10), none⟩])
 (.seq (.regD [(⟨(some (.E 13)), .mv (.V 0), none⟩, 0, 0),
   (⟨(some (.E 14)), .nilc (.E 13), none⟩, 0, 0),
   (⟨(some (.E 15)), .faddr 2 (.E 14), none⟩, 0, 0),
   (⟨(some (.E 16)), .load false 1 (.E 15), none⟩, 0, 0),
   (⟨(some (.E 17)), .bin .shr (.E 16) (.C (.v (.int .u64 33))), none⟩, 0, 0),
   (⟨(some (.E 18)), .mv (.V 0), none⟩, 0, 0),
   (⟨(some (.E 19)), .nilc (.E 18), none⟩, 0, 0),
   (⟨(some (.E 20)), .faddr 2 (.E 19), none⟩, 0, 0),
   (⟨(some (.E 21)), .load false 1 (.E 20), none⟩, 0, 0),
   (⟨(some (.E 22)), .bin .shr (.E 21) (.C (.v (.int .u64 45))), none⟩, 0, 0),
   (⟨(some (.E 23)), .bin .xor (.E 17) (.E 22), none⟩, 0, 0),
   (⟨(some (.E 24)), .bin .and (.E 23) (ki 255), none⟩, 0, 0),
   (⟨(some (.V 3)), .mv (.E 24), none⟩, 0, 0)])
 (.seq (.seq (.regD [(⟨(some (.E 25)), .mv (.V 0), none⟩, 0, 0),
   (⟨(some (.E 26)), .nilc (.E 25), none⟩, 0, 0),
   (⟨(some (.E 27)), .faddr 1 (.E 26), none⟩, 0, 0),
   (⟨(some (.E 28)), .load false 1 (.E 27), none⟩, 0, 0),
   (⟨(some (.E 29)), .mv (.V 0), none⟩, 0, 0),
   (⟨(some (.E 30)), .nilc (.E 29), none⟩, 0, 0),
   (⟨(some (.E 31)), .faddr 0 (.E 30), none⟩, 0, 0),
   (⟨(some (.E 32)), .load false 1 (.E 31), none⟩, 0, 0),
   (⟨(some (.E 33)), .len (.E 32), none⟩, 0, 0),
   (⟨(some (.E 34)), .bin .lss (.E 28) (.E 33), none⟩, 0, 0)])
 (.cond (.E 34)
  (.seq (.regD [(⟨(some (.E 35)), .mv (.V 3), none⟩, 0, 0),
    (⟨(some (.E 36)), .mv (.V 0), none⟩, 0, 0),
    (⟨(some (.E 37)), .nilc (.E 36), none⟩, 0, 0),
    (⟨(some (.E 38)), .faddr 0 (.E 37), none⟩, 0, 0),
    (⟨(some (.E 39)), .load false 1 (.E 38), none⟩, 0, 0),
    (⟨(some (.E 40)), .mv (.V 0), none⟩, 0, 0),
    (⟨(some (.E 41)), .nilc (.E 40), none⟩, 0, 0),
    (⟨(some (.E 42)), .faddr 1 (.E 41), none⟩, 0, 0),
    (⟨(some (.E 43)), .load false 1 (.E 42), none⟩, 0, 0),
    (⟨(some (.E 44)), .iaddr 1 (.E 39) (.E 43), none⟩, 0, 0),
    (⟨(some (.E 45)), .load false 1 (.E 44), none⟩, 0, 0),
    (⟨(some (.E 46)), .convI .i64 (.E 45), none⟩, 0, 0),
    (⟨(some (.E 47)), .bin .add (.E 35) (.E 46), none⟩, 0, 0),
    (⟨(some (.E 48)), .bin .and (.E 47) (ki 255), none⟩, 0, 0),
    (⟨(some (.V 3)), .mv (.E 48), none⟩, 0, 0)])
  (.reg [⟨(some (.E 49)), .mv (.V 0), none⟩,
    ⟨(some (.E 50)), .mv (.V 0), none⟩,
    ⟨(some (.E 51)), .nilc (.E 50), none⟩,
    ⟨(some (.E 52)), .faddr 1 (.E 51), none⟩,
    ⟨(some (.E 53)), .load false 1 (.E 52), none⟩,
    ⟨(some (.E 54)), .bin .add (.E 53) (ki 1), none⟩,
    ⟨(some (.E 55)), .nilc (.E 49), none⟩,
    ⟨(some (.E 56)), .faddr 1 (.E 55), none⟩,
    ⟨none, .store [0] (.E 56) (.E 54), none⟩]))
  (.skip)))
 (.seq (.reg [⟨(some (.E 57)), .mv (.V 3), none⟩,
   ⟨(some (.V 2)), .mv (.E 57), none⟩])
 (.ret)))))

def k_spec_l1Byte_rv : List RV := [.tmp [0] 2]

def k_spec_l8Right_vars : List Nat := [0, 3, 5, 4, 2]

def k_spec_l8Right_b0 : IC :=
 .seq (.seq (.reg [⟨(some (.E 40)), .mv (.V 5), none⟩,
   ⟨(some (.E 41)), .mv (.V 4), none⟩,
   ⟨(some (.E 42)), .bin .lss (.E 40) (.E 41), none⟩])
 (.cond (.E 42)
  (.skip)
  (.exit 0)))
 (.seq (.block 1 (.regD [(⟨(some (.E 45)), .faddr 7 (.V 3), none⟩, 0, 2),
    (⟨(some (.E 46)), .load false 1 (.E 45), none⟩, 0, 2),
    (⟨(some (.E 47)), .mv (.V 0), none⟩, 0, 0),
    (⟨(some (.E 48)), .call k_spec_l1Below [([0], (.E 47)), ([0], (ki 3))], none⟩, 0, 0),
    (⟨(some (.E 49)), .bin .sub (.E 48) (ki 1), none⟩, 0, 0),
    (⟨(some (.E 50)), .bslice 1 1 [(.v (.int .i64 0))] [(0, (.E 49))], none⟩, 0, 0),
    (⟨(some (.E 51)), .app 8 1 (.E 46) (.E 50), none⟩, 0, 0),
    (⟨(some (.E 52)), .faddr 7 (.V 3), none⟩, 0, 0),
    (⟨none, .store [1] (.E 52) (.E 51), none⟩, 0, 0)]))
 (.reg [⟨(some (.E 43)), .mv (.V 5), none⟩,
   ⟨(some (.E 44)), .bin .add (.E 43) (ki 1), none⟩,
   ⟨(some (.V 5)), .mv (.E 44), none⟩]))

def k_spec_l8Right_ic : IC :=
 .seq (.reg [⟨(some (.V 2)), .alloc [(.v (.int .i64 0)), (.v (.int .i64 0)), (.v (.int .i64 0)), (.v (.int .i64 0)), (.v (.int .i64 0)), (.v (.int .i64 0)), (.v (.int .i64 0)), .e0], none⟩])
 (.seq (.reg [⟨(some (.E 6)), .mv (.V 0), none⟩,
   ⟨(some (.E 7)), .call k_spec_l1Below [([0], (.E 6)), ([0], (ki 4))], none⟩,
   ⟨(some (.E 8)), .bin .add (ki 1) (.E 7), none⟩,
   ⟨(some (.E 9)), .mv (.V 0), none⟩,
   ⟨(some (.E 10)), .call k_spec_l1Below [([0], (.E 9)), ([0], (ki 4))], none⟩,
   ⟨(some (.E 11)), .mv (.V 0), none⟩,
   ⟨(some (.E 12)), .call k_spec_l1Below [([0], (.E 11)), ([0], (ki 5))], none⟩,
   ⟨(some (.E 13)), .bin .add (ki 2) (.E 12), none⟩,
   ⟨(some (.E 14)), .mv (.V 0), none⟩,
   ⟨(some (.E 15)), .call k_spec_l1Below [([0], (.E 14)), ([0], (ki 3))], none⟩,
   ⟨(some (.E 16)), .bin .add (ki 1) (.E 15), none⟩,
   ⟨(some (.E 17)), .mv (.V 0), none⟩,
   ⟨(some (.E 18)), .call k_spec_l1Below [([0], (.E 17)), ([0], (ki 3))], none⟩,
   ⟨(some (.E 19)), .bin .add (ki 1) (.E 18), none⟩,
   ⟨(some (.E 20)), .mv (.V 0), none⟩,
   ⟨(some (.E 21)), .call k_spec_l1Below [([0], (.E 20)), ([0], (ki 3))], none⟩,
   ⟨(some (.E 22)), .bin .add (ki 1) (.E 21), none⟩,
   ⟨(some (.E 23)), .build [(.v (.int .i64 0)), (.v (.int .i64 0)), (.v (.int .i64 0)), (.v (.int .i64 0)), (.v (.int .i64 0)), (.v (.int .i64 0)), (.v (.int .i64 0)), .e0] [(0, 1, (.E 8)), (1, 1, (.E 10)), (2, 1, (.E 13)), (3, 1, (.E 16)), (4, 1, (.E 19)), (5, 1, (ki 1)), (6, 1, (.E 22))], none⟩,
   ⟨(some (.V 3)), .alloc [(.v (.int .i64 0)), (.v (.int .i64 0)), (.v (.int .i64 0)), (.v (.int .i64 0)), (.v (.int .i64 0)), (.v (.int .i64 0)), (.v (.int .i64 0)), .e0], none⟩,
   ⟨none, .store [0, 0, 0, 0, 0, 0, 0, 1] (.V 3) (.E 23), none⟩])
 (.seq (.seq (.reg [⟨(some (.E 24)), .mv (.V 0), none⟩,
   ⟨(some (.E 25)), .call k_spec_l1Once [([0], (.E 24)), ([0], (ki 8))], none⟩])
 (.cond (.E 25)
  (.reg [⟨(some (.E 26)), .mv (.V 0), none⟩,
    ⟨(some (.E 27)), .call k_spec_l1Below [([0], (.E 26)), ([0], (ki 100))], none⟩,
    ⟨(some (.E 28)), .bin .add (ki 1) (.E 27), none⟩,
    ⟨(some (.E 29)), .faddr 3 (.V 3), none⟩,
    ⟨none, .store [0] (.E 29) (.E 28), none⟩])
  (.skip)))
 (.seq (.seq (.reg [⟨(some (.E 30)), .mv (.V 0), none⟩,
   ⟨(some (.E 31)), .call k_spec_l1Once [([0], (.E 30)), ([0], (ki 4))], none⟩])
 (.cond (.E 31)
  (.reg [⟨(some (.E 32)), .mv (.V 0), none⟩,
    ⟨(some (.E 33)), .faddr 6 (.V 3), none⟩,
    ⟨(some (.E 34)), .load false 1 (.E 33), none⟩,
    ⟨(some (.E 35)), .call k_spec_l1Below [([0], (.E 32)), ([0], (.E 34))], none⟩,
    ⟨(some (.E 36)), .bin .add (ki 1) (.E 35), none⟩,
    ⟨(some (.E 37)), .faddr 5 (.V 3), none⟩,
    ⟨none, .store [0] (.E 37) (.E 36), none⟩])
  (.skip)))
 (.seq (.reg [⟨(some (.E 38)), .mv (.V 0), none⟩,
   ⟨(some (.E 39)), .call k_spec_l1Below [([0], (.E 38)), ([0], (ki 5))], none⟩,
   ⟨(some (.V 4)), .mv (.E 39), none⟩])
 (.seq (.seq (.reg [⟨(some (.V 5)), .mv (ki 0), none⟩])
 (.block 0 (.loop k_spec_l8Right_b0)))
 (.seq (.reg [⟨(some (.E 53)), .load true 8 (.V 3), none⟩,
   ⟨none, .store [0, 0, 0, 0, 0, 0, 0, 1] (.V 2) (.E 53), none⟩])
 (.ret)))))))

def k_spec_l8Right_rv : List RV := [.cell [0, 0, 0, 0, 0, 0, 0, 1] 2 true]

def k_slices_ContainsFunc___int_int__vars : List Nat := [0, 1, 4]

def k_slices_ContainsFunc___int_int__ic : IC :=
 .seq (.reg [⟨(some (.V 4)), .mv (kb false), none⟩])
 (.seq (.reg [⟨(some (.E 5)), .mv (.V 0), none⟩,
   ⟨(some (.E 6)), .mv (.V 1), none⟩,
   ⟨(some (.E 7)), .call k_slices_IndexFunc___int_int_ [([1], (.E 5)), ([0], (.E 6))], none⟩,
   ⟨(some (.E 8)), .bin .geq (.E 7) (ki 0), none⟩,
   ⟨(some (.V 4)), .mv (.E 8), none⟩])
 (.ret))

def k_slices_ContainsFunc___int_int__rv : List RV := [.tmp [0] 4]

def k_impl_ConfigOk_1_vars : List Nat := [0, 2]

def k_impl_ConfigOk_1_ic : IC :=
 .seq (.reg [⟨(some (.V 2)), .mv (kb false), none⟩])
 (.seq (.reg [⟨(some (.E 3)), .mv (.V 0), none⟩,
   ⟨(some (.E 4)), .call k_impl_isSign [([0], (.E 3))], none⟩,
   ⟨(some (.E 5)), .un .not (.E 4), none⟩,
   ⟨(some (.V 2)), .mv (.E 5), none⟩])
 (.ret))

def k_impl_ConfigOk_1_rv : List RV := [.tmp [0] 2]

def k_impl_isSign_vars : List Nat := [0, 2]

def k_impl_isSign_ic : IC :=
 .seq (.reg [⟨(some (.V 2)), .mv (kb false), none⟩])
 (.seq (.reg [⟨(some (.E 3)), .mv (.V 0), none⟩,
   ⟨(some (.E 4)), .call k_impl_within [([0], (.E 3)), ([0], (ki (-1))), ([0], (ki 1))], none⟩,
   ⟨(some (.V 2)), .mv (.E 4), none⟩])
 (.ret))

def k_impl_isSign_rv : List RV := [.tmp [0] 2]

def k_spec_l8Numbers_vars : List Nat := [0, 1, 2]

def k_spec_l8Numbers_ic : IC :=
 .seq (.reg [⟨(some (.V 1)), .box (.V 0), none⟩,
   ⟨(some (.V 2)), .mv (.C .e0), none⟩])
 (.seq (.reg [⟨(some (.E 3)), .faddr 0 (.V 1), none⟩,
   ⟨(some (.E 4)), .load false 1 (.E 3), none⟩,
   ⟨(some (.E 5)), .faddr 1 (.V 1), none⟩,
   ⟨(some (.E 6)), .load false 1 (.E 5), none⟩,
   ⟨(some (.E 7)), .faddr 2 (.V 1), none⟩,
   ⟨(some (.E 8)), .load false 1 (.E 7), none⟩,
   ⟨(some (.E 9)), .faddr 3 (.V 1), none⟩,
   ⟨(some (.E 10)), .load false 1 (.E 9), none⟩,
   ⟨(some (.E 11)), .faddr 4 (.V 1), none⟩,
   ⟨(some (.E 12)), .load false 1 (.E 11), none⟩,
   ⟨(some (.E 13)), .bslice 5 1 [(.v (.int .i64 0))] [(0, (.E 4)), (1, (.E 6)), (2, (.E 8)), (3, (.E 10)), (4, (.E 12))], none⟩,
   ⟨(some (.V 2)), .mv (.E 13), none⟩])
 (.ret))

def k_spec_l8Numbers_rv : List RV := [.tmp [1] 2]

def k_spec_l8Least_vars : List Nat := [0]

def k_spec_l8Least_ic : IC :=
 .seq (.reg [⟨(some (.V 0)), .mv (.C .e0), none⟩])
 (.seq (.reg [⟨(some (.E 1)), .bslice 5 1 [(.v (.int .i64 0))] [(0, (ki 1)), (1, (ki 0)), (2, (ki 2)), (3, (ki 1)), (4, (ki 1))], none⟩,
   ⟨(some (.V 0)), .mv (.E 1), none⟩])
 (.ret))

def k_spec_l8Least_rv : List RV := [.tmp [1] 0]

def k_spec_l8Most_vars : List Nat := [0]

def k_spec_l8Most_ic : IC :=
 .seq (.reg [⟨(some (.V 0)), .mv (.C .e0), none⟩])
 (.seq (.reg [⟨(some (.E 1)), .bslice 5 1 [(.v (.int .i64 0))] [(0, (ki 8)), (1, (ki 4)), (2, (ki 8)), (3, (ki 100)), (4, (ki 20))], none⟩,
   ⟨(some (.V 0)), .mv (.E 1), none⟩])
 (.ret))

def k_spec_l8Most_rv : List RV := [.tmp [1] 0]

def k_slices_IndexFunc___int_int__vars : List Nat := [0, 1, 8, 7, 5, 4]

def k_slices_IndexFunc___int_int__b0 : IC :=
 .seq (.reg [⟨(some (.E 9)), .bin .lss (.V 8) (.V 7), none⟩])
 (.seq (.cond (.E 9)
  (.skip)
  (.exit 0))
 (.seq (.block 1 (.seq (.reg [⟨(some (.E 10)), .mv (.V 8), none⟩,
    ⟨(some (.V 5)), .mv (.E 10), none⟩])
  (.seq (.reg [⟨(some (.E 11)), .mv (.V 1), none⟩,
    ⟨(some (.E 12)), .mv (.V 0), none⟩,
    ⟨(some (.E 13)), .mv (.V 5), none⟩,
    ⟨(some (.E 14)), .iaddr 1 (.E 12) (.E 13), none⟩,
    ⟨(some (.E 15)), .load false 1 (.E 14), none⟩,
    ⟨(some (.E 16)), .callv (.E 11) [([0], (.E 15))], none⟩])
  (.cond (.E 16)
   (.seq (.reg [⟨(some (.E 17)), .mv (.V 5), none⟩,
     ⟨(some (.V 4)), .mv (.E 17), none⟩])
   (.ret))
   (.skip)))))
 (.reg [⟨(some (.E 18)), .bin .add (.V 8) (ki 1), none⟩,
   ⟨(some (.V 8)), .mv (.E 18), none⟩])))

def k_slices_IndexFunc___int_int__ic : IC :=
 .seq (.reg [⟨(some (.V 4)), .mv (ki 0), none⟩])
 (.seq (.seq (.reg [⟨(some (.E 6)), .mv (.V 0), none⟩,
   ⟨(some (.V 7)), .len (.E 6), none⟩,
   ⟨(some (.V 8)), .mv (ki 0), none⟩])
 (.block 0 (.loop k_slices_IndexFunc___int_int__b0)))
 (.seq (.reg [⟨(some (.V 4)), .mv (ki (-1)), none⟩])
 (.ret)))

def k_slices_IndexFunc___int_int__rv : List RV := [.tmp [0] 4]

def tbl : List (Nat × Fun) := [
  (k_laws_FnShrunk, fnOf k_laws_FnShrunk_ic k_laws_FnShrunk_rv []),
  (k_laws_big, fnOf k_laws_big_ic k_laws_big_rv []),
  (k_spec_FloorDiv, fnOf k_spec_FloorDiv_ic k_spec_FloorDiv_rv []),
  (k_spec_DrawShrunk, fnOf k_spec_DrawShrunk_ic k_spec_DrawShrunk_rv []),
  (k_laws_tail, fnOf k_laws_tail_ic k_laws_tail_rv []),
  (k_impl_Shrunk, fnOf k_impl_Shrunk_ic k_impl_Shrunk_rv []),
  (k_spec_Shrunk, fnOf k_spec_Shrunk_ic k_spec_Shrunk_rv []),
  (k_spec_l1New, fnOf k_spec_l1New_ic k_spec_l1New_rv []),
  (k_impl_FloorDiv, fnOf k_impl_FloorDiv_ic k_impl_FloorDiv_rv []),
  (k_spec_l1PickInt, fnOf k_spec_l1PickInt_ic k_spec_l1PickInt_rv [true, true]),
  (k_spec_l1Whole, fnOf k_spec_l1Whole_ic k_spec_l1Whole_rv [true]),
  (k_spec_l1Once, fnOf k_spec_l1Once_ic k_spec_l1Once_rv [true]),
  (k_spec_l8Bent, fnOf k_spec_l8Bent_ic k_spec_l8Bent_rv [true]),
  (k_impl_ConfigOk, fnOf k_impl_ConfigOk_ic k_impl_ConfigOk_rv []),
  (k_impl_isLeafValue, fnOf k_impl_isLeafValue_ic k_impl_isLeafValue_rv []),
  (k_spec_ConfigOk, fnOf k_spec_ConfigOk_ic k_spec_ConfigOk_rv []),
  (k_spec_l14Leaf, fnOf k_spec_l14Leaf_ic k_spec_l14Leaf_rv []),
  (k_impl_within, fnOf k_impl_within_ic k_impl_within_rv []),
  (k_spec_l1In, fnOf k_spec_l1In_ic k_spec_l1In_rv []),
  (k_spec_l1Below, fnOf k_spec_l1Below_ic k_spec_l1Below_rv [true]),
  (k_spec_l1Byte, fnOf k_spec_l1Byte_ic k_spec_l1Byte_rv [true]),
  (k_spec_l8Right, fnOf k_spec_l8Right_ic k_spec_l8Right_rv [true]),
  (k_slices_ContainsFunc___int_int_, fnOf k_slices_ContainsFunc___int_int__ic k_slices_ContainsFunc___int_int__rv []),
  (k_impl_ConfigOk_1, fnOf k_impl_ConfigOk_1_ic k_impl_ConfigOk_1_rv []),
  (k_impl_isSign, fnOf k_impl_isSign_ic k_impl_isSign_rv []),
  (k_spec_l8Numbers, fnOf k_spec_l8Numbers_ic k_spec_l8Numbers_rv []),
  (k_spec_l8Least, fnOf k_spec_l8Least_ic k_spec_l8Least_rv []),
  (k_spec_l8Most, fnOf k_spec_l8Most_ic k_spec_l8Most_rv []),
  (k_slices_IndexFunc___int_int_, fnOf k_slices_IndexFunc___int_int__ic k_slices_IndexFunc___int_int__rv [])]

def T : Table := fun f => (tbl.find? fun q => q.1 == f).map fun q => q.2

theorem T_laws_FnShrunk : T k_laws_FnShrunk = some (fnOf k_laws_FnShrunk_ic k_laws_FnShrunk_rv []) := rfl

@[simp] theorem M_laws_FnShrunk : modesOf T k_laws_FnShrunk = [] := modesOf_code T_laws_FnShrunk

theorem T_laws_big : T k_laws_big = some (fnOf k_laws_big_ic k_laws_big_rv []) := rfl

@[simp] theorem M_laws_big : modesOf T k_laws_big = [] := modesOf_code T_laws_big

theorem T_spec_FloorDiv : T k_spec_FloorDiv = some (fnOf k_spec_FloorDiv_ic k_spec_FloorDiv_rv []) := rfl

@[simp] theorem M_spec_FloorDiv : modesOf T k_spec_FloorDiv = [] := modesOf_code T_spec_FloorDiv

theorem T_spec_DrawShrunk : T k_spec_DrawShrunk = some (fnOf k_spec_DrawShrunk_ic k_spec_DrawShrunk_rv []) := rfl

@[simp] theorem M_spec_DrawShrunk : modesOf T k_spec_DrawShrunk = [] := modesOf_code T_spec_DrawShrunk

theorem T_laws_tail : T k_laws_tail = some (fnOf k_laws_tail_ic k_laws_tail_rv []) := rfl

@[simp] theorem M_laws_tail : modesOf T k_laws_tail = [] := modesOf_code T_laws_tail

theorem T_impl_Shrunk : T k_impl_Shrunk = some (fnOf k_impl_Shrunk_ic k_impl_Shrunk_rv []) := rfl

@[simp] theorem M_impl_Shrunk : modesOf T k_impl_Shrunk = [] := modesOf_code T_impl_Shrunk

theorem T_spec_Shrunk : T k_spec_Shrunk = some (fnOf k_spec_Shrunk_ic k_spec_Shrunk_rv []) := rfl

@[simp] theorem M_spec_Shrunk : modesOf T k_spec_Shrunk = [] := modesOf_code T_spec_Shrunk

theorem T_spec_l1New : T k_spec_l1New = some (fnOf k_spec_l1New_ic k_spec_l1New_rv []) := rfl

@[simp] theorem M_spec_l1New : modesOf T k_spec_l1New = [] := modesOf_code T_spec_l1New

theorem T_impl_FloorDiv : T k_impl_FloorDiv = some (fnOf k_impl_FloorDiv_ic k_impl_FloorDiv_rv []) := rfl

@[simp] theorem M_impl_FloorDiv : modesOf T k_impl_FloorDiv = [] := modesOf_code T_impl_FloorDiv

theorem T_spec_l1PickInt : T k_spec_l1PickInt = some (fnOf k_spec_l1PickInt_ic k_spec_l1PickInt_rv [true, true]) := rfl

@[simp] theorem M_spec_l1PickInt : modesOf T k_spec_l1PickInt = [true, true] := modesOf_code T_spec_l1PickInt

theorem T_spec_l1Whole : T k_spec_l1Whole = some (fnOf k_spec_l1Whole_ic k_spec_l1Whole_rv [true]) := rfl

@[simp] theorem M_spec_l1Whole : modesOf T k_spec_l1Whole = [true] := modesOf_code T_spec_l1Whole

theorem T_spec_l1Once : T k_spec_l1Once = some (fnOf k_spec_l1Once_ic k_spec_l1Once_rv [true]) := rfl

@[simp] theorem M_spec_l1Once : modesOf T k_spec_l1Once = [true] := modesOf_code T_spec_l1Once

theorem T_spec_l8Bent : T k_spec_l8Bent = some (fnOf k_spec_l8Bent_ic k_spec_l8Bent_rv [true]) := rfl

@[simp] theorem M_spec_l8Bent : modesOf T k_spec_l8Bent = [true] := modesOf_code T_spec_l8Bent

theorem T_impl_ConfigOk : T k_impl_ConfigOk = some (fnOf k_impl_ConfigOk_ic k_impl_ConfigOk_rv []) := rfl

@[simp] theorem M_impl_ConfigOk : modesOf T k_impl_ConfigOk = [] := modesOf_code T_impl_ConfigOk

theorem T_impl_isLeafValue : T k_impl_isLeafValue = some (fnOf k_impl_isLeafValue_ic k_impl_isLeafValue_rv []) := rfl

@[simp] theorem M_impl_isLeafValue : modesOf T k_impl_isLeafValue = [] := modesOf_code T_impl_isLeafValue

theorem T_spec_ConfigOk : T k_spec_ConfigOk = some (fnOf k_spec_ConfigOk_ic k_spec_ConfigOk_rv []) := rfl

@[simp] theorem M_spec_ConfigOk : modesOf T k_spec_ConfigOk = [] := modesOf_code T_spec_ConfigOk

theorem T_spec_l14Leaf : T k_spec_l14Leaf = some (fnOf k_spec_l14Leaf_ic k_spec_l14Leaf_rv []) := rfl

@[simp] theorem M_spec_l14Leaf : modesOf T k_spec_l14Leaf = [] := modesOf_code T_spec_l14Leaf

theorem T_impl_within : T k_impl_within = some (fnOf k_impl_within_ic k_impl_within_rv []) := rfl

@[simp] theorem M_impl_within : modesOf T k_impl_within = [] := modesOf_code T_impl_within

theorem T_spec_l1In : T k_spec_l1In = some (fnOf k_spec_l1In_ic k_spec_l1In_rv []) := rfl

@[simp] theorem M_spec_l1In : modesOf T k_spec_l1In = [] := modesOf_code T_spec_l1In

theorem T_spec_l1Below : T k_spec_l1Below = some (fnOf k_spec_l1Below_ic k_spec_l1Below_rv [true]) := rfl

@[simp] theorem M_spec_l1Below : modesOf T k_spec_l1Below = [true] := modesOf_code T_spec_l1Below

theorem T_spec_l1Byte : T k_spec_l1Byte = some (fnOf k_spec_l1Byte_ic k_spec_l1Byte_rv [true]) := rfl

@[simp] theorem M_spec_l1Byte : modesOf T k_spec_l1Byte = [true] := modesOf_code T_spec_l1Byte

theorem T_spec_l8Right : T k_spec_l8Right = some (fnOf k_spec_l8Right_ic k_spec_l8Right_rv [true]) := rfl

@[simp] theorem M_spec_l8Right : modesOf T k_spec_l8Right = [true] := modesOf_code T_spec_l8Right

theorem T_slices_ContainsFunc___int_int_ : T k_slices_ContainsFunc___int_int_ = some (fnOf k_slices_ContainsFunc___int_int__ic k_slices_ContainsFunc___int_int__rv []) := rfl

@[simp] theorem M_slices_ContainsFunc___int_int_ : modesOf T k_slices_ContainsFunc___int_int_ = [] := modesOf_code T_slices_ContainsFunc___int_int_

theorem T_impl_ConfigOk_1 : T k_impl_ConfigOk_1 = some (fnOf k_impl_ConfigOk_1_ic k_impl_ConfigOk_1_rv []) := rfl

@[simp] theorem M_impl_ConfigOk_1 : modesOf T k_impl_ConfigOk_1 = [] := modesOf_code T_impl_ConfigOk_1

theorem T_impl_isSign : T k_impl_isSign = some (fnOf k_impl_isSign_ic k_impl_isSign_rv []) := rfl

@[simp] theorem M_impl_isSign : modesOf T k_impl_isSign = [] := modesOf_code T_impl_isSign

theorem T_spec_l8Numbers : T k_spec_l8Numbers = some (fnOf k_spec_l8Numbers_ic k_spec_l8Numbers_rv []) := rfl

@[simp] theorem M_spec_l8Numbers : modesOf T k_spec_l8Numbers = [] := modesOf_code T_spec_l8Numbers

theorem T_spec_l8Least : T k_spec_l8Least = some (fnOf k_spec_l8Least_ic k_spec_l8Least_rv []) := rfl

@[simp] theorem M_spec_l8Least : modesOf T k_spec_l8Least = [] := modesOf_code T_spec_l8Least

theorem T_spec_l8Most : T k_spec_l8Most = some (fnOf k_spec_l8Most_ic k_spec_l8Most_rv []) := rfl

@[simp] theorem M_spec_l8Most : modesOf T k_spec_l8Most = [] := modesOf_code T_spec_l8Most

theorem T_slices_IndexFunc___int_int_ : T k_slices_IndexFunc___int_int_ = some (fnOf k_slices_IndexFunc___int_int__ic k_slices_IndexFunc___int_int__rv []) := rfl

@[simp] theorem M_slices_IndexFunc___int_int_ : modesOf T k_slices_IndexFunc___int_int_ = [] := modesOf_code T_slices_IndexFunc___int_int_

end Go.Pe
