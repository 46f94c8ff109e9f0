/- The compact texts of the functions that the law reaches; no condition. -/
import Derived.Test.YthjpnjnlhmkepaaEvA0
set_option linter.all false
namespace Go.Pe
open Go
def k_laws_FnLoss : Nat := 9

def k_laws_big : Nat := 15

def k_spec_LossOf : Nat := 37

def k_impl_LossOf : Nat := 39

def k_impl_LossRoom : Nat := 43

def k_spec_DrawLossOf : Nat := 44

def k_impl_MostOf : Nat := 45

def k_spec_MostOf : Nat := 46

def k_spec_CompareWide : Nat := 47

def k_spec_l10List : Nat := 78

def k_spec_l1New : Nat := 79

def k_spec_l1PickInt : Nat := 82

def k_spec_l1Whole : Nat := 83

def k_spec_l1Once : Nat := 84

def k_spec_AddWide : Nat := 96

def k_spec_MulWide : Nat := 97

def k_impl_AddWide : Nat := 98

def k_impl_MulWide : Nat := 99

def k_impl_WideOf : Nat := 102

def k_impl_ScaleWide : Nat := 103

def k_impl_size : Nat := 104

def k_spec_l1Max : Nat := 105

def k_spec_l3Zero : Nat := 106

def k_spec_l3Order : Nat := 107

def k_spec_l1Below : Nat := 116

def k_spec_l1Byte : Nat := 130

def k_spec_WideOk : Nat := 141

def k_spec_l3Product : Nat := 142

def k_spec_l3Abs : Nat := 143

def k_impl_WideOk : Nat := 144

def k_impl_compareSizes : Nat := 145

def k_math_bits_Sub64 : Nat := 146

def k_impl_wideOf : Nat := 147

def k_math_bits_Add64 : Nat := 148

def k_math_bits_Mul64 : Nat := 149

def k_cmp_Or_int_ : Nat := 158

def k_cmp_Compare_uint64_ : Nat := 159

def k_cmp_isNaN_uint64_ : Nat := 161

def k_laws_FnLoss_vars : List Nat := [0, 3, 5, 7, 4, 6, 9, 8, 11, 10, 13, 12, 2]

def k_laws_FnLoss_b0 : IC :=
 .seq (.seq (.reg [⟨(some (.E 44)), .mv (.V 9), none⟩,
   ⟨(some (.E 45)), .mv (.V 3), none⟩,
   ⟨(some (.E 46)), .len (.E 45), none⟩,
   ⟨(some (.E 47)), .bin .lss (.E 44) (.E 46), none⟩])
 (.cond (.E 47)
  (.skip)
  (.exit 0)))
 (.seq (.block 1 (.seq (.seq (.reg [⟨(some (.E 50)), .mv (.V 3), none⟩,
    ⟨(some (.E 51)), .mv (.V 9), none⟩,
    ⟨(some (.E 52)), .iaddr 1 (.E 50) (.E 51), none⟩,
    ⟨(some (.E 53)), .load false 1 (.E 52), none⟩,
    ⟨(some (.E 54)), .bin .lss (.E 53) (ki (-9223372036854775807)), none⟩])
  (.cond (.E 54)
   (.seq (.reg [⟨(some (.V 2)), .mv (kb true), none⟩])
   (.ret))
   (.skip)))
  (.reg [⟨(some (.E 55)), .mv (.V 8), none⟩,
    ⟨(some (.E 56)), .mv (.V 3), none⟩,
    ⟨(some (.E 57)), .mv (.V 9), none⟩,
    ⟨(some (.E 58)), .iaddr 1 (.E 56) (.E 57), none⟩,
    ⟨(some (.E 59)), .load false 1 (.E 58), none⟩,
    ⟨(some (.E 60)), .un .neg (.E 59), none⟩,
    ⟨(some (.E 61)), .bslice 1 1 [(.v (.int .i64 0))] [(0, (.E 60))], none⟩,
    ⟨(some (.E 62)), .app 8 1 (.E 55) (.E 61), none⟩,
    ⟨(some (.V 8)), .mv (.E 62), none⟩])))
 (.reg [⟨(some (.E 48)), .mv (.V 9), none⟩,
   ⟨(some (.E 49)), .bin .add (.E 48) (ki 1), none⟩,
   ⟨(some (.V 9)), .mv (.E 49), none⟩]))

def k_laws_FnLoss_ic : IC :=
 .seq (.reg [⟨(some (.V 2)), .mv (kb false), none⟩])
 (.seq (.seq (.reg [⟨(some (.E 14)), .mv (.V 0), none⟩,
   ⟨(some (.E 15)), .call k_laws_big [([1], (.E 14))], none⟩])
 (.cond (.E 15)
  (.seq (.reg [⟨(some (.V 2)), .mv (kb true), none⟩])
  (.ret))
  (.skip)))
 (.seq (.reg [⟨(some (.E 16)), .mv (.V 0), none⟩,
   ⟨(some (.E 17)), .call k_spec_DrawLossOf [([1], (.E 16))], none⟩,
   ⟨(some (.V 3)), .mv (.E 17), none⟩])
 (.seq (.reg [⟨(some (.E 19)), .mv (.V 3), none⟩,
   ⟨(some (.E 20)), .call k_impl_LossOf [([1], (.E 19))], none⟩,
   ⟨(some (.E 18)), .mv (.E 20), none⟩,
   ⟨(some (.E 21)), .ext 0 (.E 18), none⟩,
   ⟨(some (.E 22)), .ext 1 (.E 18), none⟩,
   ⟨(some (.V 4)), .alloc [(.v (.bool false)), (.v (.int .u64 0)), (.v (.int .u64 0))], none⟩,
   ⟨none, .store [0, 0, 0] (.V 4) (.E 21), none⟩,
   ⟨(some (.V 5)), .mv (.E 22), none⟩])
 (.seq (.reg [⟨(some (.E 24)), .mv (.V 3), none⟩,
   ⟨(some (.E 25)), .call k_spec_LossOf [([1], (.E 24))], none⟩,
   ⟨(some (.E 23)), .mv (.E 25), none⟩,
   ⟨(some (.E 26)), .ext 0 (.E 23), none⟩,
   ⟨(some (.E 27)), .ext 1 (.E 23), none⟩,
   ⟨(some (.V 6)), .alloc [(.v (.bool false)), (.v (.int .u64 0)), (.v (.int .u64 0))], none⟩,
   ⟨none, .store [0, 0, 0] (.V 6) (.E 26), none⟩,
   ⟨(some (.V 7)), .mv (.E 27), none⟩])
 (.seq (.seq (.reg [⟨(some (.E 28)), .mv (.V 5), none⟩,
   ⟨(some (.E 29)), .mv (.V 7), none⟩,
   ⟨(some (.E 30)), .eqb true [.b] (.E 28) (.E 29), none⟩,
   ⟨(some (.E 31)), .mv (.E 30), none⟩,
   ⟨(some (.E 32)), .load true 3 (.V 4), some ((.E 31), false)⟩,
   ⟨(some (.E 33)), .load true 3 (.V 6), some ((.E 31), false)⟩,
   ⟨(some (.E 34)), .eqb true [.b, .i .u64, .i .u64] (.E 32) (.E 33), some ((.E 31), false)⟩,
   ⟨(some (.E 35)), .pick (.E 31) (kb true) (.E 34), none⟩,
   ⟨(some (.E 36)), .mv (.E 35), none⟩,
   ⟨(some (.E 37)), .mv (.V 3), some ((.E 36), false)⟩,
   ⟨(some (.E 38)), .call k_impl_MostOf [([1], (.E 37))], some ((.E 36), false)⟩,
   ⟨(some (.E 39)), .mv (.V 3), some ((.E 36), false)⟩,
   ⟨(some (.E 40)), .call k_spec_MostOf [([1], (.E 39))], some ((.E 36), false)⟩,
   ⟨(some (.E 41)), .bin .neq (.E 38) (.E 40), some ((.E 36), false)⟩,
   ⟨(some (.E 42)), .pick (.E 36) (kb true) (.E 41), none⟩])
 (.cond (.E 42)
  (.seq (.reg [⟨(some (.V 2)), .mv (kb false), none⟩])
  (.ret))
  (.skip)))
 (.seq (.reg [⟨(some (.E 43)), .bslice 0 1 [(.v (.int .i64 0))] [], none⟩,
   ⟨(some (.V 8)), .mv (.E 43), none⟩])
 (.seq (.seq (.reg [⟨(some (.V 9)), .mv (ki 0), none⟩])
 (.block 0 (.loop k_laws_FnLoss_b0)))
 (.seq (.reg [⟨(some (.E 64)), .mv (.V 8), none⟩,
   ⟨(some (.E 65)), .call k_impl_LossOf [([1], (.E 64))], none⟩,
   ⟨(some (.E 63)), .mv (.E 65), none⟩,
   ⟨(some (.E 66)), .ext 0 (.E 63), none⟩,
   ⟨(some (.E 67)), .ext 1 (.E 63), none⟩,
   ⟨(some (.V 10)), .alloc [(.v (.bool false)), (.v (.int .u64 0)), (.v (.int .u64 0))], none⟩,
   ⟨none, .store [0, 0, 0] (.V 10) (.E 66), none⟩,
   ⟨(some (.V 11)), .mv (.E 67), none⟩])
 (.seq (.reg [⟨(some (.E 69)), .mv (.V 3), none⟩,
   ⟨(some (.E 70)), .call k_impl_LossRoom [([1], (.E 69))], none⟩,
   ⟨(some (.E 68)), .mv (.E 70), none⟩,
   ⟨(some (.E 71)), .ext 0 (.E 68), none⟩,
   ⟨(some (.E 72)), .ext 1 (.E 68), none⟩,
   ⟨(some (.V 12)), .alloc [(.v (.bool false)), (.v (.int .u64 0)), (.v (.int .u64 0))], none⟩,
   ⟨none, .store [0, 0, 0] (.V 12) (.E 71), none⟩,
   ⟨(some (.V 13)), .mv (.E 72), none⟩])
 (.seq (.reg [⟨(some (.E 73)), .mv (.V 11), none⟩,
   ⟨(some (.E 74)), .mv (.V 5), none⟩,
   ⟨(some (.E 75)), .eqb false [.b] (.E 73) (.E 74), none⟩,
   ⟨(some (.E 76)), .mv (.E 75), none⟩,
   ⟨(some (.E 77)), .load true 3 (.V 10), some ((.E 76), true)⟩,
   ⟨(some (.E 78)), .load true 3 (.V 4), some ((.E 76), true)⟩,
   ⟨(some (.E 79)), .eqb false [.b, .i .u64, .i .u64] (.E 77) (.E 78), some ((.E 76), true)⟩,
   ⟨(some (.E 80)), .pick (.E 76) (.E 79) (kb false), none⟩,
   ⟨(some (.E 81)), .mv (.E 80), none⟩,
   ⟨(some (.E 82)), .mv (.V 8), some ((.E 81), true)⟩,
   ⟨(some (.E 83)), .call k_impl_MostOf [([1], (.E 82))], some ((.E 81), true)⟩,
   ⟨(some (.E 84)), .mv (.V 3), some ((.E 81), true)⟩,
   ⟨(some (.E 85)), .call k_impl_MostOf [([1], (.E 84))], some ((.E 81), true)⟩,
   ⟨(some (.E 86)), .bin .eql (.E 83) (.E 85), some ((.E 81), true)⟩,
   ⟨(some (.E 87)), .pick (.E 81) (.E 86) (kb false), none⟩,
   ⟨(some (.E 88)), .mv (.E 87), none⟩,
   ⟨(some (.E 89)), .mv (.V 13), some ((.E 88), true)⟩,
   ⟨(some (.E 90)), .pick (.E 88) (.E 89) (kb false), none⟩,
   ⟨(some (.E 91)), .mv (.E 90), none⟩,
   ⟨(some (.E 92)), .load true 3 (.V 12), some ((.E 91), true)⟩,
   ⟨(some (.E 93)), .build [(.v (.bool false)), (.v (.int .u64 0)), (.v (.int .u64 0))] [], some ((.E 91), true)⟩,
   ⟨(some (.E 94)), .call k_spec_CompareWide [([0, 0, 0], (.E 92)), ([0, 0, 0], (.E 93))], some ((.E 91), true)⟩,
   ⟨(some (.E 95)), .bin .geq (.E 94) (ki 0), some ((.E 91), true)⟩,
   ⟨(some (.E 96)), .pick (.E 91) (.E 95) (kb false), none⟩,
   ⟨(some (.V 2)), .mv (.E 96), none⟩])
 (.ret)))))))))))

def k_laws_FnLoss_rv : List RV := [.tmp [0] 2]

def k_laws_big_vars : List Nat := [0, 2]

def k_laws_big_ic : IC :=
 .seq (.reg [⟨(some (.V 2)), .mv (kb false), none⟩])
 (.seq (.reg [⟨(some (.E 3)), .mv (.V 0), none⟩,
   ⟨(some (.E 4)), .len (.E 3), none⟩,
   ⟨(some (.E 5)), .bin .gtr (.E 4) (ki 1048576), none⟩,
   ⟨(some (.V 2)), .mv (.E 5), none⟩])
 (.ret))

def k_laws_big_rv : List RV := [.tmp [0] 2]

def k_spec_LossOf_vars : List Nat := [0, 5, 4, 7, 2, 6, 3]

def k_spec_LossOf_b0 : IC :=
 .seq (.seq (.reg [⟨(some (.E 9)), .mv (.V 5), none⟩,
   ⟨(some (.E 10)), .mv (.V 0), none⟩,
   ⟨(some (.E 11)), .len (.E 10), none⟩,
   ⟨(some (.E 12)), .bin .lss (.E 9) (.E 11), none⟩])
 (.cond (.E 12)
  (.skip)
  (.exit 0)))
 (.seq (.block 1 (.seq (.regD [(⟨(some (.E 16)), .load true 3 (.V 4), none⟩, 0, 1),
    (⟨(some (.E 17)), .mv (.V 0), none⟩, 0, 0),
    (⟨(some (.E 18)), .mv (.V 5), none⟩, 0, 0),
    (⟨(some (.E 19)), .iaddr 1 (.E 17) (.E 18), none⟩, 0, 0),
    (⟨(some (.E 20)), .load false 1 (.E 19), none⟩, 0, 0),
    (⟨(some (.E 21)), .mv (.V 0), none⟩, 0, 0),
    (⟨(some (.E 22)), .mv (.V 5), none⟩, 0, 0),
    (⟨(some (.E 23)), .iaddr 1 (.E 21) (.E 22), none⟩, 0, 0),
    (⟨(some (.E 24)), .load false 1 (.E 23), none⟩, 0, 0),
    (⟨(some (.E 25)), .call k_spec_MulWide [([0], (.E 20)), ([0], (.E 24))], none⟩, 0, 0),
    (⟨(some (.E 26)), .call k_spec_AddWide [([0, 0, 0], (.E 16)), ([0, 0, 0], (.E 25))], none⟩, 0, 0),
    (⟨(some (.E 15)), .mv (.E 26), none⟩, 0, 0),
    (⟨(some (.E 27)), .ext 0 (.E 15), none⟩, 0, 0),
    (⟨(some (.E 28)), .ext 1 (.E 15), none⟩, 0, 0),
    (⟨(some (.V 6)), .allocL [(.v (.bool false)), (.v (.int .u64 0)), (.v (.int .u64 0))], none⟩, 0, 0),
    (⟨none, .store [0, 0, 0] (.V 6) (.E 27), none⟩, 0, 0),
    (⟨(some (.V 7)), .mv (.E 28), none⟩, 0, 0)])
  (.seq (.seq (.reg [⟨(some (.E 29)), .mv (.V 7), none⟩,
    ⟨(some (.E 30)), .un .not (.E 29), none⟩])
  (.cond (.E 30)
   (.seq (.reg [⟨(some (.E 31)), .build [(.v (.bool false)), (.v (.int .u64 0)), (.v (.int .u64 0))] [], none⟩,
     ⟨none, .store [0, 0, 0] (.V 2) (.E 31), none⟩,
     ⟨(some (.V 3)), .mv (kb false), none⟩])
   (.ret))
   (.skip)))
  (.reg [⟨(some (.E 32)), .load true 3 (.V 6), none⟩,
    ⟨none, .store [0, 0, 0] (.V 4) (.E 32), none⟩]))))
 (.reg [⟨(some (.E 13)), .mv (.V 5), none⟩,
   ⟨(some (.E 14)), .bin .add (.E 13) (ki 1), none⟩,
   ⟨(some (.V 5)), .mv (.E 14), none⟩]))

def k_spec_LossOf_ic : IC :=
 .seq (.reg [⟨(some (.V 2)), .alloc [(.v (.bool false)), (.v (.int .u64 0)), (.v (.int .u64 0))], none⟩,
   ⟨(some (.V 3)), .mv (kb false), none⟩])
 (.seq (.reg [⟨(some (.E 8)), .build [(.v (.bool false)), (.v (.int .u64 0)), (.v (.int .u64 0))] [], none⟩,
   ⟨(some (.V 4)), .alloc [(.v (.bool false)), (.v (.int .u64 0)), (.v (.int .u64 0))], none⟩,
   ⟨none, .store [0, 0, 0] (.V 4) (.E 8), none⟩])
 (.seq (.seq (.reg [⟨(some (.V 5)), .mv (ki 0), none⟩])
 (.block 0 (.loop k_spec_LossOf_b0)))
 (.seq (.reg [⟨(some (.E 33)), .load true 3 (.V 4), none⟩,
   ⟨none, .store [0, 0, 0] (.V 2) (.E 33), none⟩,
   ⟨(some (.V 3)), .mv (kb true), none⟩])
 (.ret))))

def k_spec_LossOf_rv : List RV := [.cell [0, 0, 0] 2 true, .tmp [0] 3]

def k_impl_LossOf_vars : List Nat := [0, 12, 11, 10, 4, 6, 8, 2, 7, 3]

def k_impl_LossOf_b0 : IC :=
 .seq (.reg [⟨(some (.E 13)), .bin .lss (.V 12) (.V 11), none⟩])
 (.seq (.cond (.E 13)
  (.skip)
  (.exit 0))
 (.seq (.block 1 (.seq (.reg [⟨(some (.E 14)), .iaddr 1 (.V 10) (.V 12), none⟩,
    ⟨(some (.E 15)), .load false 1 (.E 14), none⟩,
    ⟨(some (.V 6)), .mv (.E 15), none⟩])
  (.seq (.regD [(⟨(some (.E 17)), .load true 3 (.V 4), none⟩, 0, 1),
    (⟨(some (.E 18)), .mv (.V 6), none⟩, 0, 0),
    (⟨(some (.E 19)), .mv (.V 6), none⟩, 0, 0),
    (⟨(some (.E 20)), .call k_impl_MulWide [([0], (.E 18)), ([0], (.E 19))], none⟩, 0, 0),
    (⟨(some (.E 21)), .call k_impl_AddWide [([0, 0, 0], (.E 17)), ([0, 0, 0], (.E 20))], none⟩, 0, 0),
    (⟨(some (.E 16)), .mv (.E 21), none⟩, 0, 0),
    (⟨(some (.E 22)), .ext 0 (.E 16), none⟩, 0, 0),
    (⟨(some (.E 23)), .ext 1 (.E 16), none⟩, 0, 0),
    (⟨(some (.V 7)), .allocL [(.v (.bool false)), (.v (.int .u64 0)), (.v (.int .u64 0))], none⟩, 0, 0),
    (⟨none, .store [0, 0, 0] (.V 7) (.E 22), none⟩, 0, 0),
    (⟨(some (.V 8)), .mv (.E 23), none⟩, 0, 0)])
  (.seq (.seq (.reg [⟨(some (.E 24)), .mv (.V 8), none⟩,
    ⟨(some (.E 25)), .un .not (.E 24), none⟩])
  (.cond (.E 25)
   (.seq (.reg [⟨(some (.E 26)), .build [(.v (.bool false)), (.v (.int .u64 0)), (.v (.int .u64 0))] [], none⟩,
     ⟨none, .store [0, 0, 0] (.V 2) (.E 26), none⟩,
     ⟨(some (.V 3)), .mv (kb false), none⟩])
   (.ret))
   (.skip)))
  (.reg [⟨(some (.E 27)), .load true 3 (.V 7), none⟩,
    ⟨none, .store [0, 0, 0] (.V 4) (.E 27), none⟩])))))
 (.reg [⟨(some (.E 28)), .bin .add (.V 12) (ki 1), none⟩,
   ⟨(some (.V 12)), .mv (.E 28), none⟩])))

def k_impl_LossOf_ic : IC :=
 .seq (.reg [⟨(some (.V 2)), .alloc [(.v (.bool false)), (.v (.int .u64 0)), (.v (.int .u64 0))], none⟩,
   ⟨(some (.V 3)), .mv (kb false), none⟩])
 (.seq (.reg [⟨(some (.E 9)), .build [(.v (.bool false)), (.v (.int .u64 0)), (.v (.int .u64 0))] [], none⟩,
   ⟨(some (.V 4)), .alloc [(.v (.bool false)), (.v (.int .u64 0)), (.v (.int .u64 0))], none⟩,
   ⟨none, .store [0, 0, 0] (.V 4) (.E 9), none⟩])
 (.seq (.seq (.reg [⟨(some (.V 10)), .mv (.V 0), none⟩,
   ⟨(some (.V 11)), .len (.V 10), none⟩,
   ⟨(some (.V 12)), .mv (ki 0), none⟩])
 (.block 0 (.loop k_impl_LossOf_b0)))
 (.seq (.reg [⟨(some (.E 29)), .load true 3 (.V 4), none⟩,
   ⟨none, .store [0, 0, 0] (.V 2) (.E 29), none⟩,
   ⟨(some (.V 3)), .mv (kb true), none⟩])
 (.ret))))

def k_impl_LossOf_rv : List RV := [.cell [0, 0, 0] 2 true, .tmp [0] 3]

def k_impl_LossRoom_vars : List Nat := [0, 4, 2, 3]

def k_impl_LossRoom_ic : IC :=
 .seq (.reg [⟨(some (.V 2)), .alloc [(.v (.bool false)), (.v (.int .u64 0)), (.v (.int .u64 0))], none⟩,
   ⟨(some (.V 3)), .mv (kb false), none⟩])
 (.seq (.reg [⟨(some (.E 7)), .mv (.V 0), none⟩,
   ⟨(some (.E 8)), .call k_impl_MostOf [([1], (.E 7))], none⟩,
   ⟨(some (.E 9)), .call k_impl_WideOf [([0], (.E 8))], none⟩,
   ⟨(some (.E 10)), .call k_impl_WideOf [([0], (ki 1))], none⟩,
   ⟨(some (.E 11)), .call k_impl_AddWide [([0, 0, 0], (.E 9)), ([0, 0, 0], (.E 10))], none⟩,
   ⟨(some (.E 6)), .mv (.E 11), none⟩,
   ⟨(some (.E 12)), .ext 0 (.E 6), none⟩,
   ⟨(some (.E 13)), .ext 1 (.E 6), none⟩,
   ⟨(some (.V 4)), .alloc [(.v (.bool false)), (.v (.int .u64 0)), (.v (.int .u64 0))], none⟩,
   ⟨none, .store [0, 0, 0] (.V 4) (.E 12), none⟩,
   ⟨(some (.E 5)), .mv (.E 13), none⟩])
 (.seq (.reg [⟨(some (.E 14)), .load true 3 (.V 4), none⟩,
   ⟨(some (.E 15)), .mv (.V 0), none⟩,
   ⟨(some (.E 16)), .len (.E 15), none⟩,
   ⟨(some (.E 17)), .bin .mul (ki 4) (.E 16), none⟩,
   ⟨(some (.E 18)), .call k_impl_ScaleWide [([0, 0, 0], (.E 14)), ([0], (.E 17))], none⟩,
   ⟨(some (.E 19)), .ext 0 (.E 18), none⟩,
   ⟨(some (.E 20)), .ext 1 (.E 18), none⟩,
   ⟨none, .store [0, 0, 0] (.V 2) (.E 19), none⟩,
   ⟨(some (.V 3)), .mv (.E 20), none⟩])
 (.ret)))

def k_impl_LossRoom_rv : List RV := [.cell [0, 0, 0] 2 true, .tmp [0] 3]

def k_spec_DrawLossOf_vars : List Nat := [0, 2]

def k_spec_DrawLossOf_ic : IC :=
 .seq (.reg [⟨(some (.V 2)), .mv (.C .e0), none⟩])
 (.seq (.reg [⟨(some (.E 3)), .mv (.V 0), none⟩,
   ⟨(some (.E 4)), .call k_spec_l1New [([1], (.E 3))], none⟩,
   ⟨(some (.E 5)), .call k_spec_l10List [([0], (.E 4))], none⟩,
   ⟨(some (.V 2)), .mv (.E 5), none⟩])
 (.ret))

def k_spec_DrawLossOf_rv : List RV := [.tmp [1] 2]

def k_impl_MostOf_vars : List Nat := [0, 8, 7, 6, 3, 5, 2]

def k_impl_MostOf_b0 : IC :=
 .seq (.reg [⟨(some (.E 9)), .bin .lss (.V 8) (.V 7), none⟩])
 (.seq (.cond (.E 9)
  (.skip)
  (.exit 0))
 (.seq (.block 1 (.seq (.reg [⟨(some (.E 10)), .iaddr 1 (.V 6) (.V 8), none⟩,
    ⟨(some (.E 11)), .load false 1 (.E 10), none⟩,
    ⟨(some (.V 5)), .mv (.E 11), none⟩])
  (.reg [⟨(some (.E 12)), .mv (.V 3), none⟩,
    ⟨(some (.E 13)), .mv (.V 5), none⟩,
    ⟨(some (.E 14)), .call k_impl_size [([0], (.E 13))], none⟩,
    ⟨(some (.E 15)), .mx true (.E 12) (.E 14), none⟩,
    ⟨(some (.V 3)), .mv (.E 15), none⟩])))
 (.reg [⟨(some (.E 16)), .bin .add (.V 8) (ki 1), none⟩,
   ⟨(some (.V 8)), .mv (.E 16), none⟩])))

def k_impl_MostOf_ic : IC :=
 .seq (.reg [⟨(some (.V 2)), .mv (ki 0), none⟩])
 (.seq (.reg [⟨(some (.V 3)), .mv (.C (.v (.int .u64 0))), none⟩])
 (.seq (.seq (.reg [⟨(some (.V 6)), .mv (.V 0), none⟩,
   ⟨(some (.V 7)), .len (.V 6), none⟩,
   ⟨(some (.V 8)), .mv (ki 0), none⟩])
 (.block 0 (.loop k_impl_MostOf_b0)))
 (.seq (.reg [⟨(some (.E 17)), .mv (.V 3), none⟩,
   ⟨(some (.E 18)), .mx false (.E 17) (.C (.v (.int .u64 9223372036854775807))), none⟩,
   ⟨(some (.E 19)), .convI .i64 (.E 18), none⟩,
   ⟨(some (.V 2)), .mv (.E 19), none⟩])
 (.ret))))

def k_impl_MostOf_rv : List RV := [.tmp [0] 2]

def k_spec_MostOf_vars : List Nat := [0, 4, 5, 3, 2]

def k_spec_MostOf_b0 : IC :=
 .seq (.seq (.reg [⟨(some (.E 6)), .mv (.V 4), none⟩,
   ⟨(some (.E 7)), .mv (.V 0), none⟩,
   ⟨(some (.E 8)), .len (.E 7), none⟩,
   ⟨(some (.E 9)), .bin .lss (.E 6) (.E 8), none⟩])
 (.cond (.E 9)
  (.skip)
  (.exit 0)))
 (.seq (.block 1 (.seq (.reg [⟨(some (.E 12)), .mv (.V 0), none⟩,
    ⟨(some (.E 13)), .mv (.V 4), none⟩,
    ⟨(some (.E 14)), .iaddr 1 (.E 12) (.E 13), none⟩,
    ⟨(some (.E 15)), .load false 1 (.E 14), none⟩,
    ⟨(some (.V 5)), .mv (.E 15), none⟩])
  (.seq (.seq (.reg [⟨(some (.E 16)), .mv (.V 5), none⟩,
    ⟨(some (.E 17)), .bin .eql (.E 16) (ki (-9223372036854775808)), none⟩])
  (.cond (.E 17)
   (.seq (.reg [⟨(some (.V 2)), .mv (ki 9223372036854775807), none⟩])
   (.ret))
   (.skip)))
  (.seq (.seq (.reg [⟨(some (.E 18)), .mv (.V 5), none⟩,
    ⟨(some (.E 19)), .bin .lss (.E 18) (ki 0), none⟩])
  (.cond (.E 19)
   (.reg [⟨(some (.E 20)), .mv (.V 5), none⟩,
     ⟨(some (.E 21)), .un .neg (.E 20), none⟩,
     ⟨(some (.V 5)), .mv (.E 21), none⟩])
   (.skip)))
  (.reg [⟨(some (.E 22)), .mv (.V 3), none⟩,
    ⟨(some (.E 23)), .mv (.V 5), none⟩,
    ⟨(some (.E 24)), .call k_spec_l1Max [([0], (.E 22)), ([0], (.E 23))], none⟩,
    ⟨(some (.V 3)), .mv (.E 24), none⟩])))))
 (.reg [⟨(some (.E 10)), .mv (.V 4), none⟩,
   ⟨(some (.E 11)), .bin .add (.E 10) (ki 1), none⟩,
   ⟨(some (.V 4)), .mv (.E 11), none⟩]))

def k_spec_MostOf_ic : IC :=
 .seq (.reg [⟨(some (.V 2)), .mv (ki 0), none⟩])
 (.seq (.reg [⟨(some (.V 3)), .mv (ki 0), none⟩])
 (.seq (.seq (.reg [⟨(some (.V 4)), .mv (ki 0), none⟩])
 (.block 0 (.loop k_spec_MostOf_b0)))
 (.seq (.reg [⟨(some (.E 25)), .mv (.V 3), none⟩,
   ⟨(some (.V 2)), .mv (.E 25), none⟩])
 (.ret))))

def k_spec_MostOf_rv : List RV := [.tmp [0] 2]

def k_spec_CompareWide_vars : List Nat := [0, 1, 2, 3, 5, 6, 4]

def k_spec_CompareWide_ic : IC :=
 .seq (.reg [⟨(some (.V 2)), .box (.V 0), none⟩,
   ⟨(some (.V 3)), .box (.V 1), none⟩,
   ⟨(some (.V 4)), .mv (ki 0), none⟩])
 (.seq (.reg [⟨(some (.E 7)), .faddr 0 (.V 2), none⟩,
   ⟨(some (.E 8)), .load false 1 (.E 7), none⟩,
   ⟨(some (.E 9)), .mv (.E 8), none⟩,
   ⟨(some (.E 10)), .load true 3 (.V 2), some ((.E 9), true)⟩,
   ⟨(some (.E 11)), .call k_spec_l3Zero [([0, 0, 0], (.E 10))], some ((.E 9), true)⟩,
   ⟨(some (.E 12)), .un .not (.E 11), some ((.E 9), true)⟩,
   ⟨(some (.E 13)), .pick (.E 9) (.E 12) (kb false), none⟩,
   ⟨(some (.V 5)), .mv (.E 13), none⟩])
 (.seq (.reg [⟨(some (.E 14)), .faddr 0 (.V 3), none⟩,
   ⟨(some (.E 15)), .load false 1 (.E 14), none⟩,
   ⟨(some (.E 16)), .mv (.E 15), none⟩,
   ⟨(some (.E 17)), .load true 3 (.V 3), some ((.E 16), true)⟩,
   ⟨(some (.E 18)), .call k_spec_l3Zero [([0, 0, 0], (.E 17))], some ((.E 16), true)⟩,
   ⟨(some (.E 19)), .un .not (.E 18), some ((.E 16), true)⟩,
   ⟨(some (.E 20)), .pick (.E 16) (.E 19) (kb false), none⟩,
   ⟨(some (.V 6)), .mv (.E 20), none⟩])
 (.seq (.block 0 (.seq (.reg [⟨(some (.E 22)), .mv (.V 5), none⟩,
    ⟨(some (.E 23)), .mv (.E 22), none⟩,
    ⟨(some (.E 24)), .mv (.V 6), some ((.E 23), true)⟩,
    ⟨(some (.E 25)), .un .not (.E 24), some ((.E 23), true)⟩,
    ⟨(some (.E 26)), .pick (.E 23) (.E 25) (kb false), none⟩,
    ⟨(some (.E 21)), .mv (.E 26), none⟩])
  (.cond (.E 21)
   (.seq (.reg [⟨(some (.V 4)), .mv (ki (-1)), none⟩])
   (.ret))
   (.seq (.reg [⟨(some (.E 28)), .mv (.V 6), none⟩,
     ⟨(some (.E 29)), .mv (.E 28), none⟩,
     ⟨(some (.E 30)), .mv (.V 5), some ((.E 29), true)⟩,
     ⟨(some (.E 31)), .un .not (.E 30), some ((.E 29), true)⟩,
     ⟨(some (.E 32)), .pick (.E 29) (.E 31) (kb false), none⟩,
     ⟨(some (.E 27)), .mv (.E 32), none⟩])
   (.cond (.E 27)
    (.seq (.reg [⟨(some (.V 4)), .mv (ki 1), none⟩])
    (.ret))
    (.seq (.reg [⟨(some (.E 34)), .mv (.V 5), none⟩,
      ⟨(some (.E 33)), .mv (.E 34), none⟩])
    (.cond (.E 33)
     (.seq (.reg [⟨(some (.E 35)), .load true 3 (.V 3), none⟩,
       ⟨(some (.E 36)), .load true 3 (.V 2), none⟩,
       ⟨(some (.E 37)), .call k_spec_l3Order [([0, 0, 0], (.E 35)), ([0, 0, 0], (.E 36))], none⟩,
       ⟨(some (.V 4)), .mv (.E 37), none⟩])
     (.ret))
     (.skip))))))))
 (.seq (.reg [⟨(some (.E 38)), .load true 3 (.V 2), none⟩,
   ⟨(some (.E 39)), .load true 3 (.V 3), none⟩,
   ⟨(some (.E 40)), .call k_spec_l3Order [([0, 0, 0], (.E 38)), ([0, 0, 0], (.E 39))], none⟩,
   ⟨(some (.V 4)), .mv (.E 40), none⟩])
 (.ret)))))

def k_spec_CompareWide_rv : List RV := [.tmp [0] 4]

def k_spec_l10List_vars : List Nat := [0, 5, 4, 3, 2]

def k_spec_l10List_b0 : IC :=
 .seq (.seq (.reg [⟨(some (.E 14)), .mv (.V 5), none⟩,
   ⟨(some (.E 15)), .mv (.V 4), none⟩,
   ⟨(some (.E 16)), .bin .lss (.E 14) (.E 15), none⟩])
 (.cond (.E 16)
  (.skip)
  (.exit 0)))
 (.seq (.block 1 (.seq (.reg [⟨(some (.E 19)), .mv (.V 0), none⟩,
    ⟨(some (.E 20)), .call k_spec_l1Once [([0], (.E 19)), ([0], (ki 12))], none⟩])
  (.cond (.E 20)
   (.reg [⟨(some (.E 21)), .mv (.V 3), none⟩,
     ⟨(some (.E 22)), .mv (.V 0), none⟩,
     ⟨(some (.E 23)), .call k_spec_l1Whole [([0], (.E 22))], none⟩,
     ⟨(some (.E 24)), .bslice 1 1 [(.v (.int .i64 0))] [(0, (.E 23))], none⟩,
     ⟨(some (.E 25)), .app 8 1 (.E 21) (.E 24), none⟩,
     ⟨(some (.V 3)), .mv (.E 25), none⟩])
   (.reg [⟨(some (.E 26)), .mv (.V 3), none⟩,
     ⟨(some (.E 27)), .mv (.V 0), none⟩,
     ⟨(some (.E 28)), .call k_spec_l1Below [([0], (.E 27)), ([0], (ki 9))], none⟩,
     ⟨(some (.E 29)), .bin .sub (.E 28) (ki 4), none⟩,
     ⟨(some (.E 30)), .bin .mul (ki 500) (.E 29), none⟩,
     ⟨(some (.E 31)), .bslice 1 1 [(.v (.int .i64 0))] [(0, (.E 30))], none⟩,
     ⟨(some (.E 32)), .app 8 1 (.E 26) (.E 31), none⟩,
     ⟨(some (.V 3)), .mv (.E 32), none⟩]))))
 (.reg [⟨(some (.E 17)), .mv (.V 5), none⟩,
   ⟨(some (.E 18)), .bin .add (.E 17) (ki 1), none⟩,
   ⟨(some (.V 5)), .mv (.E 18), none⟩]))

def k_spec_l10List_ic : IC :=
 .seq (.reg [⟨(some (.V 2)), .mv (.C .e0), none⟩])
 (.seq (.reg [⟨(some (.E 6)), .bslice 0 1 [(.v (.int .i64 0))] [], none⟩,
   ⟨(some (.V 3)), .mv (.E 6), none⟩])
 (.seq (.reg [⟨(some (.E 7)), .mv (.V 0), none⟩,
   ⟨(some (.E 8)), .call k_spec_l1Below [([0], (.E 7)), ([0], (ki 10))], none⟩,
   ⟨(some (.V 4)), .mv (.E 8), none⟩])
 (.seq (.seq (.reg [⟨(some (.E 9)), .mv (.V 0), none⟩,
   ⟨(some (.E 10)), .call k_spec_l1Once [([0], (.E 9)), ([0], (ki 12))], none⟩])
 (.cond (.E 10)
  (.reg [⟨(some (.E 11)), .mv (.V 0), none⟩,
    ⟨(some (.E 12)), .call k_spec_l1Below [([0], (.E 11)), ([0], (ki 5))], none⟩,
    ⟨(some (.E 13)), .bin .add (ki 38) (.E 12), none⟩,
    ⟨(some (.V 4)), .mv (.E 13), none⟩])
  (.skip)))
 (.seq (.seq (.reg [⟨(some (.V 5)), .mv (ki 0), none⟩])
 (.block 0 (.loop k_spec_l10List_b0)))
 (.seq (.reg [⟨(some (.E 33)), .mv (.V 3), none⟩,
   ⟨(some (.V 2)), .mv (.E 33), none⟩])
 (.ret))))))

def k_spec_l10List_rv : List RV := [.tmp [1] 2]

def k_spec_l1New_vars : List Nat := [0, 4, 3, 2]

def k_spec_l1New_b0 : IC :=
 .seq (.seq (.reg [⟨(some (.E 8)), .mv (.V 4), none⟩,
   ⟨(some (.E 9)), .mv (.V 0), none⟩,
   ⟨(some (.E 10)), .len (.E 9), none⟩,
   ⟨(some (.E 11)), .bin .lss (.E 8) (.E 10), none⟩,
   ⟨(some (.E 12)), .mv (.E 11), none⟩,
   ⟨(some (.E 13)), .mv (.V 4), some ((.E 12), true)⟩,
   ⟨(some (.E 14)), .bin .lss (.E 13) (ki 4000), some ((.E 12), true)⟩,
   ⟨(some (.E 15)), .pick (.E 12) (.E 14) (kb false), none⟩])
 (.cond (.E 15)
  (.skip)
  (.exit 0)))
 (.seq (.block 1 (.reg [⟨(some (.E 18)), .mv (.V 3), none⟩,
    ⟨(some (.E 19)), .bin .mul (.E 18) (ki 131), none⟩,
    ⟨(some (.E 20)), .mv (.V 0), none⟩,
    ⟨(some (.E 21)), .mv (.V 4), none⟩,
    ⟨(some (.E 22)), .iaddr 1 (.E 20) (.E 21), none⟩,
    ⟨(some (.E 23)), .load false 1 (.E 22), none⟩,
    ⟨(some (.E 24)), .convI .i64 (.E 23), none⟩,
    ⟨(some (.E 25)), .bin .add (.E 19) (.E 24), none⟩,
    ⟨(some (.E 26)), .bin .add (.E 25) (ki 7), none⟩,
    ⟨(some (.E 27)), .bin .and (.E 26) (ki 1073741823), none⟩,
    ⟨(some (.V 3)), .mv (.E 27), none⟩]))
 (.reg [⟨(some (.E 16)), .mv (.V 4), none⟩,
   ⟨(some (.E 17)), .bin .add (.E 16) (ki 1), none⟩,
   ⟨(some (.V 4)), .mv (.E 17), none⟩]))

def k_spec_l1New_ic : IC :=
 .seq (.reg [⟨(some (.V 2)), .mv (.C (.v (.pointer none))), none⟩])
 (.seq (.reg [⟨(some (.E 5)), .mv (.V 0), none⟩,
   ⟨(some (.E 6)), .len (.E 5), none⟩,
   ⟨(some (.E 7)), .bin .add (ki 28507) (.E 6), none⟩,
   ⟨(some (.V 3)), .mv (.E 7), none⟩])
 (.seq (.seq (.reg [⟨(some (.V 4)), .mv (ki 0), none⟩])
 (.block 0 (.loop k_spec_l1New_b0)))
 (.seq (.reg [⟨(some (.E 28)), .mv (.V 0), none⟩,
   ⟨(some (.E 29)), .mv (.V 3), none⟩,
   ⟨(some (.E 30)), .build [.e0, (.v (.int .i64 0)), (.v (.int .i64 0))] [(0, 1, (.E 28)), (2, 1, (.E 29))], none⟩,
   ⟨(some (.E 31)), .box (.E 30), none⟩,
   ⟨(some (.V 2)), .mv (.E 31), none⟩])
 (.ret))))

def k_spec_l1New_rv : List RV := [.tmp [0] 2]

def k_spec_l1PickInt_vars : List Nat := [0, 1, 4]

def k_spec_l1PickInt_ic : IC :=
 .seq (.reg [⟨(some (.V 4)), .mv (ki 0), none⟩])
 (.seq (.reg [⟨(some (.E 5)), .mv (.V 1), none⟩,
   ⟨(some (.E 6)), .mv (.V 0), none⟩,
   ⟨(some (.E 7)), .mv (.V 1), none⟩,
   ⟨(some (.E 8)), .len (.E 7), none⟩,
   ⟨(some (.E 9)), .call k_spec_l1Below [([0], (.E 6)), ([0], (.E 8))], none⟩,
   ⟨(some (.E 10)), .iaddr 1 (.E 5) (.E 9), none⟩,
   ⟨(some (.E 11)), .load false 1 (.E 10), none⟩,
   ⟨(some (.V 4)), .mv (.E 11), none⟩])
 (.ret))

def k_spec_l1PickInt_rv : List RV := [.tmp [0] 4]

def k_spec_l1Whole_vars : List Nat := [0, 6, 4, 3, 2]

def k_spec_l1Whole_b0 : IC :=
 .seq (.seq (.reg [⟨(some (.E 14)), .mv (.V 4), none⟩,
   ⟨(some (.E 15)), .bin .lss (.E 14) (ki 8), none⟩])
 (.cond (.E 15)
  (.skip)
  (.exit 1)))
 (.seq (.block 2 (.reg [⟨(some (.E 18)), .mv (.V 3), none⟩,
    ⟨(some (.E 19)), .bin .mul (.E 18) (ki 256), none⟩,
    ⟨(some (.E 20)), .mv (.V 0), none⟩,
    ⟨(some (.E 21)), .call k_spec_l1Byte [([0], (.E 20))], none⟩,
    ⟨(some (.E 22)), .bin .add (.E 19) (.E 21), none⟩,
    ⟨(some (.V 3)), .mv (.E 22), none⟩]))
 (.reg [⟨(some (.E 16)), .mv (.V 4), none⟩,
   ⟨(some (.E 17)), .bin .add (.E 16) (ki 1), none⟩,
   ⟨(some (.V 4)), .mv (.E 17), none⟩]))

def k_spec_l1Whole_ic : IC :=
 .seq (.reg [⟨(some (.V 2)), .mv (ki 0), none⟩])
 (.seq (.seq (.reg [⟨(some (.E 5)), .mv (.V 0), none⟩,
   ⟨(some (.V 6)), .call k_spec_l1Below [([0], (.E 5)), ([0], (ki 4))], none⟩])
 (.block 0 (.seq (.reg [⟨(some (.E 8)), .bin .eql (.V 6) (ki 0), none⟩,
    ⟨(some (.E 7)), .mv (.E 8), none⟩])
  (.cond (.E 7)
   (.seq (.reg [⟨(some (.E 9)), .mv (.V 0), none⟩,
     ⟨(some (.E 10)), .bslice 14 1 [(.v (.int .i64 0))] [(0, (ki 0)), (1, (ki 1)), (2, (ki (-1))), (3, (ki 9)), (4, (ki 10)), (5, (ki 999)), (6, (ki 1000)), (7, (ki 2147483647)), (8, (ki (-2147483648))), (9, (ki 3037000499)), (10, (ki 3037000500)), (11, (ki 9223372036854775807)), (12, (ki (-9223372036854775807))), (13, (ki (-9223372036854775808)))], none⟩,
     ⟨(some (.E 11)), .call k_spec_l1PickInt [([0], (.E 9)), ([1], (.E 10))], none⟩,
     ⟨(some (.V 2)), .mv (.E 11), none⟩])
   (.ret))
   (.seq (.reg [⟨(some (.E 13)), .bin .eql (.V 6) (ki 1), none⟩,
     ⟨(some (.E 12)), .mv (.E 13), none⟩])
   (.cond (.E 12)
    (.seq (.reg [⟨(some (.V 3)), .mv (ki 0), none⟩])
    (.seq (.seq (.reg [⟨(some (.V 4)), .mv (ki 0), none⟩])
    (.block 1 (.loop k_spec_l1Whole_b0)))
    (.seq (.reg [⟨(some (.E 23)), .mv (.V 3), none⟩,
      ⟨(some (.V 2)), .mv (.E 23), none⟩])
    (.ret))))
    (.seq (.reg [⟨(some (.E 25)), .bin .eql (.V 6) (ki 2), none⟩,
      ⟨(some (.E 24)), .mv (.E 25), none⟩])
    (.cond (.E 24)
     (.seq (.reg [⟨(some (.E 26)), .mv (.V 0), none⟩,
       ⟨(some (.E 27)), .call k_spec_l1Below [([0], (.E 26)), ([0], (ki 1000000))], none⟩,
       ⟨(some (.E 28)), .bin .sub (.E 27) (ki 500000), none⟩,
       ⟨(some (.V 2)), .mv (.E 28), none⟩])
     (.ret))
     (.skip)))))))))
 (.seq (.reg [⟨(some (.E 29)), .mv (.V 0), none⟩,
   ⟨(some (.E 30)), .call k_spec_l1Below [([0], (.E 29)), ([0], (ki 41))], none⟩,
   ⟨(some (.E 31)), .bin .sub (.E 30) (ki 20), none⟩,
   ⟨(some (.V 2)), .mv (.E 31), none⟩])
 (.ret)))

def k_spec_l1Whole_rv : List RV := [.tmp [0] 2]

def k_spec_l1Once_vars : List Nat := [0, 1, 4]

def k_spec_l1Once_ic : IC :=
 .seq (.reg [⟨(some (.V 4)), .mv (kb false), none⟩])
 (.seq (.reg [⟨(some (.E 5)), .mv (.V 0), none⟩,
   ⟨(some (.E 6)), .mv (.V 1), none⟩,
   ⟨(some (.E 7)), .call k_spec_l1Below [([0], (.E 5)), ([0], (.E 6))], none⟩,
   ⟨(some (.E 8)), .bin .eql (.E 7) (ki 0), none⟩,
   ⟨(some (.V 4)), .mv (.E 8), none⟩])
 (.ret))

def k_spec_l1Once_rv : List RV := [.tmp [0] 4]

def k_spec_AddWide_vars : List Nat := [0, 1, 2, 3, 4, 6, 7, 8, 9, 5]

def k_spec_AddWide_ic : IC :=
 .seq (.reg [⟨(some (.V 2)), .box (.V 0), none⟩,
   ⟨(some (.V 3)), .box (.V 1), none⟩,
   ⟨(some (.V 4)), .alloc [(.v (.bool false)), (.v (.int .u64 0)), (.v (.int .u64 0))], none⟩,
   ⟨(some (.V 5)), .mv (kb false), none⟩])
 (.seq (.seq (.reg [⟨(some (.E 10)), .load true 3 (.V 2), none⟩,
   ⟨(some (.E 11)), .call k_spec_WideOk [([0, 0, 0], (.E 10))], none⟩,
   ⟨(some (.E 12)), .un .not (.E 11), none⟩,
   ⟨(some (.E 13)), .mv (.E 12), none⟩,
   ⟨(some (.E 14)), .load true 3 (.V 3), some ((.E 13), false)⟩,
   ⟨(some (.E 15)), .call k_spec_WideOk [([0, 0, 0], (.E 14))], some ((.E 13), false)⟩,
   ⟨(some (.E 16)), .un .not (.E 15), some ((.E 13), false)⟩,
   ⟨(some (.E 17)), .pick (.E 13) (kb true) (.E 16), none⟩])
 (.cond (.E 17)
  (.seq (.reg [⟨(some (.E 18)), .build [(.v (.bool false)), (.v (.int .u64 0)), (.v (.int .u64 0))] [], none⟩,
    ⟨none, .store [0, 0, 0] (.V 4) (.E 18), none⟩,
    ⟨(some (.V 5)), .mv (kb false), none⟩])
  (.ret))
  (.skip)))
 (.seq (.seq (.reg [⟨(some (.E 19)), .faddr 0 (.V 2), none⟩,
   ⟨(some (.E 20)), .load false 1 (.E 19), none⟩,
   ⟨(some (.E 21)), .faddr 0 (.V 3), none⟩,
   ⟨(some (.E 22)), .load false 1 (.E 21), none⟩,
   ⟨(some (.E 23)), .eqb false [.b] (.E 20) (.E 22), none⟩])
 (.cond (.E 23)
  (.seq (.reg [⟨(some (.E 24)), .faddr 0 (.V 2), none⟩,
    ⟨(some (.E 25)), .load false 1 (.E 24), none⟩,
    ⟨(some (.E 26)), .faddr 1 (.V 2), none⟩,
    ⟨(some (.E 27)), .load false 1 (.E 26), none⟩,
    ⟨(some (.E 28)), .faddr 1 (.V 3), none⟩,
    ⟨(some (.E 29)), .load false 1 (.E 28), none⟩,
    ⟨(some (.E 30)), .bin .add (.E 27) (.E 29), none⟩,
    ⟨(some (.E 31)), .faddr 2 (.V 2), none⟩,
    ⟨(some (.E 32)), .load false 1 (.E 31), none⟩,
    ⟨(some (.E 33)), .faddr 2 (.V 3), none⟩,
    ⟨(some (.E 34)), .load false 1 (.E 33), none⟩,
    ⟨(some (.E 35)), .bin .add (.E 32) (.E 34), none⟩,
    ⟨(some (.E 36)), .build [(.v (.bool false)), (.v (.int .u64 0)), (.v (.int .u64 0))] [(0, 1, (.E 25)), (1, 1, (.E 30)), (2, 1, (.E 35))], none⟩,
    ⟨(some (.V 6)), .alloc [(.v (.bool false)), (.v (.int .u64 0)), (.v (.int .u64 0))], none⟩,
    ⟨none, .store [0, 0, 0] (.V 6) (.E 36), none⟩])
  (.seq (.seq (.reg [⟨(some (.E 37)), .faddr 2 (.V 6), none⟩,
    ⟨(some (.E 38)), .load false 1 (.E 37), none⟩,
    ⟨(some (.E 39)), .faddr 2 (.V 2), none⟩,
    ⟨(some (.E 40)), .load false 1 (.E 39), none⟩,
    ⟨(some (.E 41)), .bin .lss (.E 38) (.E 40), none⟩])
  (.cond (.E 41)
   (.reg [⟨(some (.E 42)), .faddr 1 (.V 6), none⟩,
     ⟨(some (.E 43)), .load false 1 (.E 42), none⟩,
     ⟨(some (.E 44)), .bin .add (.E 43) (.C (.v (.int .u64 1))), none⟩,
     ⟨(some (.E 45)), .faddr 1 (.V 6), none⟩,
     ⟨none, .store [0] (.E 45) (.E 44), none⟩])
   (.skip)))
  (.seq (.seq (.reg [⟨(some (.E 46)), .load true 3 (.V 6), none⟩,
    ⟨(some (.E 47)), .call k_spec_WideOk [([0, 0, 0], (.E 46))], none⟩,
    ⟨(some (.E 48)), .un .not (.E 47), none⟩])
  (.cond (.E 48)
   (.seq (.reg [⟨(some (.E 49)), .build [(.v (.bool false)), (.v (.int .u64 0)), (.v (.int .u64 0))] [], none⟩,
     ⟨none, .store [0, 0, 0] (.V 4) (.E 49), none⟩,
     ⟨(some (.V 5)), .mv (kb false), none⟩])
   (.ret))
   (.skip)))
  (.seq (.reg [⟨(some (.E 50)), .load true 3 (.V 6), none⟩,
    ⟨none, .store [0, 0, 0] (.V 4) (.E 50), none⟩,
    ⟨(some (.V 5)), .mv (kb true), none⟩])
  (.ret)))))
  (.skip)))
 (.seq (.reg [⟨(some (.E 51)), .load true 3 (.V 2), none⟩,
   ⟨(some (.V 7)), .alloc [(.v (.bool false)), (.v (.int .u64 0)), (.v (.int .u64 0))], none⟩,
   ⟨none, .store [0, 0, 0] (.V 7) (.E 51), none⟩])
 (.seq (.reg [⟨(some (.E 52)), .load true 3 (.V 3), none⟩,
   ⟨(some (.V 8)), .alloc [(.v (.bool false)), (.v (.int .u64 0)), (.v (.int .u64 0))], none⟩,
   ⟨none, .store [0, 0, 0] (.V 8) (.E 52), none⟩])
 (.seq (.seq (.reg [⟨(some (.E 53)), .load true 3 (.V 2), none⟩,
   ⟨(some (.E 54)), .load true 3 (.V 3), none⟩,
   ⟨(some (.E 55)), .call k_spec_l3Order [([0, 0, 0], (.E 53)), ([0, 0, 0], (.E 54))], none⟩,
   ⟨(some (.E 56)), .bin .lss (.E 55) (ki 0), none⟩])
 (.cond (.E 56)
  (.seq (.reg [⟨(some (.E 57)), .load true 3 (.V 3), none⟩,
    ⟨none, .store [0, 0, 0] (.V 7) (.E 57), none⟩])
  (.reg [⟨(some (.E 58)), .load true 3 (.V 2), none⟩,
    ⟨none, .store [0, 0, 0] (.V 8) (.E 58), none⟩]))
  (.skip)))
 (.seq (.reg [⟨(some (.E 59)), .faddr 0 (.V 7), none⟩,
   ⟨(some (.E 60)), .load false 1 (.E 59), none⟩,
   ⟨(some (.E 61)), .faddr 1 (.V 7), none⟩,
   ⟨(some (.E 62)), .load false 1 (.E 61), none⟩,
   ⟨(some (.E 63)), .faddr 1 (.V 8), none⟩,
   ⟨(some (.E 64)), .load false 1 (.E 63), none⟩,
   ⟨(some (.E 65)), .bin .sub (.E 62) (.E 64), none⟩,
   ⟨(some (.E 66)), .faddr 2 (.V 7), none⟩,
   ⟨(some (.E 67)), .load false 1 (.E 66), none⟩,
   ⟨(some (.E 68)), .faddr 2 (.V 8), none⟩,
   ⟨(some (.E 69)), .load false 1 (.E 68), none⟩,
   ⟨(some (.E 70)), .bin .sub (.E 67) (.E 69), none⟩,
   ⟨(some (.E 71)), .build [(.v (.bool false)), (.v (.int .u64 0)), (.v (.int .u64 0))] [(0, 1, (.E 60)), (1, 1, (.E 65)), (2, 1, (.E 70))], none⟩,
   ⟨(some (.V 9)), .alloc [(.v (.bool false)), (.v (.int .u64 0)), (.v (.int .u64 0))], none⟩,
   ⟨none, .store [0, 0, 0] (.V 9) (.E 71), none⟩])
 (.seq (.seq (.reg [⟨(some (.E 72)), .faddr 2 (.V 7), none⟩,
   ⟨(some (.E 73)), .load false 1 (.E 72), none⟩,
   ⟨(some (.E 74)), .faddr 2 (.V 8), none⟩,
   ⟨(some (.E 75)), .load false 1 (.E 74), none⟩,
   ⟨(some (.E 76)), .bin .lss (.E 73) (.E 75), none⟩])
 (.cond (.E 76)
  (.reg [⟨(some (.E 77)), .faddr 1 (.V 9), none⟩,
    ⟨(some (.E 78)), .load false 1 (.E 77), none⟩,
    ⟨(some (.E 79)), .bin .sub (.E 78) (.C (.v (.int .u64 1))), none⟩,
    ⟨(some (.E 80)), .faddr 1 (.V 9), none⟩,
    ⟨none, .store [0] (.E 80) (.E 79), none⟩])
  (.skip)))
 (.seq (.seq (.reg [⟨(some (.E 81)), .load true 3 (.V 9), none⟩,
   ⟨(some (.E 82)), .call k_spec_l3Zero [([0, 0, 0], (.E 81))], none⟩])
 (.cond (.E 82)
  (.reg [⟨(some (.E 83)), .faddr 0 (.V 9), none⟩,
    ⟨none, .store [0] (.E 83) (kb false), none⟩])
  (.skip)))
 (.seq (.reg [⟨(some (.E 84)), .load true 3 (.V 9), none⟩,
   ⟨none, .store [0, 0, 0] (.V 4) (.E 84), none⟩,
   ⟨(some (.V 5)), .mv (kb true), none⟩])
 (.ret))))))))))

def k_spec_AddWide_rv : List RV := [.cell [0, 0, 0] 4 true, .tmp [0] 5]

def k_spec_MulWide_vars : List Nat := [0, 1, 5, 6, 4]

def k_spec_MulWide_ic : IC :=
 .seq (.reg [⟨(some (.V 4)), .alloc [(.v (.bool false)), (.v (.int .u64 0)), (.v (.int .u64 0))], none⟩])
 (.seq (.reg [⟨(some (.E 8)), .mv (.V 0), none⟩,
   ⟨(some (.E 9)), .call k_spec_l3Abs [([0], (.E 8))], none⟩,
   ⟨(some (.E 10)), .mv (.V 1), none⟩,
   ⟨(some (.E 11)), .call k_spec_l3Abs [([0], (.E 10))], none⟩,
   ⟨(some (.E 12)), .call k_spec_l3Product [([0], (.E 9)), ([0], (.E 11))], none⟩,
   ⟨(some (.E 7)), .mv (.E 12), none⟩,
   ⟨(some (.E 13)), .ext 0 (.E 7), none⟩,
   ⟨(some (.E 14)), .ext 1 (.E 7), none⟩,
   ⟨(some (.V 5)), .mv (.E 13), none⟩,
   ⟨(some (.V 6)), .mv (.E 14), none⟩])
 (.seq (.reg [⟨(some (.E 15)), .mv (.V 0), none⟩,
   ⟨(some (.E 16)), .bin .lss (.E 15) (ki 0), none⟩,
   ⟨(some (.E 17)), .mv (.V 1), none⟩,
   ⟨(some (.E 18)), .bin .lss (.E 17) (ki 0), none⟩,
   ⟨(some (.E 19)), .eqb true [.b] (.E 16) (.E 18), none⟩,
   ⟨(some (.E 20)), .mv (.E 19), none⟩,
   ⟨(some (.E 21)), .mv (.V 0), some ((.E 20), true)⟩,
   ⟨(some (.E 22)), .bin .neq (.E 21) (ki 0), some ((.E 20), true)⟩,
   ⟨(some (.E 23)), .pick (.E 20) (.E 22) (kb false), none⟩,
   ⟨(some (.E 24)), .mv (.E 23), none⟩,
   ⟨(some (.E 25)), .mv (.V 1), some ((.E 24), true)⟩,
   ⟨(some (.E 26)), .bin .neq (.E 25) (ki 0), some ((.E 24), true)⟩,
   ⟨(some (.E 27)), .pick (.E 24) (.E 26) (kb false), none⟩,
   ⟨(some (.E 28)), .mv (.V 5), none⟩,
   ⟨(some (.E 29)), .mv (.V 6), none⟩,
   ⟨(some (.E 30)), .build [(.v (.bool false)), (.v (.int .u64 0)), (.v (.int .u64 0))] [(0, 1, (.E 27)), (1, 1, (.E 28)), (2, 1, (.E 29))], none⟩,
   ⟨none, .store [0, 0, 0] (.V 4) (.E 30), none⟩])
 (.ret)))

def k_spec_MulWide_rv : List RV := [.cell [0, 0, 0] 4 true]

def k_impl_AddWide_vars : List Nat := [0, 1, 2, 3, 4, 7, 8, 6, 11, 12, 10, 14, 5]

def k_impl_AddWide_ic : IC :=
 .seq (.reg [⟨(some (.V 2)), .box (.V 0), none⟩,
   ⟨(some (.V 3)), .box (.V 1), none⟩,
   ⟨(some (.V 4)), .alloc [(.v (.bool false)), (.v (.int .u64 0)), (.v (.int .u64 0))], none⟩,
   ⟨(some (.V 5)), .mv (kb false), none⟩])
 (.seq (.seq (.reg [⟨(some (.E 15)), .load true 3 (.V 2), none⟩,
   ⟨(some (.E 16)), .call k_impl_WideOk [([0, 0, 0], (.E 15))], none⟩,
   ⟨(some (.E 17)), .un .not (.E 16), none⟩,
   ⟨(some (.E 18)), .mv (.E 17), none⟩,
   ⟨(some (.E 19)), .load true 3 (.V 3), some ((.E 18), false)⟩,
   ⟨(some (.E 20)), .call k_impl_WideOk [([0, 0, 0], (.E 19))], some ((.E 18), false)⟩,
   ⟨(some (.E 21)), .un .not (.E 20), some ((.E 18), false)⟩,
   ⟨(some (.E 22)), .pick (.E 18) (kb true) (.E 21), none⟩])
 (.cond (.E 22)
  (.seq (.reg [⟨(some (.E 23)), .build [(.v (.bool false)), (.v (.int .u64 0)), (.v (.int .u64 0))] [], none⟩,
    ⟨none, .store [0, 0, 0] (.V 4) (.E 23), none⟩,
    ⟨(some (.V 5)), .mv (kb false), none⟩])
  (.ret))
  (.skip)))
 (.seq (.seq (.reg [⟨(some (.E 24)), .faddr 0 (.V 2), none⟩,
   ⟨(some (.E 25)), .load false 1 (.E 24), none⟩,
   ⟨(some (.E 26)), .faddr 0 (.V 3), none⟩,
   ⟨(some (.E 27)), .load false 1 (.E 26), none⟩,
   ⟨(some (.E 28)), .eqb true [.b] (.E 25) (.E 27), none⟩])
 (.cond (.E 28)
  (.seq (.seq (.reg [⟨(some (.E 29)), .load true 3 (.V 2), none⟩,
    ⟨(some (.E 30)), .load true 3 (.V 3), none⟩,
    ⟨(some (.E 31)), .call k_impl_compareSizes [([0, 0, 0], (.E 29)), ([0, 0, 0], (.E 30))], none⟩,
    ⟨(some (.E 32)), .bin .lss (.E 31) (ki 0), none⟩])
  (.cond (.E 32)
   (.reg [⟨(some (.E 33)), .load true 3 (.V 3), none⟩,
     ⟨(some (.E 34)), .load true 3 (.V 2), none⟩,
     ⟨none, .store [0, 0, 0] (.V 2) (.E 33), none⟩,
     ⟨none, .store [0, 0, 0] (.V 3) (.E 34), none⟩])
   (.skip)))
  (.seq (.reg [⟨(some (.E 36)), .faddr 2 (.V 2), none⟩,
    ⟨(some (.E 37)), .load false 1 (.E 36), none⟩,
    ⟨(some (.E 38)), .faddr 2 (.V 3), none⟩,
    ⟨(some (.E 39)), .load false 1 (.E 38), none⟩,
    ⟨(some (.E 40)), .call k_math_bits_Sub64 [([0], (.E 37)), ([0], (.E 39)), ([0], (.C (.v (.int .u64 0))))], none⟩,
    ⟨(some (.E 35)), .mv (.E 40), none⟩,
    ⟨(some (.E 41)), .ext 0 (.E 35), none⟩,
    ⟨(some (.E 42)), .ext 1 (.E 35), none⟩,
    ⟨(some (.V 6)), .mv (.E 41), none⟩,
    ⟨(some (.V 7)), .mv (.E 42), none⟩])
  (.seq (.reg [⟨(some (.E 44)), .faddr 1 (.V 2), none⟩,
    ⟨(some (.E 45)), .load false 1 (.E 44), none⟩,
    ⟨(some (.E 46)), .faddr 1 (.V 3), none⟩,
    ⟨(some (.E 47)), .load false 1 (.E 46), none⟩,
    ⟨(some (.E 48)), .mv (.V 7), none⟩,
    ⟨(some (.E 49)), .call k_math_bits_Sub64 [([0], (.E 45)), ([0], (.E 47)), ([0], (.E 48))], none⟩,
    ⟨(some (.E 43)), .mv (.E 49), none⟩,
    ⟨(some (.E 50)), .ext 0 (.E 43), none⟩,
    ⟨(some (.E 51)), .ext 1 (.E 43), none⟩,
    ⟨(some (.V 8)), .mv (.E 50), none⟩,
    ⟨(some (.E 9)), .mv (.E 51), none⟩])
  (.seq (.reg [⟨(some (.E 52)), .faddr 0 (.V 2), none⟩,
    ⟨(some (.E 53)), .load false 1 (.E 52), none⟩,
    ⟨(some (.E 54)), .mv (.V 8), none⟩,
    ⟨(some (.E 55)), .mv (.V 6), none⟩,
    ⟨(some (.E 56)), .call k_impl_wideOf [([0], (.E 53)), ([0], (.E 54)), ([0], (.E 55))], none⟩,
    ⟨none, .store [0, 0, 0] (.V 4) (.E 56), none⟩,
    ⟨(some (.V 5)), .mv (kb true), none⟩])
  (.ret)))))
  (.skip)))
 (.seq (.reg [⟨(some (.E 58)), .faddr 2 (.V 2), none⟩,
   ⟨(some (.E 59)), .load false 1 (.E 58), none⟩,
   ⟨(some (.E 60)), .faddr 2 (.V 3), none⟩,
   ⟨(some (.E 61)), .load false 1 (.E 60), none⟩,
   ⟨(some (.E 62)), .call k_math_bits_Add64 [([0], (.E 59)), ([0], (.E 61)), ([0], (.C (.v (.int .u64 0))))], none⟩,
   ⟨(some (.E 57)), .mv (.E 62), none⟩,
   ⟨(some (.E 63)), .ext 0 (.E 57), none⟩,
   ⟨(some (.E 64)), .ext 1 (.E 57), none⟩,
   ⟨(some (.V 10)), .mv (.E 63), none⟩,
   ⟨(some (.V 11)), .mv (.E 64), none⟩])
 (.seq (.reg [⟨(some (.E 66)), .faddr 1 (.V 2), none⟩,
   ⟨(some (.E 67)), .load false 1 (.E 66), none⟩,
   ⟨(some (.E 68)), .faddr 1 (.V 3), none⟩,
   ⟨(some (.E 69)), .load false 1 (.E 68), none⟩,
   ⟨(some (.E 70)), .mv (.V 11), none⟩,
   ⟨(some (.E 71)), .call k_math_bits_Add64 [([0], (.E 67)), ([0], (.E 69)), ([0], (.E 70))], none⟩,
   ⟨(some (.E 65)), .mv (.E 71), none⟩,
   ⟨(some (.E 72)), .ext 0 (.E 65), none⟩,
   ⟨(some (.E 73)), .ext 1 (.E 65), none⟩,
   ⟨(some (.V 12)), .mv (.E 72), none⟩,
   ⟨(some (.E 13)), .mv (.E 73), none⟩])
 (.seq (.reg [⟨(some (.E 74)), .faddr 0 (.V 2), none⟩,
   ⟨(some (.E 75)), .load false 1 (.E 74), none⟩,
   ⟨(some (.E 76)), .mv (.V 12), none⟩,
   ⟨(some (.E 77)), .mv (.V 10), none⟩,
   ⟨(some (.E 78)), .call k_impl_wideOf [([0], (.E 75)), ([0], (.E 76)), ([0], (.E 77))], none⟩,
   ⟨(some (.V 14)), .alloc [(.v (.bool false)), (.v (.int .u64 0)), (.v (.int .u64 0))], none⟩,
   ⟨none, .store [0, 0, 0] (.V 14) (.E 78), none⟩])
 (.seq (.seq (.reg [⟨(some (.E 79)), .load true 3 (.V 14), none⟩,
   ⟨(some (.E 80)), .call k_impl_WideOk [([0, 0, 0], (.E 79))], none⟩,
   ⟨(some (.E 81)), .un .not (.E 80), none⟩])
 (.cond (.E 81)
  (.seq (.reg [⟨(some (.E 82)), .build [(.v (.bool false)), (.v (.int .u64 0)), (.v (.int .u64 0))] [], none⟩,
    ⟨none, .store [0, 0, 0] (.V 4) (.E 82), none⟩,
    ⟨(some (.V 5)), .mv (kb false), none⟩])
  (.ret))
  (.skip)))
 (.seq (.reg [⟨(some (.E 83)), .load true 3 (.V 14), none⟩,
   ⟨none, .store [0, 0, 0] (.V 4) (.E 83), none⟩,
   ⟨(some (.V 5)), .mv (kb true), none⟩])
 (.ret))))))))

def k_impl_AddWide_rv : List RV := [.cell [0, 0, 0] 4 true, .tmp [0] 5]

def k_impl_MulWide_vars : List Nat := [0, 1, 5, 6, 4]

def k_impl_MulWide_ic : IC :=
 .seq (.reg [⟨(some (.V 4)), .alloc [(.v (.bool false)), (.v (.int .u64 0)), (.v (.int .u64 0))], none⟩])
 (.seq (.reg [⟨(some (.E 8)), .mv (.V 0), none⟩,
   ⟨(some (.E 9)), .call k_impl_size [([0], (.E 8))], none⟩,
   ⟨(some (.E 10)), .mv (.V 1), none⟩,
   ⟨(some (.E 11)), .call k_impl_size [([0], (.E 10))], none⟩,
   ⟨(some (.E 12)), .call k_math_bits_Mul64 [([0], (.E 9)), ([0], (.E 11))], none⟩,
   ⟨(some (.E 7)), .mv (.E 12), none⟩,
   ⟨(some (.E 13)), .ext 0 (.E 7), none⟩,
   ⟨(some (.E 14)), .ext 1 (.E 7), none⟩,
   ⟨(some (.V 5)), .mv (.E 13), none⟩,
   ⟨(some (.V 6)), .mv (.E 14), none⟩])
 (.seq (.reg [⟨(some (.E 15)), .mv (.V 0), none⟩,
   ⟨(some (.E 16)), .bin .lss (.E 15) (ki 0), none⟩,
   ⟨(some (.E 17)), .mv (.V 1), none⟩,
   ⟨(some (.E 18)), .bin .lss (.E 17) (ki 0), none⟩,
   ⟨(some (.E 19)), .eqb true [.b] (.E 16) (.E 18), none⟩,
   ⟨(some (.E 20)), .mv (.V 5), none⟩,
   ⟨(some (.E 21)), .mv (.V 6), none⟩,
   ⟨(some (.E 22)), .call k_impl_wideOf [([0], (.E 19)), ([0], (.E 20)), ([0], (.E 21))], none⟩,
   ⟨none, .store [0, 0, 0] (.V 4) (.E 22), none⟩])
 (.ret)))

def k_impl_MulWide_rv : List RV := [.cell [0, 0, 0] 4 true]

def k_impl_WideOf_vars : List Nat := [0, 2]

def k_impl_WideOf_ic : IC :=
 .seq (.reg [⟨(some (.V 2)), .alloc [(.v (.bool false)), (.v (.int .u64 0)), (.v (.int .u64 0))], none⟩])
 (.seq (.reg [⟨(some (.E 3)), .mv (.V 0), none⟩,
   ⟨(some (.E 4)), .bin .lss (.E 3) (ki 0), none⟩,
   ⟨(some (.E 5)), .mv (.V 0), none⟩,
   ⟨(some (.E 6)), .call k_impl_size [([0], (.E 5))], none⟩,
   ⟨(some (.E 7)), .call k_impl_wideOf [([0], (.E 4)), ([0], (.C (.v (.int .u64 0)))), ([0], (.E 6))], none⟩,
   ⟨none, .store [0, 0, 0] (.V 2) (.E 7), none⟩])
 (.ret))

def k_impl_WideOf_rv : List RV := [.cell [0, 0, 0] 2 true]

def k_impl_ScaleWide_vars : List Nat := [0, 1, 2, 4, 6, 8, 9, 10, 7, 11, 12, 5]

def k_impl_ScaleWide_ic : IC :=
 .seq (.reg [⟨(some (.V 2)), .box (.V 0), none⟩,
   ⟨(some (.V 4)), .alloc [(.v (.bool false)), (.v (.int .u64 0)), (.v (.int .u64 0))], none⟩,
   ⟨(some (.V 5)), .mv (kb false), none⟩])
 (.seq (.seq (.reg [⟨(some (.E 13)), .load true 3 (.V 2), none⟩,
   ⟨(some (.E 14)), .call k_impl_WideOk [([0, 0, 0], (.E 13))], none⟩,
   ⟨(some (.E 15)), .un .not (.E 14), none⟩])
 (.cond (.E 15)
  (.seq (.reg [⟨(some (.E 16)), .build [(.v (.bool false)), (.v (.int .u64 0)), (.v (.int .u64 0))] [], none⟩,
    ⟨none, .store [0, 0, 0] (.V 4) (.E 16), none⟩,
    ⟨(some (.V 5)), .mv (kb false), none⟩])
  (.ret))
  (.skip)))
 (.seq (.reg [⟨(some (.E 17)), .mv (.V 1), none⟩,
   ⟨(some (.E 18)), .call k_impl_size [([0], (.E 17))], none⟩,
   ⟨(some (.V 6)), .mv (.E 18), none⟩])
 (.seq (.reg [⟨(some (.E 20)), .faddr 1 (.V 2), none⟩,
   ⟨(some (.E 21)), .load false 1 (.E 20), none⟩,
   ⟨(some (.E 22)), .mv (.V 6), none⟩,
   ⟨(some (.E 23)), .call k_math_bits_Mul64 [([0], (.E 21)), ([0], (.E 22))], none⟩,
   ⟨(some (.E 19)), .mv (.E 23), none⟩,
   ⟨(some (.E 24)), .ext 0 (.E 19), none⟩,
   ⟨(some (.E 25)), .ext 1 (.E 19), none⟩,
   ⟨(some (.V 7)), .mv (.E 24), none⟩,
   ⟨(some (.V 8)), .mv (.E 25), none⟩])
 (.seq (.reg [⟨(some (.E 27)), .faddr 2 (.V 2), none⟩,
   ⟨(some (.E 28)), .load false 1 (.E 27), none⟩,
   ⟨(some (.E 29)), .mv (.V 6), none⟩,
   ⟨(some (.E 30)), .call k_math_bits_Mul64 [([0], (.E 28)), ([0], (.E 29))], none⟩,
   ⟨(some (.E 26)), .mv (.E 30), none⟩,
   ⟨(some (.E 31)), .ext 0 (.E 26), none⟩,
   ⟨(some (.E 32)), .ext 1 (.E 26), none⟩,
   ⟨(some (.V 9)), .mv (.E 31), none⟩,
   ⟨(some (.V 10)), .mv (.E 32), none⟩])
 (.seq (.reg [⟨(some (.E 34)), .mv (.V 8), none⟩,
   ⟨(some (.E 35)), .mv (.V 9), none⟩,
   ⟨(some (.E 36)), .call k_math_bits_Add64 [([0], (.E 34)), ([0], (.E 35)), ([0], (.C (.v (.int .u64 0))))], none⟩,
   ⟨(some (.E 33)), .mv (.E 36), none⟩,
   ⟨(some (.E 37)), .ext 0 (.E 33), none⟩,
   ⟨(some (.E 38)), .ext 1 (.E 33), none⟩,
   ⟨(some (.V 8)), .mv (.E 37), none⟩,
   ⟨(some (.V 11)), .mv (.E 38), none⟩])
 (.seq (.reg [⟨(some (.E 39)), .faddr 0 (.V 2), none⟩,
   ⟨(some (.E 40)), .load false 1 (.E 39), none⟩,
   ⟨(some (.E 41)), .mv (.V 1), none⟩,
   ⟨(some (.E 42)), .bin .lss (.E 41) (ki 0), none⟩,
   ⟨(some (.E 43)), .eqb true [.b] (.E 40) (.E 42), none⟩,
   ⟨(some (.E 44)), .mv (.V 8), none⟩,
   ⟨(some (.E 45)), .mv (.V 10), none⟩,
   ⟨(some (.E 46)), .call k_impl_wideOf [([0], (.E 43)), ([0], (.E 44)), ([0], (.E 45))], none⟩,
   ⟨(some (.V 12)), .alloc [(.v (.bool false)), (.v (.int .u64 0)), (.v (.int .u64 0))], none⟩,
   ⟨none, .store [0, 0, 0] (.V 12) (.E 46), none⟩])
 (.seq (.seq (.reg [⟨(some (.E 47)), .mv (.V 7), none⟩,
   ⟨(some (.E 48)), .bin .gtr (.E 47) (.C (.v (.int .u64 0))), none⟩,
   ⟨(some (.E 49)), .mv (.E 48), none⟩,
   ⟨(some (.E 50)), .mv (.V 11), some ((.E 49), false)⟩,
   ⟨(some (.E 51)), .bin .gtr (.E 50) (.C (.v (.int .u64 0))), some ((.E 49), false)⟩,
   ⟨(some (.E 52)), .pick (.E 49) (kb true) (.E 51), none⟩,
   ⟨(some (.E 53)), .mv (.E 52), none⟩,
   ⟨(some (.E 54)), .load true 3 (.V 12), some ((.E 53), false)⟩,
   ⟨(some (.E 55)), .call k_impl_WideOk [([0, 0, 0], (.E 54))], some ((.E 53), false)⟩,
   ⟨(some (.E 56)), .un .not (.E 55), some ((.E 53), false)⟩,
   ⟨(some (.E 57)), .pick (.E 53) (kb true) (.E 56), none⟩])
 (.cond (.E 57)
  (.seq (.reg [⟨(some (.E 58)), .build [(.v (.bool false)), (.v (.int .u64 0)), (.v (.int .u64 0))] [], none⟩,
    ⟨none, .store [0, 0, 0] (.V 4) (.E 58), none⟩,
    ⟨(some (.V 5)), .mv (kb false), none⟩])
  (.ret))
  (.skip)))
 (.seq (.reg [⟨(some (.E 59)), .load true 3 (.V 12), none⟩,
   ⟨none, .store [0, 0, 0] (.V 4) (.E 59), none⟩,
   ⟨(some (.V 5)), .mv (kb true), none⟩])
 (.ret)))))))))

def k_impl_ScaleWide_rv : List RV := [.cell [0, 0, 0] 4 true, .tmp [0] 5]

def k_impl_size_vars : List Nat := [0, 2]

def k_impl_size_ic : IC :=
 .seq (.reg [⟨(some (.V 2)), .mv (.C (.v (.int .u64 0))), none⟩])
 (.seq (.seq (.reg [⟨(some (.E 3)), .mv (.V 0), none⟩,
   ⟨(some (.E 4)), .bin .lss (.E 3) (ki 0), none⟩])
 (.cond (.E 4)
  (.seq (.reg [⟨(some (.E 5)), .mv (.V 0), none⟩,
    ⟨(some (.E 6)), .convI .u64 (.E 5), none⟩,
    ⟨(some (.E 7)), .un .neg (.E 6), none⟩,
    ⟨(some (.V 2)), .mv (.E 7), none⟩])
  (.ret))
  (.skip)))
 (.seq (.reg [⟨(some (.E 8)), .mv (.V 0), none⟩,
   ⟨(some (.E 9)), .convI .u64 (.E 8), none⟩,
   ⟨(some (.V 2)), .mv (.E 9), none⟩])
 (.ret)))

def k_impl_size_rv : List RV := [.tmp [0] 2]

def k_spec_l1Max_vars : List Nat := [0, 1, 4]

def k_spec_l1Max_ic : IC :=
 .seq (.reg [⟨(some (.V 4)), .mv (ki 0), none⟩])
 (.seq (.seq (.reg [⟨(some (.E 5)), .mv (.V 0), none⟩,
   ⟨(some (.E 6)), .mv (.V 1), none⟩,
   ⟨(some (.E 7)), .bin .gtr (.E 5) (.E 6), none⟩])
 (.cond (.E 7)
  (.seq (.reg [⟨(some (.E 8)), .mv (.V 0), none⟩,
    ⟨(some (.V 4)), .mv (.E 8), none⟩])
  (.ret))
  (.skip)))
 (.seq (.reg [⟨(some (.E 9)), .mv (.V 1), none⟩,
   ⟨(some (.V 4)), .mv (.E 9), none⟩])
 (.ret)))

def k_spec_l1Max_rv : List RV := [.tmp [0] 4]

def k_spec_l3Zero_vars : List Nat := [0, 1, 2]

def k_spec_l3Zero_ic : IC :=
 .seq (.reg [⟨(some (.V 1)), .box (.V 0), none⟩,
   ⟨(some (.V 2)), .mv (kb false), none⟩])
 (.seq (.reg [⟨(some (.E 3)), .faddr 1 (.V 1), none⟩,
   ⟨(some (.E 4)), .load false 1 (.E 3), none⟩,
   ⟨(some (.E 5)), .bin .eql (.E 4) (.C (.v (.int .u64 0))), none⟩,
   ⟨(some (.E 6)), .mv (.E 5), none⟩,
   ⟨(some (.E 7)), .faddr 2 (.V 1), some ((.E 6), true)⟩,
   ⟨(some (.E 8)), .load false 1 (.E 7), some ((.E 6), true)⟩,
   ⟨(some (.E 9)), .bin .eql (.E 8) (.C (.v (.int .u64 0))), some ((.E 6), true)⟩,
   ⟨(some (.E 10)), .pick (.E 6) (.E 9) (kb false), none⟩,
   ⟨(some (.V 2)), .mv (.E 10), none⟩])
 (.ret))

def k_spec_l3Zero_rv : List RV := [.tmp [0] 2]

def k_spec_l3Order_vars : List Nat := [0, 1, 2, 3, 4]

def k_spec_l3Order_ic : IC :=
 .seq (.reg [⟨(some (.V 2)), .box (.V 0), none⟩,
   ⟨(some (.V 3)), .box (.V 1), none⟩,
   ⟨(some (.V 4)), .mv (ki 0), none⟩])
 (.seq (.block 0 (.seq (.reg [⟨(some (.E 6)), .faddr 1 (.V 2), none⟩,
    ⟨(some (.E 7)), .load false 1 (.E 6), none⟩,
    ⟨(some (.E 8)), .faddr 1 (.V 3), none⟩,
    ⟨(some (.E 9)), .load false 1 (.E 8), none⟩,
    ⟨(some (.E 10)), .bin .lss (.E 7) (.E 9), none⟩,
    ⟨(some (.E 11)), .mv (.E 10), none⟩,
    ⟨(some (.E 12)), .faddr 1 (.V 2), some ((.E 11), false)⟩,
    ⟨(some (.E 13)), .load false 1 (.E 12), some ((.E 11), false)⟩,
    ⟨(some (.E 14)), .faddr 1 (.V 3), some ((.E 11), false)⟩,
    ⟨(some (.E 15)), .load false 1 (.E 14), some ((.E 11), false)⟩,
    ⟨(some (.E 16)), .bin .eql (.E 13) (.E 15), some ((.E 11), false)⟩,
    ⟨(some (.E 17)), .mv (.E 16), some ((.E 11), false)⟩,
    ⟨(some (.E 18)), .faddr 2 (.V 2), some ((.E 17), true)⟩,
    ⟨(some (.E 19)), .load false 1 (.E 18), some ((.E 17), true)⟩,
    ⟨(some (.E 20)), .faddr 2 (.V 3), some ((.E 17), true)⟩,
    ⟨(some (.E 21)), .load false 1 (.E 20), some ((.E 17), true)⟩,
    ⟨(some (.E 22)), .bin .lss (.E 19) (.E 21), some ((.E 17), true)⟩,
    ⟨(some (.E 23)), .pick (.E 17) (.E 22) (kb false), some ((.E 11), false)⟩,
    ⟨(some (.E 24)), .pick (.E 11) (kb true) (.E 23), none⟩,
    ⟨(some (.E 5)), .mv (.E 24), none⟩])
  (.cond (.E 5)
   (.seq (.reg [⟨(some (.V 4)), .mv (ki (-1)), none⟩])
   (.ret))
   (.seq (.reg [⟨(some (.E 26)), .faddr 1 (.V 2), none⟩,
     ⟨(some (.E 27)), .load false 1 (.E 26), none⟩,
     ⟨(some (.E 28)), .faddr 1 (.V 3), none⟩,
     ⟨(some (.E 29)), .load false 1 (.E 28), none⟩,
     ⟨(some (.E 30)), .bin .gtr (.E 27) (.E 29), none⟩,
     ⟨(some (.E 31)), .mv (.E 30), none⟩,
     ⟨(some (.E 32)), .faddr 2 (.V 2), some ((.E 31), false)⟩,
     ⟨(some (.E 33)), .load false 1 (.E 32), some ((.E 31), false)⟩,
     ⟨(some (.E 34)), .faddr 2 (.V 3), some ((.E 31), false)⟩,
     ⟨(some (.E 35)), .load false 1 (.E 34), some ((.E 31), false)⟩,
     ⟨(some (.E 36)), .bin .gtr (.E 33) (.E 35), some ((.E 31), false)⟩,
     ⟨(some (.E 37)), .pick (.E 31) (kb true) (.E 36), none⟩,
     ⟨(some (.E 25)), .mv (.E 37), none⟩])
   (.cond (.E 25)
    (.seq (.reg [⟨(some (.V 4)), .mv (ki 1), none⟩])
    (.ret))
    (.skip))))))
 (.seq (.reg [⟨(some (.V 4)), .mv (ki 0), none⟩])
 (.ret)))

def k_spec_l3Order_rv : List RV := [.tmp [0] 4]

def k_spec_l1Below_vars : List Nat := [0, 1, 5, 6, 7, 8, 4]

def k_spec_l1Below_ic : IC :=
 .seq (.reg [⟨(some (.V 4)), .mv (ki 0), none⟩])
 (.seq (.seq (.reg [⟨(some (.E 9)), .mv (.V 1), none⟩,
   ⟨(some (.E 10)), .bin .leq (.E 9) (ki 0), none⟩])
 (.cond (.E 10)
  (.seq (.reg [⟨(some (.V 4)), .mv (ki 0), none⟩])
  (.ret))
  (.skip)))
 (.seq (.seq (.reg [⟨(some (.E 11)), .mv (.V 1), none⟩,
   ⟨(some (.E 12)), .bin .leq (.E 11) (ki 256), none⟩])
 (.cond (.E 12)
  (.seq (.reg [⟨(some (.E 13)), .mv (.V 0), none⟩,
    ⟨(some (.E 14)), .call k_spec_l1Byte [([0], (.E 13))], none⟩,
    ⟨(some (.E 15)), .mv (.V 1), none⟩,
    ⟨(some (.E 16)), .bin .rem (.E 14) (.E 15), none⟩,
    ⟨(some (.V 4)), .mv (.E 16), none⟩])
  (.ret))
  (.skip)))
 (.seq (.reg [⟨(some (.E 17)), .mv (.V 0), none⟩,
   ⟨(some (.E 18)), .call k_spec_l1Byte [([0], (.E 17))], none⟩,
   ⟨(some (.V 5)), .mv (.E 18), none⟩])
 (.seq (.reg [⟨(some (.E 19)), .mv (.V 0), none⟩,
   ⟨(some (.E 20)), .call k_spec_l1Byte [([0], (.E 19))], none⟩,
   ⟨(some (.V 6)), .mv (.E 20), none⟩])
 (.seq (.reg [⟨(some (.E 21)), .mv (.V 0), none⟩,
   ⟨(some (.E 22)), .call k_spec_l1Byte [([0], (.E 21))], none⟩,
   ⟨(some (.V 7)), .mv (.E 22), none⟩])
 (.seq (.reg [⟨(some (.E 23)), .mv (.V 0), none⟩,
   ⟨(some (.E 24)), .call k_spec_l1Byte [([0], (.E 23))], none⟩,
   ⟨(some (.V 8)), .mv (.E 24), none⟩])
 (.seq (.reg [⟨(some (.E 25)), .mv (.V 5), none⟩,
   ⟨(some (.E 26)), .bin .mul (.E 25) (ki 16777216), none⟩,
   ⟨(some (.E 27)), .mv (.V 6), none⟩,
   ⟨(some (.E 28)), .bin .mul (.E 27) (ki 65536), none⟩,
   ⟨(some (.E 29)), .bin .add (.E 26) (.E 28), none⟩,
   ⟨(some (.E 30)), .mv (.V 7), none⟩,
   ⟨(some (.E 31)), .bin .mul (.E 30) (ki 256), none⟩,
   ⟨(some (.E 32)), .bin .add (.E 29) (.E 31), none⟩,
   ⟨(some (.E 33)), .mv (.V 8), none⟩,
   ⟨(some (.E 34)), .bin .add (.E 32) (.E 33), none⟩,
   ⟨(some (.E 35)), .mv (.V 1), none⟩,
   ⟨(some (.E 36)), .bin .rem (.E 34) (.E 35), none⟩,
   ⟨(some (.V 4)), .mv (.E 36), none⟩])
 (.ret))))))))

def k_spec_l1Below_rv : List RV := [.tmp [0] 4]

def k_spec_l1Byte_vars : List Nat := [0, 3, 2]

def k_spec_l1Byte_ic : IC :=
 .seq (.reg [⟨(some (.V 2)), .mv (ki 0), none⟩])
 (.seq (.reg [⟨(some (.E 4)), .mv (.V 0), none⟩,
   ⟨(some (.E 5)), .mv (.V 0), none⟩,
   ⟨(some (.E 6)), .nilc (.E 5), none⟩,
   ⟨(some (.E 7)), .faddr 2 (.E 6), none⟩,
   ⟨(some (.E 8)), .load false 1 (.E 7), none⟩,
   ⟨(some (.E 9)), .bin .mul (.E 8) (ki 6364136223846793005), none⟩,
   ⟨(some (.E 10)), .bin .add (.E 9) (ki 1442695040888963407), none⟩,
   ⟨(some (.E 11)), .nilc (.E 4), none⟩,
   ⟨(some (.E 12)), .faddr 2 (.E 11), none⟩,
   ⟨none, .store [0] (.E 12) (.E 10), none⟩])
 (.seq (.regD [(⟨(some (.E 13)), .mv (.V 0), none⟩, 0, 0),
   (⟨(some (.E 14)), .nilc (.E 13), none⟩, 0, 0),
   (⟨(some (.E 15)), .faddr 2 (.E 14), none⟩, 0, 0),
   (⟨(some (.E 16)), .load false 1 (.E 15), none⟩, 0, 0),
   (⟨(some (.E 17)), .bin .shr (.E 16) (.C (.v (.int .u64 33))), none⟩, 0, 0),
   (⟨(some (.E 18)), .mv (.V 0), none⟩, 0, 0),
   (⟨(some (.E 19)), .nilc (.E 18), none⟩, 0, 0),
   (⟨(some (.E 20)), .faddr 2 (.E 19), none⟩, 0, 0),
   (⟨(some (.E 21)), .load false 1 (.E 20), none⟩, 0, 0),
   (⟨(some (.E 22)), .bin .shr (.E 21) (.C (.v (.int .u64 45))), none⟩, 0, 0),
   (⟨(some (.E 23)), .bin .xor (.E 17) (.E 22), none⟩, 0, 0),
   (⟨(some (.E 24)), .bin .and (.E 23) (ki 255), none⟩, 0, 0),
   (⟨(some (.V 3)), .mv (.E 24), none⟩, 0, 0)])
 (.seq (.seq (.regD [(⟨(some (.E 25)), .mv (.V 0), none⟩, 0, 0),
   (⟨(some (.E 26)), .nilc (.E 25), none⟩, 0, 0),
   (⟨(some (.E 27)), .faddr 1 (.E 26), none⟩, 0, 0),
   (⟨(some (.E 28)), .load false 1 (.E 27), none⟩, 0, 0),
   (⟨(some (.E 29)), .mv (.V 0), none⟩, 0, 0),
   (⟨(some (.E 30)), .nilc (.E 29), none⟩, 0, 0),
   (⟨(some (.E 31)), .faddr 0 (.E 30), none⟩, 0, 0),
   (⟨(some (.E 32)), .load false 1 (.E 31), none⟩, 0, 0),
   (⟨(some (.E 33)), .len (.E 32), none⟩, 0, 0),
   (⟨(some (.E 34)), .bin .lss (.E 28) (.E 33), none⟩, 0, 0)])
 (.cond (.E 34)
  (.seq (.regD [(⟨(some (.E 35)), .mv (.V 3), none⟩, 0, 0),
    (⟨(some (.E 36)), .mv (.V 0), none⟩, 0, 0),
    (⟨(some (.E 37)), .nilc (.E 36), none⟩, 0, 0),
    (⟨(some (.E 38)), .faddr 0 (.E 37), none⟩, 0, 0),
    (⟨(some (.E 39)), .load false 1 (.E 38), none⟩, 0, 0),
    (⟨(some (.E 40)), .mv (.V 0), none⟩, 0, 0),
    (⟨(some (.E 41)), .nilc (.E 40), none⟩, 0, 0),
    (⟨(some (.E 42)), .faddr 1 (.E 41), none⟩, 0, 0),
    (⟨(some (.E 43)), .load false 1 (.E 42), none⟩, 0, 0),
    (⟨(some (.E 44)), .iaddr 1 (.E 39) (.E 43), none⟩, 0, 0),
    (⟨(some (.E 45)), .load false 1 (.E 44), none⟩, 0, 0),
    (⟨(some (.E 46)), .convI .i64 (.E 45), none⟩, 0, 0),
    (⟨(some (.E 47)), .bin .add (.E 35) (.E 46), none⟩, 0, 0),
    (⟨(some (.E 48)), .bin .and (.E 47) (ki 255), none⟩, 0, 0),
    (⟨(some (.V 3)), .mv (.E 48), none⟩, 0, 0)])
  (.reg [⟨(some (.E 49)), .mv (.V 0), none⟩,
    ⟨(some (.E 50)), .mv (.V 0), none⟩,
    ⟨(some (.E 51)), .nilc (.E 50), none⟩,
    ⟨(some (.E 52)), .faddr 1 (.E 51), none⟩,
    ⟨(some (.E 53)), .load false 1 (.E 52), none⟩,
    ⟨(some (.E 54)), .bin .add (.E 53) (ki 1), none⟩,
    ⟨(some (.E 55)), .nilc (.E 49), none⟩,
    ⟨(some (.E 56)), .faddr 1 (.E 55), none⟩,
    ⟨none, .store [0] (.E 56) (.E 54), none⟩]))
  (.skip)))
 (.seq (.reg [⟨(some (.E 57)), .mv (.V 3), none⟩,
   ⟨(some (.V 2)), .mv (.E 57), none⟩])
 (.ret)))))

def k_spec_l1Byte_rv : List RV := [.tmp [0] 2]

def k_spec_WideOk_vars : List Nat := [0, 1, 2]

def k_spec_WideOk_ic : IC :=
 .seq (.reg [⟨(some (.V 1)), .box (.V 0), none⟩,
   ⟨(some (.V 2)), .mv (kb false), none⟩])
 (.seq (.reg [⟨(some (.E 3)), .faddr 1 (.V 1), none⟩,
   ⟨(some (.E 4)), .load false 1 (.E 3), none⟩,
   ⟨(some (.E 5)), .bin .lss (.E 4) (.C (.v (.int .u64 9223372036854775808))), none⟩,
   ⟨(some (.E 6)), .mv (.E 5), none⟩,
   ⟨(some (.E 7)), .faddr 0 (.V 1), some ((.E 6), true)⟩,
   ⟨(some (.E 8)), .load false 1 (.E 7), some ((.E 6), true)⟩,
   ⟨(some (.E 9)), .un .not (.E 8), some ((.E 6), true)⟩,
   ⟨(some (.E 10)), .mv (.E 9), some ((.E 6), true)⟩,
   ⟨(some (.E 11)), .faddr 1 (.V 1), some ((.E 10), false)⟩,
   ⟨(some (.E 12)), .load false 1 (.E 11), some ((.E 10), false)⟩,
   ⟨(some (.E 13)), .bin .gtr (.E 12) (.C (.v (.int .u64 0))), some ((.E 10), false)⟩,
   ⟨(some (.E 14)), .pick (.E 10) (kb true) (.E 13), some ((.E 6), true)⟩,
   ⟨(some (.E 15)), .mv (.E 14), some ((.E 6), true)⟩,
   ⟨(some (.E 16)), .faddr 2 (.V 1), some ((.E 15), false)⟩,
   ⟨(some (.E 17)), .load false 1 (.E 16), some ((.E 15), false)⟩,
   ⟨(some (.E 18)), .bin .gtr (.E 17) (.C (.v (.int .u64 0))), some ((.E 15), false)⟩,
   ⟨(some (.E 19)), .pick (.E 15) (kb true) (.E 18), some ((.E 6), true)⟩,
   ⟨(some (.E 20)), .pick (.E 6) (.E 19) (kb false), none⟩,
   ⟨(some (.V 2)), .mv (.E 20), none⟩])
 (.ret))

def k_spec_WideOk_rv : List RV := [.tmp [0] 2]

def k_spec_l3Product_vars : List Nat := [0, 1, 7, 9, 6, 10, 8, 11, 12, 4, 5]

def k_spec_l3Product_ic : IC :=
 .seq (.reg [⟨(some (.V 4)), .mv (.C (.v (.int .u64 0))), none⟩,
   ⟨(some (.V 5)), .mv (.C (.v (.int .u64 0))), none⟩])
 (.seq (.reg [⟨(some (.E 13)), .mv (.V 0), none⟩,
   ⟨(some (.E 14)), .bin .shr (.E 13) (.C (.v (.int .u64 32))), none⟩,
   ⟨(some (.V 6)), .mv (.E 14), none⟩])
 (.seq (.reg [⟨(some (.E 15)), .mv (.V 0), none⟩,
   ⟨(some (.E 16)), .bin .and (.E 15) (.C (.v (.int .u64 4294967295))), none⟩,
   ⟨(some (.V 7)), .mv (.E 16), none⟩])
 (.seq (.reg [⟨(some (.E 17)), .mv (.V 1), none⟩,
   ⟨(some (.E 18)), .bin .shr (.E 17) (.C (.v (.int .u64 32))), none⟩,
   ⟨(some (.V 8)), .mv (.E 18), none⟩])
 (.seq (.reg [⟨(some (.E 19)), .mv (.V 1), none⟩,
   ⟨(some (.E 20)), .bin .and (.E 19) (.C (.v (.int .u64 4294967295))), none⟩,
   ⟨(some (.V 9)), .mv (.E 20), none⟩])
 (.seq (.reg [⟨(some (.E 21)), .mv (.V 7), none⟩,
   ⟨(some (.E 22)), .mv (.V 9), none⟩,
   ⟨(some (.E 23)), .bin .mul (.E 21) (.E 22), none⟩,
   ⟨(some (.V 10)), .mv (.E 23), none⟩])
 (.seq (.reg [⟨(some (.E 24)), .mv (.V 6), none⟩,
   ⟨(some (.E 25)), .mv (.V 9), none⟩,
   ⟨(some (.E 26)), .bin .mul (.E 24) (.E 25), none⟩,
   ⟨(some (.E 27)), .mv (.V 10), none⟩,
   ⟨(some (.E 28)), .bin .shr (.E 27) (.C (.v (.int .u64 32))), none⟩,
   ⟨(some (.E 29)), .bin .add (.E 26) (.E 28), none⟩,
   ⟨(some (.V 11)), .mv (.E 29), none⟩])
 (.seq (.reg [⟨(some (.E 30)), .mv (.V 7), none⟩,
   ⟨(some (.E 31)), .mv (.V 8), none⟩,
   ⟨(some (.E 32)), .bin .mul (.E 30) (.E 31), none⟩,
   ⟨(some (.E 33)), .mv (.V 11), none⟩,
   ⟨(some (.E 34)), .bin .and (.E 33) (.C (.v (.int .u64 4294967295))), none⟩,
   ⟨(some (.E 35)), .bin .add (.E 32) (.E 34), none⟩,
   ⟨(some (.V 12)), .mv (.E 35), none⟩])
 (.seq (.reg [⟨(some (.E 36)), .mv (.V 6), none⟩,
   ⟨(some (.E 37)), .mv (.V 8), none⟩,
   ⟨(some (.E 38)), .bin .mul (.E 36) (.E 37), none⟩,
   ⟨(some (.E 39)), .mv (.V 11), none⟩,
   ⟨(some (.E 40)), .bin .shr (.E 39) (.C (.v (.int .u64 32))), none⟩,
   ⟨(some (.E 41)), .bin .add (.E 38) (.E 40), none⟩,
   ⟨(some (.E 42)), .mv (.V 12), none⟩,
   ⟨(some (.E 43)), .bin .shr (.E 42) (.C (.v (.int .u64 32))), none⟩,
   ⟨(some (.E 44)), .bin .add (.E 41) (.E 43), none⟩,
   ⟨(some (.E 45)), .mv (.V 12), none⟩,
   ⟨(some (.E 46)), .bin .shl (.E 45) (.C (.v (.int .u64 32))), none⟩,
   ⟨(some (.E 47)), .mv (.V 10), none⟩,
   ⟨(some (.E 48)), .bin .and (.E 47) (.C (.v (.int .u64 4294967295))), none⟩,
   ⟨(some (.E 49)), .bin .add (.E 46) (.E 48), none⟩,
   ⟨(some (.V 4)), .mv (.E 44), none⟩,
   ⟨(some (.V 5)), .mv (.E 49), none⟩])
 (.ret)))))))))

def k_spec_l3Product_rv : List RV := [.tmp [0] 4, .tmp [0] 5]

def k_spec_l3Abs_vars : List Nat := [0, 2]

def k_spec_l3Abs_ic : IC :=
 .seq (.reg [⟨(some (.V 2)), .mv (.C (.v (.int .u64 0))), none⟩])
 (.seq (.seq (.reg [⟨(some (.E 3)), .mv (.V 0), none⟩,
   ⟨(some (.E 4)), .bin .lss (.E 3) (ki 0), none⟩])
 (.cond (.E 4)
  (.seq (.reg [⟨(some (.E 5)), .mv (.V 0), none⟩,
    ⟨(some (.E 6)), .bin .add (.E 5) (ki 1), none⟩,
    ⟨(some (.E 7)), .un .neg (.E 6), none⟩,
    ⟨(some (.E 8)), .convI .u64 (.E 7), none⟩,
    ⟨(some (.E 9)), .bin .add (.E 8) (.C (.v (.int .u64 1))), none⟩,
    ⟨(some (.V 2)), .mv (.E 9), none⟩])
  (.ret))
  (.skip)))
 (.seq (.reg [⟨(some (.E 10)), .mv (.V 0), none⟩,
   ⟨(some (.E 11)), .convI .u64 (.E 10), none⟩,
   ⟨(some (.V 2)), .mv (.E 11), none⟩])
 (.ret)))

def k_spec_l3Abs_rv : List RV := [.tmp [0] 2]

def k_impl_WideOk_vars : List Nat := [0, 1, 2]

def k_impl_WideOk_ic : IC :=
 .seq (.reg [⟨(some (.V 1)), .box (.V 0), none⟩,
   ⟨(some (.V 2)), .mv (kb false), none⟩])
 (.seq (.reg [⟨(some (.E 3)), .faddr 1 (.V 1), none⟩,
   ⟨(some (.E 4)), .load false 1 (.E 3), none⟩,
   ⟨(some (.E 5)), .bin .lss (.E 4) (.C (.v (.int .u64 9223372036854775808))), none⟩,
   ⟨(some (.E 6)), .mv (.E 5), none⟩,
   ⟨(some (.E 7)), .faddr 0 (.V 1), some ((.E 6), true)⟩,
   ⟨(some (.E 8)), .load false 1 (.E 7), some ((.E 6), true)⟩,
   ⟨(some (.E 9)), .un .not (.E 8), some ((.E 6), true)⟩,
   ⟨(some (.E 10)), .mv (.E 9), some ((.E 6), true)⟩,
   ⟨(some (.E 11)), .faddr 1 (.V 1), some ((.E 10), false)⟩,
   ⟨(some (.E 12)), .load false 1 (.E 11), some ((.E 10), false)⟩,
   ⟨(some (.E 13)), .bin .gtr (.E 12) (.C (.v (.int .u64 0))), some ((.E 10), false)⟩,
   ⟨(some (.E 14)), .pick (.E 10) (kb true) (.E 13), some ((.E 6), true)⟩,
   ⟨(some (.E 15)), .mv (.E 14), some ((.E 6), true)⟩,
   ⟨(some (.E 16)), .faddr 2 (.V 1), some ((.E 15), false)⟩,
   ⟨(some (.E 17)), .load false 1 (.E 16), some ((.E 15), false)⟩,
   ⟨(some (.E 18)), .bin .gtr (.E 17) (.C (.v (.int .u64 0))), some ((.E 15), false)⟩,
   ⟨(some (.E 19)), .pick (.E 15) (kb true) (.E 18), some ((.E 6), true)⟩,
   ⟨(some (.E 20)), .pick (.E 6) (.E 19) (kb false), none⟩,
   ⟨(some (.V 2)), .mv (.E 20), none⟩])
 (.ret))

def k_impl_WideOk_rv : List RV := [.tmp [0] 2]

def k_impl_compareSizes_vars : List Nat := [0, 1, 2, 3, 4]

def k_impl_compareSizes_ic : IC :=
 .seq (.reg [⟨(some (.V 2)), .box (.V 0), none⟩,
   ⟨(some (.V 3)), .box (.V 1), none⟩,
   ⟨(some (.V 4)), .mv (ki 0), none⟩])
 (.seq (.regD [(⟨(some (.E 5)), .faddr 1 (.V 2), none⟩, 0, 0),
   (⟨(some (.E 6)), .load false 1 (.E 5), none⟩, 0, 0),
   (⟨(some (.E 7)), .faddr 1 (.V 3), none⟩, 0, 0),
   (⟨(some (.E 8)), .load false 1 (.E 7), none⟩, 0, 0),
   (⟨(some (.E 9)), .call k_cmp_Compare_uint64_ [([0], (.E 6)), ([0], (.E 8))], none⟩, 0, 0),
   (⟨(some (.E 10)), .faddr 2 (.V 2), none⟩, 1, 0),
   (⟨(some (.E 11)), .load false 1 (.E 10), none⟩, 1, 0),
   (⟨(some (.E 12)), .faddr 2 (.V 3), none⟩, 1, 0),
   (⟨(some (.E 13)), .load false 1 (.E 12), none⟩, 1, 0),
   (⟨(some (.E 14)), .call k_cmp_Compare_uint64_ [([0], (.E 11)), ([0], (.E 13))], none⟩, 0, 0),
   (⟨(some (.E 15)), .bslice 2 1 [(.v (.int .i64 0))] [(0, (.E 9)), (1, (.E 14))], none⟩, 0, 0),
   (⟨(some (.E 16)), .call k_cmp_Or_int_ [([1], (.E 15))], none⟩, 0, 0),
   (⟨(some (.V 4)), .mv (.E 16), none⟩, 0, 0)])
 (.ret))

def k_impl_compareSizes_rv : List RV := [.tmp [0] 4]

def k_impl_wideOf_vars : List Nat := [0, 1, 2, 6]

def k_impl_wideOf_ic : IC :=
 .seq (.reg [⟨(some (.V 6)), .alloc [(.v (.bool false)), (.v (.int .u64 0)), (.v (.int .u64 0))], none⟩])
 (.seq (.reg [⟨(some (.E 7)), .mv (.V 0), none⟩,
   ⟨(some (.E 8)), .mv (.E 7), none⟩,
   ⟨(some (.E 9)), .mv (.V 1), some ((.E 8), true)⟩,
   ⟨(some (.E 10)), .bin .gtr (.E 9) (.C (.v (.int .u64 0))), some ((.E 8), true)⟩,
   ⟨(some (.E 11)), .mv (.E 10), some ((.E 8), true)⟩,
   ⟨(some (.E 12)), .mv (.V 2), some ((.E 11), false)⟩,
   ⟨(some (.E 13)), .bin .gtr (.E 12) (.C (.v (.int .u64 0))), some ((.E 11), false)⟩,
   ⟨(some (.E 14)), .pick (.E 11) (kb true) (.E 13), some ((.E 8), true)⟩,
   ⟨(some (.E 15)), .pick (.E 8) (.E 14) (kb false), none⟩,
   ⟨(some (.E 16)), .mv (.V 1), none⟩,
   ⟨(some (.E 17)), .mv (.V 2), none⟩,
   ⟨(some (.E 18)), .build [(.v (.bool false)), (.v (.int .u64 0)), (.v (.int .u64 0))] [(0, 1, (.E 15)), (1, 1, (.E 16)), (2, 1, (.E 17))], none⟩,
   ⟨none, .store [0, 0, 0] (.V 6) (.E 18), none⟩])
 (.ret))

def k_impl_wideOf_rv : List RV := [.cell [0, 0, 0] 6 true]

def k_math_bits_Mul64_vars : List Nat := [0, 1, 6, 8, 7, 10, 11, 12, 9, 13, 4, 5]

def k_math_bits_Mul64_ic : IC :=
 .seq (.reg [⟨(some (.V 4)), .mv (.C (.v (.int .u64 0))), none⟩,
   ⟨(some (.V 5)), .mv (.C (.v (.int .u64 0))), none⟩])
 (.seq (.reg [⟨(some (.E 14)), .mv (.V 0), none⟩,
   ⟨(some (.E 15)), .bin .and (.E 14) (.C (.v (.int .u64 4294967295))), none⟩,
   ⟨(some (.V 6)), .mv (.E 15), none⟩])
 (.seq (.reg [⟨(some (.E 16)), .mv (.V 0), none⟩,
   ⟨(some (.E 17)), .bin .shr (.E 16) (.C (.v (.int .u64 32))), none⟩,
   ⟨(some (.V 7)), .mv (.E 17), none⟩])
 (.seq (.reg [⟨(some (.E 18)), .mv (.V 1), none⟩,
   ⟨(some (.E 19)), .bin .and (.E 18) (.C (.v (.int .u64 4294967295))), none⟩,
   ⟨(some (.V 8)), .mv (.E 19), none⟩])
 (.seq (.reg [⟨(some (.E 20)), .mv (.V 1), none⟩,
   ⟨(some (.E 21)), .bin .shr (.E 20) (.C (.v (.int .u64 32))), none⟩,
   ⟨(some (.V 9)), .mv (.E 21), none⟩])
 (.seq (.reg [⟨(some (.E 22)), .mv (.V 6), none⟩,
   ⟨(some (.E 23)), .mv (.V 8), none⟩,
   ⟨(some (.E 24)), .bin .mul (.E 22) (.E 23), none⟩,
   ⟨(some (.V 10)), .mv (.E 24), none⟩])
 (.seq (.reg [⟨(some (.E 25)), .mv (.V 7), none⟩,
   ⟨(some (.E 26)), .mv (.V 8), none⟩,
   ⟨(some (.E 27)), .bin .mul (.E 25) (.E 26), none⟩,
   ⟨(some (.E 28)), .mv (.V 10), none⟩,
   ⟨(some (.E 29)), .bin .shr (.E 28) (.C (.v (.int .u64 32))), none⟩,
   ⟨(some (.E 30)), .bin .add (.E 27) (.E 29), none⟩,
   ⟨(some (.V 11)), .mv (.E 30), none⟩])
 (.seq (.reg [⟨(some (.E 31)), .mv (.V 11), none⟩,
   ⟨(some (.E 32)), .bin .and (.E 31) (.C (.v (.int .u64 4294967295))), none⟩,
   ⟨(some (.V 12)), .mv (.E 32), none⟩])
 (.seq (.reg [⟨(some (.E 33)), .mv (.V 11), none⟩,
   ⟨(some (.E 34)), .bin .shr (.E 33) (.C (.v (.int .u64 32))), none⟩,
   ⟨(some (.V 13)), .mv (.E 34), none⟩])
 (.seq (.reg [⟨(some (.E 35)), .mv (.V 12), none⟩,
   ⟨(some (.E 36)), .mv (.V 6), none⟩,
   ⟨(some (.E 37)), .mv (.V 9), none⟩,
   ⟨(some (.E 38)), .bin .mul (.E 36) (.E 37), none⟩,
   ⟨(some (.E 39)), .bin .add (.E 35) (.E 38), none⟩,
   ⟨(some (.V 12)), .mv (.E 39), none⟩])
 (.seq (.reg [⟨(some (.E 40)), .mv (.V 7), none⟩,
   ⟨(some (.E 41)), .mv (.V 9), none⟩,
   ⟨(some (.E 42)), .bin .mul (.E 40) (.E 41), none⟩,
   ⟨(some (.E 43)), .mv (.V 13), none⟩,
   ⟨(some (.E 44)), .bin .add (.E 42) (.E 43), none⟩,
   ⟨(some (.E 45)), .mv (.V 12), none⟩,
   ⟨(some (.E 46)), .bin .shr (.E 45) (.C (.v (.int .u64 32))), none⟩,
   ⟨(some (.E 47)), .bin .add (.E 44) (.E 46), none⟩,
   ⟨(some (.V 4)), .mv (.E 47), none⟩])
 (.seq (.reg [⟨(some (.E 48)), .mv (.V 0), none⟩,
   ⟨(some (.E 49)), .mv (.V 1), none⟩,
   ⟨(some (.E 50)), .bin .mul (.E 48) (.E 49), none⟩,
   ⟨(some (.V 5)), .mv (.E 50), none⟩])
 (.ret))))))))))))

def k_math_bits_Mul64_rv : List RV := [.tmp [0] 4, .tmp [0] 5]

def k_cmp_Or_int__vars : List Nat := [0, 8, 7, 6, 5, 3, 2]

def k_cmp_Or_int__b0 : IC :=
 .seq (.reg [⟨(some (.E 9)), .bin .lss (.V 8) (.V 7), none⟩])
 (.seq (.cond (.E 9)
  (.skip)
  (.exit 0))
 (.seq (.block 1 (.seq (.reg [⟨(some (.E 10)), .iaddr 1 (.V 6) (.V 8), none⟩,
    ⟨(some (.E 11)), .load false 1 (.E 10), none⟩,
    ⟨(some (.V 5)), .mv (.E 11), none⟩])
  (.seq (.reg [⟨(some (.E 12)), .mv (.V 5), none⟩,
    ⟨(some (.E 13)), .mv (.V 3), none⟩,
    ⟨(some (.E 14)), .bin .neq (.E 12) (.E 13), none⟩])
  (.cond (.E 14)
   (.seq (.reg [⟨(some (.E 15)), .mv (.V 5), none⟩,
     ⟨(some (.V 2)), .mv (.E 15), none⟩])
   (.ret))
   (.skip)))))
 (.reg [⟨(some (.E 16)), .bin .add (.V 8) (ki 1), none⟩,
   ⟨(some (.V 8)), .mv (.E 16), none⟩])))

def k_cmp_Or_int__ic : IC :=
 .seq (.reg [⟨(some (.V 2)), .mv (ki 0), none⟩])
 (.seq (.reg [⟨(some (.V 3)), .mv (ki 0), none⟩])
 (.seq (.seq (.reg [⟨(some (.V 6)), .mv (.V 0), none⟩,
   ⟨(some (.V 7)), .len (.V 6), none⟩,
   ⟨(some (.V 8)), .mv (ki 0), none⟩])
 (.block 0 (.loop k_cmp_Or_int__b0)))
 (.seq (.reg [⟨(some (.E 17)), .mv (.V 3), none⟩,
   ⟨(some (.V 2)), .mv (.E 17), none⟩])
 (.ret))))

def k_cmp_Or_int__rv : List RV := [.tmp [0] 2]

def k_cmp_Compare_uint64__vars : List Nat := [0, 1, 5, 6, 4]

def k_cmp_Compare_uint64__ic : IC :=
 .seq (.reg [⟨(some (.V 4)), .mv (ki 0), none⟩])
 (.seq (.reg [⟨(some (.E 7)), .mv (.V 0), none⟩,
   ⟨(some (.E 8)), .call k_cmp_isNaN_uint64_ [([0], (.E 7))], none⟩,
   ⟨(some (.V 5)), .mv (.E 8), none⟩])
 (.seq (.reg [⟨(some (.E 9)), .mv (.V 1), none⟩,
   ⟨(some (.E 10)), .call k_cmp_isNaN_uint64_ [([0], (.E 9))], none⟩,
   ⟨(some (.V 6)), .mv (.E 10), none⟩])
 (.seq (.seq (.reg [⟨(some (.E 11)), .mv (.V 5), none⟩])
 (.cond (.E 11)
  (.seq (.seq (.reg [⟨(some (.E 12)), .mv (.V 6), none⟩])
  (.cond (.E 12)
   (.seq (.reg [⟨(some (.V 4)), .mv (ki 0), none⟩])
   (.ret))
   (.skip)))
  (.seq (.reg [⟨(some (.V 4)), .mv (ki (-1)), none⟩])
  (.ret)))
  (.skip)))
 (.seq (.seq (.reg [⟨(some (.E 13)), .mv (.V 6), none⟩])
 (.cond (.E 13)
  (.seq (.reg [⟨(some (.V 4)), .mv (ki 1), none⟩])
  (.ret))
  (.skip)))
 (.seq (.seq (.reg [⟨(some (.E 14)), .mv (.V 0), none⟩,
   ⟨(some (.E 15)), .mv (.V 1), none⟩,
   ⟨(some (.E 16)), .bin .lss (.E 14) (.E 15), none⟩])
 (.cond (.E 16)
  (.seq (.reg [⟨(some (.V 4)), .mv (ki (-1)), none⟩])
  (.ret))
  (.skip)))
 (.seq (.seq (.reg [⟨(some (.E 17)), .mv (.V 0), none⟩,
   ⟨(some (.E 18)), .mv (.V 1), none⟩,
   ⟨(some (.E 19)), .bin .gtr (.E 17) (.E 18), none⟩])
 (.cond (.E 19)
  (.seq (.reg [⟨(some (.V 4)), .mv (ki 1), none⟩])
  (.ret))
  (.skip)))
 (.seq (.reg [⟨(some (.V 4)), .mv (ki 0), none⟩])
 (.ret))))))))

def k_cmp_Compare_uint64__rv : List RV := [.tmp [0] 4]

def k_cmp_isNaN_uint64__vars : List Nat := [0, 2]

def k_cmp_isNaN_uint64__ic : IC :=
 .seq (.reg [⟨(some (.V 2)), .mv (kb false), none⟩])
 (.seq (.reg [⟨(some (.E 3)), .mv (.V 0), none⟩,
   ⟨(some (.E 4)), .mv (.V 0), none⟩,
   ⟨(some (.E 5)), .bin .neq (.E 3) (.E 4), none⟩,
   ⟨(some (.V 2)), .mv (.E 5), none⟩])
 (.ret))

def k_cmp_isNaN_uint64__rv : List RV := [.tmp [0] 2]

def tbl : List (Nat × Fun) := [
  (k_laws_FnLoss, fnOf k_laws_FnLoss_ic k_laws_FnLoss_rv []),
  (k_laws_big, fnOf k_laws_big_ic k_laws_big_rv []),
  (k_spec_LossOf, fnOf k_spec_LossOf_ic k_spec_LossOf_rv []),
  (k_impl_LossOf, fnOf k_impl_LossOf_ic k_impl_LossOf_rv []),
  (k_impl_LossRoom, fnOf k_impl_LossRoom_ic k_impl_LossRoom_rv []),
  (k_spec_DrawLossOf, fnOf k_spec_DrawLossOf_ic k_spec_DrawLossOf_rv []),
  (k_impl_MostOf, fnOf k_impl_MostOf_ic k_impl_MostOf_rv []),
  (k_spec_MostOf, fnOf k_spec_MostOf_ic k_spec_MostOf_rv []),
  (k_spec_CompareWide, fnOf k_spec_CompareWide_ic k_spec_CompareWide_rv []),
  (k_spec_l10List, fnOf k_spec_l10List_ic k_spec_l10List_rv [true]),
  (k_spec_l1New, fnOf k_spec_l1New_ic k_spec_l1New_rv []),
  (k_spec_l1PickInt, fnOf k_spec_l1PickInt_ic k_spec_l1PickInt_rv [true, true]),
  (k_spec_l1Whole, fnOf k_spec_l1Whole_ic k_spec_l1Whole_rv [true]),
  (k_spec_l1Once, fnOf k_spec_l1Once_ic k_spec_l1Once_rv [true]),
  (k_spec_AddWide, fnOf k_spec_AddWide_ic k_spec_AddWide_rv []),
  (k_spec_MulWide, fnOf k_spec_MulWide_ic k_spec_MulWide_rv []),
  (k_impl_AddWide, fnOf k_impl_AddWide_ic k_impl_AddWide_rv []),
  (k_impl_MulWide, fnOf k_impl_MulWide_ic k_impl_MulWide_rv []),
  (k_impl_WideOf, fnOf k_impl_WideOf_ic k_impl_WideOf_rv []),
  (k_impl_ScaleWide, fnOf k_impl_ScaleWide_ic k_impl_ScaleWide_rv []),
  (k_impl_size, fnOf k_impl_size_ic k_impl_size_rv []),
  (k_spec_l1Max, fnOf k_spec_l1Max_ic k_spec_l1Max_rv []),
  (k_spec_l3Zero, fnOf k_spec_l3Zero_ic k_spec_l3Zero_rv []),
  (k_spec_l3Order, fnOf k_spec_l3Order_ic k_spec_l3Order_rv []),
  (k_spec_l1Below, fnOf k_spec_l1Below_ic k_spec_l1Below_rv [true]),
  (k_spec_l1Byte, fnOf k_spec_l1Byte_ic k_spec_l1Byte_rv [true]),
  (k_spec_WideOk, fnOf k_spec_WideOk_ic k_spec_WideOk_rv []),
  (k_spec_l3Product, fnOf k_spec_l3Product_ic k_spec_l3Product_rv []),
  (k_spec_l3Abs, fnOf k_spec_l3Abs_ic k_spec_l3Abs_rv []),
  (k_impl_WideOk, fnOf k_impl_WideOk_ic k_impl_WideOk_rv []),
  (k_impl_compareSizes, fnOf k_impl_compareSizes_ic k_impl_compareSizes_rv []),
  (k_math_bits_Sub64, .ext sub64G),
  (k_impl_wideOf, fnOf k_impl_wideOf_ic k_impl_wideOf_rv []),
  (k_math_bits_Add64, .ext add64G),
  (k_math_bits_Mul64, fnOf k_math_bits_Mul64_ic k_math_bits_Mul64_rv []),
  (k_cmp_Or_int_, fnOf k_cmp_Or_int__ic k_cmp_Or_int__rv []),
  (k_cmp_Compare_uint64_, fnOf k_cmp_Compare_uint64__ic k_cmp_Compare_uint64__rv []),
  (k_cmp_isNaN_uint64_, fnOf k_cmp_isNaN_uint64__ic k_cmp_isNaN_uint64__rv [])]

def T : Table := fun f => (tbl.find? fun q => q.1 == f).map fun q => q.2

theorem T_laws_FnLoss : T k_laws_FnLoss = some (fnOf k_laws_FnLoss_ic k_laws_FnLoss_rv []) := rfl

@[simp] theorem M_laws_FnLoss : modesOf T k_laws_FnLoss = [] := modesOf_code T_laws_FnLoss

theorem T_laws_big : T k_laws_big = some (fnOf k_laws_big_ic k_laws_big_rv []) := rfl

@[simp] theorem M_laws_big : modesOf T k_laws_big = [] := modesOf_code T_laws_big

theorem T_spec_LossOf : T k_spec_LossOf = some (fnOf k_spec_LossOf_ic k_spec_LossOf_rv []) := rfl

@[simp] theorem M_spec_LossOf : modesOf T k_spec_LossOf = [] := modesOf_code T_spec_LossOf

theorem T_impl_LossOf : T k_impl_LossOf = some (fnOf k_impl_LossOf_ic k_impl_LossOf_rv []) := rfl

@[simp] theorem M_impl_LossOf : modesOf T k_impl_LossOf = [] := modesOf_code T_impl_LossOf

theorem T_impl_LossRoom : T k_impl_LossRoom = some (fnOf k_impl_LossRoom_ic k_impl_LossRoom_rv []) := rfl

@[simp] theorem M_impl_LossRoom : modesOf T k_impl_LossRoom = [] := modesOf_code T_impl_LossRoom

theorem T_spec_DrawLossOf : T k_spec_DrawLossOf = some (fnOf k_spec_DrawLossOf_ic k_spec_DrawLossOf_rv []) := rfl

@[simp] theorem M_spec_DrawLossOf : modesOf T k_spec_DrawLossOf = [] := modesOf_code T_spec_DrawLossOf

theorem T_impl_MostOf : T k_impl_MostOf = some (fnOf k_impl_MostOf_ic k_impl_MostOf_rv []) := rfl

@[simp] theorem M_impl_MostOf : modesOf T k_impl_MostOf = [] := modesOf_code T_impl_MostOf

theorem T_spec_MostOf : T k_spec_MostOf = some (fnOf k_spec_MostOf_ic k_spec_MostOf_rv []) := rfl

@[simp] theorem M_spec_MostOf : modesOf T k_spec_MostOf = [] := modesOf_code T_spec_MostOf

theorem T_spec_CompareWide : T k_spec_CompareWide = some (fnOf k_spec_CompareWide_ic k_spec_CompareWide_rv []) := rfl

@[simp] theorem M_spec_CompareWide : modesOf T k_spec_CompareWide = [] := modesOf_code T_spec_CompareWide

theorem T_spec_l10List : T k_spec_l10List = some (fnOf k_spec_l10List_ic k_spec_l10List_rv [true]) := rfl

@[simp] theorem M_spec_l10List : modesOf T k_spec_l10List = [true] := modesOf_code T_spec_l10List

theorem T_spec_l1New : T k_spec_l1New = some (fnOf k_spec_l1New_ic k_spec_l1New_rv []) := rfl

@[simp] theorem M_spec_l1New : modesOf T k_spec_l1New = [] := modesOf_code T_spec_l1New

theorem T_spec_l1PickInt : T k_spec_l1PickInt = some (fnOf k_spec_l1PickInt_ic k_spec_l1PickInt_rv [true, true]) := rfl

@[simp] theorem M_spec_l1PickInt : modesOf T k_spec_l1PickInt = [true, true] := modesOf_code T_spec_l1PickInt

theorem T_spec_l1Whole : T k_spec_l1Whole = some (fnOf k_spec_l1Whole_ic k_spec_l1Whole_rv [true]) := rfl

@[simp] theorem M_spec_l1Whole : modesOf T k_spec_l1Whole = [true] := modesOf_code T_spec_l1Whole

theorem T_spec_l1Once : T k_spec_l1Once = some (fnOf k_spec_l1Once_ic k_spec_l1Once_rv [true]) := rfl

@[simp] theorem M_spec_l1Once : modesOf T k_spec_l1Once = [true] := modesOf_code T_spec_l1Once

theorem T_spec_AddWide : T k_spec_AddWide = some (fnOf k_spec_AddWide_ic k_spec_AddWide_rv []) := rfl

@[simp] theorem M_spec_AddWide : modesOf T k_spec_AddWide = [] := modesOf_code T_spec_AddWide

theorem T_spec_MulWide : T k_spec_MulWide = some (fnOf k_spec_MulWide_ic k_spec_MulWide_rv []) := rfl

@[simp] theorem M_spec_MulWide : modesOf T k_spec_MulWide = [] := modesOf_code T_spec_MulWide

theorem T_impl_AddWide : T k_impl_AddWide = some (fnOf k_impl_AddWide_ic k_impl_AddWide_rv []) := rfl

@[simp] theorem M_impl_AddWide : modesOf T k_impl_AddWide = [] := modesOf_code T_impl_AddWide

theorem T_impl_MulWide : T k_impl_MulWide = some (fnOf k_impl_MulWide_ic k_impl_MulWide_rv []) := rfl

@[simp] theorem M_impl_MulWide : modesOf T k_impl_MulWide = [] := modesOf_code T_impl_MulWide

theorem T_impl_WideOf : T k_impl_WideOf = some (fnOf k_impl_WideOf_ic k_impl_WideOf_rv []) := rfl

@[simp] theorem M_impl_WideOf : modesOf T k_impl_WideOf = [] := modesOf_code T_impl_WideOf

theorem T_impl_ScaleWide : T k_impl_ScaleWide = some (fnOf k_impl_ScaleWide_ic k_impl_ScaleWide_rv []) := rfl

@[simp] theorem M_impl_ScaleWide : modesOf T k_impl_ScaleWide = [] := modesOf_code T_impl_ScaleWide

theorem T_impl_size : T k_impl_size = some (fnOf k_impl_size_ic k_impl_size_rv []) := rfl

@[simp] theorem M_impl_size : modesOf T k_impl_size = [] := modesOf_code T_impl_size

theorem T_spec_l1Max : T k_spec_l1Max = some (fnOf k_spec_l1Max_ic k_spec_l1Max_rv []) := rfl

@[simp] theorem M_spec_l1Max : modesOf T k_spec_l1Max = [] := modesOf_code T_spec_l1Max

theorem T_spec_l3Zero : T k_spec_l3Zero = some (fnOf k_spec_l3Zero_ic k_spec_l3Zero_rv []) := rfl

@[simp] theorem M_spec_l3Zero : modesOf T k_spec_l3Zero = [] := modesOf_code T_spec_l3Zero

theorem T_spec_l3Order : T k_spec_l3Order = some (fnOf k_spec_l3Order_ic k_spec_l3Order_rv []) := rfl

@[simp] theorem M_spec_l3Order : modesOf T k_spec_l3Order = [] := modesOf_code T_spec_l3Order

theorem T_spec_l1Below : T k_spec_l1Below = some (fnOf k_spec_l1Below_ic k_spec_l1Below_rv [true]) := rfl

@[simp] theorem M_spec_l1Below : modesOf T k_spec_l1Below = [true] := modesOf_code T_spec_l1Below

theorem T_spec_l1Byte : T k_spec_l1Byte = some (fnOf k_spec_l1Byte_ic k_spec_l1Byte_rv [true]) := rfl

@[simp] theorem M_spec_l1Byte : modesOf T k_spec_l1Byte = [true] := modesOf_code T_spec_l1Byte

theorem T_spec_WideOk : T k_spec_WideOk = some (fnOf k_spec_WideOk_ic k_spec_WideOk_rv []) := rfl

@[simp] theorem M_spec_WideOk : modesOf T k_spec_WideOk = [] := modesOf_code T_spec_WideOk

theorem T_spec_l3Product : T k_spec_l3Product = some (fnOf k_spec_l3Product_ic k_spec_l3Product_rv []) := rfl

@[simp] theorem M_spec_l3Product : modesOf T k_spec_l3Product = [] := modesOf_code T_spec_l3Product

theorem T_spec_l3Abs : T k_spec_l3Abs = some (fnOf k_spec_l3Abs_ic k_spec_l3Abs_rv []) := rfl

@[simp] theorem M_spec_l3Abs : modesOf T k_spec_l3Abs = [] := modesOf_code T_spec_l3Abs

theorem T_impl_WideOk : T k_impl_WideOk = some (fnOf k_impl_WideOk_ic k_impl_WideOk_rv []) := rfl

@[simp] theorem M_impl_WideOk : modesOf T k_impl_WideOk = [] := modesOf_code T_impl_WideOk

theorem T_impl_compareSizes : T k_impl_compareSizes = some (fnOf k_impl_compareSizes_ic k_impl_compareSizes_rv []) := rfl

@[simp] theorem M_impl_compareSizes : modesOf T k_impl_compareSizes = [] := modesOf_code T_impl_compareSizes

theorem T_math_bits_Sub64 : T k_math_bits_Sub64 = some (.ext sub64G) := rfl

@[simp] theorem M_math_bits_Sub64 : modesOf T k_math_bits_Sub64 = [] := rfl

theorem T_impl_wideOf : T k_impl_wideOf = some (fnOf k_impl_wideOf_ic k_impl_wideOf_rv []) := rfl

@[simp] theorem M_impl_wideOf : modesOf T k_impl_wideOf = [] := modesOf_code T_impl_wideOf

theorem T_math_bits_Add64 : T k_math_bits_Add64 = some (.ext add64G) := rfl

@[simp] theorem M_math_bits_Add64 : modesOf T k_math_bits_Add64 = [] := rfl

theorem T_math_bits_Mul64 : T k_math_bits_Mul64 = some (fnOf k_math_bits_Mul64_ic k_math_bits_Mul64_rv []) := rfl

@[simp] theorem M_math_bits_Mul64 : modesOf T k_math_bits_Mul64 = [] := modesOf_code T_math_bits_Mul64

theorem T_cmp_Or_int_ : T k_cmp_Or_int_ = some (fnOf k_cmp_Or_int__ic k_cmp_Or_int__rv []) := rfl

@[simp] theorem M_cmp_Or_int_ : modesOf T k_cmp_Or_int_ = [] := modesOf_code T_cmp_Or_int_

theorem T_cmp_Compare_uint64_ : T k_cmp_Compare_uint64_ = some (fnOf k_cmp_Compare_uint64__ic k_cmp_Compare_uint64__rv []) := rfl

@[simp] theorem M_cmp_Compare_uint64_ : modesOf T k_cmp_Compare_uint64_ = [] := modesOf_code T_cmp_Compare_uint64_

theorem T_cmp_isNaN_uint64_ : T k_cmp_isNaN_uint64_ = some (fnOf k_cmp_isNaN_uint64__ic k_cmp_isNaN_uint64__rv []) := rfl

@[simp] theorem M_cmp_isNaN_uint64_ : modesOf T k_cmp_isNaN_uint64_ = [] := modesOf_code T_cmp_isNaN_uint64_

end Go.Pe
