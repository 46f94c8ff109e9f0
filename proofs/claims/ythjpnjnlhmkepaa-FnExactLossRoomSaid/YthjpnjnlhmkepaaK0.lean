/- The compact texts of the functions that the law reaches; no condition. -/
import Derived.Test.YthjpnjnlhmkepaaEvA0
set_option linter.all false
namespace Go.Pe
open Go
def k_laws_FnExactLossRoom : Nat := 8

def k_laws_toIntS : Nat := 38

def k_laws_eqWide : Nat := 40

def k_laws_eqIntS : Nat := 41

def k_spec_LossRoom : Nat := 42

def k_impl_LossRoom : Nat := 43

def k_impl_MostOf : Nat := 45

def k_spec_MostOf : Nat := 46

def k_spec_AddWide : Nat := 96

def k_impl_AddWide : Nat := 98

def k_spec_WideOf : Nat := 100

def k_spec_ScaleWide : Nat := 101

def k_impl_WideOf : Nat := 102

def k_impl_ScaleWide : Nat := 103

def k_impl_size : Nat := 104

def k_spec_l1Max : Nat := 105

def k_spec_l3Zero : Nat := 106

def k_spec_l3Order : Nat := 107

def k_spec_WideOk : Nat := 141

def k_spec_l3Product : Nat := 142

def k_spec_l3Abs : Nat := 143

def k_impl_WideOk : Nat := 144

def k_impl_compareSizes : Nat := 145

def k_math_bits_Sub64 : Nat := 146

def k_impl_wideOf : Nat := 147

def k_math_bits_Add64 : Nat := 148

def k_math_bits_Mul64 : Nat := 149

def k_cmp_Or_int_ : Nat := 158

def k_cmp_Compare_uint64_ : Nat := 159

def k_cmp_isNaN_uint64_ : Nat := 161

def k_laws_FnExactLossRoom_vars : List Nat := [0, 5, 6, 3, 7, 4, 2]

def k_laws_FnExactLossRoom_ic : IC :=
 .seq (.reg [⟨(some (.V 2)), .mv (kb false), none⟩])
 (.seq (.seq (.reg [⟨(some (.E 8)), .mv (.V 0), none⟩,
   ⟨(some (.E 9)), .len (.E 8), none⟩,
   ⟨(some (.E 10)), .bin .gtr (.E 9) (ki 1048576), none⟩])
 (.cond (.E 10)
  (.seq (.reg [⟨(some (.V 2)), .mv (kb true), none⟩])
  (.ret))
  (.skip)))
 (.seq (.reg [⟨(some (.E 12)), .mv (.V 0), none⟩,
   ⟨(some (.E 13)), .call k_laws_toIntS [([1], (.E 12))], none⟩,
   ⟨(some (.E 14)), .call k_spec_LossRoom [([1], (.E 13))], none⟩,
   ⟨(some (.E 11)), .mv (.E 14), none⟩,
   ⟨(some (.E 15)), .ext 0 (.E 11), none⟩,
   ⟨(some (.E 16)), .ext 1 (.E 11), none⟩,
   ⟨(some (.V 3)), .alloc [(.v (.bool false)), (.v (.int .u64 0)), (.v (.int .u64 0))], none⟩,
   ⟨none, .store [0, 0, 0] (.V 3) (.E 15), none⟩,
   ⟨(some (.V 4)), .mv (.E 16), none⟩])
 (.seq (.reg [⟨(some (.E 17)), .mv (.V 0), none⟩,
   ⟨(some (.E 18)), .call k_laws_toIntS [([1], (.E 17))], none⟩,
   ⟨(some (.V 5)), .mv (.E 18), none⟩])
 (.seq (.reg [⟨(some (.E 20)), .mv (.V 5), none⟩,
   ⟨(some (.E 21)), .call k_impl_LossRoom [([1], (.E 20))], none⟩,
   ⟨(some (.E 19)), .mv (.E 21), none⟩,
   ⟨(some (.E 22)), .ext 0 (.E 19), none⟩,
   ⟨(some (.E 23)), .ext 1 (.E 19), none⟩,
   ⟨(some (.V 6)), .alloc [(.v (.bool false)), (.v (.int .u64 0)), (.v (.int .u64 0))], none⟩,
   ⟨none, .store [0, 0, 0] (.V 6) (.E 22), none⟩,
   ⟨(some (.V 7)), .mv (.E 23), none⟩])
 (.seq (.seq (.reg [⟨(some (.E 24)), .load true 3 (.V 6), none⟩,
   ⟨(some (.E 25)), .load true 3 (.V 3), none⟩,
   ⟨(some (.E 26)), .call k_laws_eqWide [([0, 0, 0], (.E 24)), ([0, 0, 0], (.E 25))], none⟩,
   ⟨(some (.E 27)), .un .not (.E 26), none⟩,
   ⟨(some (.E 28)), .mv (.E 27), none⟩,
   ⟨(some (.E 29)), .mv (.V 7), some ((.E 28), false)⟩,
   ⟨(some (.E 30)), .mv (.V 4), some ((.E 28), false)⟩,
   ⟨(some (.E 31)), .eqb true [.b] (.E 29) (.E 30), some ((.E 28), false)⟩,
   ⟨(some (.E 32)), .pick (.E 28) (kb true) (.E 31), none⟩])
 (.cond (.E 32)
  (.seq (.reg [⟨(some (.V 2)), .mv (kb false), none⟩])
  (.ret))
  (.skip)))
 (.seq (.seq (.reg [⟨(some (.E 33)), .mv (.V 5), none⟩,
   ⟨(some (.E 34)), .mv (.V 0), none⟩,
   ⟨(some (.E 35)), .call k_laws_toIntS [([1], (.E 34))], none⟩,
   ⟨(some (.E 36)), .call k_laws_eqIntS [([1], (.E 33)), ([1], (.E 35))], none⟩,
   ⟨(some (.E 37)), .un .not (.E 36), none⟩])
 (.cond (.E 37)
  (.seq (.reg [⟨(some (.V 2)), .mv (kb false), none⟩])
  (.ret))
  (.skip)))
 (.seq (.reg [⟨(some (.V 2)), .mv (kb true), none⟩])
 (.ret))))))))

def k_laws_FnExactLossRoom_rv : List RV := [.tmp [0] 2]

def k_laws_toIntS_vars : List Nat := [0, 4, 3, 2]

def k_laws_toIntS_b0 : IC :=
 .seq (.seq (.reg [⟨(some (.E 8)), .mv (.V 4), none⟩,
   ⟨(some (.E 9)), .mv (.V 0), none⟩,
   ⟨(some (.E 10)), .len (.E 9), none⟩,
   ⟨(some (.E 11)), .bin .lss (.E 8) (.E 10), none⟩])
 (.cond (.E 11)
  (.skip)
  (.exit 0)))
 (.seq (.block 1 (.reg [⟨(some (.E 14)), .mv (.V 3), none⟩,
    ⟨(some (.E 15)), .mv (.V 4), none⟩,
    ⟨(some (.E 16)), .mv (.V 0), none⟩,
    ⟨(some (.E 17)), .mv (.V 4), none⟩,
    ⟨(some (.E 18)), .iaddr 1 (.E 16) (.E 17), none⟩,
    ⟨(some (.E 19)), .load false 1 (.E 18), none⟩,
    ⟨(some (.E 20)), .iaddr 1 (.E 14) (.E 15), none⟩,
    ⟨none, .store [0] (.E 20) (.E 19), none⟩]))
 (.reg [⟨(some (.E 12)), .mv (.V 4), none⟩,
   ⟨(some (.E 13)), .bin .add (.E 12) (ki 1), none⟩,
   ⟨(some (.V 4)), .mv (.E 13), none⟩]))

def k_laws_toIntS_ic : IC :=
 .seq (.reg [⟨(some (.V 2)), .mv (.C .e0), none⟩])
 (.seq (.reg [⟨(some (.E 5)), .mv (.V 0), none⟩,
   ⟨(some (.E 6)), .len (.E 5), none⟩,
   ⟨(some (.E 7)), .mksl 8 1 [(.v (.int .i64 0))] (.E 6) (.E 6), none⟩,
   ⟨(some (.V 3)), .mv (.E 7), none⟩])
 (.seq (.seq (.reg [⟨(some (.V 4)), .mv (ki 0), none⟩])
 (.block 0 (.loop k_laws_toIntS_b0)))
 (.seq (.reg [⟨(some (.E 21)), .mv (.V 3), none⟩,
   ⟨(some (.V 2)), .mv (.E 21), none⟩])
 (.ret))))

def k_laws_toIntS_rv : List RV := [.tmp [1] 2]

def k_laws_eqWide_vars : List Nat := [0, 1, 2, 3, 4]

def k_laws_eqWide_ic : IC :=
 .seq (.reg [⟨(some (.V 2)), .box (.V 0), none⟩,
   ⟨(some (.V 3)), .box (.V 1), none⟩,
   ⟨(some (.V 4)), .mv (kb false), none⟩])
 (.seq (.seq (.reg [⟨(some (.E 5)), .faddr 0 (.V 2), none⟩,
   ⟨(some (.E 6)), .load false 1 (.E 5), none⟩,
   ⟨(some (.E 7)), .faddr 0 (.V 3), none⟩,
   ⟨(some (.E 8)), .load false 1 (.E 7), none⟩,
   ⟨(some (.E 9)), .eqb true [.b] (.E 6) (.E 8), none⟩])
 (.cond (.E 9)
  (.seq (.reg [⟨(some (.V 4)), .mv (kb false), none⟩])
  (.ret))
  (.skip)))
 (.seq (.seq (.reg [⟨(some (.E 10)), .faddr 1 (.V 2), none⟩,
   ⟨(some (.E 11)), .load false 1 (.E 10), none⟩,
   ⟨(some (.E 12)), .faddr 1 (.V 3), none⟩,
   ⟨(some (.E 13)), .load false 1 (.E 12), none⟩,
   ⟨(some (.E 14)), .bin .neq (.E 11) (.E 13), none⟩])
 (.cond (.E 14)
  (.seq (.reg [⟨(some (.V 4)), .mv (kb false), none⟩])
  (.ret))
  (.skip)))
 (.seq (.seq (.reg [⟨(some (.E 15)), .faddr 2 (.V 2), none⟩,
   ⟨(some (.E 16)), .load false 1 (.E 15), none⟩,
   ⟨(some (.E 17)), .faddr 2 (.V 3), none⟩,
   ⟨(some (.E 18)), .load false 1 (.E 17), none⟩,
   ⟨(some (.E 19)), .bin .neq (.E 16) (.E 18), none⟩])
 (.cond (.E 19)
  (.seq (.reg [⟨(some (.V 4)), .mv (kb false), none⟩])
  (.ret))
  (.skip)))
 (.seq (.reg [⟨(some (.V 4)), .mv (kb true), none⟩])
 (.ret)))))

def k_laws_eqWide_rv : List RV := [.tmp [0] 4]

def k_laws_eqIntS_vars : List Nat := [0, 1, 5, 4]

def k_laws_eqIntS_b0 : IC :=
 .seq (.seq (.reg [⟨(some (.E 11)), .mv (.V 5), none⟩,
   ⟨(some (.E 12)), .mv (.V 0), none⟩,
   ⟨(some (.E 13)), .len (.E 12), none⟩,
   ⟨(some (.E 14)), .bin .lss (.E 11) (.E 13), none⟩])
 (.cond (.E 14)
  (.skip)
  (.exit 0)))
 (.seq (.block 1 (.seq (.regD [(⟨(some (.E 17)), .mv (.V 0), none⟩, 0, 0),
    (⟨(some (.E 18)), .mv (.V 5), none⟩, 0, 0),
    (⟨(some (.E 19)), .iaddr 1 (.E 17) (.E 18), none⟩, 0, 0),
    (⟨(some (.E 20)), .load false 1 (.E 19), none⟩, 0, 0),
    (⟨(some (.E 21)), .mv (.V 1), none⟩, 0, 0),
    (⟨(some (.E 22)), .mv (.V 5), none⟩, 0, 0),
    (⟨(some (.E 23)), .iaddr 1 (.E 21) (.E 22), none⟩, 0, 0),
    (⟨(some (.E 24)), .load false 1 (.E 23), none⟩, 0, 0),
    (⟨(some (.E 25)), .bin .neq (.E 20) (.E 24), none⟩, 0, 0)])
  (.cond (.E 25)
   (.seq (.reg [⟨(some (.V 4)), .mv (kb false), none⟩])
   (.ret))
   (.skip))))
 (.reg [⟨(some (.E 15)), .mv (.V 5), none⟩,
   ⟨(some (.E 16)), .bin .add (.E 15) (ki 1), none⟩,
   ⟨(some (.V 5)), .mv (.E 16), none⟩]))

def k_laws_eqIntS_ic : IC :=
 .seq (.reg [⟨(some (.V 4)), .mv (kb false), none⟩])
 (.seq (.seq (.reg [⟨(some (.E 6)), .mv (.V 0), none⟩,
   ⟨(some (.E 7)), .len (.E 6), none⟩,
   ⟨(some (.E 8)), .mv (.V 1), none⟩,
   ⟨(some (.E 9)), .len (.E 8), none⟩,
   ⟨(some (.E 10)), .bin .neq (.E 7) (.E 9), none⟩])
 (.cond (.E 10)
  (.seq (.reg [⟨(some (.V 4)), .mv (kb false), none⟩])
  (.ret))
  (.skip)))
 (.seq (.seq (.reg [⟨(some (.V 5)), .mv (ki 0), none⟩])
 (.block 0 (.loop k_laws_eqIntS_b0)))
 (.seq (.reg [⟨(some (.V 4)), .mv (kb true), none⟩])
 (.ret))))

def k_laws_eqIntS_rv : List RV := [.tmp [0] 4]

def k_spec_LossRoom_vars : List Nat := [0, 5, 2, 4, 3]

def k_spec_LossRoom_ic : IC :=
 .seq (.reg [⟨(some (.V 2)), .alloc [(.v (.bool false)), (.v (.int .u64 0)), (.v (.int .u64 0))], none⟩,
   ⟨(some (.V 3)), .mv (kb false), none⟩])
 (.seq (.reg [⟨(some (.E 7)), .mv (.V 0), none⟩,
   ⟨(some (.E 8)), .call k_spec_MostOf [([1], (.E 7))], none⟩,
   ⟨(some (.E 9)), .call k_spec_WideOf [([0], (.E 8))], none⟩,
   ⟨(some (.E 10)), .call k_spec_WideOf [([0], (ki 1))], none⟩,
   ⟨(some (.E 11)), .call k_spec_AddWide [([0, 0, 0], (.E 9)), ([0, 0, 0], (.E 10))], none⟩,
   ⟨(some (.E 6)), .mv (.E 11), none⟩,
   ⟨(some (.E 12)), .ext 0 (.E 6), none⟩,
   ⟨(some (.E 13)), .ext 1 (.E 6), none⟩,
   ⟨(some (.V 4)), .alloc [(.v (.bool false)), (.v (.int .u64 0)), (.v (.int .u64 0))], none⟩,
   ⟨none, .store [0, 0, 0] (.V 4) (.E 12), none⟩,
   ⟨(some (.V 5)), .mv (.E 13), none⟩])
 (.seq (.seq (.reg [⟨(some (.E 14)), .mv (.V 5), none⟩,
   ⟨(some (.E 15)), .un .not (.E 14), none⟩])
 (.cond (.E 15)
  (.seq (.reg [⟨(some (.E 16)), .build [(.v (.bool false)), (.v (.int .u64 0)), (.v (.int .u64 0))] [], none⟩,
    ⟨none, .store [0, 0, 0] (.V 2) (.E 16), none⟩,
    ⟨(some (.V 3)), .mv (kb false), none⟩])
  (.ret))
  (.skip)))
 (.seq (.reg [⟨(some (.E 17)), .load true 3 (.V 4), none⟩,
   ⟨(some (.E 18)), .mv (.V 0), none⟩,
   ⟨(some (.E 19)), .len (.E 18), none⟩,
   ⟨(some (.E 20)), .bin .mul (ki 4) (.E 19), none⟩,
   ⟨(some (.E 21)), .call k_spec_ScaleWide [([0, 0, 0], (.E 17)), ([0], (.E 20))], none⟩,
   ⟨(some (.E 22)), .ext 0 (.E 21), none⟩,
   ⟨(some (.E 23)), .ext 1 (.E 21), none⟩,
   ⟨none, .store [0, 0, 0] (.V 2) (.E 22), none⟩,
   ⟨(some (.V 3)), .mv (.E 23), none⟩])
 (.ret))))

def k_spec_LossRoom_rv : List RV := [.cell [0, 0, 0] 2 true, .tmp [0] 3]

def k_impl_LossRoom_vars : List Nat := [0, 4, 2, 3]

def k_impl_LossRoom_ic : IC :=
 .seq (.reg [⟨(some (.V 2)), .alloc [(.v (.bool false)), (.v (.int .u64 0)), (.v (.int .u64 0))], none⟩,
   ⟨(some (.V 3)), .mv (kb false), none⟩])
 (.seq (.reg [⟨(some (.E 7)), .mv (.V 0), none⟩,
   ⟨(some (.E 8)), .call k_impl_MostOf [([1], (.E 7))], none⟩,
   ⟨(some (.E 9)), .call k_impl_WideOf [([0], (.E 8))], none⟩,
   ⟨(some (.E 10)), .call k_impl_WideOf [([0], (ki 1))], none⟩,
   ⟨(some (.E 11)), .call k_impl_AddWide [([0, 0, 0], (.E 9)), ([0, 0, 0], (.E 10))], none⟩,
   ⟨(some (.E 6)), .mv (.E 11), none⟩,
   ⟨(some (.E 12)), .ext 0 (.E 6), none⟩,
   ⟨(some (.E 13)), .ext 1 (.E 6), none⟩,
   ⟨(some (.V 4)), .alloc [(.v (.bool false)), (.v (.int .u64 0)), (.v (.int .u64 0))], none⟩,
   ⟨none, .store [0, 0, 0] (.V 4) (.E 12), none⟩,
   ⟨(some (.E 5)), .mv (.E 13), none⟩])
 (.seq (.reg [⟨(some (.E 14)), .load true 3 (.V 4), none⟩,
   ⟨(some (.E 15)), .mv (.V 0), none⟩,
   ⟨(some (.E 16)), .len (.E 15), none⟩,
   ⟨(some (.E 17)), .bin .mul (ki 4) (.E 16), none⟩,
   ⟨(some (.E 18)), .call k_impl_ScaleWide [([0, 0, 0], (.E 14)), ([0], (.E 17))], none⟩,
   ⟨(some (.E 19)), .ext 0 (.E 18), none⟩,
   ⟨(some (.E 20)), .ext 1 (.E 18), none⟩,
   ⟨none, .store [0, 0, 0] (.V 2) (.E 19), none⟩,
   ⟨(some (.V 3)), .mv (.E 20), none⟩])
 (.ret)))

def k_impl_LossRoom_rv : List RV := [.cell [0, 0, 0] 2 true, .tmp [0] 3]

def k_impl_MostOf_vars : List Nat := [0, 8, 7, 6, 3, 5, 2]

def k_impl_MostOf_b0 : IC :=
 .seq (.reg [⟨(some (.E 9)), .bin .lss (.V 8) (.V 7), none⟩])
 (.seq (.cond (.E 9)
  (.skip)
  (.exit 0))
 (.seq (.block 1 (.seq (.reg [⟨(some (.E 10)), .iaddr 1 (.V 6) (.V 8), none⟩,
    ⟨(some (.E 11)), .load false 1 (.E 10), none⟩,
    ⟨(some (.V 5)), .mv (.E 11), none⟩])
  (.reg [⟨(some (.E 12)), .mv (.V 3), none⟩,
    ⟨(some (.E 13)), .mv (.V 5), none⟩,
    ⟨(some (.E 14)), .call k_impl_size [([0], (.E 13))], none⟩,
    ⟨(some (.E 15)), .mx true (.E 12) (.E 14), none⟩,
    ⟨(some (.V 3)), .mv (.E 15), none⟩])))
 (.reg [⟨(some (.E 16)), .bin .add (.V 8) (ki 1), none⟩,
   ⟨(some (.V 8)), .mv (.E 16), none⟩])))

def k_impl_MostOf_ic : IC :=
 .seq (.reg [⟨(some (.V 2)), .mv (ki 0), none⟩])
 (.seq (.reg [⟨(some (.V 3)), .mv (.C (.v (.int .u64 0))), none⟩])
 (.seq (.seq (.reg [⟨(some (.V 6)), .mv (.V 0), none⟩,
   ⟨(some (.V 7)), .len (.V 6), none⟩,
   ⟨(some (.V 8)), .mv (ki 0), none⟩])
 (.block 0 (.loop k_impl_MostOf_b0)))
 (.seq (.reg [⟨(some (.E 17)), .mv (.V 3), none⟩,
   ⟨(some (.E 18)), .mx false (.E 17) (.C (.v (.int .u64 9223372036854775807))), none⟩,
   ⟨(some (.E 19)), .convI .i64 (.E 18), none⟩,
   ⟨(some (.V 2)), .mv (.E 19), none⟩])
 (.ret))))

def k_impl_MostOf_rv : List RV := [.tmp [0] 2]

def k_spec_MostOf_vars : List Nat := [0, 4, 5, 3, 2]

def k_spec_MostOf_b0 : IC :=
 .seq (.seq (.reg [⟨(some (.E 6)), .mv (.V 4), none⟩,
   ⟨(some (.E 7)), .mv (.V 0), none⟩,
   ⟨(some (.E 8)), .len (.E 7), none⟩,
   ⟨(some (.E 9)), .bin .lss (.E 6) (.E 8), none⟩])
 (.cond (.E 9)
  (.skip)
  (.exit 0)))
 (.seq (.block 1 (.seq (.reg [⟨(some (.E 12)), .mv (.V 0), none⟩,
    ⟨(some (.E 13)), .mv (.V 4), none⟩,
    ⟨(some (.E 14)), .iaddr 1 (.E 12) (.E 13), none⟩,
    ⟨(some (.E 15)), .load false 1 (.E 14), none⟩,
    ⟨(some (.V 5)), .mv (.E 15), none⟩])
  (.seq (.seq (.reg [⟨(some (.E 16)), .mv (.V 5), none⟩,
    ⟨(some (.E 17)), .bin .eql (.E 16) (ki (-9223372036854775808)), none⟩])
  (.cond (.E 17)
   (.seq (.reg [⟨(some (.V 2)), .mv (ki 9223372036854775807), none⟩])
   (.ret))
   (.skip)))
  (.seq (.seq (.reg [⟨(some (.E 18)), .mv (.V 5), none⟩,
    ⟨(some (.E 19)), .bin .lss (.E 18) (ki 0), none⟩])
  (.cond (.E 19)
   (.reg [⟨(some (.E 20)), .mv (.V 5), none⟩,
     ⟨(some (.E 21)), .un .neg (.E 20), none⟩,
     ⟨(some (.V 5)), .mv (.E 21), none⟩])
   (.skip)))
  (.reg [⟨(some (.E 22)), .mv (.V 3), none⟩,
    ⟨(some (.E 23)), .mv (.V 5), none⟩,
    ⟨(some (.E 24)), .call k_spec_l1Max [([0], (.E 22)), ([0], (.E 23))], none⟩,
    ⟨(some (.V 3)), .mv (.E 24), none⟩])))))
 (.reg [⟨(some (.E 10)), .mv (.V 4), none⟩,
   ⟨(some (.E 11)), .bin .add (.E 10) (ki 1), none⟩,
   ⟨(some (.V 4)), .mv (.E 11), none⟩]))

def k_spec_MostOf_ic : IC :=
 .seq (.reg [⟨(some (.V 2)), .mv (ki 0), none⟩])
 (.seq (.reg [⟨(some (.V 3)), .mv (ki 0), none⟩])
 (.seq (.seq (.reg [⟨(some (.V 4)), .mv (ki 0), none⟩])
 (.block 0 (.loop k_spec_MostOf_b0)))
 (.seq (.reg [⟨(some (.E 25)), .mv (.V 3), none⟩,
   ⟨(some (.V 2)), .mv (.E 25), none⟩])
 (.ret))))

def k_spec_MostOf_rv : List RV := [.tmp [0] 2]

def k_spec_AddWide_vars : List Nat := [0, 1, 2, 3, 4, 6, 7, 8, 9, 5]

def k_spec_AddWide_ic : IC :=
 .seq (.reg [⟨(some (.V 2)), .box (.V 0), none⟩,
   ⟨(some (.V 3)), .box (.V 1), none⟩,
   ⟨(some (.V 4)), .alloc [(.v (.bool false)), (.v (.int .u64 0)), (.v (.int .u64 0))], none⟩,
   ⟨(some (.V 5)), .mv (kb false), none⟩])
 (.seq (.seq (.reg [⟨(some (.E 10)), .load true 3 (.V 2), none⟩,
   ⟨(some (.E 11)), .call k_spec_WideOk [([0, 0, 0], (.E 10))], none⟩,
   ⟨(some (.E 12)), .un .not (.E 11), none⟩,
   ⟨(some (.E 13)), .mv (.E 12), none⟩,
   ⟨(some (.E 14)), .load true 3 (.V 3), some ((.E 13), false)⟩,
   ⟨(some (.E 15)), .call k_spec_WideOk [([0, 0, 0], (.E 14))], some ((.E 13), false)⟩,
   ⟨(some (.E 16)), .un .not (.E 15), some ((.E 13), false)⟩,
   ⟨(some (.E 17)), .pick (.E 13) (kb true) (.E 16), none⟩])
 (.cond (.E 17)
  (.seq (.reg [⟨(some (.E 18)), .build [(.v (.bool false)), (.v (.int .u64 0)), (.v (.int .u64 0))] [], none⟩,
    ⟨none, .store [0, 0, 0] (.V 4) (.E 18), none⟩,
    ⟨(some (.V 5)), .mv (kb false), none⟩])
  (.ret))
  (.skip)))
 (.seq (.seq (.reg [⟨(some (.E 19)), .faddr 0 (.V 2), none⟩,
   ⟨(some (.E 20)), .load false 1 (.E 19), none⟩,
   ⟨(some (.E 21)), .faddr 0 (.V 3), none⟩,
   ⟨(some (.E 22)), .load false 1 (.E 21), none⟩,
   ⟨(some (.E 23)), .eqb false [.b] (.E 20) (.E 22), none⟩])
 (.cond (.E 23)
  (.seq (.reg [⟨(some (.E 24)), .faddr 0 (.V 2), none⟩,
    ⟨(some (.E 25)), .load false 1 (.E 24), none⟩,
    ⟨(some (.E 26)), .faddr 1 (.V 2), none⟩,
    ⟨(some (.E 27)), .load false 1 (.E 26), none⟩,
    ⟨(some (.E 28)), .faddr 1 (.V 3), none⟩,
    ⟨(some (.E 29)), .load false 1 (.E 28), none⟩,
    ⟨(some (.E 30)), .bin .add (.E 27) (.E 29), none⟩,
    ⟨(some (.E 31)), .faddr 2 (.V 2), none⟩,
    ⟨(some (.E 32)), .load false 1 (.E 31), none⟩,
    ⟨(some (.E 33)), .faddr 2 (.V 3), none⟩,
    ⟨(some (.E 34)), .load false 1 (.E 33), none⟩,
    ⟨(some (.E 35)), .bin .add (.E 32) (.E 34), none⟩,
    ⟨(some (.E 36)), .build [(.v (.bool false)), (.v (.int .u64 0)), (.v (.int .u64 0))] [(0, 1, (.E 25)), (1, 1, (.E 30)), (2, 1, (.E 35))], none⟩,
    ⟨(some (.V 6)), .alloc [(.v (.bool false)), (.v (.int .u64 0)), (.v (.int .u64 0))], none⟩,
    ⟨none, .store [0, 0, 0] (.V 6) (.E 36), none⟩])
  (.seq (.seq (.reg [⟨(some (.E 37)), .faddr 2 (.V 6), none⟩,
    ⟨(some (.E 38)), .load false 1 (.E 37), none⟩,
    ⟨(some (.E 39)), .faddr 2 (.V 2), none⟩,
    ⟨(some (.E 40)), .load false 1 (.E 39), none⟩,
    ⟨(some (.E 41)), .bin .lss (.E 38) (.E 40), none⟩])
  (.cond (.E 41)
   (.reg [⟨(some (.E 42)), .faddr 1 (.V 6), none⟩,
     ⟨(some (.E 43)), .load false 1 (.E 42), none⟩,
     ⟨(some (.E 44)), .bin .add (.E 43) (.C (.v (.int .u64 1))), none⟩,
     ⟨(some (.E 45)), .faddr 1 (.V 6), none⟩,
     ⟨none, .store [0] (.E 45) (.E 44), none⟩])
   (.skip)))
  (.seq (.seq (.reg [⟨(some (.E 46)), .load true 3 (.V 6), none⟩,
    ⟨(some (.E 47)), .call k_spec_WideOk [([0, 0, 0], (.E 46))], none⟩,
    ⟨(some (.E 48)), .un .not (.E 47), none⟩])
  (.cond (.E 48)
   (.seq (.reg [⟨(some (.E 49)), .build [(.v (.bool false)), (.v (.int .u64 0)), (.v (.int .u64 0))] [], none⟩,
     ⟨none, .store [0, 0, 0] (.V 4) (.E 49), none⟩,
     ⟨(some (.V 5)), .mv (kb false), none⟩])
   (.ret))
   (.skip)))
  (.seq (.reg [⟨(some (.E 50)), .load true 3 (.V 6), none⟩,
    ⟨none, .store [0, 0, 0] (.V 4) (.E 50), none⟩,
    ⟨(some (.V 5)), .mv (kb true), none⟩])
  (.ret)))))
  (.skip)))
 (.seq (.reg [⟨(some (.E 51)), .load true 3 (.V 2), none⟩,
   ⟨(some (.V 7)), .alloc [(.v (.bool false)), (.v (.int .u64 0)), (.v (.int .u64 0))], none⟩,
   ⟨none, .store [0, 0, 0] (.V 7) (.E 51), none⟩])
 (.seq (.reg [⟨(some (.E 52)), .load true 3 (.V 3), none⟩,
   ⟨(some (.V 8)), .alloc [(.v (.bool false)), (.v (.int .u64 0)), (.v (.int .u64 0))], none⟩,
   ⟨none, .store [0, 0, 0] (.V 8) (.E 52), none⟩])
 (.seq (.seq (.reg [⟨(some (.E 53)), .load true 3 (.V 2), none⟩,
   ⟨(some (.E 54)), .load true 3 (.V 3), none⟩,
   ⟨(some (.E 55)), .call k_spec_l3Order [([0, 0, 0], (.E 53)), ([0, 0, 0], (.E 54))], none⟩,
   ⟨(some (.E 56)), .bin .lss (.E 55) (ki 0), none⟩])
 (.cond (.E 56)
  (.seq (.reg [⟨(some (.E 57)), .load true 3 (.V 3), none⟩,
    ⟨none, .store [0, 0, 0] (.V 7) (.E 57), none⟩])
  (.reg [⟨(some (.E 58)), .load true 3 (.V 2), none⟩,
    ⟨none, .store [0, 0, 0] (.V 8) (.E 58), none⟩]))
  (.skip)))
 (.seq (.reg [⟨(some (.E 59)), .faddr 0 (.V 7), none⟩,
   ⟨(some (.E 60)), .load false 1 (.E 59), none⟩,
   ⟨(some (.E 61)), .faddr 1 (.V 7), none⟩,
   ⟨(some (.E 62)), .load false 1 (.E 61), none⟩,
   ⟨(some (.E 63)), .faddr 1 (.V 8), none⟩,
   ⟨(some (.E 64)), .load false 1 (.E 63), none⟩,
   ⟨(some (.E 65)), .bin .sub (.E 62) (.E 64), none⟩,
   ⟨(some (.E 66)), .faddr 2 (.V 7), none⟩,
   ⟨(some (.E 67)), .load false 1 (.E 66), none⟩,
   ⟨(some (.E 68)), .faddr 2 (.V 8), none⟩,
   ⟨(some (.E 69)), .load false 1 (.E 68), none⟩,
   ⟨(some (.E 70)), .bin .sub (.E 67) (.E 69), none⟩,
   ⟨(some (.E 71)), .build [(.v (.bool false)), (.v (.int .u64 0)), (.v (.int .u64 0))] [(0, 1, (.E 60)), (1, 1, (.E 65)), (2, 1, (.E 70))], none⟩,
   ⟨(some (.V 9)), .alloc [(.v (.bool false)), (.v (.int .u64 0)), (.v (.int .u64 0))], none⟩,
   ⟨none, .store [0, 0, 0] (.V 9) (.E 71), none⟩])
 (.seq (.seq (.reg [⟨(some (.E 72)), .faddr 2 (.V 7), none⟩,
   ⟨(some (.E 73)), .load false 1 (.E 72), none⟩,
   ⟨(some (.E 74)), .faddr 2 (.V 8), none⟩,
   ⟨(some (.E 75)), .load false 1 (.E 74), none⟩,
   ⟨(some (.E 76)), .bin .lss (.E 73) (.E 75), none⟩])
 (.cond (.E 76)
  (.reg [⟨(some (.E 77)), .faddr 1 (.V 9), none⟩,
    ⟨(some (.E 78)), .load false 1 (.E 77), none⟩,
    ⟨(some (.E 79)), .bin .sub (.E 78) (.C (.v (.int .u64 1))), none⟩,
    ⟨(some (.E 80)), .faddr 1 (.V 9), none⟩,
    ⟨none, .store [0] (.E 80) (.E 79), none⟩])
  (.skip)))
 (.seq (.seq (.reg [⟨(some (.E 81)), .load true 3 (.V 9), none⟩,
   ⟨(some (.E 82)), .call k_spec_l3Zero [([0, 0, 0], (.E 81))], none⟩])
 (.cond (.E 82)
  (.reg [⟨(some (.E 83)), .faddr 0 (.V 9), none⟩,
    ⟨none, .store [0] (.E 83) (kb false), none⟩])
  (.skip)))
 (.seq (.reg [⟨(some (.E 84)), .load true 3 (.V 9), none⟩,
   ⟨none, .store [0, 0, 0] (.V 4) (.E 84), none⟩,
   ⟨(some (.V 5)), .mv (kb true), none⟩])
 (.ret))))))))))

def k_spec_AddWide_rv : List RV := [.cell [0, 0, 0] 4 true, .tmp [0] 5]

def k_impl_AddWide_vars : List Nat := [0, 1, 2, 3, 4, 7, 8, 6, 11, 12, 10, 14, 5]

def k_impl_AddWide_ic : IC :=
 .seq (.reg [⟨(some (.V 2)), .box (.V 0), none⟩,
   ⟨(some (.V 3)), .box (.V 1), none⟩,
   ⟨(some (.V 4)), .alloc [(.v (.bool false)), (.v (.int .u64 0)), (.v (.int .u64 0))], none⟩,
   ⟨(some (.V 5)), .mv (kb false), none⟩])
 (.seq (.seq (.reg [⟨(some (.E 15)), .load true 3 (.V 2), none⟩,
   ⟨(some (.E 16)), .call k_impl_WideOk [([0, 0, 0], (.E 15))], none⟩,
   ⟨(some (.E 17)), .un .not (.E 16), none⟩,
   ⟨(some (.E 18)), .mv (.E 17), none⟩,
   ⟨(some (.E 19)), .load true 3 (.V 3), some ((.E 18), false)⟩,
   ⟨(some (.E 20)), .call k_impl_WideOk [([0, 0, 0], (.E 19))], some ((.E 18), false)⟩,
   ⟨(some (.E 21)), .un .not (.E 20), some ((.E 18), false)⟩,
   ⟨(some (.E 22)), .pick (.E 18) (kb true) (.E 21), none⟩])
 (.cond (.E 22)
  (.seq (.reg [⟨(some (.E 23)), .build [(.v (.bool false)), (.v (.int .u64 0)), (.v (.int .u64 0))] [], none⟩,
    ⟨none, .store [0, 0, 0] (.V 4) (.E 23), none⟩,
    ⟨(some (.V 5)), .mv (kb false), none⟩])
  (.ret))
  (.skip)))
 (.seq (.seq (.reg [⟨(some (.E 24)), .faddr 0 (.V 2), none⟩,
   ⟨(some (.E 25)), .load false 1 (.E 24), none⟩,
   ⟨(some (.E 26)), .faddr 0 (.V 3), none⟩,
   ⟨(some (.E 27)), .load false 1 (.E 26), none⟩,
   ⟨(some (.E 28)), .eqb true [.b] (.E 25) (.E 27), none⟩])
 (.cond (.E 28)
  (.seq (.seq (.reg [⟨(some (.E 29)), .load true 3 (.V 2), none⟩,
    ⟨(some (.E 30)), .load true 3 (.V 3), none⟩,
    ⟨(some (.E 31)), .call k_impl_compareSizes [([0, 0, 0], (.E 29)), ([0, 0, 0], (.E 30))], none⟩,
    ⟨(some (.E 32)), .bin .lss (.E 31) (ki 0), none⟩])
  (.cond (.E 32)
   (.reg [⟨(some (.E 33)), .load true 3 (.V 3), none⟩,
     ⟨(some (.E 34)), .load true 3 (.V 2), none⟩,
     ⟨none, .store [0, 0, 0] (.V 2) (.E 33), none⟩,
     ⟨none, .store [0, 0, 0] (.V 3) (.E 34), none⟩])
   (.skip)))
  (.seq (.reg [⟨(some (.E 36)), .faddr 2 (.V 2), none⟩,
    ⟨(some (.E 37)), .load false 1 (.E 36), none⟩,
    ⟨(some (.E 38)), .faddr 2 (.V 3), none⟩,
    ⟨(some (.E 39)), .load false 1 (.E 38), none⟩,
    ⟨(some (.E 40)), .call k_math_bits_Sub64 [([0], (.E 37)), ([0], (.E 39)), ([0], (.C (.v (.int .u64 0))))], none⟩,
    ⟨(some (.E 35)), .mv (.E 40), none⟩,
    ⟨(some (.E 41)), .ext 0 (.E 35), none⟩,
    ⟨(some (.E 42)), .ext 1 (.E 35), none⟩,
    ⟨(some (.V 6)), .mv (.E 41), none⟩,
    ⟨(some (.V 7)), .mv (.E 42), none⟩])
  (.seq (.reg [⟨(some (.E 44)), .faddr 1 (.V 2), none⟩,
    ⟨(some (.E 45)), .load false 1 (.E 44), none⟩,
    ⟨(some (.E 46)), .faddr 1 (.V 3), none⟩,
    ⟨(some (.E 47)), .load false 1 (.E 46), none⟩,
    ⟨(some (.E 48)), .mv (.V 7), none⟩,
    ⟨(some (.E 49)), .call k_math_bits_Sub64 [([0], (.E 45)), ([0], (.E 47)), ([0], (.E 48))], none⟩,
    ⟨(some (.E 43)), .mv (.E 49), none⟩,
    ⟨(some (.E 50)), .ext 0 (.E 43), none⟩,
    ⟨(some (.E 51)), .ext 1 (.E 43), none⟩,
    ⟨(some (.V 8)), .mv (.E 50), none⟩,
    ⟨(some (.E 9)), .mv (.E 51), none⟩])
  (.seq (.reg [⟨(some (.E 52)), .faddr 0 (.V 2), none⟩,
    ⟨(some (.E 53)), .load false 1 (.E 52), none⟩,
    ⟨(some (.E 54)), .mv (.V 8), none⟩,
    ⟨(some (.E 55)), .mv (.V 6), none⟩,
    ⟨(some (.E 56)), .call k_impl_wideOf [([0], (.E 53)), ([0], (.E 54)), ([0], (.E 55))], none⟩,
    ⟨none, .store [0, 0, 0] (.V 4) (.E 56), none⟩,
    ⟨(some (.V 5)), .mv (kb true), none⟩])
  (.ret)))))
  (.skip)))
 (.seq (.reg [⟨(some (.E 58)), .faddr 2 (.V 2), none⟩,
   ⟨(some (.E 59)), .load false 1 (.E 58), none⟩,
   ⟨(some (.E 60)), .faddr 2 (.V 3), none⟩,
   ⟨(some (.E 61)), .load false 1 (.E 60), none⟩,
   ⟨(some (.E 62)), .call k_math_bits_Add64 [([0], (.E 59)), ([0], (.E 61)), ([0], (.C (.v (.int .u64 0))))], none⟩,
   ⟨(some (.E 57)), .mv (.E 62), none⟩,
   ⟨(some (.E 63)), .ext 0 (.E 57), none⟩,
   ⟨(some (.E 64)), .ext 1 (.E 57), none⟩,
   ⟨(some (.V 10)), .mv (.E 63), none⟩,
   ⟨(some (.V 11)), .mv (.E 64), none⟩])
 (.seq (.reg [⟨(some (.E 66)), .faddr 1 (.V 2), none⟩,
   ⟨(some (.E 67)), .load false 1 (.E 66), none⟩,
   ⟨(some (.E 68)), .faddr 1 (.V 3), none⟩,
   ⟨(some (.E 69)), .load false 1 (.E 68), none⟩,
   ⟨(some (.E 70)), .mv (.V 11), none⟩,
   ⟨(some (.E 71)), .call k_math_bits_Add64 [([0], (.E 67)), ([0], (.E 69)), ([0], (.E 70))], none⟩,
   ⟨(some (.E 65)), .mv (.E 71), none⟩,
   ⟨(some (.E 72)), .ext 0 (.E 65), none⟩,
   ⟨(some (.E 73)), .ext 1 (.E 65), none⟩,
   ⟨(some (.V 12)), .mv (.E 72), none⟩,
   ⟨(some (.E 13)), .mv (.E 73), none⟩])
 (.seq (.reg [⟨(some (.E 74)), .faddr 0 (.V 2), none⟩,
   ⟨(some (.E 75)), .load false 1 (.E 74), none⟩,
   ⟨(some (.E 76)), .mv (.V 12), none⟩,
   ⟨(some (.E 77)), .mv (.V 10), none⟩,
   ⟨(some (.E 78)), .call k_impl_wideOf [([0], (.E 75)), ([0], (.E 76)), ([0], (.E 77))], none⟩,
   ⟨(some (.V 14)), .alloc [(.v (.bool false)), (.v (.int .u64 0)), (.v (.int .u64 0))], none⟩,
   ⟨none, .store [0, 0, 0] (.V 14) (.E 78), none⟩])
 (.seq (.seq (.reg [⟨(some (.E 79)), .load true 3 (.V 14), none⟩,
   ⟨(some (.E 80)), .call k_impl_WideOk [([0, 0, 0], (.E 79))], none⟩,
   ⟨(some (.E 81)), .un .not (.E 80), none⟩])
 (.cond (.E 81)
  (.seq (.reg [⟨(some (.E 82)), .build [(.v (.bool false)), (.v (.int .u64 0)), (.v (.int .u64 0))] [], none⟩,
    ⟨none, .store [0, 0, 0] (.V 4) (.E 82), none⟩,
    ⟨(some (.V 5)), .mv (kb false), none⟩])
  (.ret))
  (.skip)))
 (.seq (.reg [⟨(some (.E 83)), .load true 3 (.V 14), none⟩,
   ⟨none, .store [0, 0, 0] (.V 4) (.E 83), none⟩,
   ⟨(some (.V 5)), .mv (kb true), none⟩])
 (.ret))))))))

def k_impl_AddWide_rv : List RV := [.cell [0, 0, 0] 4 true, .tmp [0] 5]

def k_spec_WideOf_vars : List Nat := [0, 2]

def k_spec_WideOf_ic : IC :=
 .seq (.reg [⟨(some (.V 2)), .alloc [(.v (.bool false)), (.v (.int .u64 0)), (.v (.int .u64 0))], none⟩])
 (.seq (.reg [⟨(some (.E 3)), .mv (.V 0), none⟩,
   ⟨(some (.E 4)), .bin .lss (.E 3) (ki 0), none⟩,
   ⟨(some (.E 5)), .mv (.V 0), none⟩,
   ⟨(some (.E 6)), .call k_spec_l3Abs [([0], (.E 5))], none⟩,
   ⟨(some (.E 7)), .build [(.v (.bool false)), (.v (.int .u64 0)), (.v (.int .u64 0))] [(0, 1, (.E 4)), (2, 1, (.E 6))], none⟩,
   ⟨none, .store [0, 0, 0] (.V 2) (.E 7), none⟩])
 (.ret))

def k_spec_WideOf_rv : List RV := [.cell [0, 0, 0] 2 true]

def k_spec_ScaleWide_vars : List Nat := [0, 1, 2, 4, 6, 8, 9, 11, 10, 12, 7, 5]

def k_spec_ScaleWide_ic : IC :=
 .seq (.reg [⟨(some (.V 2)), .box (.V 0), none⟩,
   ⟨(some (.V 4)), .alloc [(.v (.bool false)), (.v (.int .u64 0)), (.v (.int .u64 0))], none⟩,
   ⟨(some (.V 5)), .mv (kb false), none⟩])
 (.seq (.seq (.reg [⟨(some (.E 13)), .load true 3 (.V 2), none⟩,
   ⟨(some (.E 14)), .call k_spec_WideOk [([0, 0, 0], (.E 13))], none⟩,
   ⟨(some (.E 15)), .un .not (.E 14), none⟩])
 (.cond (.E 15)
  (.seq (.reg [⟨(some (.E 16)), .build [(.v (.bool false)), (.v (.int .u64 0)), (.v (.int .u64 0))] [], none⟩,
    ⟨none, .store [0, 0, 0] (.V 4) (.E 16), none⟩,
    ⟨(some (.V 5)), .mv (kb false), none⟩])
  (.ret))
  (.skip)))
 (.seq (.reg [⟨(some (.E 17)), .mv (.V 1), none⟩,
   ⟨(some (.E 18)), .call k_spec_l3Abs [([0], (.E 17))], none⟩,
   ⟨(some (.V 6)), .mv (.E 18), none⟩])
 (.seq (.reg [⟨(some (.E 20)), .faddr 1 (.V 2), none⟩,
   ⟨(some (.E 21)), .load false 1 (.E 20), none⟩,
   ⟨(some (.E 22)), .mv (.V 6), none⟩,
   ⟨(some (.E 23)), .call k_spec_l3Product [([0], (.E 21)), ([0], (.E 22))], none⟩,
   ⟨(some (.E 19)), .mv (.E 23), none⟩,
   ⟨(some (.E 24)), .ext 0 (.E 19), none⟩,
   ⟨(some (.E 25)), .ext 1 (.E 19), none⟩,
   ⟨(some (.V 7)), .mv (.E 24), none⟩,
   ⟨(some (.V 8)), .mv (.E 25), none⟩])
 (.seq (.reg [⟨(some (.E 27)), .faddr 2 (.V 2), none⟩,
   ⟨(some (.E 28)), .load false 1 (.E 27), none⟩,
   ⟨(some (.E 29)), .mv (.V 6), none⟩,
   ⟨(some (.E 30)), .call k_spec_l3Product [([0], (.E 28)), ([0], (.E 29))], none⟩,
   ⟨(some (.E 26)), .mv (.E 30), none⟩,
   ⟨(some (.E 31)), .ext 0 (.E 26), none⟩,
   ⟨(some (.E 32)), .ext 1 (.E 26), none⟩,
   ⟨(some (.V 9)), .mv (.E 31), none⟩,
   ⟨(some (.V 10)), .mv (.E 32), none⟩])
 (.seq (.reg [⟨(some (.E 33)), .mv (.V 8), none⟩,
   ⟨(some (.E 34)), .mv (.V 9), none⟩,
   ⟨(some (.E 35)), .bin .add (.E 33) (.E 34), none⟩,
   ⟨(some (.V 11)), .mv (.E 35), none⟩])
 (.seq (.reg [⟨(some (.E 36)), .faddr 0 (.V 2), none⟩,
   ⟨(some (.E 37)), .load false 1 (.E 36), none⟩,
   ⟨(some (.E 38)), .mv (.V 1), none⟩,
   ⟨(some (.E 39)), .bin .lss (.E 38) (ki 0), none⟩,
   ⟨(some (.E 40)), .eqb true [.b] (.E 37) (.E 39), none⟩,
   ⟨(some (.E 41)), .mv (.V 11), none⟩,
   ⟨(some (.E 42)), .mv (.V 10), none⟩,
   ⟨(some (.E 43)), .build [(.v (.bool false)), (.v (.int .u64 0)), (.v (.int .u64 0))] [(0, 1, (.E 40)), (1, 1, (.E 41)), (2, 1, (.E 42))], none⟩,
   ⟨(some (.V 12)), .alloc [(.v (.bool false)), (.v (.int .u64 0)), (.v (.int .u64 0))], none⟩,
   ⟨none, .store [0, 0, 0] (.V 12) (.E 43), none⟩])
 (.seq (.seq (.reg [⟨(some (.E 44)), .load true 3 (.V 12), none⟩,
   ⟨(some (.E 45)), .call k_spec_l3Zero [([0, 0, 0], (.E 44))], none⟩])
 (.cond (.E 45)
  (.reg [⟨(some (.E 46)), .faddr 0 (.V 12), none⟩,
    ⟨none, .store [0] (.E 46) (kb false), none⟩])
  (.skip)))
 (.seq (.seq (.reg [⟨(some (.E 47)), .mv (.V 7), none⟩,
   ⟨(some (.E 48)), .bin .gtr (.E 47) (.C (.v (.int .u64 0))), none⟩,
   ⟨(some (.E 49)), .mv (.E 48), none⟩,
   ⟨(some (.E 50)), .mv (.V 11), some ((.E 49), false)⟩,
   ⟨(some (.E 51)), .mv (.V 8), some ((.E 49), false)⟩,
   ⟨(some (.E 52)), .bin .lss (.E 50) (.E 51), some ((.E 49), false)⟩,
   ⟨(some (.E 53)), .pick (.E 49) (kb true) (.E 52), none⟩,
   ⟨(some (.E 54)), .mv (.E 53), none⟩,
   ⟨(some (.E 55)), .load true 3 (.V 12), some ((.E 54), false)⟩,
   ⟨(some (.E 56)), .call k_spec_WideOk [([0, 0, 0], (.E 55))], some ((.E 54), false)⟩,
   ⟨(some (.E 57)), .un .not (.E 56), some ((.E 54), false)⟩,
   ⟨(some (.E 58)), .pick (.E 54) (kb true) (.E 57), none⟩])
 (.cond (.E 58)
  (.seq (.reg [⟨(some (.E 59)), .build [(.v (.bool false)), (.v (.int .u64 0)), (.v (.int .u64 0))] [], none⟩,
    ⟨none, .store [0, 0, 0] (.V 4) (.E 59), none⟩,
    ⟨(some (.V 5)), .mv (kb false), none⟩])
  (.ret))
  (.skip)))
 (.seq (.reg [⟨(some (.E 60)), .load true 3 (.V 12), none⟩,
   ⟨none, .store [0, 0, 0] (.V 4) (.E 60), none⟩,
   ⟨(some (.V 5)), .mv (kb true), none⟩])
 (.ret))))))))))

def k_spec_ScaleWide_rv : List RV := [.cell [0, 0, 0] 4 true, .tmp [0] 5]

def k_impl_WideOf_vars : List Nat := [0, 2]

def k_impl_WideOf_ic : IC :=
 .seq (.reg [⟨(some (.V 2)), .alloc [(.v (.bool false)), (.v (.int .u64 0)), (.v (.int .u64 0))], none⟩])
 (.seq (.reg [⟨(some (.E 3)), .mv (.V 0), none⟩,
   ⟨(some (.E 4)), .bin .lss (.E 3) (ki 0), none⟩,
   ⟨(some (.E 5)), .mv (.V 0), none⟩,
   ⟨(some (.E 6)), .call k_impl_size [([0], (.E 5))], none⟩,
   ⟨(some (.E 7)), .call k_impl_wideOf [([0], (.E 4)), ([0], (.C (.v (.int .u64 0)))), ([0], (.E 6))], none⟩,
   ⟨none, .store [0, 0, 0] (.V 2) (.E 7), none⟩])
 (.ret))

def k_impl_WideOf_rv : List RV := [.cell [0, 0, 0] 2 true]

def k_impl_ScaleWide_vars : List Nat := [0, 1, 2, 4, 6, 8, 9, 10, 7, 11, 12, 5]

def k_impl_ScaleWide_ic : IC :=
 .seq (.reg [⟨(some (.V 2)), .box (.V 0), none⟩,
   ⟨(some (.V 4)), .alloc [(.v (.bool false)), (.v (.int .u64 0)), (.v (.int .u64 0))], none⟩,
   ⟨(some (.V 5)), .mv (kb false), none⟩])
 (.seq (.seq (.reg [⟨(some (.E 13)), .load true 3 (.V 2), none⟩,
   ⟨(some (.E 14)), .call k_impl_WideOk [([0, 0, 0], (.E 13))], none⟩,
   ⟨(some (.E 15)), .un .not (.E 14), none⟩])
 (.cond (.E 15)
  (.seq (.reg [⟨(some (.E 16)), .build [(.v (.bool false)), (.v (.int .u64 0)), (.v (.int .u64 0))] [], none⟩,
    ⟨none, .store [0, 0, 0] (.V 4) (.E 16), none⟩,
    ⟨(some (.V 5)), .mv (kb false), none⟩])
  (.ret))
  (.skip)))
 (.seq (.reg [⟨(some (.E 17)), .mv (.V 1), none⟩,
   ⟨(some (.E 18)), .call k_impl_size [([0], (.E 17))], none⟩,
   ⟨(some (.V 6)), .mv (.E 18), none⟩])
 (.seq (.reg [⟨(some (.E 20)), .faddr 1 (.V 2), none⟩,
   ⟨(some (.E 21)), .load false 1 (.E 20), none⟩,
   ⟨(some (.E 22)), .mv (.V 6), none⟩,
   ⟨(some (.E 23)), .call k_math_bits_Mul64 [([0], (.E 21)), ([0], (.E 22))], none⟩,
   ⟨(some (.E 19)), .mv (.E 23), none⟩,
   ⟨(some (.E 24)), .ext 0 (.E 19), none⟩,
   ⟨(some (.E 25)), .ext 1 (.E 19), none⟩,
   ⟨(some (.V 7)), .mv (.E 24), none⟩,
   ⟨(some (.V 8)), .mv (.E 25), none⟩])
 (.seq (.reg [⟨(some (.E 27)), .faddr 2 (.V 2), none⟩,
   ⟨(some (.E 28)), .load false 1 (.E 27), none⟩,
   ⟨(some (.E 29)), .mv (.V 6), none⟩,
   ⟨(some (.E 30)), .call k_math_bits_Mul64 [([0], (.E 28)), ([0], (.E 29))], none⟩,
   ⟨(some (.E 26)), .mv (.E 30), none⟩,
   ⟨(some (.E 31)), .ext 0 (.E 26), none⟩,
   ⟨(some (.E 32)), .ext 1 (.E 26), none⟩,
   ⟨(some (.V 9)), .mv (.E 31), none⟩,
   ⟨(some (.V 10)), .mv (.E 32), none⟩])
 (.seq (.reg [⟨(some (.E 34)), .mv (.V 8), none⟩,
   ⟨(some (.E 35)), .mv (.V 9), none⟩,
   ⟨(some (.E 36)), .call k_math_bits_Add64 [([0], (.E 34)), ([0], (.E 35)), ([0], (.C (.v (.int .u64 0))))], none⟩,
   ⟨(some (.E 33)), .mv (.E 36), none⟩,
   ⟨(some (.E 37)), .ext 0 (.E 33), none⟩,
   ⟨(some (.E 38)), .ext 1 (.E 33), none⟩,
   ⟨(some (.V 8)), .mv (.E 37), none⟩,
   ⟨(some (.V 11)), .mv (.E 38), none⟩])
 (.seq (.reg [⟨(some (.E 39)), .faddr 0 (.V 2), none⟩,
   ⟨(some (.E 40)), .load false 1 (.E 39), none⟩,
   ⟨(some (.E 41)), .mv (.V 1), none⟩,
   ⟨(some (.E 42)), .bin .lss (.E 41) (ki 0), none⟩,
   ⟨(some (.E 43)), .eqb true [.b] (.E 40) (.E 42), none⟩,
   ⟨(some (.E 44)), .mv (.V 8), none⟩,
   ⟨(some (.E 45)), .mv (.V 10), none⟩,
   ⟨(some (.E 46)), .call k_impl_wideOf [([0], (.E 43)), ([0], (.E 44)), ([0], (.E 45))], none⟩,
   ⟨(some (.V 12)), .alloc [(.v (.bool false)), (.v (.int .u64 0)), (.v (.int .u64 0))], none⟩,
   ⟨none, .store [0, 0, 0] (.V 12) (.E 46), none⟩])
 (.seq (.seq (.reg [⟨(some (.E 47)), .mv (.V 7), none⟩,
   ⟨(some (.E 48)), .bin .gtr (.E 47) (.C (.v (.int .u64 0))), none⟩,
   ⟨(some (.E 49)), .mv (.E 48), none⟩,
   ⟨(some (.E 50)), .mv (.V 11), some ((.E 49), false)⟩,
   ⟨(some (.E 51)), .bin .gtr (.E 50) (.C (.v (.int .u64 0))), some ((.E 49), false)⟩,
   ⟨(some (.E 52)), .pick (.E 49) (kb true) (.E 51), none⟩,
   ⟨(some (.E 53)), .mv (.E 52), none⟩,
   ⟨(some (.E 54)), .load true 3 (.V 12), some ((.E 53), false)⟩,
   ⟨(some (.E 55)), .call k_impl_WideOk [([0, 0, 0], (.E 54))], some ((.E 53), false)⟩,
   ⟨(some (.E 56)), .un .not (.E 55), some ((.E 53), false)⟩,
   ⟨(some (.E 57)), .pick (.E 53) (kb true) (.E 56), none⟩])
 (.cond (.E 57)
  (.seq (.reg [⟨(some (.E 58)), .build [(.v (.bool false)), (.v (.int .u64 0)), (.v (.int .u64 0))] [], none⟩,
    ⟨none, .store [0, 0, 0] (.V 4) (.E 58), none⟩,
    ⟨(some (.V 5)), .mv (kb false), none⟩])
  (.ret))
  (.skip)))
 (.seq (.reg [⟨(some (.E 59)), .load true 3 (.V 12), none⟩,
   ⟨none, .store [0, 0, 0] (.V 4) (.E 59), none⟩,
   ⟨(some (.V 5)), .mv (kb true), none⟩])
 (.ret)))))))))

def k_impl_ScaleWide_rv : List RV := [.cell [0, 0, 0] 4 true, .tmp [0] 5]

def k_impl_size_vars : List Nat := [0, 2]

def k_impl_size_ic : IC :=
 .seq (.reg [⟨(some (.V 2)), .mv (.C (.v (.int .u64 0))), none⟩])
 (.seq (.seq (.reg [⟨(some (.E 3)), .mv (.V 0), none⟩,
   ⟨(some (.E 4)), .bin .lss (.E 3) (ki 0), none⟩])
 (.cond (.E 4)
  (.seq (.reg [⟨(some (.E 5)), .mv (.V 0), none⟩,
    ⟨(some (.E 6)), .convI .u64 (.E 5), none⟩,
    ⟨(some (.E 7)), .un .neg (.E 6), none⟩,
    ⟨(some (.V 2)), .mv (.E 7), none⟩])
  (.ret))
  (.skip)))
 (.seq (.reg [⟨(some (.E 8)), .mv (.V 0), none⟩,
   ⟨(some (.E 9)), .convI .u64 (.E 8), none⟩,
   ⟨(some (.V 2)), .mv (.E 9), none⟩])
 (.ret)))

def k_impl_size_rv : List RV := [.tmp [0] 2]

def k_spec_l1Max_vars : List Nat := [0, 1, 4]

def k_spec_l1Max_ic : IC :=
 .seq (.reg [⟨(some (.V 4)), .mv (ki 0), none⟩])
 (.seq (.seq (.reg [⟨(some (.E 5)), .mv (.V 0), none⟩,
   ⟨(some (.E 6)), .mv (.V 1), none⟩,
   ⟨(some (.E 7)), .bin .gtr (.E 5) (.E 6), none⟩])
 (.cond (.E 7)
  (.seq (.reg [⟨(some (.E 8)), .mv (.V 0), none⟩,
    ⟨(some (.V 4)), .mv (.E 8), none⟩])
  (.ret))
  (.skip)))
 (.seq (.reg [⟨(some (.E 9)), .mv (.V 1), none⟩,
   ⟨(some (.V 4)), .mv (.E 9), none⟩])
 (.ret)))

def k_spec_l1Max_rv : List RV := [.tmp [0] 4]

def k_spec_l3Zero_vars : List Nat := [0, 1, 2]

def k_spec_l3Zero_ic : IC :=
 .seq (.reg [⟨(some (.V 1)), .box (.V 0), none⟩,
   ⟨(some (.V 2)), .mv (kb false), none⟩])
 (.seq (.reg [⟨(some (.E 3)), .faddr 1 (.V 1), none⟩,
   ⟨(some (.E 4)), .load false 1 (.E 3), none⟩,
   ⟨(some (.E 5)), .bin .eql (.E 4) (.C (.v (.int .u64 0))), none⟩,
   ⟨(some (.E 6)), .mv (.E 5), none⟩,
   ⟨(some (.E 7)), .faddr 2 (.V 1), some ((.E 6), true)⟩,
   ⟨(some (.E 8)), .load false 1 (.E 7), some ((.E 6), true)⟩,
   ⟨(some (.E 9)), .bin .eql (.E 8) (.C (.v (.int .u64 0))), some ((.E 6), true)⟩,
   ⟨(some (.E 10)), .pick (.E 6) (.E 9) (kb false), none⟩,
   ⟨(some (.V 2)), .mv (.E 10), none⟩])
 (.ret))

def k_spec_l3Zero_rv : List RV := [.tmp [0] 2]

def k_spec_l3Order_vars : List Nat := [0, 1, 2, 3, 4]

def k_spec_l3Order_ic : IC :=
 .seq (.reg [⟨(some (.V 2)), .box (.V 0), none⟩,
   ⟨(some (.V 3)), .box (.V 1), none⟩,
   ⟨(some (.V 4)), .mv (ki 0), none⟩])
 (.seq (.block 0 (.seq (.reg [⟨(some (.E 6)), .faddr 1 (.V 2), none⟩,
    ⟨(some (.E 7)), .load false 1 (.E 6), none⟩,
    ⟨(some (.E 8)), .faddr 1 (.V 3), none⟩,
    ⟨(some (.E 9)), .load false 1 (.E 8), none⟩,
    ⟨(some (.E 10)), .bin .lss (.E 7) (.E 9), none⟩,
    ⟨(some (.E 11)), .mv (.E 10), none⟩,
    ⟨(some (.E 12)), .faddr 1 (.V 2), some ((.E 11), false)⟩,
    ⟨(some (.E 13)), .load false 1 (.E 12), some ((.E 11), false)⟩,
    ⟨(some (.E 14)), .faddr 1 (.V 3), some ((.E 11), false)⟩,
    ⟨(some (.E 15)), .load false 1 (.E 14), some ((.E 11), false)⟩,
    ⟨(some (.E 16)), .bin .eql (.E 13) (.E 15), some ((.E 11), false)⟩,
    ⟨(some (.E 17)), .mv (.E 16), some ((.E 11), false)⟩,
    ⟨(some (.E 18)), .faddr 2 (.V 2), some ((.E 17), true)⟩,
    ⟨(some (.E 19)), .load false 1 (.E 18), some ((.E 17), true)⟩,
    ⟨(some (.E 20)), .faddr 2 (.V 3), some ((.E 17), true)⟩,
    ⟨(some (.E 21)), .load false 1 (.E 20), some ((.E 17), true)⟩,
    ⟨(some (.E 22)), .bin .lss (.E 19) (.E 21), some ((.E 17), true)⟩,
    ⟨(some (.E 23)), .pick (.E 17) (.E 22) (kb false), some ((.E 11), false)⟩,
    ⟨(some (.E 24)), .pick (.E 11) (kb true) (.E 23), none⟩,
    ⟨(some (.E 5)), .mv (.E 24), none⟩])
  (.cond (.E 5)
   (.seq (.reg [⟨(some (.V 4)), .mv (ki (-1)), none⟩])
   (.ret))
   (.seq (.reg [⟨(some (.E 26)), .faddr 1 (.V 2), none⟩,
     ⟨(some (.E 27)), .load false 1 (.E 26), none⟩,
     ⟨(some (.E 28)), .faddr 1 (.V 3), none⟩,
     ⟨(some (.E 29)), .load false 1 (.E 28), none⟩,
     ⟨(some (.E 30)), .bin .gtr (.E 27) (.E 29), none⟩,
     ⟨(some (.E 31)), .mv (.E 30), none⟩,
     ⟨(some (.E 32)), .faddr 2 (.V 2), some ((.E 31), false)⟩,
     ⟨(some (.E 33)), .load false 1 (.E 32), some ((.E 31), false)⟩,
     ⟨(some (.E 34)), .faddr 2 (.V 3), some ((.E 31), false)⟩,
     ⟨(some (.E 35)), .load false 1 (.E 34), some ((.E 31), false)⟩,
     ⟨(some (.E 36)), .bin .gtr (.E 33) (.E 35), some ((.E 31), false)⟩,
     ⟨(some (.E 37)), .pick (.E 31) (kb true) (.E 36), none⟩,
     ⟨(some (.E 25)), .mv (.E 37), none⟩])
   (.cond (.E 25)
    (.seq (.reg [⟨(some (.V 4)), .mv (ki 1), none⟩])
    (.ret))
    (.skip))))))
 (.seq (.reg [⟨(some (.V 4)), .mv (ki 0), none⟩])
 (.ret)))

def k_spec_l3Order_rv : List RV := [.tmp [0] 4]

def k_spec_WideOk_vars : List Nat := [0, 1, 2]

def k_spec_WideOk_ic : IC :=
 .seq (.reg [⟨(some (.V 1)), .box (.V 0), none⟩,
   ⟨(some (.V 2)), .mv (kb false), none⟩])
 (.seq (.reg [⟨(some (.E 3)), .faddr 1 (.V 1), none⟩,
   ⟨(some (.E 4)), .load false 1 (.E 3), none⟩,
   ⟨(some (.E 5)), .bin .lss (.E 4) (.C (.v (.int .u64 9223372036854775808))), none⟩,
   ⟨(some (.E 6)), .mv (.E 5), none⟩,
   ⟨(some (.E 7)), .faddr 0 (.V 1), some ((.E 6), true)⟩,
   ⟨(some (.E 8)), .load false 1 (.E 7), some ((.E 6), true)⟩,
   ⟨(some (.E 9)), .un .not (.E 8), some ((.E 6), true)⟩,
   ⟨(some (.E 10)), .mv (.E 9), some ((.E 6), true)⟩,
   ⟨(some (.E 11)), .faddr 1 (.V 1), some ((.E 10), false)⟩,
   ⟨(some (.E 12)), .load false 1 (.E 11), some ((.E 10), false)⟩,
   ⟨(some (.E 13)), .bin .gtr (.E 12) (.C (.v (.int .u64 0))), some ((.E 10), false)⟩,
   ⟨(some (.E 14)), .pick (.E 10) (kb true) (.E 13), some ((.E 6), true)⟩,
   ⟨(some (.E 15)), .mv (.E 14), some ((.E 6), true)⟩,
   ⟨(some (.E 16)), .faddr 2 (.V 1), some ((.E 15), false)⟩,
   ⟨(some (.E 17)), .load false 1 (.E 16), some ((.E 15), false)⟩,
   ⟨(some (.E 18)), .bin .gtr (.E 17) (.C (.v (.int .u64 0))), some ((.E 15), false)⟩,
   ⟨(some (.E 19)), .pick (.E 15) (kb true) (.E 18), some ((.E 6), true)⟩,
   ⟨(some (.E 20)), .pick (.E 6) (.E 19) (kb false), none⟩,
   ⟨(some (.V 2)), .mv (.E 20), none⟩])
 (.ret))

def k_spec_WideOk_rv : List RV := [.tmp [0] 2]

def k_spec_l3Product_vars : List Nat := [0, 1, 7, 9, 6, 10, 8, 11, 12, 4, 5]

def k_spec_l3Product_ic : IC :=
 .seq (.reg [⟨(some (.V 4)), .mv (.C (.v (.int .u64 0))), none⟩,
   ⟨(some (.V 5)), .mv (.C (.v (.int .u64 0))), none⟩])
 (.seq (.reg [⟨(some (.E 13)), .mv (.V 0), none⟩,
   ⟨(some (.E 14)), .bin .shr (.E 13) (.C (.v (.int .u64 32))), none⟩,
   ⟨(some (.V 6)), .mv (.E 14), none⟩])
 (.seq (.reg [⟨(some (.E 15)), .mv (.V 0), none⟩,
   ⟨(some (.E 16)), .bin .and (.E 15) (.C (.v (.int .u64 4294967295))), none⟩,
   ⟨(some (.V 7)), .mv (.E 16), none⟩])
 (.seq (.reg [⟨(some (.E 17)), .mv (.V 1), none⟩,
   ⟨(some (.E 18)), .bin .shr (.E 17) (.C (.v (.int .u64 32))), none⟩,
   ⟨(some (.V 8)), .mv (.E 18), none⟩])
 (.seq (.reg [⟨(some (.E 19)), .mv (.V 1), none⟩,
   ⟨(some (.E 20)), .bin .and (.E 19) (.C (.v (.int .u64 4294967295))), none⟩,
   ⟨(some (.V 9)), .mv (.E 20), none⟩])
 (.seq (.reg [⟨(some (.E 21)), .mv (.V 7), none⟩,
   ⟨(some (.E 22)), .mv (.V 9), none⟩,
   ⟨(some (.E 23)), .bin .mul (.E 21) (.E 22), none⟩,
   ⟨(some (.V 10)), .mv (.E 23), none⟩])
 (.seq (.reg [⟨(some (.E 24)), .mv (.V 6), none⟩,
   ⟨(some (.E 25)), .mv (.V 9), none⟩,
   ⟨(some (.E 26)), .bin .mul (.E 24) (.E 25), none⟩,
   ⟨(some (.E 27)), .mv (.V 10), none⟩,
   ⟨(some (.E 28)), .bin .shr (.E 27) (.C (.v (.int .u64 32))), none⟩,
   ⟨(some (.E 29)), .bin .add (.E 26) (.E 28), none⟩,
   ⟨(some (.V 11)), .mv (.E 29), none⟩])
 (.seq (.reg [⟨(some (.E 30)), .mv (.V 7), none⟩,
   ⟨(some (.E 31)), .mv (.V 8), none⟩,
   ⟨(some (.E 32)), .bin .mul (.E 30) (.E 31), none⟩,
   ⟨(some (.E 33)), .mv (.V 11), none⟩,
   ⟨(some (.E 34)), .bin .and (.E 33) (.C (.v (.int .u64 4294967295))), none⟩,
   ⟨(some (.E 35)), .bin .add (.E 32) (.E 34), none⟩,
   ⟨(some (.V 12)), .mv (.E 35), none⟩])
 (.seq (.reg [⟨(some (.E 36)), .mv (.V 6), none⟩,
   ⟨(some (.E 37)), .mv (.V 8), none⟩,
   ⟨(some (.E 38)), .bin .mul (.E 36) (.E 37), none⟩,
   ⟨(some (.E 39)), .mv (.V 11), none⟩,
   ⟨(some (.E 40)), .bin .shr (.E 39) (.C (.v (.int .u64 32))), none⟩,
   ⟨(some (.E 41)), .bin .add (.E 38) (.E 40), none⟩,
   ⟨(some (.E 42)), .mv (.V 12), none⟩,
   ⟨(some (.E 43)), .bin .shr (.E 42) (.C (.v (.int .u64 32))), none⟩,
   ⟨(some (.E 44)), .bin .add (.E 41) (.E 43), none⟩,
   ⟨(some (.E 45)), .mv (.V 12), none⟩,
   ⟨(some (.E 46)), .bin .shl (.E 45) (.C (.v (.int .u64 32))), none⟩,
   ⟨(some (.E 47)), .mv (.V 10), none⟩,
   ⟨(some (.E 48)), .bin .and (.E 47) (.C (.v (.int .u64 4294967295))), none⟩,
   ⟨(some (.E 49)), .bin .add (.E 46) (.E 48), none⟩,
   ⟨(some (.V 4)), .mv (.E 44), none⟩,
   ⟨(some (.V 5)), .mv (.E 49), none⟩])
 (.ret)))))))))

def k_spec_l3Product_rv : List RV := [.tmp [0] 4, .tmp [0] 5]

def k_spec_l3Abs_vars : List Nat := [0, 2]

def k_spec_l3Abs_ic : IC :=
 .seq (.reg [⟨(some (.V 2)), .mv (.C (.v (.int .u64 0))), none⟩])
 (.seq (.seq (.reg [⟨(some (.E 3)), .mv (.V 0), none⟩,
   ⟨(some (.E 4)), .bin .lss (.E 3) (ki 0), none⟩])
 (.cond (.E 4)
  (.seq (.reg [⟨(some (.E 5)), .mv (.V 0), none⟩,
    ⟨(some (.E 6)), .bin .add (.E 5) (ki 1), none⟩,
    ⟨(some (.E 7)), .un .neg (.E 6), none⟩,
    ⟨(some (.E 8)), .convI .u64 (.E 7), none⟩,
    ⟨(some (.E 9)), .bin .add (.E 8) (.C (.v (.int .u64 1))), none⟩,
    ⟨(some (.V 2)), .mv (.E 9), none⟩])
  (.ret))
  (.skip)))
 (.seq (.reg [⟨(some (.E 10)), .mv (.V 0), none⟩,
   ⟨(some (.E 11)), .convI .u64 (.E 10), none⟩,
   ⟨(some (.V 2)), .mv (.E 11), none⟩])
 (.ret)))

def k_spec_l3Abs_rv : List RV := [.tmp [0] 2]

def k_impl_WideOk_vars : List Nat := [0, 1, 2]

def k_impl_WideOk_ic : IC :=
 .seq (.reg [⟨(some (.V 1)), .box (.V 0), none⟩,
   ⟨(some (.V 2)), .mv (kb false), none⟩])
 (.seq (.reg [⟨(some (.E 3)), .faddr 1 (.V 1), none⟩,
   ⟨(some (.E 4)), .load false 1 (.E 3), none⟩,
   ⟨(some (.E 5)), .bin .lss (.E 4) (.C (.v (.int .u64 9223372036854775808))), none⟩,
   ⟨(some (.E 6)), .mv (.E 5), none⟩,
   ⟨(some (.E 7)), .faddr 0 (.V 1), some ((.E 6), true)⟩,
   ⟨(some (.E 8)), .load false 1 (.E 7), some ((.E 6), true)⟩,
   ⟨(some (.E 9)), .un .not (.E 8), some ((.E 6), true)⟩,
   ⟨(some (.E 10)), .mv (.E 9), some ((.E 6), true)⟩,
   ⟨(some (.E 11)), .faddr 1 (.V 1), some ((.E 10), false)⟩,
   ⟨(some (.E 12)), .load false 1 (.E 11), some ((.E 10), false)⟩,
   ⟨(some (.E 13)), .bin .gtr (.E 12) (.C (.v (.int .u64 0))), some ((.E 10), false)⟩,
   ⟨(some (.E 14)), .pick (.E 10) (kb true) (.E 13), some ((.E 6), true)⟩,
   ⟨(some (.E 15)), .mv (.E 14), some ((.E 6), true)⟩,
   ⟨(some (.E 16)), .faddr 2 (.V 1), some ((.E 15), false)⟩,
   ⟨(some (.E 17)), .load false 1 (.E 16), some ((.E 15), false)⟩,
   ⟨(some (.E 18)), .bin .gtr (.E 17) (.C (.v (.int .u64 0))), some ((.E 15), false)⟩,
   ⟨(some (.E 19)), .pick (.E 15) (kb true) (.E 18), some ((.E 6), true)⟩,
   ⟨(some (.E 20)), .pick (.E 6) (.E 19) (kb false), none⟩,
   ⟨(some (.V 2)), .mv (.E 20), none⟩])
 (.ret))

def k_impl_WideOk_rv : List RV := [.tmp [0] 2]

def k_impl_compareSizes_vars : List Nat := [0, 1, 2, 3, 4]

def k_impl_compareSizes_ic : IC :=
 .seq (.reg [⟨(some (.V 2)), .box (.V 0), none⟩,
   ⟨(some (.V 3)), .box (.V 1), none⟩,
   ⟨(some (.V 4)), .mv (ki 0), none⟩])
 (.seq (.regD [(⟨(some (.E 5)), .faddr 1 (.V 2), none⟩, 0, 0),
   (⟨(some (.E 6)), .load false 1 (.E 5), none⟩, 0, 0),
   (⟨(some (.E 7)), .faddr 1 (.V 3), none⟩, 0, 0),
   (⟨(some (.E 8)), .load false 1 (.E 7), none⟩, 0, 0),
   (⟨(some (.E 9)), .call k_cmp_Compare_uint64_ [([0], (.E 6)), ([0], (.E 8))], none⟩, 0, 0),
   (⟨(some (.E 10)), .faddr 2 (.V 2), none⟩, 1, 0),
   (⟨(some (.E 11)), .load false 1 (.E 10), none⟩, 1, 0),
   (⟨(some (.E 12)), .faddr 2 (.V 3), none⟩, 1, 0),
   (⟨(some (.E 13)), .load false 1 (.E 12), none⟩, 1, 0),
   (⟨(some (.E 14)), .call k_cmp_Compare_uint64_ [([0], (.E 11)), ([0], (.E 13))], none⟩, 0, 0),
   (⟨(some (.E 15)), .bslice 2 1 [(.v (.int .i64 0))] [(0, (.E 9)), (1, (.E 14))], none⟩, 0, 0),
   (⟨(some (.E 16)), .call k_cmp_Or_int_ [([1], (.E 15))], none⟩, 0, 0),
   (⟨(some (.V 4)), .mv (.E 16), none⟩, 0, 0)])
 (.ret))

def k_impl_compareSizes_rv : List RV := [.tmp [0] 4]

def k_impl_wideOf_vars : List Nat := [0, 1, 2, 6]

def k_impl_wideOf_ic : IC :=
 .seq (.reg [⟨(some (.V 6)), .alloc [(.v (.bool false)), (.v (.int .u64 0)), (.v (.int .u64 0))], none⟩])
 (.seq (.reg [⟨(some (.E 7)), .mv (.V 0), none⟩,
   ⟨(some (.E 8)), .mv (.E 7), none⟩,
   ⟨(some (.E 9)), .mv (.V 1), some ((.E 8), true)⟩,
   ⟨(some (.E 10)), .bin .gtr (.E 9) (.C (.v (.int .u64 0))), some ((.E 8), true)⟩,
   ⟨(some (.E 11)), .mv (.E 10), some ((.E 8), true)⟩,
   ⟨(some (.E 12)), .mv (.V 2), some ((.E 11), false)⟩,
   ⟨(some (.E 13)), .bin .gtr (.E 12) (.C (.v (.int .u64 0))), some ((.E 11), false)⟩,
   ⟨(some (.E 14)), .pick (.E 11) (kb true) (.E 13), some ((.E 8), true)⟩,
   ⟨(some (.E 15)), .pick (.E 8) (.E 14) (kb false), none⟩,
   ⟨(some (.E 16)), .mv (.V 1), none⟩,
   ⟨(some (.E 17)), .mv (.V 2), none⟩,
   ⟨(some (.E 18)), .build [(.v (.bool false)), (.v (.int .u64 0)), (.v (.int .u64 0))] [(0, 1, (.E 15)), (1, 1, (.E 16)), (2, 1, (.E 17))], none⟩,
   ⟨none, .store [0, 0, 0] (.V 6) (.E 18), none⟩])
 (.ret))

def k_impl_wideOf_rv : List RV := [.cell [0, 0, 0] 6 true]

def k_math_bits_Mul64_vars : List Nat := [0, 1, 6, 8, 7, 10, 11, 12, 9, 13, 4, 5]

def k_math_bits_Mul64_ic : IC :=
 .seq (.reg [⟨(some (.V 4)), .mv (.C (.v (.int .u64 0))), none⟩,
   ⟨(some (.V 5)), .mv (.C (.v (.int .u64 0))), none⟩])
 (.seq (.reg [⟨(some (.E 14)), .mv (.V 0), none⟩,
   ⟨(some (.E 15)), .bin .and (.E 14) (.C (.v (.int .u64 4294967295))), none⟩,
   ⟨(some (.V 6)), .mv (.E 15), none⟩])
 (.seq (.reg [⟨(some (.E 16)), .mv (.V 0), none⟩,
   ⟨(some (.E 17)), .bin .shr (.E 16) (.C (.v (.int .u64 32))), none⟩,
   ⟨(some (.V 7)), .mv (.E 17), none⟩])
 (.seq (.reg [⟨(some (.E 18)), .mv (.V 1), none⟩,
   ⟨(some (.E 19)), .bin .and (.E 18) (.C (.v (.int .u64 4294967295))), none⟩,
   ⟨(some (.V 8)), .mv (.E 19), none⟩])
 (.seq (.reg [⟨(some (.E 20)), .mv (.V 1), none⟩,
   ⟨(some (.E 21)), .bin .shr (.E 20) (.C (.v (.int .u64 32))), none⟩,
   ⟨(some (.V 9)), .mv (.E 21), none⟩])
 (.seq (.reg [⟨(some (.E 22)), .mv (.V 6), none⟩,
   ⟨(some (.E 23)), .mv (.V 8), none⟩,
   ⟨(some (.E 24)), .bin .mul (.E 22) (.E 23), none⟩,
   ⟨(some (.V 10)), .mv (.E 24), none⟩])
 (.seq (.reg [⟨(some (.E 25)), .mv (.V 7), none⟩,
   ⟨(some (.E 26)), .mv (.V 8), none⟩,
   ⟨(some (.E 27)), .bin .mul (.E 25) (.E 26), none⟩,
   ⟨(some (.E 28)), .mv (.V 10), none⟩,
   ⟨(some (.E 29)), .bin .shr (.E 28) (.C (.v (.int .u64 32))), none⟩,
   ⟨(some (.E 30)), .bin .add (.E 27) (.E 29), none⟩,
   ⟨(some (.V 11)), .mv (.E 30), none⟩])
 (.seq (.reg [⟨(some (.E 31)), .mv (.V 11), none⟩,
   ⟨(some (.E 32)), .bin .and (.E 31) (.C (.v (.int .u64 4294967295))), none⟩,
   ⟨(some (.V 12)), .mv (.E 32), none⟩])
 (.seq (.reg [⟨(some (.E 33)), .mv (.V 11), none⟩,
   ⟨(some (.E 34)), .bin .shr (.E 33) (.C (.v (.int .u64 32))), none⟩,
   ⟨(some (.V 13)), .mv (.E 34), none⟩])
 (.seq (.reg [⟨(some (.E 35)), .mv (.V 12), none⟩,
   ⟨(some (.E 36)), .mv (.V 6), none⟩,
   ⟨(some (.E 37)), .mv (.V 9), none⟩,
   ⟨(some (.E 38)), .bin .mul (.E 36) (.E 37), none⟩,
   ⟨(some (.E 39)), .bin .add (.E 35) (.E 38), none⟩,
   ⟨(some (.V 12)), .mv (.E 39), none⟩])
 (.seq (.reg [⟨(some (.E 40)), .mv (.V 7), none⟩,
   ⟨(some (.E 41)), .mv (.V 9), none⟩,
   ⟨(some (.E 42)), .bin .mul (.E 40) (.E 41), none⟩,
   ⟨(some (.E 43)), .mv (.V 13), none⟩,
   ⟨(some (.E 44)), .bin .add (.E 42) (.E 43), none⟩,
   ⟨(some (.E 45)), .mv (.V 12), none⟩,
   ⟨(some (.E 46)), .bin .shr (.E 45) (.C (.v (.int .u64 32))), none⟩,
   ⟨(some (.E 47)), .bin .add (.E 44) (.E 46), none⟩,
   ⟨(some (.V 4)), .mv (.E 47), none⟩])
 (.seq (.reg [⟨(some (.E 48)), .mv (.V 0), none⟩,
   ⟨(some (.E 49)), .mv (.V 1), none⟩,
   ⟨(some (.E 50)), .bin .mul (.E 48) (.E 49), none⟩,
   ⟨(some (.V 5)), .mv (.E 50), none⟩])
 (.ret))))))))))))

def k_math_bits_Mul64_rv : List RV := [.tmp [0] 4, .tmp [0] 5]

def k_cmp_Or_int__vars : List Nat := [0, 8, 7, 6, 5, 3, 2]

def k_cmp_Or_int__b0 : IC :=
 .seq (.reg [⟨(some (.E 9)), .bin .lss (.V 8) (.V 7), none⟩])
 (.seq (.cond (.E 9)
  (.skip)
  (.exit 0))
 (.seq (.block 1 (.seq (.reg [⟨(some (.E 10)), .iaddr 1 (.V 6) (.V 8), none⟩,
    ⟨(some (.E 11)), .load false 1 (.E 10), none⟩,
    ⟨(some (.V 5)), .mv (.E 11), none⟩])
  (.seq (.reg [⟨(some (.E 12)), .mv (.V 5), none⟩,
    ⟨(some (.E 13)), .mv (.V 3), none⟩,
    ⟨(some (.E 14)), .bin .neq (.E 12) (.E 13), none⟩])
  (.cond (.E 14)
   (.seq (.reg [⟨(some (.E 15)), .mv (.V 5), none⟩,
     ⟨(some (.V 2)), .mv (.E 15), none⟩])
   (.ret))
   (.skip)))))
 (.reg [⟨(some (.E 16)), .bin .add (.V 8) (ki 1), none⟩,
   ⟨(some (.V 8)), .mv (.E 16), none⟩])))

def k_cmp_Or_int__ic : IC :=
 .seq (.reg [⟨(some (.V 2)), .mv (ki 0), none⟩])
 (.seq (.reg [⟨(some (.V 3)), .mv (ki 0), none⟩])
 (.seq (.seq (.reg [⟨(some (.V 6)), .mv (.V 0), none⟩,
   ⟨(some (.V 7)), .len (.V 6), none⟩,
   ⟨(some (.V 8)), .mv (ki 0), none⟩])
 (.block 0 (.loop k_cmp_Or_int__b0)))
 (.seq (.reg [⟨(some (.E 17)), .mv (.V 3), none⟩,
   ⟨(some (.V 2)), .mv (.E 17), none⟩])
 (.ret))))

def k_cmp_Or_int__rv : List RV := [.tmp [0] 2]

def k_cmp_Compare_uint64__vars : List Nat := [0, 1, 5, 6, 4]

def k_cmp_Compare_uint64__ic : IC :=
 .seq (.reg [⟨(some (.V 4)), .mv (ki 0), none⟩])
 (.seq (.reg [⟨(some (.E 7)), .mv (.V 0), none⟩,
   ⟨(some (.E 8)), .call k_cmp_isNaN_uint64_ [([0], (.E 7))], none⟩,
   ⟨(some (.V 5)), .mv (.E 8), none⟩])
 (.seq (.reg [⟨(some (.E 9)), .mv (.V 1), none⟩,
   ⟨(some (.E 10)), .call k_cmp_isNaN_uint64_ [([0], (.E 9))], none⟩,
   ⟨(some (.V 6)), .mv (.E 10), none⟩])
 (.seq (.seq (.reg [⟨(some (.E 11)), .mv (.V 5), none⟩])
 (.cond (.E 11)
  (.seq (.seq (.reg [⟨(some (.E 12)), .mv (.V 6), none⟩])
  (.cond (.E 12)
   (.seq (.reg [⟨(some (.V 4)), .mv (ki 0), none⟩])
   (.ret))
   (.skip)))
  (.seq (.reg [⟨(some (.V 4)), .mv (ki (-1)), none⟩])
  (.ret)))
  (.skip)))
 (.seq (.seq (.reg [⟨(some (.E 13)), .mv (.V 6), none⟩])
 (.cond (.E 13)
  (.seq (.reg [⟨(some (.V 4)), .mv (ki 1), none⟩])
  (.ret))
  (.skip)))
 (.seq (.seq (.reg [⟨(some (.E 14)), .mv (.V 0), none⟩,
   ⟨(some (.E 15)), .mv (.V 1), none⟩,
   ⟨(some (.E 16)), .bin .lss (.E 14) (.E 15), none⟩])
 (.cond (.E 16)
  (.seq (.reg [⟨(some (.V 4)), .mv (ki (-1)), none⟩])
  (.ret))
  (.skip)))
 (.seq (.seq (.reg [⟨(some (.E 17)), .mv (.V 0), none⟩,
   ⟨(some (.E 18)), .mv (.V 1), none⟩,
   ⟨(some (.E 19)), .bin .gtr (.E 17) (.E 18), none⟩])
 (.cond (.E 19)
  (.seq (.reg [⟨(some (.V 4)), .mv (ki 1), none⟩])
  (.ret))
  (.skip)))
 (.seq (.reg [⟨(some (.V 4)), .mv (ki 0), none⟩])
 (.ret))))))))

def k_cmp_Compare_uint64__rv : List RV := [.tmp [0] 4]

def k_cmp_isNaN_uint64__vars : List Nat := [0, 2]

def k_cmp_isNaN_uint64__ic : IC :=
 .seq (.reg [⟨(some (.V 2)), .mv (kb false), none⟩])
 (.seq (.reg [⟨(some (.E 3)), .mv (.V 0), none⟩,
   ⟨(some (.E 4)), .mv (.V 0), none⟩,
   ⟨(some (.E 5)), .bin .neq (.E 3) (.E 4), none⟩,
   ⟨(some (.V 2)), .mv (.E 5), none⟩])
 (.ret))

def k_cmp_isNaN_uint64__rv : List RV := [.tmp [0] 2]

def tbl : List (Nat × Fun) := [
  (k_laws_FnExactLossRoom, fnOf k_laws_FnExactLossRoom_ic k_laws_FnExactLossRoom_rv []),
  (k_laws_toIntS, fnOf k_laws_toIntS_ic k_laws_toIntS_rv []),
  (k_laws_eqWide, fnOf k_laws_eqWide_ic k_laws_eqWide_rv []),
  (k_laws_eqIntS, fnOf k_laws_eqIntS_ic k_laws_eqIntS_rv []),
  (k_spec_LossRoom, fnOf k_spec_LossRoom_ic k_spec_LossRoom_rv []),
  (k_impl_LossRoom, fnOf k_impl_LossRoom_ic k_impl_LossRoom_rv []),
  (k_impl_MostOf, fnOf k_impl_MostOf_ic k_impl_MostOf_rv []),
  (k_spec_MostOf, fnOf k_spec_MostOf_ic k_spec_MostOf_rv []),
  (k_spec_AddWide, fnOf k_spec_AddWide_ic k_spec_AddWide_rv []),
  (k_impl_AddWide, fnOf k_impl_AddWide_ic k_impl_AddWide_rv []),
  (k_spec_WideOf, fnOf k_spec_WideOf_ic k_spec_WideOf_rv []),
  (k_spec_ScaleWide, fnOf k_spec_ScaleWide_ic k_spec_ScaleWide_rv []),
  (k_impl_WideOf, fnOf k_impl_WideOf_ic k_impl_WideOf_rv []),
  (k_impl_ScaleWide, fnOf k_impl_ScaleWide_ic k_impl_ScaleWide_rv []),
  (k_impl_size, fnOf k_impl_size_ic k_impl_size_rv []),
  (k_spec_l1Max, fnOf k_spec_l1Max_ic k_spec_l1Max_rv []),
  (k_spec_l3Zero, fnOf k_spec_l3Zero_ic k_spec_l3Zero_rv []),
  (k_spec_l3Order, fnOf k_spec_l3Order_ic k_spec_l3Order_rv []),
  (k_spec_WideOk, fnOf k_spec_WideOk_ic k_spec_WideOk_rv []),
  (k_spec_l3Product, fnOf k_spec_l3Product_ic k_spec_l3Product_rv []),
  (k_spec_l3Abs, fnOf k_spec_l3Abs_ic k_spec_l3Abs_rv []),
  (k_impl_WideOk, fnOf k_impl_WideOk_ic k_impl_WideOk_rv []),
  (k_impl_compareSizes, fnOf k_impl_compareSizes_ic k_impl_compareSizes_rv []),
  (k_math_bits_Sub64, .ext sub64G),
  (k_impl_wideOf, fnOf k_impl_wideOf_ic k_impl_wideOf_rv []),
  (k_math_bits_Add64, .ext add64G),
  (k_math_bits_Mul64, fnOf k_math_bits_Mul64_ic k_math_bits_Mul64_rv []),
  (k_cmp_Or_int_, fnOf k_cmp_Or_int__ic k_cmp_Or_int__rv []),
  (k_cmp_Compare_uint64_, fnOf k_cmp_Compare_uint64__ic k_cmp_Compare_uint64__rv []),
  (k_cmp_isNaN_uint64_, fnOf k_cmp_isNaN_uint64__ic k_cmp_isNaN_uint64__rv [])]

def T : Table := fun f => (tbl.find? fun q => q.1 == f).map fun q => q.2

theorem T_laws_FnExactLossRoom : T k_laws_FnExactLossRoom = some (fnOf k_laws_FnExactLossRoom_ic k_laws_FnExactLossRoom_rv []) := rfl

@[simp] theorem M_laws_FnExactLossRoom : modesOf T k_laws_FnExactLossRoom = [] := modesOf_code T_laws_FnExactLossRoom

theorem T_laws_toIntS : T k_laws_toIntS = some (fnOf k_laws_toIntS_ic k_laws_toIntS_rv []) := rfl

@[simp] theorem M_laws_toIntS : modesOf T k_laws_toIntS = [] := modesOf_code T_laws_toIntS

theorem T_laws_eqWide : T k_laws_eqWide = some (fnOf k_laws_eqWide_ic k_laws_eqWide_rv []) := rfl

@[simp] theorem M_laws_eqWide : modesOf T k_laws_eqWide = [] := modesOf_code T_laws_eqWide

theorem T_laws_eqIntS : T k_laws_eqIntS = some (fnOf k_laws_eqIntS_ic k_laws_eqIntS_rv []) := rfl

@[simp] theorem M_laws_eqIntS : modesOf T k_laws_eqIntS = [] := modesOf_code T_laws_eqIntS

theorem T_spec_LossRoom : T k_spec_LossRoom = some (fnOf k_spec_LossRoom_ic k_spec_LossRoom_rv []) := rfl

@[simp] theorem M_spec_LossRoom : modesOf T k_spec_LossRoom = [] := modesOf_code T_spec_LossRoom

theorem T_impl_LossRoom : T k_impl_LossRoom = some (fnOf k_impl_LossRoom_ic k_impl_LossRoom_rv []) := rfl

@[simp] theorem M_impl_LossRoom : modesOf T k_impl_LossRoom = [] := modesOf_code T_impl_LossRoom

theorem T_impl_MostOf : T k_impl_MostOf = some (fnOf k_impl_MostOf_ic k_impl_MostOf_rv []) := rfl

@[simp] theorem M_impl_MostOf : modesOf T k_impl_MostOf = [] := modesOf_code T_impl_MostOf

theorem T_spec_MostOf : T k_spec_MostOf = some (fnOf k_spec_MostOf_ic k_spec_MostOf_rv []) := rfl

@[simp] theorem M_spec_MostOf : modesOf T k_spec_MostOf = [] := modesOf_code T_spec_MostOf

theorem T_spec_AddWide : T k_spec_AddWide = some (fnOf k_spec_AddWide_ic k_spec_AddWide_rv []) := rfl

@[simp] theorem M_spec_AddWide : modesOf T k_spec_AddWide = [] := modesOf_code T_spec_AddWide

theorem T_impl_AddWide : T k_impl_AddWide = some (fnOf k_impl_AddWide_ic k_impl_AddWide_rv []) := rfl

@[simp] theorem M_impl_AddWide : modesOf T k_impl_AddWide = [] := modesOf_code T_impl_AddWide

theorem T_spec_WideOf : T k_spec_WideOf = some (fnOf k_spec_WideOf_ic k_spec_WideOf_rv []) := rfl

@[simp] theorem M_spec_WideOf : modesOf T k_spec_WideOf = [] := modesOf_code T_spec_WideOf

theorem T_spec_ScaleWide : T k_spec_ScaleWide = some (fnOf k_spec_ScaleWide_ic k_spec_ScaleWide_rv []) := rfl

@[simp] theorem M_spec_ScaleWide : modesOf T k_spec_ScaleWide = [] := modesOf_code T_spec_ScaleWide

theorem T_impl_WideOf : T k_impl_WideOf = some (fnOf k_impl_WideOf_ic k_impl_WideOf_rv []) := rfl

@[simp] theorem M_impl_WideOf : modesOf T k_impl_WideOf = [] := modesOf_code T_impl_WideOf

theorem T_impl_ScaleWide : T k_impl_ScaleWide = some (fnOf k_impl_ScaleWide_ic k_impl_ScaleWide_rv []) := rfl

@[simp] theorem M_impl_ScaleWide : modesOf T k_impl_ScaleWide = [] := modesOf_code T_impl_ScaleWide

theorem T_impl_size : T k_impl_size = some (fnOf k_impl_size_ic k_impl_size_rv []) := rfl

@[simp] theorem M_impl_size : modesOf T k_impl_size = [] := modesOf_code T_impl_size

theorem T_spec_l1Max : T k_spec_l1Max = some (fnOf k_spec_l1Max_ic k_spec_l1Max_rv []) := rfl

@[simp] theorem M_spec_l1Max : modesOf T k_spec_l1Max = [] := modesOf_code T_spec_l1Max

theorem T_spec_l3Zero : T k_spec_l3Zero = some (fnOf k_spec_l3Zero_ic k_spec_l3Zero_rv []) := rfl

@[simp] theorem M_spec_l3Zero : modesOf T k_spec_l3Zero = [] := modesOf_code T_spec_l3Zero

theorem T_spec_l3Order : T k_spec_l3Order = some (fnOf k_spec_l3Order_ic k_spec_l3Order_rv []) := rfl

@[simp] theorem M_spec_l3Order : modesOf T k_spec_l3Order = [] := modesOf_code T_spec_l3Order

theorem T_spec_WideOk : T k_spec_WideOk = some (fnOf k_spec_WideOk_ic k_spec_WideOk_rv []) := rfl

@[simp] theorem M_spec_WideOk : modesOf T k_spec_WideOk = [] := modesOf_code T_spec_WideOk

theorem T_spec_l3Product : T k_spec_l3Product = some (fnOf k_spec_l3Product_ic k_spec_l3Product_rv []) := rfl

@[simp] theorem M_spec_l3Product : modesOf T k_spec_l3Product = [] := modesOf_code T_spec_l3Product

theorem T_spec_l3Abs : T k_spec_l3Abs = some (fnOf k_spec_l3Abs_ic k_spec_l3Abs_rv []) := rfl

@[simp] theorem M_spec_l3Abs : modesOf T k_spec_l3Abs = [] := modesOf_code T_spec_l3Abs

theorem T_impl_WideOk : T k_impl_WideOk = some (fnOf k_impl_WideOk_ic k_impl_WideOk_rv []) := rfl

@[simp] theorem M_impl_WideOk : modesOf T k_impl_WideOk = [] := modesOf_code T_impl_WideOk

theorem T_impl_compareSizes : T k_impl_compareSizes = some (fnOf k_impl_compareSizes_ic k_impl_compareSizes_rv []) := rfl

@[simp] theorem M_impl_compareSizes : modesOf T k_impl_compareSizes = [] := modesOf_code T_impl_compareSizes

theorem T_math_bits_Sub64 : T k_math_bits_Sub64 = some (.ext sub64G) := rfl

@[simp] theorem M_math_bits_Sub64 : modesOf T k_math_bits_Sub64 = [] := rfl

theorem T_impl_wideOf : T k_impl_wideOf = some (fnOf k_impl_wideOf_ic k_impl_wideOf_rv []) := rfl

@[simp] theorem M_impl_wideOf : modesOf T k_impl_wideOf = [] := modesOf_code T_impl_wideOf

theorem T_math_bits_Add64 : T k_math_bits_Add64 = some (.ext add64G) := rfl

@[simp] theorem M_math_bits_Add64 : modesOf T k_math_bits_Add64 = [] := rfl

theorem T_math_bits_Mul64 : T k_math_bits_Mul64 = some (fnOf k_math_bits_Mul64_ic k_math_bits_Mul64_rv []) := rfl

@[simp] theorem M_math_bits_Mul64 : modesOf T k_math_bits_Mul64 = [] := modesOf_code T_math_bits_Mul64

theorem T_cmp_Or_int_ : T k_cmp_Or_int_ = some (fnOf k_cmp_Or_int__ic k_cmp_Or_int__rv []) := rfl

@[simp] theorem M_cmp_Or_int_ : modesOf T k_cmp_Or_int_ = [] := modesOf_code T_cmp_Or_int_

theorem T_cmp_Compare_uint64_ : T k_cmp_Compare_uint64_ = some (fnOf k_cmp_Compare_uint64__ic k_cmp_Compare_uint64__rv []) := rfl

@[simp] theorem M_cmp_Compare_uint64_ : modesOf T k_cmp_Compare_uint64_ = [] := modesOf_code T_cmp_Compare_uint64_

theorem T_cmp_isNaN_uint64_ : T k_cmp_isNaN_uint64_ = some (fnOf k_cmp_isNaN_uint64__ic k_cmp_isNaN_uint64__rv []) := rfl

@[simp] theorem M_cmp_isNaN_uint64_ : modesOf T k_cmp_isNaN_uint64_ = [] := modesOf_code T_cmp_isNaN_uint64_

end Go.Pe
