/- The compact texts of the functions that the law reaches; no condition. -/
import Derived.Test.YtoilifakgbifmaaEvA0
set_option linter.all false
namespace Go.Pe
open Go
def bs (l : List UInt8) : ByteArray := ⟨l.toArray⟩

def k_laws_FnExactStateLoss : Nat := 8

def k_laws_szTree : Nat := 19

def k_laws_toTree : Nat := 22

def k_laws_eqTree : Nat := 25

def k_laws_toIntS : Nat := 33

def k_laws_eqIntS : Nat := 37

def k_laws_szTable : Nat := 44

def k_laws_toTable : Nat := 46

def k_laws_eqState : Nat := 48

def k_laws_eqTable : Nat := 49

def k_laws_szState : Nat := 53

def k_spec_StateLoss : Nat := 54

def k_laws_toState : Nat := 55

def k_impl_StateLoss : Nat := 56

def k_laws_eqWide : Nat := 57

def k_laws_szIntSS : Nat := 63

def k_laws_toIntSS : Nat := 65

def k_laws_eqIntSS : Nat := 67

def k_laws_szStringS : Nat := 74

def k_laws_szIntS : Nat := 75

def k_laws_szTreeS : Nat := 76

def k_laws_toStringS : Nat := 80

def k_laws_toTreeS : Nat := 81

def k_laws_eqStringS : Nat := 86

def k_laws_eqTreeS : Nat := 87

def k_laws_szNodeS : Nat := 88

def k_laws_toNodeS : Nat := 92

def k_laws_eqNodeS : Nat := 96

def k_spec_Residuals : Nat := 127

def k_spec_LossOf : Nat := 128

def k_impl_Residuals : Nat := 129

def k_impl_LossOf : Nat := 130

def k_laws_toNode : Nat := 149

def k_laws_eqNode : Nat := 155

def k_spec_SubInt : Nat := 181

def k_spec_AddWide : Nat := 182

def k_spec_MulWide : Nat := 183

def k_impl_SubInt : Nat := 184

def k_impl_AddWide : Nat := 185

def k_impl_MulWide : Nat := 186

def k_spec_WideOk : Nat := 216

def k_spec_l3Order : Nat := 217

def k_spec_l3Zero : Nat := 218

def k_spec_l3Product : Nat := 219

def k_spec_l3Abs : Nat := 220

def k_impl_WideOk : Nat := 221

def k_impl_compareSizes : Nat := 222

def k_math_bits_Sub64 : Nat := 223

def k_impl_wideOf : Nat := 224

def k_math_bits_Add64 : Nat := 225

def k_math_bits_Mul64 : Nat := 226

def k_impl_size : Nat := 227

def k_cmp_Or_int_ : Nat := 238

def k_cmp_Compare_uint64_ : Nat := 239

def k_cmp_isNaN_uint64_ : Nat := 246

def k_laws_FnExactStateLoss_vars : List Nat := [0, 1, 2, 5, 3, 8, 9, 10, 6, 11, 7, 4]

def k_laws_FnExactStateLoss_ic : IC :=
 .seq (.reg [⟨(some (.V 2)), .box (.V 0), none⟩,
   ⟨(some (.V 3)), .box (.V 1), none⟩,
   ⟨(some (.V 4)), .mv (kb false), none⟩])
 (.seq (.reg [⟨(some (.V 5)), .mv (ki 1048576), none⟩])
 (.seq (.reg [⟨(some (.E 12)), .load true 4 (.V 2), none⟩,
   ⟨(some (.E 13)), .mv (.V 5), none⟩,
   ⟨(some (.E 14)), .call k_laws_szTable [([1, 0, 1, 1], (.E 12)), ([0], (.E 13))], none⟩,
   ⟨(some (.V 5)), .mv (.E 14), none⟩])
 (.seq (.seq (.reg [⟨(some (.E 15)), .mv (.V 5), none⟩,
   ⟨(some (.E 16)), .bin .lss (.E 15) (ki 0), none⟩])
 (.cond (.E 16)
  (.seq (.reg [⟨(some (.V 4)), .mv (kb true), none⟩])
  (.ret))
  (.skip)))
 (.seq (.reg [⟨(some (.E 17)), .load true 2 (.V 3), none⟩,
   ⟨(some (.E 18)), .mv (.V 5), none⟩,
   ⟨(some (.E 19)), .call k_laws_szState [([1, 1], (.E 17)), ([0], (.E 18))], none⟩,
   ⟨(some (.V 5)), .mv (.E 19), none⟩])
 (.seq (.seq (.reg [⟨(some (.E 20)), .mv (.V 5), none⟩,
   ⟨(some (.E 21)), .bin .lss (.E 20) (ki 0), none⟩])
 (.cond (.E 21)
  (.seq (.reg [⟨(some (.V 4)), .mv (kb true), none⟩])
  (.ret))
  (.skip)))
 (.seq (.regD [(⟨(some (.E 23)), .load true 4 (.V 2), none⟩, 0, 0),
   (⟨(some (.E 24)), .call k_laws_toTable [([1, 0, 1, 1], (.E 23))], none⟩, 0, 0),
   (⟨(some (.E 25)), .load true 2 (.V 3), none⟩, 1, 0),
   (⟨(some (.E 26)), .call k_laws_toState [([1, 1], (.E 25))], none⟩, 0, 0),
   (⟨(some (.E 27)), .call k_spec_StateLoss [([1, 0, 1, 1], (.E 24)), ([1, 1], (.E 26))], none⟩, 0, 0),
   (⟨(some (.E 22)), .mv (.E 27), none⟩, 0, 0),
   (⟨(some (.E 28)), .ext 0 (.E 22), none⟩, 0, 0),
   (⟨(some (.E 29)), .ext 1 (.E 22), none⟩, 0, 0),
   (⟨(some (.V 6)), .allocL [(.v (.bool false)), (.v (.int .u64 0)), (.v (.int .u64 0))], none⟩, 0, 0),
   (⟨none, .store [0, 0, 0] (.V 6) (.E 28), none⟩, 0, 0),
   (⟨(some (.V 7)), .mv (.E 29), none⟩, 0, 0)])
 (.seq (.reg [⟨(some (.E 30)), .load true 4 (.V 2), none⟩,
   ⟨(some (.E 31)), .call k_laws_toTable [([1, 0, 1, 1], (.E 30))], none⟩,
   ⟨(some (.V 8)), .alloc [.e0, (.v (.string (bs []))), .e0, .e0], none⟩,
   ⟨none, .store [1, 0, 1, 1] (.V 8) (.E 31), none⟩])
 (.seq (.reg [⟨(some (.E 32)), .load true 2 (.V 3), none⟩,
   ⟨(some (.E 33)), .call k_laws_toState [([1, 1], (.E 32))], none⟩,
   ⟨(some (.V 9)), .alloc [.e0, .e0], none⟩,
   ⟨none, .store [1, 1] (.V 9) (.E 33), none⟩])
 (.seq (.reg [⟨(some (.E 35)), .load true 4 (.V 8), none⟩,
   ⟨(some (.E 36)), .load true 2 (.V 9), none⟩,
   ⟨(some (.E 37)), .call k_impl_StateLoss [([1, 0, 1, 1], (.E 35)), ([1, 1], (.E 36))], none⟩,
   ⟨(some (.E 34)), .mv (.E 37), none⟩,
   ⟨(some (.E 38)), .ext 0 (.E 34), none⟩,
   ⟨(some (.E 39)), .ext 1 (.E 34), none⟩,
   ⟨(some (.V 10)), .alloc [(.v (.bool false)), (.v (.int .u64 0)), (.v (.int .u64 0))], none⟩,
   ⟨none, .store [0, 0, 0] (.V 10) (.E 38), none⟩,
   ⟨(some (.V 11)), .mv (.E 39), none⟩])
 (.seq (.seq (.reg [⟨(some (.E 40)), .load true 3 (.V 10), none⟩,
   ⟨(some (.E 41)), .load true 3 (.V 6), none⟩,
   ⟨(some (.E 42)), .call k_laws_eqWide [([0, 0, 0], (.E 40)), ([0, 0, 0], (.E 41))], none⟩,
   ⟨(some (.E 43)), .un .not (.E 42), none⟩,
   ⟨(some (.E 44)), .mv (.E 43), none⟩,
   ⟨(some (.E 45)), .mv (.V 11), some ((.E 44), false)⟩,
   ⟨(some (.E 46)), .mv (.V 7), some ((.E 44), false)⟩,
   ⟨(some (.E 47)), .eqb true [.b] (.E 45) (.E 46), some ((.E 44), false)⟩,
   ⟨(some (.E 48)), .pick (.E 44) (kb true) (.E 47), none⟩])
 (.cond (.E 48)
  (.seq (.reg [⟨(some (.V 4)), .mv (kb false), none⟩])
  (.ret))
  (.skip)))
 (.seq (.seq (.regD [(⟨(some (.E 49)), .load true 4 (.V 8), none⟩, 0, 1),
   (⟨(some (.E 50)), .load true 4 (.V 2), none⟩, 0, 0),
   (⟨(some (.E 51)), .call k_laws_toTable [([1, 0, 1, 1], (.E 50))], none⟩, 0, 0),
   (⟨(some (.E 52)), .call k_laws_eqTable [([1, 0, 1, 1], (.E 49)), ([1, 0, 1, 1], (.E 51))], none⟩, 0, 0),
   (⟨(some (.E 53)), .un .not (.E 52), none⟩, 0, 0)])
 (.cond (.E 53)
  (.seq (.reg [⟨(some (.V 4)), .mv (kb false), none⟩])
  (.ret))
  (.skip)))
 (.seq (.seq (.regD [(⟨(some (.E 54)), .load true 2 (.V 9), none⟩, 0, 1),
   (⟨(some (.E 55)), .load true 2 (.V 3), none⟩, 0, 0),
   (⟨(some (.E 56)), .call k_laws_toState [([1, 1], (.E 55))], none⟩, 0, 0),
   (⟨(some (.E 57)), .call k_laws_eqState [([1, 1], (.E 54)), ([1, 1], (.E 56))], none⟩, 0, 0),
   (⟨(some (.E 58)), .un .not (.E 57), none⟩, 0, 0)])
 (.cond (.E 58)
  (.seq (.reg [⟨(some (.V 4)), .mv (kb false), none⟩])
  (.ret))
  (.skip)))
 (.seq (.reg [⟨(some (.V 4)), .mv (kb true), none⟩])
 (.ret))))))))))))))

def k_laws_FnExactStateLoss_rv : List RV := [.tmp [0] 4]

def k_laws_szTree_vars : List Nat := [0, 1, 2, 4]

def k_laws_szTree_ic : IC :=
 .seq (.reg [⟨(some (.V 2)), .box (.V 0), none⟩,
   ⟨(some (.V 4)), .mv (ki 0), none⟩])
 (.seq (.reg [⟨(some (.E 5)), .faddr 0 (.V 2), none⟩,
   ⟨(some (.E 6)), .load false 1 (.E 5), none⟩,
   ⟨(some (.E 7)), .mv (.V 1), none⟩,
   ⟨(some (.E 8)), .call k_laws_szNodeS [([5], (.E 6)), ([0], (.E 7))], none⟩,
   ⟨(some (.V 1)), .mv (.E 8), none⟩])
 (.seq (.seq (.reg [⟨(some (.E 9)), .mv (.V 1), none⟩,
   ⟨(some (.E 10)), .bin .lss (.E 9) (ki 0), none⟩])
 (.cond (.E 10)
  (.seq (.reg [⟨(some (.V 4)), .mv (ki (-1)), none⟩])
  (.ret))
  (.skip)))
 (.seq (.reg [⟨(some (.E 11)), .mv (.V 1), none⟩,
   ⟨(some (.V 4)), .mv (.E 11), none⟩])
 (.ret))))

def k_laws_szTree_rv : List RV := [.tmp [0] 4]

def k_laws_toTree_vars : List Nat := [0, 1, 3, 2]

def k_laws_toTree_ic : IC :=
 .seq (.reg [⟨(some (.V 1)), .box (.V 0), none⟩,
   ⟨(some (.V 2)), .alloc [.e0], none⟩])
 (.seq (.reg [⟨(some (.V 3)), .alloc [.e0], none⟩])
 (.seq (.reg [⟨(some (.E 4)), .faddr 0 (.V 1), none⟩,
   ⟨(some (.E 5)), .load false 1 (.E 4), none⟩,
   ⟨(some (.E 6)), .call k_laws_toNodeS [([5], (.E 5))], none⟩,
   ⟨(some (.E 7)), .faddr 0 (.V 3), none⟩,
   ⟨none, .store [5] (.E 7) (.E 6), none⟩])
 (.seq (.reg [⟨(some (.E 8)), .load true 1 (.V 3), none⟩,
   ⟨none, .store [5] (.V 2) (.E 8), none⟩])
 (.ret))))

def k_laws_toTree_rv : List RV := [.cell [5] 2 true]

def k_laws_eqTree_vars : List Nat := [0, 1, 2, 3, 4]

def k_laws_eqTree_ic : IC :=
 .seq (.reg [⟨(some (.V 2)), .box (.V 0), none⟩,
   ⟨(some (.V 3)), .box (.V 1), none⟩,
   ⟨(some (.V 4)), .mv (kb false), none⟩])
 (.seq (.seq (.reg [⟨(some (.E 5)), .faddr 0 (.V 2), none⟩,
   ⟨(some (.E 6)), .load false 1 (.E 5), none⟩,
   ⟨(some (.E 7)), .faddr 0 (.V 3), none⟩,
   ⟨(some (.E 8)), .load false 1 (.E 7), none⟩,
   ⟨(some (.E 9)), .call k_laws_eqNodeS [([5], (.E 6)), ([5], (.E 8))], none⟩,
   ⟨(some (.E 10)), .un .not (.E 9), none⟩])
 (.cond (.E 10)
  (.seq (.reg [⟨(some (.V 4)), .mv (kb false), none⟩])
  (.ret))
  (.skip)))
 (.seq (.reg [⟨(some (.V 4)), .mv (kb true), none⟩])
 (.ret)))

def k_laws_eqTree_rv : List RV := [.tmp [0] 4]

def k_laws_toIntS_vars : List Nat := [0, 4, 3, 2]

def k_laws_toIntS_b0 : IC :=
 .seq (.seq (.reg [⟨(some (.E 8)), .mv (.V 4), none⟩,
   ⟨(some (.E 9)), .mv (.V 0), none⟩,
   ⟨(some (.E 10)), .len (.E 9), none⟩,
   ⟨(some (.E 11)), .bin .lss (.E 8) (.E 10), none⟩])
 (.cond (.E 11)
  (.skip)
  (.exit 0)))
 (.seq (.block 1 (.reg [⟨(some (.E 14)), .mv (.V 3), none⟩,
    ⟨(some (.E 15)), .mv (.V 4), none⟩,
    ⟨(some (.E 16)), .mv (.V 0), none⟩,
    ⟨(some (.E 17)), .mv (.V 4), none⟩,
    ⟨(some (.E 18)), .iaddr 1 (.E 16) (.E 17), none⟩,
    ⟨(some (.E 19)), .load false 1 (.E 18), none⟩,
    ⟨(some (.E 20)), .iaddr 1 (.E 14) (.E 15), none⟩,
    ⟨none, .store [0] (.E 20) (.E 19), none⟩]))
 (.reg [⟨(some (.E 12)), .mv (.V 4), none⟩,
   ⟨(some (.E 13)), .bin .add (.E 12) (ki 1), none⟩,
   ⟨(some (.V 4)), .mv (.E 13), none⟩]))

def k_laws_toIntS_ic : IC :=
 .seq (.reg [⟨(some (.V 2)), .mv (.C .e0), none⟩])
 (.seq (.reg [⟨(some (.E 5)), .mv (.V 0), none⟩,
   ⟨(some (.E 6)), .len (.E 5), none⟩,
   ⟨(some (.E 7)), .mksl 8 1 [(.v (.int .i64 0))] (.E 6) (.E 6), none⟩,
   ⟨(some (.V 3)), .mv (.E 7), none⟩])
 (.seq (.seq (.reg [⟨(some (.V 4)), .mv (ki 0), none⟩])
 (.block 0 (.loop k_laws_toIntS_b0)))
 (.seq (.reg [⟨(some (.E 21)), .mv (.V 3), none⟩,
   ⟨(some (.V 2)), .mv (.E 21), none⟩])
 (.ret))))

def k_laws_toIntS_rv : List RV := [.tmp [1] 2]

def k_laws_eqIntS_vars : List Nat := [0, 1, 5, 4]

def k_laws_eqIntS_b0 : IC :=
 .seq (.seq (.reg [⟨(some (.E 11)), .mv (.V 5), none⟩,
   ⟨(some (.E 12)), .mv (.V 0), none⟩,
   ⟨(some (.E 13)), .len (.E 12), none⟩,
   ⟨(some (.E 14)), .bin .lss (.E 11) (.E 13), none⟩])
 (.cond (.E 14)
  (.skip)
  (.exit 0)))
 (.seq (.block 1 (.seq (.regD [(⟨(some (.E 17)), .mv (.V 0), none⟩, 0, 0),
    (⟨(some (.E 18)), .mv (.V 5), none⟩, 0, 0),
    (⟨(some (.E 19)), .iaddr 1 (.E 17) (.E 18), none⟩, 0, 0),
    (⟨(some (.E 20)), .load false 1 (.E 19), none⟩, 0, 0),
    (⟨(some (.E 21)), .mv (.V 1), none⟩, 0, 0),
    (⟨(some (.E 22)), .mv (.V 5), none⟩, 0, 0),
    (⟨(some (.E 23)), .iaddr 1 (.E 21) (.E 22), none⟩, 0, 0),
    (⟨(some (.E 24)), .load false 1 (.E 23), none⟩, 0, 0),
    (⟨(some (.E 25)), .bin .neq (.E 20) (.E 24), none⟩, 0, 0)])
  (.cond (.E 25)
   (.seq (.reg [⟨(some (.V 4)), .mv (kb false), none⟩])
   (.ret))
   (.skip))))
 (.reg [⟨(some (.E 15)), .mv (.V 5), none⟩,
   ⟨(some (.E 16)), .bin .add (.E 15) (ki 1), none⟩,
   ⟨(some (.V 5)), .mv (.E 16), none⟩]))

def k_laws_eqIntS_ic : IC :=
 .seq (.reg [⟨(some (.V 4)), .mv (kb false), none⟩])
 (.seq (.seq (.reg [⟨(some (.E 6)), .mv (.V 0), none⟩,
   ⟨(some (.E 7)), .len (.E 6), none⟩,
   ⟨(some (.E 8)), .mv (.V 1), none⟩,
   ⟨(some (.E 9)), .len (.E 8), none⟩,
   ⟨(some (.E 10)), .bin .neq (.E 7) (.E 9), none⟩])
 (.cond (.E 10)
  (.seq (.reg [⟨(some (.V 4)), .mv (kb false), none⟩])
  (.ret))
  (.skip)))
 (.seq (.seq (.reg [⟨(some (.V 5)), .mv (ki 0), none⟩])
 (.block 0 (.loop k_laws_eqIntS_b0)))
 (.seq (.reg [⟨(some (.V 4)), .mv (kb true), none⟩])
 (.ret))))

def k_laws_eqIntS_rv : List RV := [.tmp [0] 4]

def k_laws_szTable_vars : List Nat := [0, 1, 2, 4]

def k_laws_szTable_ic : IC :=
 .seq (.reg [⟨(some (.V 2)), .box (.V 0), none⟩,
   ⟨(some (.V 4)), .mv (ki 0), none⟩])
 (.seq (.reg [⟨(some (.E 5)), .faddr 0 (.V 2), none⟩,
   ⟨(some (.E 6)), .load false 1 (.E 5), none⟩,
   ⟨(some (.E 7)), .mv (.V 1), none⟩,
   ⟨(some (.E 8)), .call k_laws_szStringS [([1], (.E 6)), ([0], (.E 7))], none⟩,
   ⟨(some (.V 1)), .mv (.E 8), none⟩])
 (.seq (.seq (.reg [⟨(some (.E 9)), .mv (.V 1), none⟩,
   ⟨(some (.E 10)), .bin .lss (.E 9) (ki 0), none⟩])
 (.cond (.E 10)
  (.seq (.reg [⟨(some (.V 4)), .mv (ki (-1)), none⟩])
  (.ret))
  (.skip)))
 (.seq (.reg [⟨(some (.E 11)), .mv (.V 1), none⟩,
   ⟨(some (.E 12)), .faddr 1 (.V 2), none⟩,
   ⟨(some (.E 13)), .load false 1 (.E 12), none⟩,
   ⟨(some (.E 14)), .lenS (.E 13), none⟩,
   ⟨(some (.E 15)), .bin .sub (.E 11) (.E 14), none⟩,
   ⟨(some (.V 1)), .mv (.E 15), none⟩])
 (.seq (.seq (.reg [⟨(some (.E 16)), .mv (.V 1), none⟩,
   ⟨(some (.E 17)), .bin .lss (.E 16) (ki 0), none⟩])
 (.cond (.E 17)
  (.seq (.reg [⟨(some (.V 4)), .mv (ki (-1)), none⟩])
  (.ret))
  (.skip)))
 (.seq (.reg [⟨(some (.E 18)), .faddr 2 (.V 2), none⟩,
   ⟨(some (.E 19)), .load false 1 (.E 18), none⟩,
   ⟨(some (.E 20)), .mv (.V 1), none⟩,
   ⟨(some (.E 21)), .call k_laws_szIntSS [([1], (.E 19)), ([0], (.E 20))], none⟩,
   ⟨(some (.V 1)), .mv (.E 21), none⟩])
 (.seq (.seq (.reg [⟨(some (.E 22)), .mv (.V 1), none⟩,
   ⟨(some (.E 23)), .bin .lss (.E 22) (ki 0), none⟩])
 (.cond (.E 23)
  (.seq (.reg [⟨(some (.V 4)), .mv (ki (-1)), none⟩])
  (.ret))
  (.skip)))
 (.seq (.reg [⟨(some (.E 24)), .faddr 3 (.V 2), none⟩,
   ⟨(some (.E 25)), .load false 1 (.E 24), none⟩,
   ⟨(some (.E 26)), .mv (.V 1), none⟩,
   ⟨(some (.E 27)), .call k_laws_szIntS [([1], (.E 25)), ([0], (.E 26))], none⟩,
   ⟨(some (.V 1)), .mv (.E 27), none⟩])
 (.seq (.seq (.reg [⟨(some (.E 28)), .mv (.V 1), none⟩,
   ⟨(some (.E 29)), .bin .lss (.E 28) (ki 0), none⟩])
 (.cond (.E 29)
  (.seq (.reg [⟨(some (.V 4)), .mv (ki (-1)), none⟩])
  (.ret))
  (.skip)))
 (.seq (.reg [⟨(some (.E 30)), .mv (.V 1), none⟩,
   ⟨(some (.V 4)), .mv (.E 30), none⟩])
 (.ret))))))))))

def k_laws_szTable_rv : List RV := [.tmp [0] 4]

def k_laws_toTable_vars : List Nat := [0, 1, 3, 2]

def k_laws_toTable_ic : IC :=
 .seq (.reg [⟨(some (.V 1)), .box (.V 0), none⟩,
   ⟨(some (.V 2)), .alloc [.e0, (.v (.string (bs []))), .e0, .e0], none⟩])
 (.seq (.reg [⟨(some (.V 3)), .alloc [.e0, (.v (.string (bs []))), .e0, .e0], none⟩])
 (.seq (.reg [⟨(some (.E 4)), .faddr 0 (.V 1), none⟩,
   ⟨(some (.E 5)), .load false 1 (.E 4), none⟩,
   ⟨(some (.E 6)), .call k_laws_toStringS [([1], (.E 5))], none⟩,
   ⟨(some (.E 7)), .faddr 0 (.V 3), none⟩,
   ⟨none, .store [1] (.E 7) (.E 6), none⟩])
 (.seq (.reg [⟨(some (.E 8)), .faddr 1 (.V 1), none⟩,
   ⟨(some (.E 9)), .load false 1 (.E 8), none⟩,
   ⟨(some (.E 10)), .faddr 1 (.V 3), none⟩,
   ⟨none, .store [0] (.E 10) (.E 9), none⟩])
 (.seq (.reg [⟨(some (.E 11)), .faddr 2 (.V 1), none⟩,
   ⟨(some (.E 12)), .load false 1 (.E 11), none⟩,
   ⟨(some (.E 13)), .call k_laws_toIntSS [([1], (.E 12))], none⟩,
   ⟨(some (.E 14)), .faddr 2 (.V 3), none⟩,
   ⟨none, .store [1] (.E 14) (.E 13), none⟩])
 (.seq (.reg [⟨(some (.E 15)), .faddr 3 (.V 1), none⟩,
   ⟨(some (.E 16)), .load false 1 (.E 15), none⟩,
   ⟨(some (.E 17)), .call k_laws_toIntS [([1], (.E 16))], none⟩,
   ⟨(some (.E 18)), .faddr 3 (.V 3), none⟩,
   ⟨none, .store [1] (.E 18) (.E 17), none⟩])
 (.seq (.reg [⟨(some (.E 19)), .load true 4 (.V 3), none⟩,
   ⟨none, .store [1, 0, 1, 1] (.V 2) (.E 19), none⟩])
 (.ret)))))))

def k_laws_toTable_rv : List RV := [.cell [1, 0, 1, 1] 2 true]

def k_laws_eqState_vars : List Nat := [0, 1, 2, 3, 4]

def k_laws_eqState_ic : IC :=
 .seq (.reg [⟨(some (.V 2)), .box (.V 0), none⟩,
   ⟨(some (.V 3)), .box (.V 1), none⟩,
   ⟨(some (.V 4)), .mv (kb false), none⟩])
 (.seq (.seq (.reg [⟨(some (.E 5)), .faddr 0 (.V 2), none⟩,
   ⟨(some (.E 6)), .load false 1 (.E 5), none⟩,
   ⟨(some (.E 7)), .faddr 0 (.V 3), none⟩,
   ⟨(some (.E 8)), .load false 1 (.E 7), none⟩,
   ⟨(some (.E 9)), .call k_laws_eqIntS [([1], (.E 6)), ([1], (.E 8))], none⟩,
   ⟨(some (.E 10)), .un .not (.E 9), none⟩])
 (.cond (.E 10)
  (.seq (.reg [⟨(some (.V 4)), .mv (kb false), none⟩])
  (.ret))
  (.skip)))
 (.seq (.seq (.reg [⟨(some (.E 11)), .faddr 1 (.V 2), none⟩,
   ⟨(some (.E 12)), .load false 1 (.E 11), none⟩,
   ⟨(some (.E 13)), .faddr 1 (.V 3), none⟩,
   ⟨(some (.E 14)), .load false 1 (.E 13), none⟩,
   ⟨(some (.E 15)), .call k_laws_eqTreeS [([1], (.E 12)), ([1], (.E 14))], none⟩,
   ⟨(some (.E 16)), .un .not (.E 15), none⟩])
 (.cond (.E 16)
  (.seq (.reg [⟨(some (.V 4)), .mv (kb false), none⟩])
  (.ret))
  (.skip)))
 (.seq (.reg [⟨(some (.V 4)), .mv (kb true), none⟩])
 (.ret))))

def k_laws_eqState_rv : List RV := [.tmp [0] 4]

def k_laws_eqTable_vars : List Nat := [0, 1, 2, 3, 4]

def k_laws_eqTable_ic : IC :=
 .seq (.reg [⟨(some (.V 2)), .box (.V 0), none⟩,
   ⟨(some (.V 3)), .box (.V 1), none⟩,
   ⟨(some (.V 4)), .mv (kb false), none⟩])
 (.seq (.seq (.reg [⟨(some (.E 5)), .faddr 0 (.V 2), none⟩,
   ⟨(some (.E 6)), .load false 1 (.E 5), none⟩,
   ⟨(some (.E 7)), .faddr 0 (.V 3), none⟩,
   ⟨(some (.E 8)), .load false 1 (.E 7), none⟩,
   ⟨(some (.E 9)), .call k_laws_eqStringS [([1], (.E 6)), ([1], (.E 8))], none⟩,
   ⟨(some (.E 10)), .un .not (.E 9), none⟩])
 (.cond (.E 10)
  (.seq (.reg [⟨(some (.V 4)), .mv (kb false), none⟩])
  (.ret))
  (.skip)))
 (.seq (.seq (.reg [⟨(some (.E 11)), .faddr 1 (.V 2), none⟩,
   ⟨(some (.E 12)), .load false 1 (.E 11), none⟩,
   ⟨(some (.E 13)), .faddr 1 (.V 3), none⟩,
   ⟨(some (.E 14)), .load false 1 (.E 13), none⟩,
   ⟨(some (.E 15)), .bin .neq (.E 12) (.E 14), none⟩])
 (.cond (.E 15)
  (.seq (.reg [⟨(some (.V 4)), .mv (kb false), none⟩])
  (.ret))
  (.skip)))
 (.seq (.seq (.reg [⟨(some (.E 16)), .faddr 2 (.V 2), none⟩,
   ⟨(some (.E 17)), .load false 1 (.E 16), none⟩,
   ⟨(some (.E 18)), .faddr 2 (.V 3), none⟩,
   ⟨(some (.E 19)), .load false 1 (.E 18), none⟩,
   ⟨(some (.E 20)), .call k_laws_eqIntSS [([1], (.E 17)), ([1], (.E 19))], none⟩,
   ⟨(some (.E 21)), .un .not (.E 20), none⟩])
 (.cond (.E 21)
  (.seq (.reg [⟨(some (.V 4)), .mv (kb false), none⟩])
  (.ret))
  (.skip)))
 (.seq (.seq (.reg [⟨(some (.E 22)), .faddr 3 (.V 2), none⟩,
   ⟨(some (.E 23)), .load false 1 (.E 22), none⟩,
   ⟨(some (.E 24)), .faddr 3 (.V 3), none⟩,
   ⟨(some (.E 25)), .load false 1 (.E 24), none⟩,
   ⟨(some (.E 26)), .call k_laws_eqIntS [([1], (.E 23)), ([1], (.E 25))], none⟩,
   ⟨(some (.E 27)), .un .not (.E 26), none⟩])
 (.cond (.E 27)
  (.seq (.reg [⟨(some (.V 4)), .mv (kb false), none⟩])
  (.ret))
  (.skip)))
 (.seq (.reg [⟨(some (.V 4)), .mv (kb true), none⟩])
 (.ret))))))

def k_laws_eqTable_rv : List RV := [.tmp [0] 4]

def k_laws_szState_vars : List Nat := [0, 1, 2, 4]

def k_laws_szState_ic : IC :=
 .seq (.reg [⟨(some (.V 2)), .box (.V 0), none⟩,
   ⟨(some (.V 4)), .mv (ki 0), none⟩])
 (.seq (.reg [⟨(some (.E 5)), .faddr 0 (.V 2), none⟩,
   ⟨(some (.E 6)), .load false 1 (.E 5), none⟩,
   ⟨(some (.E 7)), .mv (.V 1), none⟩,
   ⟨(some (.E 8)), .call k_laws_szIntS [([1], (.E 6)), ([0], (.E 7))], none⟩,
   ⟨(some (.V 1)), .mv (.E 8), none⟩])
 (.seq (.seq (.reg [⟨(some (.E 9)), .mv (.V 1), none⟩,
   ⟨(some (.E 10)), .bin .lss (.E 9) (ki 0), none⟩])
 (.cond (.E 10)
  (.seq (.reg [⟨(some (.V 4)), .mv (ki (-1)), none⟩])
  (.ret))
  (.skip)))
 (.seq (.reg [⟨(some (.E 11)), .faddr 1 (.V 2), none⟩,
   ⟨(some (.E 12)), .load false 1 (.E 11), none⟩,
   ⟨(some (.E 13)), .mv (.V 1), none⟩,
   ⟨(some (.E 14)), .call k_laws_szTreeS [([1], (.E 12)), ([0], (.E 13))], none⟩,
   ⟨(some (.V 1)), .mv (.E 14), none⟩])
 (.seq (.seq (.reg [⟨(some (.E 15)), .mv (.V 1), none⟩,
   ⟨(some (.E 16)), .bin .lss (.E 15) (ki 0), none⟩])
 (.cond (.E 16)
  (.seq (.reg [⟨(some (.V 4)), .mv (ki (-1)), none⟩])
  (.ret))
  (.skip)))
 (.seq (.reg [⟨(some (.E 17)), .mv (.V 1), none⟩,
   ⟨(some (.V 4)), .mv (.E 17), none⟩])
 (.ret))))))

def k_laws_szState_rv : List RV := [.tmp [0] 4]

def k_spec_StateLoss_vars : List Nat := [0, 1, 2, 3, 7, 4, 6, 5]

def k_spec_StateLoss_ic : IC :=
 .seq (.reg [⟨(some (.V 2)), .box (.V 0), none⟩,
   ⟨(some (.V 3)), .box (.V 1), none⟩,
   ⟨(some (.V 4)), .alloc [(.v (.bool false)), (.v (.int .u64 0)), (.v (.int .u64 0))], none⟩,
   ⟨(some (.V 5)), .mv (kb false), none⟩])
 (.seq (.reg [⟨(some (.E 9)), .faddr 3 (.V 2), none⟩,
   ⟨(some (.E 10)), .load false 1 (.E 9), none⟩,
   ⟨(some (.E 11)), .faddr 0 (.V 3), none⟩,
   ⟨(some (.E 12)), .load false 1 (.E 11), none⟩,
   ⟨(some (.E 13)), .call k_spec_Residuals [([1], (.E 10)), ([1], (.E 12))], none⟩,
   ⟨(some (.E 8)), .mv (.E 13), none⟩,
   ⟨(some (.E 14)), .ext 0 (.E 8), none⟩,
   ⟨(some (.E 15)), .ext 1 (.E 8), none⟩,
   ⟨(some (.V 6)), .mv (.E 14), none⟩,
   ⟨(some (.V 7)), .mv (.E 15), none⟩])
 (.seq (.seq (.reg [⟨(some (.E 16)), .mv (.V 7), none⟩,
   ⟨(some (.E 17)), .un .not (.E 16), none⟩])
 (.cond (.E 17)
  (.seq (.reg [⟨(some (.E 18)), .build [(.v (.bool false)), (.v (.int .u64 0)), (.v (.int .u64 0))] [], none⟩,
    ⟨none, .store [0, 0, 0] (.V 4) (.E 18), none⟩,
    ⟨(some (.V 5)), .mv (kb false), none⟩])
  (.ret))
  (.skip)))
 (.seq (.reg [⟨(some (.E 19)), .mv (.V 6), none⟩,
   ⟨(some (.E 20)), .call k_spec_LossOf [([1], (.E 19))], none⟩,
   ⟨(some (.E 21)), .ext 0 (.E 20), none⟩,
   ⟨(some (.E 22)), .ext 1 (.E 20), none⟩,
   ⟨none, .store [0, 0, 0] (.V 4) (.E 21), none⟩,
   ⟨(some (.V 5)), .mv (.E 22), none⟩])
 (.ret))))

def k_spec_StateLoss_rv : List RV := [.cell [0, 0, 0] 4 true, .tmp [0] 5]

def k_laws_toState_vars : List Nat := [0, 1, 3, 2]

def k_laws_toState_ic : IC :=
 .seq (.reg [⟨(some (.V 1)), .box (.V 0), none⟩,
   ⟨(some (.V 2)), .alloc [.e0, .e0], none⟩])
 (.seq (.reg [⟨(some (.V 3)), .alloc [.e0, .e0], none⟩])
 (.seq (.reg [⟨(some (.E 4)), .faddr 0 (.V 1), none⟩,
   ⟨(some (.E 5)), .load false 1 (.E 4), none⟩,
   ⟨(some (.E 6)), .call k_laws_toIntS [([1], (.E 5))], none⟩,
   ⟨(some (.E 7)), .faddr 0 (.V 3), none⟩,
   ⟨none, .store [1] (.E 7) (.E 6), none⟩])
 (.seq (.reg [⟨(some (.E 8)), .faddr 1 (.V 1), none⟩,
   ⟨(some (.E 9)), .load false 1 (.E 8), none⟩,
   ⟨(some (.E 10)), .call k_laws_toTreeS [([1], (.E 9))], none⟩,
   ⟨(some (.E 11)), .faddr 1 (.V 3), none⟩,
   ⟨none, .store [1] (.E 11) (.E 10), none⟩])
 (.seq (.reg [⟨(some (.E 12)), .load true 2 (.V 3), none⟩,
   ⟨none, .store [1, 1] (.V 2) (.E 12), none⟩])
 (.ret)))))

def k_laws_toState_rv : List RV := [.cell [1, 1] 2 true]

def k_impl_StateLoss_vars : List Nat := [0, 1, 2, 3, 7, 4, 6, 5]

def k_impl_StateLoss_ic : IC :=
 .seq (.reg [⟨(some (.V 2)), .box (.V 0), none⟩,
   ⟨(some (.V 3)), .box (.V 1), none⟩,
   ⟨(some (.V 4)), .alloc [(.v (.bool false)), (.v (.int .u64 0)), (.v (.int .u64 0))], none⟩,
   ⟨(some (.V 5)), .mv (kb false), none⟩])
 (.seq (.reg [⟨(some (.E 9)), .faddr 3 (.V 2), none⟩,
   ⟨(some (.E 10)), .load false 1 (.E 9), none⟩,
   ⟨(some (.E 11)), .faddr 0 (.V 3), none⟩,
   ⟨(some (.E 12)), .load false 1 (.E 11), none⟩,
   ⟨(some (.E 13)), .call k_impl_Residuals [([1], (.E 10)), ([1], (.E 12))], none⟩,
   ⟨(some (.E 8)), .mv (.E 13), none⟩,
   ⟨(some (.E 14)), .ext 0 (.E 8), none⟩,
   ⟨(some (.E 15)), .ext 1 (.E 8), none⟩,
   ⟨(some (.V 6)), .mv (.E 14), none⟩,
   ⟨(some (.V 7)), .mv (.E 15), none⟩])
 (.seq (.seq (.reg [⟨(some (.E 16)), .mv (.V 7), none⟩,
   ⟨(some (.E 17)), .un .not (.E 16), none⟩])
 (.cond (.E 17)
  (.seq (.reg [⟨(some (.E 18)), .build [(.v (.bool false)), (.v (.int .u64 0)), (.v (.int .u64 0))] [], none⟩,
    ⟨none, .store [0, 0, 0] (.V 4) (.E 18), none⟩,
    ⟨(some (.V 5)), .mv (kb false), none⟩])
  (.ret))
  (.skip)))
 (.seq (.reg [⟨(some (.E 19)), .mv (.V 6), none⟩,
   ⟨(some (.E 20)), .call k_impl_LossOf [([1], (.E 19))], none⟩,
   ⟨(some (.E 21)), .ext 0 (.E 20), none⟩,
   ⟨(some (.E 22)), .ext 1 (.E 20), none⟩,
   ⟨none, .store [0, 0, 0] (.V 4) (.E 21), none⟩,
   ⟨(some (.V 5)), .mv (.E 22), none⟩])
 (.ret))))

def k_impl_StateLoss_rv : List RV := [.cell [0, 0, 0] 4 true, .tmp [0] 5]

def k_laws_eqWide_vars : List Nat := [0, 1, 2, 3, 4]

def k_laws_eqWide_ic : IC :=
 .seq (.reg [⟨(some (.V 2)), .box (.V 0), none⟩,
   ⟨(some (.V 3)), .box (.V 1), none⟩,
   ⟨(some (.V 4)), .mv (kb false), none⟩])
 (.seq (.seq (.reg [⟨(some (.E 5)), .faddr 0 (.V 2), none⟩,
   ⟨(some (.E 6)), .load false 1 (.E 5), none⟩,
   ⟨(some (.E 7)), .faddr 0 (.V 3), none⟩,
   ⟨(some (.E 8)), .load false 1 (.E 7), none⟩,
   ⟨(some (.E 9)), .eqb true [.b] (.E 6) (.E 8), none⟩])
 (.cond (.E 9)
  (.seq (.reg [⟨(some (.V 4)), .mv (kb false), none⟩])
  (.ret))
  (.skip)))
 (.seq (.seq (.reg [⟨(some (.E 10)), .faddr 1 (.V 2), none⟩,
   ⟨(some (.E 11)), .load false 1 (.E 10), none⟩,
   ⟨(some (.E 12)), .faddr 1 (.V 3), none⟩,
   ⟨(some (.E 13)), .load false 1 (.E 12), none⟩,
   ⟨(some (.E 14)), .bin .neq (.E 11) (.E 13), none⟩])
 (.cond (.E 14)
  (.seq (.reg [⟨(some (.V 4)), .mv (kb false), none⟩])
  (.ret))
  (.skip)))
 (.seq (.seq (.reg [⟨(some (.E 15)), .faddr 2 (.V 2), none⟩,
   ⟨(some (.E 16)), .load false 1 (.E 15), none⟩,
   ⟨(some (.E 17)), .faddr 2 (.V 3), none⟩,
   ⟨(some (.E 18)), .load false 1 (.E 17), none⟩,
   ⟨(some (.E 19)), .bin .neq (.E 16) (.E 18), none⟩])
 (.cond (.E 19)
  (.seq (.reg [⟨(some (.V 4)), .mv (kb false), none⟩])
  (.ret))
  (.skip)))
 (.seq (.reg [⟨(some (.V 4)), .mv (kb true), none⟩])
 (.ret)))))

def k_laws_eqWide_rv : List RV := [.tmp [0] 4]

def k_laws_szIntSS_vars : List Nat := [0, 1, 5, 4]

def k_laws_szIntSS_b0 : IC :=
 .seq (.seq (.reg [⟨(some (.E 12)), .mv (.V 5), none⟩,
   ⟨(some (.E 13)), .mv (.V 0), none⟩,
   ⟨(some (.E 14)), .len (.E 13), none⟩,
   ⟨(some (.E 15)), .bin .lss (.E 12) (.E 14), none⟩])
 (.cond (.E 15)
  (.skip)
  (.exit 0)))
 (.seq (.block 1 (.seq (.reg [⟨(some (.E 18)), .mv (.V 0), none⟩,
    ⟨(some (.E 19)), .mv (.V 5), none⟩,
    ⟨(some (.E 20)), .iaddr 1 (.E 18) (.E 19), none⟩,
    ⟨(some (.E 21)), .load false 1 (.E 20), none⟩,
    ⟨(some (.E 22)), .mv (.V 1), none⟩,
    ⟨(some (.E 23)), .call k_laws_szIntS [([1], (.E 21)), ([0], (.E 22))], none⟩,
    ⟨(some (.V 1)), .mv (.E 23), none⟩])
  (.seq (.reg [⟨(some (.E 24)), .mv (.V 1), none⟩,
    ⟨(some (.E 25)), .bin .lss (.E 24) (ki 0), none⟩])
  (.cond (.E 25)
   (.seq (.reg [⟨(some (.V 4)), .mv (ki (-1)), none⟩])
   (.ret))
   (.skip)))))
 (.reg [⟨(some (.E 16)), .mv (.V 5), none⟩,
   ⟨(some (.E 17)), .bin .add (.E 16) (ki 1), none⟩,
   ⟨(some (.V 5)), .mv (.E 17), none⟩]))

def k_laws_szIntSS_ic : IC :=
 .seq (.reg [⟨(some (.V 4)), .mv (ki 0), none⟩])
 (.seq (.reg [⟨(some (.E 6)), .mv (.V 1), none⟩,
   ⟨(some (.E 7)), .mv (.V 0), none⟩,
   ⟨(some (.E 8)), .len (.E 7), none⟩,
   ⟨(some (.E 9)), .bin .sub (.E 6) (.E 8), none⟩,
   ⟨(some (.V 1)), .mv (.E 9), none⟩])
 (.seq (.seq (.reg [⟨(some (.E 10)), .mv (.V 1), none⟩,
   ⟨(some (.E 11)), .bin .lss (.E 10) (ki 0), none⟩])
 (.cond (.E 11)
  (.seq (.reg [⟨(some (.V 4)), .mv (ki (-1)), none⟩])
  (.ret))
  (.skip)))
 (.seq (.seq (.reg [⟨(some (.V 5)), .mv (ki 0), none⟩])
 (.block 0 (.loop k_laws_szIntSS_b0)))
 (.seq (.reg [⟨(some (.E 26)), .mv (.V 1), none⟩,
   ⟨(some (.V 4)), .mv (.E 26), none⟩])
 (.ret)))))

def k_laws_szIntSS_rv : List RV := [.tmp [0] 4]

def k_laws_toIntSS_vars : List Nat := [0, 4, 3, 2]

def k_laws_toIntSS_b0 : IC :=
 .seq (.seq (.reg [⟨(some (.E 8)), .mv (.V 4), none⟩,
   ⟨(some (.E 9)), .mv (.V 0), none⟩,
   ⟨(some (.E 10)), .len (.E 9), none⟩,
   ⟨(some (.E 11)), .bin .lss (.E 8) (.E 10), none⟩])
 (.cond (.E 11)
  (.skip)
  (.exit 0)))
 (.seq (.block 1 (.reg [⟨(some (.E 14)), .mv (.V 3), none⟩,
    ⟨(some (.E 15)), .mv (.V 4), none⟩,
    ⟨(some (.E 16)), .mv (.V 0), none⟩,
    ⟨(some (.E 17)), .mv (.V 4), none⟩,
    ⟨(some (.E 18)), .iaddr 1 (.E 16) (.E 17), none⟩,
    ⟨(some (.E 19)), .load false 1 (.E 18), none⟩,
    ⟨(some (.E 20)), .call k_laws_toIntS [([1], (.E 19))], none⟩,
    ⟨(some (.E 21)), .iaddr 1 (.E 14) (.E 15), none⟩,
    ⟨none, .store [1] (.E 21) (.E 20), none⟩]))
 (.reg [⟨(some (.E 12)), .mv (.V 4), none⟩,
   ⟨(some (.E 13)), .bin .add (.E 12) (ki 1), none⟩,
   ⟨(some (.V 4)), .mv (.E 13), none⟩]))

def k_laws_toIntSS_ic : IC :=
 .seq (.reg [⟨(some (.V 2)), .mv (.C .e0), none⟩])
 (.seq (.reg [⟨(some (.E 5)), .mv (.V 0), none⟩,
   ⟨(some (.E 6)), .len (.E 5), none⟩,
   ⟨(some (.E 7)), .mksl 24 1 [(.own 1 [])] (.E 6) (.E 6), none⟩,
   ⟨(some (.V 3)), .mv (.E 7), none⟩])
 (.seq (.seq (.reg [⟨(some (.V 4)), .mv (ki 0), none⟩])
 (.block 0 (.loop k_laws_toIntSS_b0)))
 (.seq (.reg [⟨(some (.E 22)), .mv (.V 3), none⟩,
   ⟨(some (.V 2)), .mv (.E 22), none⟩])
 (.ret))))

def k_laws_toIntSS_rv : List RV := [.tmp [1] 2]

def k_laws_eqIntSS_vars : List Nat := [0, 1, 5, 4]

def k_laws_eqIntSS_b0 : IC :=
 .seq (.seq (.reg [⟨(some (.E 11)), .mv (.V 5), none⟩,
   ⟨(some (.E 12)), .mv (.V 0), none⟩,
   ⟨(some (.E 13)), .len (.E 12), none⟩,
   ⟨(some (.E 14)), .bin .lss (.E 11) (.E 13), none⟩])
 (.cond (.E 14)
  (.skip)
  (.exit 0)))
 (.seq (.block 1 (.seq (.regD [(⟨(some (.E 17)), .mv (.V 0), none⟩, 0, 0),
    (⟨(some (.E 18)), .mv (.V 5), none⟩, 0, 0),
    (⟨(some (.E 19)), .iaddr 1 (.E 17) (.E 18), none⟩, 0, 0),
    (⟨(some (.E 20)), .load false 1 (.E 19), none⟩, 0, 0),
    (⟨(some (.E 21)), .mv (.V 1), none⟩, 0, 0),
    (⟨(some (.E 22)), .mv (.V 5), none⟩, 0, 0),
    (⟨(some (.E 23)), .iaddr 1 (.E 21) (.E 22), none⟩, 0, 0),
    (⟨(some (.E 24)), .load false 1 (.E 23), none⟩, 0, 0),
    (⟨(some (.E 25)), .call k_laws_eqIntS [([1], (.E 20)), ([1], (.E 24))], none⟩, 0, 0),
    (⟨(some (.E 26)), .un .not (.E 25), none⟩, 0, 0)])
  (.cond (.E 26)
   (.seq (.reg [⟨(some (.V 4)), .mv (kb false), none⟩])
   (.ret))
   (.skip))))
 (.reg [⟨(some (.E 15)), .mv (.V 5), none⟩,
   ⟨(some (.E 16)), .bin .add (.E 15) (ki 1), none⟩,
   ⟨(some (.V 5)), .mv (.E 16), none⟩]))

def k_laws_eqIntSS_ic : IC :=
 .seq (.reg [⟨(some (.V 4)), .mv (kb false), none⟩])
 (.seq (.seq (.reg [⟨(some (.E 6)), .mv (.V 0), none⟩,
   ⟨(some (.E 7)), .len (.E 6), none⟩,
   ⟨(some (.E 8)), .mv (.V 1), none⟩,
   ⟨(some (.E 9)), .len (.E 8), none⟩,
   ⟨(some (.E 10)), .bin .neq (.E 7) (.E 9), none⟩])
 (.cond (.E 10)
  (.seq (.reg [⟨(some (.V 4)), .mv (kb false), none⟩])
  (.ret))
  (.skip)))
 (.seq (.seq (.reg [⟨(some (.V 5)), .mv (ki 0), none⟩])
 (.block 0 (.loop k_laws_eqIntSS_b0)))
 (.seq (.reg [⟨(some (.V 4)), .mv (kb true), none⟩])
 (.ret))))

def k_laws_eqIntSS_rv : List RV := [.tmp [0] 4]

def k_laws_szStringS_vars : List Nat := [0, 1, 5, 4]

def k_laws_szStringS_b0 : IC :=
 .seq (.seq (.reg [⟨(some (.E 12)), .mv (.V 5), none⟩,
   ⟨(some (.E 13)), .mv (.V 0), none⟩,
   ⟨(some (.E 14)), .len (.E 13), none⟩,
   ⟨(some (.E 15)), .bin .lss (.E 12) (.E 14), none⟩])
 (.cond (.E 15)
  (.skip)
  (.exit 0)))
 (.seq (.block 1 (.seq (.reg [⟨(some (.E 18)), .mv (.V 1), none⟩,
    ⟨(some (.E 19)), .mv (.V 0), none⟩,
    ⟨(some (.E 20)), .mv (.V 5), none⟩,
    ⟨(some (.E 21)), .iaddr 1 (.E 19) (.E 20), none⟩,
    ⟨(some (.E 22)), .load false 1 (.E 21), none⟩,
    ⟨(some (.E 23)), .lenS (.E 22), none⟩,
    ⟨(some (.E 24)), .bin .sub (.E 18) (.E 23), none⟩,
    ⟨(some (.V 1)), .mv (.E 24), none⟩])
  (.seq (.reg [⟨(some (.E 25)), .mv (.V 1), none⟩,
    ⟨(some (.E 26)), .bin .lss (.E 25) (ki 0), none⟩])
  (.cond (.E 26)
   (.seq (.reg [⟨(some (.V 4)), .mv (ki (-1)), none⟩])
   (.ret))
   (.skip)))))
 (.reg [⟨(some (.E 16)), .mv (.V 5), none⟩,
   ⟨(some (.E 17)), .bin .add (.E 16) (ki 1), none⟩,
   ⟨(some (.V 5)), .mv (.E 17), none⟩]))

def k_laws_szStringS_ic : IC :=
 .seq (.reg [⟨(some (.V 4)), .mv (ki 0), none⟩])
 (.seq (.reg [⟨(some (.E 6)), .mv (.V 1), none⟩,
   ⟨(some (.E 7)), .mv (.V 0), none⟩,
   ⟨(some (.E 8)), .len (.E 7), none⟩,
   ⟨(some (.E 9)), .bin .sub (.E 6) (.E 8), none⟩,
   ⟨(some (.V 1)), .mv (.E 9), none⟩])
 (.seq (.seq (.reg [⟨(some (.E 10)), .mv (.V 1), none⟩,
   ⟨(some (.E 11)), .bin .lss (.E 10) (ki 0), none⟩])
 (.cond (.E 11)
  (.seq (.reg [⟨(some (.V 4)), .mv (ki (-1)), none⟩])
  (.ret))
  (.skip)))
 (.seq (.seq (.reg [⟨(some (.V 5)), .mv (ki 0), none⟩])
 (.block 0 (.loop k_laws_szStringS_b0)))
 (.seq (.reg [⟨(some (.E 27)), .mv (.V 1), none⟩,
   ⟨(some (.V 4)), .mv (.E 27), none⟩])
 (.ret)))))

def k_laws_szStringS_rv : List RV := [.tmp [0] 4]

def k_laws_szIntS_vars : List Nat := [0, 1, 4]

def k_laws_szIntS_ic : IC :=
 .seq (.reg [⟨(some (.V 4)), .mv (ki 0), none⟩])
 (.seq (.reg [⟨(some (.E 5)), .mv (.V 1), none⟩,
   ⟨(some (.E 6)), .mv (.V 0), none⟩,
   ⟨(some (.E 7)), .len (.E 6), none⟩,
   ⟨(some (.E 8)), .bin .sub (.E 5) (.E 7), none⟩,
   ⟨(some (.V 1)), .mv (.E 8), none⟩])
 (.seq (.seq (.reg [⟨(some (.E 9)), .mv (.V 1), none⟩,
   ⟨(some (.E 10)), .bin .lss (.E 9) (ki 0), none⟩])
 (.cond (.E 10)
  (.seq (.reg [⟨(some (.V 4)), .mv (ki (-1)), none⟩])
  (.ret))
  (.skip)))
 (.seq (.reg [⟨(some (.E 11)), .mv (.V 1), none⟩,
   ⟨(some (.V 4)), .mv (.E 11), none⟩])
 (.ret))))

def k_laws_szIntS_rv : List RV := [.tmp [0] 4]

def k_laws_szTreeS_vars : List Nat := [0, 1, 5, 4]

def k_laws_szTreeS_b0 : IC :=
 .seq (.seq (.reg [⟨(some (.E 12)), .mv (.V 5), none⟩,
   ⟨(some (.E 13)), .mv (.V 0), none⟩,
   ⟨(some (.E 14)), .len (.E 13), none⟩,
   ⟨(some (.E 15)), .bin .lss (.E 12) (.E 14), none⟩])
 (.cond (.E 15)
  (.skip)
  (.exit 0)))
 (.seq (.block 1 (.seq (.reg [⟨(some (.E 18)), .mv (.V 0), none⟩,
    ⟨(some (.E 19)), .mv (.V 5), none⟩,
    ⟨(some (.E 20)), .iaddr 1 (.E 18) (.E 19), none⟩,
    ⟨(some (.E 21)), .load true 1 (.E 20), none⟩,
    ⟨(some (.E 22)), .mv (.V 1), none⟩,
    ⟨(some (.E 23)), .call k_laws_szTree [([5], (.E 21)), ([0], (.E 22))], none⟩,
    ⟨(some (.V 1)), .mv (.E 23), none⟩])
  (.seq (.reg [⟨(some (.E 24)), .mv (.V 1), none⟩,
    ⟨(some (.E 25)), .bin .lss (.E 24) (ki 0), none⟩])
  (.cond (.E 25)
   (.seq (.reg [⟨(some (.V 4)), .mv (ki (-1)), none⟩])
   (.ret))
   (.skip)))))
 (.reg [⟨(some (.E 16)), .mv (.V 5), none⟩,
   ⟨(some (.E 17)), .bin .add (.E 16) (ki 1), none⟩,
   ⟨(some (.V 5)), .mv (.E 17), none⟩]))

def k_laws_szTreeS_ic : IC :=
 .seq (.reg [⟨(some (.V 4)), .mv (ki 0), none⟩])
 (.seq (.reg [⟨(some (.E 6)), .mv (.V 1), none⟩,
   ⟨(some (.E 7)), .mv (.V 0), none⟩,
   ⟨(some (.E 8)), .len (.E 7), none⟩,
   ⟨(some (.E 9)), .bin .sub (.E 6) (.E 8), none⟩,
   ⟨(some (.V 1)), .mv (.E 9), none⟩])
 (.seq (.seq (.reg [⟨(some (.E 10)), .mv (.V 1), none⟩,
   ⟨(some (.E 11)), .bin .lss (.E 10) (ki 0), none⟩])
 (.cond (.E 11)
  (.seq (.reg [⟨(some (.V 4)), .mv (ki (-1)), none⟩])
  (.ret))
  (.skip)))
 (.seq (.seq (.reg [⟨(some (.V 5)), .mv (ki 0), none⟩])
 (.block 0 (.loop k_laws_szTreeS_b0)))
 (.seq (.reg [⟨(some (.E 26)), .mv (.V 1), none⟩,
   ⟨(some (.V 4)), .mv (.E 26), none⟩])
 (.ret)))))

def k_laws_szTreeS_rv : List RV := [.tmp [0] 4]

def k_laws_toStringS_vars : List Nat := [0, 4, 3, 2]

def k_laws_toStringS_b0 : IC :=
 .seq (.seq (.reg [⟨(some (.E 8)), .mv (.V 4), none⟩,
   ⟨(some (.E 9)), .mv (.V 0), none⟩,
   ⟨(some (.E 10)), .len (.E 9), none⟩,
   ⟨(some (.E 11)), .bin .lss (.E 8) (.E 10), none⟩])
 (.cond (.E 11)
  (.skip)
  (.exit 0)))
 (.seq (.block 1 (.reg [⟨(some (.E 14)), .mv (.V 3), none⟩,
    ⟨(some (.E 15)), .mv (.V 4), none⟩,
    ⟨(some (.E 16)), .mv (.V 0), none⟩,
    ⟨(some (.E 17)), .mv (.V 4), none⟩,
    ⟨(some (.E 18)), .iaddr 1 (.E 16) (.E 17), none⟩,
    ⟨(some (.E 19)), .load false 1 (.E 18), none⟩,
    ⟨(some (.E 20)), .iaddr 1 (.E 14) (.E 15), none⟩,
    ⟨none, .store [0] (.E 20) (.E 19), none⟩]))
 (.reg [⟨(some (.E 12)), .mv (.V 4), none⟩,
   ⟨(some (.E 13)), .bin .add (.E 12) (ki 1), none⟩,
   ⟨(some (.V 4)), .mv (.E 13), none⟩]))

def k_laws_toStringS_ic : IC :=
 .seq (.reg [⟨(some (.V 2)), .mv (.C .e0), none⟩])
 (.seq (.reg [⟨(some (.E 5)), .mv (.V 0), none⟩,
   ⟨(some (.E 6)), .len (.E 5), none⟩,
   ⟨(some (.E 7)), .mksl 16 1 [(.v (.string (bs [])))] (.E 6) (.E 6), none⟩,
   ⟨(some (.V 3)), .mv (.E 7), none⟩])
 (.seq (.seq (.reg [⟨(some (.V 4)), .mv (ki 0), none⟩])
 (.block 0 (.loop k_laws_toStringS_b0)))
 (.seq (.reg [⟨(some (.E 21)), .mv (.V 3), none⟩,
   ⟨(some (.V 2)), .mv (.E 21), none⟩])
 (.ret))))

def k_laws_toStringS_rv : List RV := [.tmp [1] 2]

def k_laws_toTreeS_vars : List Nat := [0, 4, 3, 2]

def k_laws_toTreeS_b0 : IC :=
 .seq (.seq (.reg [⟨(some (.E 8)), .mv (.V 4), none⟩,
   ⟨(some (.E 9)), .mv (.V 0), none⟩,
   ⟨(some (.E 10)), .len (.E 9), none⟩,
   ⟨(some (.E 11)), .bin .lss (.E 8) (.E 10), none⟩])
 (.cond (.E 11)
  (.skip)
  (.exit 0)))
 (.seq (.block 1 (.reg [⟨(some (.E 14)), .mv (.V 3), none⟩,
    ⟨(some (.E 15)), .mv (.V 4), none⟩,
    ⟨(some (.E 16)), .mv (.V 0), none⟩,
    ⟨(some (.E 17)), .mv (.V 4), none⟩,
    ⟨(some (.E 18)), .iaddr 1 (.E 16) (.E 17), none⟩,
    ⟨(some (.E 19)), .load true 1 (.E 18), none⟩,
    ⟨(some (.E 20)), .call k_laws_toTree [([5], (.E 19))], none⟩,
    ⟨(some (.E 21)), .iaddr 1 (.E 14) (.E 15), none⟩,
    ⟨none, .store [5] (.E 21) (.E 20), none⟩]))
 (.reg [⟨(some (.E 12)), .mv (.V 4), none⟩,
   ⟨(some (.E 13)), .bin .add (.E 12) (ki 1), none⟩,
   ⟨(some (.V 4)), .mv (.E 13), none⟩]))

def k_laws_toTreeS_ic : IC :=
 .seq (.reg [⟨(some (.V 2)), .mv (.C .e0), none⟩])
 (.seq (.reg [⟨(some (.E 5)), .mv (.V 0), none⟩,
   ⟨(some (.E 6)), .len (.E 5), none⟩,
   ⟨(some (.E 7)), .mksl 24 1 [(.own 5 [])] (.E 6) (.E 6), none⟩,
   ⟨(some (.V 3)), .mv (.E 7), none⟩])
 (.seq (.seq (.reg [⟨(some (.V 4)), .mv (ki 0), none⟩])
 (.block 0 (.loop k_laws_toTreeS_b0)))
 (.seq (.reg [⟨(some (.E 22)), .mv (.V 3), none⟩,
   ⟨(some (.V 2)), .mv (.E 22), none⟩])
 (.ret))))

def k_laws_toTreeS_rv : List RV := [.tmp [1] 2]

def k_laws_eqStringS_vars : List Nat := [0, 1, 5, 4]

def k_laws_eqStringS_b0 : IC :=
 .seq (.seq (.reg [⟨(some (.E 11)), .mv (.V 5), none⟩,
   ⟨(some (.E 12)), .mv (.V 0), none⟩,
   ⟨(some (.E 13)), .len (.E 12), none⟩,
   ⟨(some (.E 14)), .bin .lss (.E 11) (.E 13), none⟩])
 (.cond (.E 14)
  (.skip)
  (.exit 0)))
 (.seq (.block 1 (.seq (.regD [(⟨(some (.E 17)), .mv (.V 0), none⟩, 0, 0),
    (⟨(some (.E 18)), .mv (.V 5), none⟩, 0, 0),
    (⟨(some (.E 19)), .iaddr 1 (.E 17) (.E 18), none⟩, 0, 0),
    (⟨(some (.E 20)), .load false 1 (.E 19), none⟩, 0, 0),
    (⟨(some (.E 21)), .mv (.V 1), none⟩, 0, 0),
    (⟨(some (.E 22)), .mv (.V 5), none⟩, 0, 0),
    (⟨(some (.E 23)), .iaddr 1 (.E 21) (.E 22), none⟩, 0, 0),
    (⟨(some (.E 24)), .load false 1 (.E 23), none⟩, 0, 0),
    (⟨(some (.E 25)), .bin .neq (.E 20) (.E 24), none⟩, 0, 0)])
  (.cond (.E 25)
   (.seq (.reg [⟨(some (.V 4)), .mv (kb false), none⟩])
   (.ret))
   (.skip))))
 (.reg [⟨(some (.E 15)), .mv (.V 5), none⟩,
   ⟨(some (.E 16)), .bin .add (.E 15) (ki 1), none⟩,
   ⟨(some (.V 5)), .mv (.E 16), none⟩]))

def k_laws_eqStringS_ic : IC :=
 .seq (.reg [⟨(some (.V 4)), .mv (kb false), none⟩])
 (.seq (.seq (.reg [⟨(some (.E 6)), .mv (.V 0), none⟩,
   ⟨(some (.E 7)), .len (.E 6), none⟩,
   ⟨(some (.E 8)), .mv (.V 1), none⟩,
   ⟨(some (.E 9)), .len (.E 8), none⟩,
   ⟨(some (.E 10)), .bin .neq (.E 7) (.E 9), none⟩])
 (.cond (.E 10)
  (.seq (.reg [⟨(some (.V 4)), .mv (kb false), none⟩])
  (.ret))
  (.skip)))
 (.seq (.seq (.reg [⟨(some (.V 5)), .mv (ki 0), none⟩])
 (.block 0 (.loop k_laws_eqStringS_b0)))
 (.seq (.reg [⟨(some (.V 4)), .mv (kb true), none⟩])
 (.ret))))

def k_laws_eqStringS_rv : List RV := [.tmp [0] 4]

def k_laws_eqTreeS_vars : List Nat := [0, 1, 5, 4]

def k_laws_eqTreeS_b0 : IC :=
 .seq (.seq (.reg [⟨(some (.E 11)), .mv (.V 5), none⟩,
   ⟨(some (.E 12)), .mv (.V 0), none⟩,
   ⟨(some (.E 13)), .len (.E 12), none⟩,
   ⟨(some (.E 14)), .bin .lss (.E 11) (.E 13), none⟩])
 (.cond (.E 14)
  (.skip)
  (.exit 0)))
 (.seq (.block 1 (.seq (.regD [(⟨(some (.E 17)), .mv (.V 0), none⟩, 0, 0),
    (⟨(some (.E 18)), .mv (.V 5), none⟩, 0, 0),
    (⟨(some (.E 19)), .iaddr 1 (.E 17) (.E 18), none⟩, 0, 0),
    (⟨(some (.E 20)), .load true 1 (.E 19), none⟩, 0, 0),
    (⟨(some (.E 21)), .mv (.V 1), none⟩, 0, 0),
    (⟨(some (.E 22)), .mv (.V 5), none⟩, 0, 0),
    (⟨(some (.E 23)), .iaddr 1 (.E 21) (.E 22), none⟩, 0, 0),
    (⟨(some (.E 24)), .load true 1 (.E 23), none⟩, 0, 0),
    (⟨(some (.E 25)), .call k_laws_eqTree [([5], (.E 20)), ([5], (.E 24))], none⟩, 0, 0),
    (⟨(some (.E 26)), .un .not (.E 25), none⟩, 0, 0)])
  (.cond (.E 26)
   (.seq (.reg [⟨(some (.V 4)), .mv (kb false), none⟩])
   (.ret))
   (.skip))))
 (.reg [⟨(some (.E 15)), .mv (.V 5), none⟩,
   ⟨(some (.E 16)), .bin .add (.E 15) (ki 1), none⟩,
   ⟨(some (.V 5)), .mv (.E 16), none⟩]))

def k_laws_eqTreeS_ic : IC :=
 .seq (.reg [⟨(some (.V 4)), .mv (kb false), none⟩])
 (.seq (.seq (.reg [⟨(some (.E 6)), .mv (.V 0), none⟩,
   ⟨(some (.E 7)), .len (.E 6), none⟩,
   ⟨(some (.E 8)), .mv (.V 1), none⟩,
   ⟨(some (.E 9)), .len (.E 8), none⟩,
   ⟨(some (.E 10)), .bin .neq (.E 7) (.E 9), none⟩])
 (.cond (.E 10)
  (.seq (.reg [⟨(some (.V 4)), .mv (kb false), none⟩])
  (.ret))
  (.skip)))
 (.seq (.seq (.reg [⟨(some (.V 5)), .mv (ki 0), none⟩])
 (.block 0 (.loop k_laws_eqTreeS_b0)))
 (.seq (.reg [⟨(some (.V 4)), .mv (kb true), none⟩])
 (.ret))))

def k_laws_eqTreeS_rv : List RV := [.tmp [0] 4]

def k_laws_szNodeS_vars : List Nat := [0, 1, 4]

def k_laws_szNodeS_ic : IC :=
 .seq (.reg [⟨(some (.V 4)), .mv (ki 0), none⟩])
 (.seq (.reg [⟨(some (.E 5)), .mv (.V 1), none⟩,
   ⟨(some (.E 6)), .mv (.V 0), none⟩,
   ⟨(some (.E 7)), .len (.E 6), none⟩,
   ⟨(some (.E 8)), .bin .sub (.E 5) (.E 7), none⟩,
   ⟨(some (.V 1)), .mv (.E 8), none⟩])
 (.seq (.seq (.reg [⟨(some (.E 9)), .mv (.V 1), none⟩,
   ⟨(some (.E 10)), .bin .lss (.E 9) (ki 0), none⟩])
 (.cond (.E 10)
  (.seq (.reg [⟨(some (.V 4)), .mv (ki (-1)), none⟩])
  (.ret))
  (.skip)))
 (.seq (.reg [⟨(some (.E 11)), .mv (.V 1), none⟩,
   ⟨(some (.V 4)), .mv (.E 11), none⟩])
 (.ret))))

def k_laws_szNodeS_rv : List RV := [.tmp [0] 4]

def k_laws_toNodeS_vars : List Nat := [0, 4, 3, 2]

def k_laws_toNodeS_b0 : IC :=
 .seq (.seq (.reg [⟨(some (.E 8)), .mv (.V 4), none⟩,
   ⟨(some (.E 9)), .mv (.V 0), none⟩,
   ⟨(some (.E 10)), .len (.E 9), none⟩,
   ⟨(some (.E 11)), .bin .lss (.E 8) (.E 10), none⟩])
 (.cond (.E 11)
  (.skip)
  (.exit 0)))
 (.seq (.block 1 (.reg [⟨(some (.E 14)), .mv (.V 3), none⟩,
    ⟨(some (.E 15)), .mv (.V 4), none⟩,
    ⟨(some (.E 16)), .mv (.V 0), none⟩,
    ⟨(some (.E 17)), .mv (.V 4), none⟩,
    ⟨(some (.E 18)), .iaddr 5 (.E 16) (.E 17), none⟩,
    ⟨(some (.E 19)), .load true 5 (.E 18), none⟩,
    ⟨(some (.E 20)), .call k_laws_toNode [([0, 0, 0, 0, 0], (.E 19))], none⟩,
    ⟨(some (.E 21)), .iaddr 5 (.E 14) (.E 15), none⟩,
    ⟨none, .store [0, 0, 0, 0, 0] (.E 21) (.E 20), none⟩]))
 (.reg [⟨(some (.E 12)), .mv (.V 4), none⟩,
   ⟨(some (.E 13)), .bin .add (.E 12) (ki 1), none⟩,
   ⟨(some (.V 4)), .mv (.E 13), none⟩]))

def k_laws_toNodeS_ic : IC :=
 .seq (.reg [⟨(some (.V 2)), .mv (.C .e0), none⟩])
 (.seq (.reg [⟨(some (.E 5)), .mv (.V 0), none⟩,
   ⟨(some (.E 6)), .len (.E 5), none⟩,
   ⟨(some (.E 7)), .mksl 40 5 [(.v (.int .i64 0)), (.v (.int .i64 0)), (.v (.int .i64 0)), (.v (.int .i64 0)), (.v (.int .i64 0))] (.E 6) (.E 6), none⟩,
   ⟨(some (.V 3)), .mv (.E 7), none⟩])
 (.seq (.seq (.reg [⟨(some (.V 4)), .mv (ki 0), none⟩])
 (.block 0 (.loop k_laws_toNodeS_b0)))
 (.seq (.reg [⟨(some (.E 22)), .mv (.V 3), none⟩,
   ⟨(some (.V 2)), .mv (.E 22), none⟩])
 (.ret))))

def k_laws_toNodeS_rv : List RV := [.tmp [5] 2]

def k_laws_eqNodeS_vars : List Nat := [0, 1, 5, 4]

def k_laws_eqNodeS_b0 : IC :=
 .seq (.seq (.reg [⟨(some (.E 11)), .mv (.V 5), none⟩,
   ⟨(some (.E 12)), .mv (.V 0), none⟩,
   ⟨(some (.E 13)), .len (.E 12), none⟩,
   ⟨(some (.E 14)), .bin .lss (.E 11) (.E 13), none⟩])
 (.cond (.E 14)
  (.skip)
  (.exit 0)))
 (.seq (.block 1 (.seq (.regD [(⟨(some (.E 17)), .mv (.V 0), none⟩, 0, 0),
    (⟨(some (.E 18)), .mv (.V 5), none⟩, 0, 0),
    (⟨(some (.E 19)), .iaddr 5 (.E 17) (.E 18), none⟩, 0, 0),
    (⟨(some (.E 20)), .load true 5 (.E 19), none⟩, 0, 0),
    (⟨(some (.E 21)), .mv (.V 1), none⟩, 0, 0),
    (⟨(some (.E 22)), .mv (.V 5), none⟩, 0, 0),
    (⟨(some (.E 23)), .iaddr 5 (.E 21) (.E 22), none⟩, 0, 0),
    (⟨(some (.E 24)), .load true 5 (.E 23), none⟩, 0, 0),
    (⟨(some (.E 25)), .call k_laws_eqNode [([0, 0, 0, 0, 0], (.E 20)), ([0, 0, 0, 0, 0], (.E 24))], none⟩, 0, 0),
    (⟨(some (.E 26)), .un .not (.E 25), none⟩, 0, 0)])
  (.cond (.E 26)
   (.seq (.reg [⟨(some (.V 4)), .mv (kb false), none⟩])
   (.ret))
   (.skip))))
 (.reg [⟨(some (.E 15)), .mv (.V 5), none⟩,
   ⟨(some (.E 16)), .bin .add (.E 15) (ki 1), none⟩,
   ⟨(some (.V 5)), .mv (.E 16), none⟩]))

def k_laws_eqNodeS_ic : IC :=
 .seq (.reg [⟨(some (.V 4)), .mv (kb false), none⟩])
 (.seq (.seq (.reg [⟨(some (.E 6)), .mv (.V 0), none⟩,
   ⟨(some (.E 7)), .len (.E 6), none⟩,
   ⟨(some (.E 8)), .mv (.V 1), none⟩,
   ⟨(some (.E 9)), .len (.E 8), none⟩,
   ⟨(some (.E 10)), .bin .neq (.E 7) (.E 9), none⟩])
 (.cond (.E 10)
  (.seq (.reg [⟨(some (.V 4)), .mv (kb false), none⟩])
  (.ret))
  (.skip)))
 (.seq (.seq (.reg [⟨(some (.V 5)), .mv (ki 0), none⟩])
 (.block 0 (.loop k_laws_eqNodeS_b0)))
 (.seq (.reg [⟨(some (.V 4)), .mv (kb true), none⟩])
 (.ret))))

def k_laws_eqNodeS_rv : List RV := [.tmp [0] 4]

def k_spec_Residuals_vars : List Nat := [0, 1, 6, 7, 9, 8, 4, 5]

def k_spec_Residuals_b0 : IC :=
 .seq (.seq (.reg [⟨(some (.E 17)), .mv (.V 7), none⟩,
   ⟨(some (.E 18)), .mv (.V 0), none⟩,
   ⟨(some (.E 19)), .len (.E 18), none⟩,
   ⟨(some (.E 20)), .bin .lss (.E 17) (.E 19), none⟩])
 (.cond (.E 20)
  (.skip)
  (.exit 0)))
 (.seq (.block 1 (.seq (.regD [(⟨(some (.E 24)), .mv (.V 0), none⟩, 0, 0),
    (⟨(some (.E 25)), .mv (.V 7), none⟩, 0, 0),
    (⟨(some (.E 26)), .iaddr 1 (.E 24) (.E 25), none⟩, 0, 0),
    (⟨(some (.E 27)), .load false 1 (.E 26), none⟩, 0, 0),
    (⟨(some (.E 28)), .mv (.V 1), none⟩, 0, 0),
    (⟨(some (.E 29)), .mv (.V 7), none⟩, 0, 0),
    (⟨(some (.E 30)), .iaddr 1 (.E 28) (.E 29), none⟩, 0, 0),
    (⟨(some (.E 31)), .load false 1 (.E 30), none⟩, 0, 0),
    (⟨(some (.E 32)), .call k_spec_SubInt [([0], (.E 27)), ([0], (.E 31))], none⟩, 0, 0),
    (⟨(some (.E 23)), .mv (.E 32), none⟩, 0, 0),
    (⟨(some (.E 33)), .ext 0 (.E 23), none⟩, 0, 0),
    (⟨(some (.E 34)), .ext 1 (.E 23), none⟩, 0, 0),
    (⟨(some (.V 8)), .mv (.E 33), none⟩, 0, 0),
    (⟨(some (.V 9)), .mv (.E 34), none⟩, 0, 0)])
  (.seq (.seq (.reg [⟨(some (.E 35)), .mv (.V 9), none⟩,
    ⟨(some (.E 36)), .un .not (.E 35), none⟩])
  (.cond (.E 36)
   (.seq (.reg [⟨(some (.E 37)), .bslice 0 1 [(.v (.int .i64 0))] [], none⟩,
     ⟨(some (.V 4)), .mv (.E 37), none⟩,
     ⟨(some (.V 5)), .mv (kb false), none⟩])
   (.ret))
   (.skip)))
  (.reg [⟨(some (.E 38)), .mv (.V 6), none⟩,
    ⟨(some (.E 39)), .mv (.V 8), none⟩,
    ⟨(some (.E 40)), .bslice 1 1 [(.v (.int .i64 0))] [(0, (.E 39))], none⟩,
    ⟨(some (.E 41)), .app 8 1 (.E 38) (.E 40), none⟩,
    ⟨(some (.V 6)), .mv (.E 41), none⟩]))))
 (.reg [⟨(some (.E 21)), .mv (.V 7), none⟩,
   ⟨(some (.E 22)), .bin .add (.E 21) (ki 1), none⟩,
   ⟨(some (.V 7)), .mv (.E 22), none⟩]))

def k_spec_Residuals_ic : IC :=
 .seq (.reg [⟨(some (.V 4)), .mv (.C .e0), none⟩,
   ⟨(some (.V 5)), .mv (kb false), none⟩])
 (.seq (.reg [⟨(some (.E 10)), .bslice 0 1 [(.v (.int .i64 0))] [], none⟩,
   ⟨(some (.V 6)), .mv (.E 10), none⟩])
 (.seq (.seq (.reg [⟨(some (.E 11)), .mv (.V 0), none⟩,
   ⟨(some (.E 12)), .len (.E 11), none⟩,
   ⟨(some (.E 13)), .mv (.V 1), none⟩,
   ⟨(some (.E 14)), .len (.E 13), none⟩,
   ⟨(some (.E 15)), .bin .neq (.E 12) (.E 14), none⟩])
 (.cond (.E 15)
  (.seq (.reg [⟨(some (.E 16)), .mv (.V 6), none⟩,
    ⟨(some (.V 4)), .mv (.E 16), none⟩,
    ⟨(some (.V 5)), .mv (kb false), none⟩])
  (.ret))
  (.skip)))
 (.seq (.seq (.reg [⟨(some (.V 7)), .mv (ki 0), none⟩])
 (.block 0 (.loop k_spec_Residuals_b0)))
 (.seq (.reg [⟨(some (.E 42)), .mv (.V 6), none⟩,
   ⟨(some (.V 4)), .mv (.E 42), none⟩,
   ⟨(some (.V 5)), .mv (kb true), none⟩])
 (.ret)))))

def k_spec_Residuals_rv : List RV := [.tmp [1] 4, .tmp [0] 5]

def k_spec_LossOf_vars : List Nat := [0, 5, 4, 7, 2, 6, 3]

def k_spec_LossOf_b0 : IC :=
 .seq (.seq (.reg [⟨(some (.E 9)), .mv (.V 5), none⟩,
   ⟨(some (.E 10)), .mv (.V 0), none⟩,
   ⟨(some (.E 11)), .len (.E 10), none⟩,
   ⟨(some (.E 12)), .bin .lss (.E 9) (.E 11), none⟩])
 (.cond (.E 12)
  (.skip)
  (.exit 0)))
 (.seq (.block 1 (.seq (.regD [(⟨(some (.E 16)), .load true 3 (.V 4), none⟩, 0, 1),
    (⟨(some (.E 17)), .mv (.V 0), none⟩, 0, 0),
    (⟨(some (.E 18)), .mv (.V 5), none⟩, 0, 0),
    (⟨(some (.E 19)), .iaddr 1 (.E 17) (.E 18), none⟩, 0, 0),
    (⟨(some (.E 20)), .load false 1 (.E 19), none⟩, 0, 0),
    (⟨(some (.E 21)), .mv (.V 0), none⟩, 0, 0),
    (⟨(some (.E 22)), .mv (.V 5), none⟩, 0, 0),
    (⟨(some (.E 23)), .iaddr 1 (.E 21) (.E 22), none⟩, 0, 0),
    (⟨(some (.E 24)), .load false 1 (.E 23), none⟩, 0, 0),
    (⟨(some (.E 25)), .call k_spec_MulWide [([0], (.E 20)), ([0], (.E 24))], none⟩, 0, 0),
    (⟨(some (.E 26)), .call k_spec_AddWide [([0, 0, 0], (.E 16)), ([0, 0, 0], (.E 25))], none⟩, 0, 0),
    (⟨(some (.E 15)), .mv (.E 26), none⟩, 0, 0),
    (⟨(some (.E 27)), .ext 0 (.E 15), none⟩, 0, 0),
    (⟨(some (.E 28)), .ext 1 (.E 15), none⟩, 0, 0),
    (⟨(some (.V 6)), .allocL [(.v (.bool false)), (.v (.int .u64 0)), (.v (.int .u64 0))], none⟩, 0, 0),
    (⟨none, .store [0, 0, 0] (.V 6) (.E 27), none⟩, 0, 0),
    (⟨(some (.V 7)), .mv (.E 28), none⟩, 0, 0)])
  (.seq (.seq (.reg [⟨(some (.E 29)), .mv (.V 7), none⟩,
    ⟨(some (.E 30)), .un .not (.E 29), none⟩])
  (.cond (.E 30)
   (.seq (.reg [⟨(some (.E 31)), .build [(.v (.bool false)), (.v (.int .u64 0)), (.v (.int .u64 0))] [], none⟩,
     ⟨none, .store [0, 0, 0] (.V 2) (.E 31), none⟩,
     ⟨(some (.V 3)), .mv (kb false), none⟩])
   (.ret))
   (.skip)))
  (.reg [⟨(some (.E 32)), .load true 3 (.V 6), none⟩,
    ⟨none, .store [0, 0, 0] (.V 4) (.E 32), none⟩]))))
 (.reg [⟨(some (.E 13)), .mv (.V 5), none⟩,
   ⟨(some (.E 14)), .bin .add (.E 13) (ki 1), none⟩,
   ⟨(some (.V 5)), .mv (.E 14), none⟩]))

def k_spec_LossOf_ic : IC :=
 .seq (.reg [⟨(some (.V 2)), .alloc [(.v (.bool false)), (.v (.int .u64 0)), (.v (.int .u64 0))], none⟩,
   ⟨(some (.V 3)), .mv (kb false), none⟩])
 (.seq (.reg [⟨(some (.E 8)), .build [(.v (.bool false)), (.v (.int .u64 0)), (.v (.int .u64 0))] [], none⟩,
   ⟨(some (.V 4)), .alloc [(.v (.bool false)), (.v (.int .u64 0)), (.v (.int .u64 0))], none⟩,
   ⟨none, .store [0, 0, 0] (.V 4) (.E 8), none⟩])
 (.seq (.seq (.reg [⟨(some (.V 5)), .mv (ki 0), none⟩])
 (.block 0 (.loop k_spec_LossOf_b0)))
 (.seq (.reg [⟨(some (.E 33)), .load true 3 (.V 4), none⟩,
   ⟨none, .store [0, 0, 0] (.V 2) (.E 33), none⟩,
   ⟨(some (.V 3)), .mv (kb true), none⟩])
 (.ret))))

def k_spec_LossOf_rv : List RV := [.cell [0, 0, 0] 2 true, .tmp [0] 3]

def k_impl_Residuals_vars : List Nat := [0, 1, 18, 17, 7, 9, 6, 8, 4, 5]

def k_impl_Residuals_b0 : IC :=
 .seq (.reg [⟨(some (.E 19)), .bin .lss (.V 18) (.V 17), none⟩])
 (.seq (.cond (.E 19)
  (.skip)
  (.exit 0))
 (.seq (.block 1 (.seq (.reg [⟨(some (.E 20)), .mv (.V 18), none⟩,
    ⟨(some (.V 7)), .mv (.E 20), none⟩])
  (.seq (.regD [(⟨(some (.E 22)), .mv (.V 0), none⟩, 0, 0),
    (⟨(some (.E 23)), .mv (.V 7), none⟩, 0, 0),
    (⟨(some (.E 24)), .iaddr 1 (.E 22) (.E 23), none⟩, 0, 0),
    (⟨(some (.E 25)), .load false 1 (.E 24), none⟩, 0, 0),
    (⟨(some (.E 26)), .mv (.V 1), none⟩, 0, 0),
    (⟨(some (.E 27)), .mv (.V 7), none⟩, 0, 0),
    (⟨(some (.E 28)), .iaddr 1 (.E 26) (.E 27), none⟩, 0, 0),
    (⟨(some (.E 29)), .load false 1 (.E 28), none⟩, 0, 0),
    (⟨(some (.E 30)), .call k_impl_SubInt [([0], (.E 25)), ([0], (.E 29))], none⟩, 0, 0),
    (⟨(some (.E 21)), .mv (.E 30), none⟩, 0, 0),
    (⟨(some (.E 31)), .ext 0 (.E 21), none⟩, 0, 0),
    (⟨(some (.E 32)), .ext 1 (.E 21), none⟩, 0, 0),
    (⟨(some (.V 8)), .mv (.E 31), none⟩, 0, 0),
    (⟨(some (.V 9)), .mv (.E 32), none⟩, 0, 0)])
  (.seq (.seq (.reg [⟨(some (.E 33)), .mv (.V 9), none⟩,
    ⟨(some (.E 34)), .un .not (.E 33), none⟩])
  (.cond (.E 34)
   (.seq (.reg [⟨(some (.V 4)), .mv (.C .e0), none⟩,
     ⟨(some (.V 5)), .mv (kb false), none⟩])
   (.ret))
   (.skip)))
  (.reg [⟨(some (.E 35)), .mv (.V 6), none⟩,
    ⟨(some (.E 36)), .mv (.V 8), none⟩,
    ⟨(some (.E 37)), .bslice 1 1 [(.v (.int .i64 0))] [(0, (.E 36))], none⟩,
    ⟨(some (.E 38)), .app 8 1 (.E 35) (.E 37), none⟩,
    ⟨(some (.V 6)), .mv (.E 38), none⟩])))))
 (.reg [⟨(some (.E 39)), .bin .add (.V 18) (ki 1), none⟩,
   ⟨(some (.V 18)), .mv (.E 39), none⟩])))

def k_impl_Residuals_ic : IC :=
 .seq (.reg [⟨(some (.V 4)), .mv (.C .e0), none⟩,
   ⟨(some (.V 5)), .mv (kb false), none⟩])
 (.seq (.seq (.reg [⟨(some (.E 10)), .mv (.V 0), none⟩,
   ⟨(some (.E 11)), .len (.E 10), none⟩,
   ⟨(some (.E 12)), .mv (.V 1), none⟩,
   ⟨(some (.E 13)), .len (.E 12), none⟩,
   ⟨(some (.E 14)), .bin .neq (.E 11) (.E 13), none⟩])
 (.cond (.E 14)
  (.seq (.reg [⟨(some (.V 4)), .mv (.C .e0), none⟩,
    ⟨(some (.V 5)), .mv (kb false), none⟩])
  (.ret))
  (.skip)))
 (.seq (.reg [⟨(some (.E 15)), .bslice 0 1 [(.v (.int .i64 0))] [], none⟩,
   ⟨(some (.V 6)), .mv (.E 15), none⟩])
 (.seq (.seq (.reg [⟨(some (.E 16)), .mv (.V 0), none⟩,
   ⟨(some (.V 17)), .len (.E 16), none⟩,
   ⟨(some (.V 18)), .mv (ki 0), none⟩])
 (.block 0 (.loop k_impl_Residuals_b0)))
 (.seq (.reg [⟨(some (.E 40)), .mv (.V 6), none⟩,
   ⟨(some (.V 4)), .mv (.E 40), none⟩,
   ⟨(some (.V 5)), .mv (kb true), none⟩])
 (.ret)))))

def k_impl_Residuals_rv : List RV := [.tmp [1] 4, .tmp [0] 5]

def k_impl_LossOf_vars : List Nat := [0, 12, 11, 10, 4, 6, 8, 2, 7, 3]

def k_impl_LossOf_b0 : IC :=
 .seq (.reg [⟨(some (.E 13)), .bin .lss (.V 12) (.V 11), none⟩])
 (.seq (.cond (.E 13)
  (.skip)
  (.exit 0))
 (.seq (.block 1 (.seq (.reg [⟨(some (.E 14)), .iaddr 1 (.V 10) (.V 12), none⟩,
    ⟨(some (.E 15)), .load false 1 (.E 14), none⟩,
    ⟨(some (.V 6)), .mv (.E 15), none⟩])
  (.seq (.regD [(⟨(some (.E 17)), .load true 3 (.V 4), none⟩, 0, 1),
    (⟨(some (.E 18)), .mv (.V 6), none⟩, 0, 0),
    (⟨(some (.E 19)), .mv (.V 6), none⟩, 0, 0),
    (⟨(some (.E 20)), .call k_impl_MulWide [([0], (.E 18)), ([0], (.E 19))], none⟩, 0, 0),
    (⟨(some (.E 21)), .call k_impl_AddWide [([0, 0, 0], (.E 17)), ([0, 0, 0], (.E 20))], none⟩, 0, 0),
    (⟨(some (.E 16)), .mv (.E 21), none⟩, 0, 0),
    (⟨(some (.E 22)), .ext 0 (.E 16), none⟩, 0, 0),
    (⟨(some (.E 23)), .ext 1 (.E 16), none⟩, 0, 0),
    (⟨(some (.V 7)), .allocL [(.v (.bool false)), (.v (.int .u64 0)), (.v (.int .u64 0))], none⟩, 0, 0),
    (⟨none, .store [0, 0, 0] (.V 7) (.E 22), none⟩, 0, 0),
    (⟨(some (.V 8)), .mv (.E 23), none⟩, 0, 0)])
  (.seq (.seq (.reg [⟨(some (.E 24)), .mv (.V 8), none⟩,
    ⟨(some (.E 25)), .un .not (.E 24), none⟩])
  (.cond (.E 25)
   (.seq (.reg [⟨(some (.E 26)), .build [(.v (.bool false)), (.v (.int .u64 0)), (.v (.int .u64 0))] [], none⟩,
     ⟨none, .store [0, 0, 0] (.V 2) (.E 26), none⟩,
     ⟨(some (.V 3)), .mv (kb false), none⟩])
   (.ret))
   (.skip)))
  (.reg [⟨(some (.E 27)), .load true 3 (.V 7), none⟩,
    ⟨none, .store [0, 0, 0] (.V 4) (.E 27), none⟩])))))
 (.reg [⟨(some (.E 28)), .bin .add (.V 12) (ki 1), none⟩,
   ⟨(some (.V 12)), .mv (.E 28), none⟩])))

def k_impl_LossOf_ic : IC :=
 .seq (.reg [⟨(some (.V 2)), .alloc [(.v (.bool false)), (.v (.int .u64 0)), (.v (.int .u64 0))], none⟩,
   ⟨(some (.V 3)), .mv (kb false), none⟩])
 (.seq (.reg [⟨(some (.E 9)), .build [(.v (.bool false)), (.v (.int .u64 0)), (.v (.int .u64 0))] [], none⟩,
   ⟨(some (.V 4)), .alloc [(.v (.bool false)), (.v (.int .u64 0)), (.v (.int .u64 0))], none⟩,
   ⟨none, .store [0, 0, 0] (.V 4) (.E 9), none⟩])
 (.seq (.seq (.reg [⟨(some (.V 10)), .mv (.V 0), none⟩,
   ⟨(some (.V 11)), .len (.V 10), none⟩,
   ⟨(some (.V 12)), .mv (ki 0), none⟩])
 (.block 0 (.loop k_impl_LossOf_b0)))
 (.seq (.reg [⟨(some (.E 29)), .load true 3 (.V 4), none⟩,
   ⟨none, .store [0, 0, 0] (.V 2) (.E 29), none⟩,
   ⟨(some (.V 3)), .mv (kb true), none⟩])
 (.ret))))

def k_impl_LossOf_rv : List RV := [.cell [0, 0, 0] 2 true, .tmp [0] 3]

def k_laws_toNode_vars : List Nat := [0, 1, 3, 2]

def k_laws_toNode_ic : IC :=
 .seq (.reg [⟨(some (.V 1)), .box (.V 0), none⟩,
   ⟨(some (.V 2)), .alloc [(.v (.int .i64 0)), (.v (.int .i64 0)), (.v (.int .i64 0)), (.v (.int .i64 0)), (.v (.int .i64 0))], none⟩])
 (.seq (.reg [⟨(some (.V 3)), .alloc [(.v (.int .i64 0)), (.v (.int .i64 0)), (.v (.int .i64 0)), (.v (.int .i64 0)), (.v (.int .i64 0))], none⟩])
 (.seq (.reg [⟨(some (.E 4)), .faddr 0 (.V 1), none⟩,
   ⟨(some (.E 5)), .load false 1 (.E 4), none⟩,
   ⟨(some (.E 6)), .faddr 0 (.V 3), none⟩,
   ⟨none, .store [0] (.E 6) (.E 5), none⟩])
 (.seq (.reg [⟨(some (.E 7)), .faddr 1 (.V 1), none⟩,
   ⟨(some (.E 8)), .load false 1 (.E 7), none⟩,
   ⟨(some (.E 9)), .faddr 1 (.V 3), none⟩,
   ⟨none, .store [0] (.E 9) (.E 8), none⟩])
 (.seq (.reg [⟨(some (.E 10)), .faddr 2 (.V 1), none⟩,
   ⟨(some (.E 11)), .load false 1 (.E 10), none⟩,
   ⟨(some (.E 12)), .faddr 2 (.V 3), none⟩,
   ⟨none, .store [0] (.E 12) (.E 11), none⟩])
 (.seq (.reg [⟨(some (.E 13)), .faddr 3 (.V 1), none⟩,
   ⟨(some (.E 14)), .load false 1 (.E 13), none⟩,
   ⟨(some (.E 15)), .faddr 3 (.V 3), none⟩,
   ⟨none, .store [0] (.E 15) (.E 14), none⟩])
 (.seq (.reg [⟨(some (.E 16)), .faddr 4 (.V 1), none⟩,
   ⟨(some (.E 17)), .load false 1 (.E 16), none⟩,
   ⟨(some (.E 18)), .faddr 4 (.V 3), none⟩,
   ⟨none, .store [0] (.E 18) (.E 17), none⟩])
 (.seq (.reg [⟨(some (.E 19)), .load true 5 (.V 3), none⟩,
   ⟨none, .store [0, 0, 0, 0, 0] (.V 2) (.E 19), none⟩])
 (.ret))))))))

def k_laws_toNode_rv : List RV := [.cell [0, 0, 0, 0, 0] 2 true]

def k_laws_eqNode_vars : List Nat := [0, 1, 2, 3, 4]

def k_laws_eqNode_ic : IC :=
 .seq (.reg [⟨(some (.V 2)), .box (.V 0), none⟩,
   ⟨(some (.V 3)), .box (.V 1), none⟩,
   ⟨(some (.V 4)), .mv (kb false), none⟩])
 (.seq (.seq (.reg [⟨(some (.E 5)), .faddr 0 (.V 2), none⟩,
   ⟨(some (.E 6)), .load false 1 (.E 5), none⟩,
   ⟨(some (.E 7)), .faddr 0 (.V 3), none⟩,
   ⟨(some (.E 8)), .load false 1 (.E 7), none⟩,
   ⟨(some (.E 9)), .bin .neq (.E 6) (.E 8), none⟩])
 (.cond (.E 9)
  (.seq (.reg [⟨(some (.V 4)), .mv (kb false), none⟩])
  (.ret))
  (.skip)))
 (.seq (.seq (.reg [⟨(some (.E 10)), .faddr 1 (.V 2), none⟩,
   ⟨(some (.E 11)), .load false 1 (.E 10), none⟩,
   ⟨(some (.E 12)), .faddr 1 (.V 3), none⟩,
   ⟨(some (.E 13)), .load false 1 (.E 12), none⟩,
   ⟨(some (.E 14)), .bin .neq (.E 11) (.E 13), none⟩])
 (.cond (.E 14)
  (.seq (.reg [⟨(some (.V 4)), .mv (kb false), none⟩])
  (.ret))
  (.skip)))
 (.seq (.seq (.reg [⟨(some (.E 15)), .faddr 2 (.V 2), none⟩,
   ⟨(some (.E 16)), .load false 1 (.E 15), none⟩,
   ⟨(some (.E 17)), .faddr 2 (.V 3), none⟩,
   ⟨(some (.E 18)), .load false 1 (.E 17), none⟩,
   ⟨(some (.E 19)), .bin .neq (.E 16) (.E 18), none⟩])
 (.cond (.E 19)
  (.seq (.reg [⟨(some (.V 4)), .mv (kb false), none⟩])
  (.ret))
  (.skip)))
 (.seq (.seq (.reg [⟨(some (.E 20)), .faddr 3 (.V 2), none⟩,
   ⟨(some (.E 21)), .load false 1 (.E 20), none⟩,
   ⟨(some (.E 22)), .faddr 3 (.V 3), none⟩,
   ⟨(some (.E 23)), .load false 1 (.E 22), none⟩,
   ⟨(some (.E 24)), .bin .neq (.E 21) (.E 23), none⟩])
 (.cond (.E 24)
  (.seq (.reg [⟨(some (.V 4)), .mv (kb false), none⟩])
  (.ret))
  (.skip)))
 (.seq (.seq (.reg [⟨(some (.E 25)), .faddr 4 (.V 2), none⟩,
   ⟨(some (.E 26)), .load false 1 (.E 25), none⟩,
   ⟨(some (.E 27)), .faddr 4 (.V 3), none⟩,
   ⟨(some (.E 28)), .load false 1 (.E 27), none⟩,
   ⟨(some (.E 29)), .bin .neq (.E 26) (.E 28), none⟩])
 (.cond (.E 29)
  (.seq (.reg [⟨(some (.V 4)), .mv (kb false), none⟩])
  (.ret))
  (.skip)))
 (.seq (.reg [⟨(some (.V 4)), .mv (kb true), none⟩])
 (.ret)))))))

def k_laws_eqNode_rv : List RV := [.tmp [0] 4]

def k_spec_SubInt_vars : List Nat := [0, 1, 4, 5]

def k_spec_SubInt_ic : IC :=
 .seq (.reg [⟨(some (.V 4)), .mv (ki 0), none⟩,
   ⟨(some (.V 5)), .mv (kb false), none⟩])
 (.seq (.seq (.reg [⟨(some (.E 6)), .mv (.V 1), none⟩,
   ⟨(some (.E 7)), .bin .lss (.E 6) (ki 0), none⟩,
   ⟨(some (.E 8)), .mv (.E 7), none⟩,
   ⟨(some (.E 9)), .mv (.V 0), some ((.E 8), true)⟩,
   ⟨(some (.E 10)), .mv (.V 1), some ((.E 8), true)⟩,
   ⟨(some (.E 11)), .bin .add (ki 9223372036854775807) (.E 10), some ((.E 8), true)⟩,
   ⟨(some (.E 12)), .bin .gtr (.E 9) (.E 11), some ((.E 8), true)⟩,
   ⟨(some (.E 13)), .pick (.E 8) (.E 12) (kb false), none⟩,
   ⟨(some (.E 14)), .mv (.E 13), none⟩,
   ⟨(some (.E 15)), .mv (.V 1), some ((.E 14), false)⟩,
   ⟨(some (.E 16)), .bin .gtr (.E 15) (ki 0), some ((.E 14), false)⟩,
   ⟨(some (.E 17)), .mv (.E 16), some ((.E 14), false)⟩,
   ⟨(some (.E 18)), .mv (.V 0), some ((.E 17), true)⟩,
   ⟨(some (.E 19)), .mv (.V 1), some ((.E 17), true)⟩,
   ⟨(some (.E 20)), .bin .add (ki (-9223372036854775808)) (.E 19), some ((.E 17), true)⟩,
   ⟨(some (.E 21)), .bin .lss (.E 18) (.E 20), some ((.E 17), true)⟩,
   ⟨(some (.E 22)), .pick (.E 17) (.E 21) (kb false), some ((.E 14), false)⟩,
   ⟨(some (.E 23)), .pick (.E 14) (kb true) (.E 22), none⟩])
 (.cond (.E 23)
  (.seq (.reg [⟨(some (.V 4)), .mv (ki 0), none⟩,
    ⟨(some (.V 5)), .mv (kb false), none⟩])
  (.ret))
  (.skip)))
 (.seq (.reg [⟨(some (.E 24)), .mv (.V 0), none⟩,
   ⟨(some (.E 25)), .mv (.V 1), none⟩,
   ⟨(some (.E 26)), .bin .sub (.E 24) (.E 25), none⟩,
   ⟨(some (.V 4)), .mv (.E 26), none⟩,
   ⟨(some (.V 5)), .mv (kb true), none⟩])
 (.ret)))

def k_spec_SubInt_rv : List RV := [.tmp [0] 4, .tmp [0] 5]

def k_spec_AddWide_vars : List Nat := [0, 1, 2, 3, 4, 6, 7, 8, 9, 5]

def k_spec_AddWide_ic : IC :=
 .seq (.reg [⟨(some (.V 2)), .box (.V 0), none⟩,
   ⟨(some (.V 3)), .box (.V 1), none⟩,
   ⟨(some (.V 4)), .alloc [(.v (.bool false)), (.v (.int .u64 0)), (.v (.int .u64 0))], none⟩,
   ⟨(some (.V 5)), .mv (kb false), none⟩])
 (.seq (.seq (.reg [⟨(some (.E 10)), .load true 3 (.V 2), none⟩,
   ⟨(some (.E 11)), .call k_spec_WideOk [([0, 0, 0], (.E 10))], none⟩,
   ⟨(some (.E 12)), .un .not (.E 11), none⟩,
   ⟨(some (.E 13)), .mv (.E 12), none⟩,
   ⟨(some (.E 14)), .load true 3 (.V 3), some ((.E 13), false)⟩,
   ⟨(some (.E 15)), .call k_spec_WideOk [([0, 0, 0], (.E 14))], some ((.E 13), false)⟩,
   ⟨(some (.E 16)), .un .not (.E 15), some ((.E 13), false)⟩,
   ⟨(some (.E 17)), .pick (.E 13) (kb true) (.E 16), none⟩])
 (.cond (.E 17)
  (.seq (.reg [⟨(some (.E 18)), .build [(.v (.bool false)), (.v (.int .u64 0)), (.v (.int .u64 0))] [], none⟩,
    ⟨none, .store [0, 0, 0] (.V 4) (.E 18), none⟩,
    ⟨(some (.V 5)), .mv (kb false), none⟩])
  (.ret))
  (.skip)))
 (.seq (.seq (.reg [⟨(some (.E 19)), .faddr 0 (.V 2), none⟩,
   ⟨(some (.E 20)), .load false 1 (.E 19), none⟩,
   ⟨(some (.E 21)), .faddr 0 (.V 3), none⟩,
   ⟨(some (.E 22)), .load false 1 (.E 21), none⟩,
   ⟨(some (.E 23)), .eqb false [.b] (.E 20) (.E 22), none⟩])
 (.cond (.E 23)
  (.seq (.reg [⟨(some (.E 24)), .faddr 0 (.V 2), none⟩,
    ⟨(some (.E 25)), .load false 1 (.E 24), none⟩,
    ⟨(some (.E 26)), .faddr 1 (.V 2), none⟩,
    ⟨(some (.E 27)), .load false 1 (.E 26), none⟩,
    ⟨(some (.E 28)), .faddr 1 (.V 3), none⟩,
    ⟨(some (.E 29)), .load false 1 (.E 28), none⟩,
    ⟨(some (.E 30)), .bin .add (.E 27) (.E 29), none⟩,
    ⟨(some (.E 31)), .faddr 2 (.V 2), none⟩,
    ⟨(some (.E 32)), .load false 1 (.E 31), none⟩,
    ⟨(some (.E 33)), .faddr 2 (.V 3), none⟩,
    ⟨(some (.E 34)), .load false 1 (.E 33), none⟩,
    ⟨(some (.E 35)), .bin .add (.E 32) (.E 34), none⟩,
    ⟨(some (.E 36)), .build [(.v (.bool false)), (.v (.int .u64 0)), (.v (.int .u64 0))] [(0, 1, (.E 25)), (1, 1, (.E 30)), (2, 1, (.E 35))], none⟩,
    ⟨(some (.V 6)), .alloc [(.v (.bool false)), (.v (.int .u64 0)), (.v (.int .u64 0))], none⟩,
    ⟨none, .store [0, 0, 0] (.V 6) (.E 36), none⟩])
  (.seq (.seq (.reg [⟨(some (.E 37)), .faddr 2 (.V 6), none⟩,
    ⟨(some (.E 38)), .load false 1 (.E 37), none⟩,
    ⟨(some (.E 39)), .faddr 2 (.V 2), none⟩,
    ⟨(some (.E 40)), .load false 1 (.E 39), none⟩,
    ⟨(some (.E 41)), .bin .lss (.E 38) (.E 40), none⟩])
  (.cond (.E 41)
   (.reg [⟨(some (.E 42)), .faddr 1 (.V 6), none⟩,
     ⟨(some (.E 43)), .load false 1 (.E 42), none⟩,
     ⟨(some (.E 44)), .bin .add (.E 43) (.C (.v (.int .u64 1))), none⟩,
     ⟨(some (.E 45)), .faddr 1 (.V 6), none⟩,
     ⟨none, .store [0] (.E 45) (.E 44), none⟩])
   (.skip)))
  (.seq (.seq (.reg [⟨(some (.E 46)), .load true 3 (.V 6), none⟩,
    ⟨(some (.E 47)), .call k_spec_WideOk [([0, 0, 0], (.E 46))], none⟩,
    ⟨(some (.E 48)), .un .not (.E 47), none⟩])
  (.cond (.E 48)
   (.seq (.reg [⟨(some (.E 49)), .build [(.v (.bool false)), (.v (.int .u64 0)), (.v (.int .u64 0))] [], none⟩,
     ⟨none, .store [0, 0, 0] (.V 4) (.E 49), none⟩,
     ⟨(some (.V 5)), .mv (kb false), none⟩])
   (.ret))
   (.skip)))
  (.seq (.reg [⟨(some (.E 50)), .load true 3 (.V 6), none⟩,
    ⟨none, .store [0, 0, 0] (.V 4) (.E 50), none⟩,
    ⟨(some (.V 5)), .mv (kb true), none⟩])
  (.ret)))))
  (.skip)))
 (.seq (.reg [⟨(some (.E 51)), .load true 3 (.V 2), none⟩,
   ⟨(some (.V 7)), .alloc [(.v (.bool false)), (.v (.int .u64 0)), (.v (.int .u64 0))], none⟩,
   ⟨none, .store [0, 0, 0] (.V 7) (.E 51), none⟩])
 (.seq (.reg [⟨(some (.E 52)), .load true 3 (.V 3), none⟩,
   ⟨(some (.V 8)), .alloc [(.v (.bool false)), (.v (.int .u64 0)), (.v (.int .u64 0))], none⟩,
   ⟨none, .store [0, 0, 0] (.V 8) (.E 52), none⟩])
 (.seq (.seq (.reg [⟨(some (.E 53)), .load true 3 (.V 2), none⟩,
   ⟨(some (.E 54)), .load true 3 (.V 3), none⟩,
   ⟨(some (.E 55)), .call k_spec_l3Order [([0, 0, 0], (.E 53)), ([0, 0, 0], (.E 54))], none⟩,
   ⟨(some (.E 56)), .bin .lss (.E 55) (ki 0), none⟩])
 (.cond (.E 56)
  (.seq (.reg [⟨(some (.E 57)), .load true 3 (.V 3), none⟩,
    ⟨none, .store [0, 0, 0] (.V 7) (.E 57), none⟩])
  (.reg [⟨(some (.E 58)), .load true 3 (.V 2), none⟩,
    ⟨none, .store [0, 0, 0] (.V 8) (.E 58), none⟩]))
  (.skip)))
 (.seq (.reg [⟨(some (.E 59)), .faddr 0 (.V 7), none⟩,
   ⟨(some (.E 60)), .load false 1 (.E 59), none⟩,
   ⟨(some (.E 61)), .faddr 1 (.V 7), none⟩,
   ⟨(some (.E 62)), .load false 1 (.E 61), none⟩,
   ⟨(some (.E 63)), .faddr 1 (.V 8), none⟩,
   ⟨(some (.E 64)), .load false 1 (.E 63), none⟩,
   ⟨(some (.E 65)), .bin .sub (.E 62) (.E 64), none⟩,
   ⟨(some (.E 66)), .faddr 2 (.V 7), none⟩,
   ⟨(some (.E 67)), .load false 1 (.E 66), none⟩,
   ⟨(some (.E 68)), .faddr 2 (.V 8), none⟩,
   ⟨(some (.E 69)), .load false 1 (.E 68), none⟩,
   ⟨(some (.E 70)), .bin .sub (.E 67) (.E 69), none⟩,
   ⟨(some (.E 71)), .build [(.v (.bool false)), (.v (.int .u64 0)), (.v (.int .u64 0))] [(0, 1, (.E 60)), (1, 1, (.E 65)), (2, 1, (.E 70))], none⟩,
   ⟨(some (.V 9)), .alloc [(.v (.bool false)), (.v (.int .u64 0)), (.v (.int .u64 0))], none⟩,
   ⟨none, .store [0, 0, 0] (.V 9) (.E 71), none⟩])
 (.seq (.seq (.reg [⟨(some (.E 72)), .faddr 2 (.V 7), none⟩,
   ⟨(some (.E 73)), .load false 1 (.E 72), none⟩,
   ⟨(some (.E 74)), .faddr 2 (.V 8), none⟩,
   ⟨(some (.E 75)), .load false 1 (.E 74), none⟩,
   ⟨(some (.E 76)), .bin .lss (.E 73) (.E 75), none⟩])
 (.cond (.E 76)
  (.reg [⟨(some (.E 77)), .faddr 1 (.V 9), none⟩,
    ⟨(some (.E 78)), .load false 1 (.E 77), none⟩,
    ⟨(some (.E 79)), .bin .sub (.E 78) (.C (.v (.int .u64 1))), none⟩,
    ⟨(some (.E 80)), .faddr 1 (.V 9), none⟩,
    ⟨none, .store [0] (.E 80) (.E 79), none⟩])
  (.skip)))
 (.seq (.seq (.reg [⟨(some (.E 81)), .load true 3 (.V 9), none⟩,
   ⟨(some (.E 82)), .call k_spec_l3Zero [([0, 0, 0], (.E 81))], none⟩])
 (.cond (.E 82)
  (.reg [⟨(some (.E 83)), .faddr 0 (.V 9), none⟩,
    ⟨none, .store [0] (.E 83) (kb false), none⟩])
  (.skip)))
 (.seq (.reg [⟨(some (.E 84)), .load true 3 (.V 9), none⟩,
   ⟨none, .store [0, 0, 0] (.V 4) (.E 84), none⟩,
   ⟨(some (.V 5)), .mv (kb true), none⟩])
 (.ret))))))))))

def k_spec_AddWide_rv : List RV := [.cell [0, 0, 0] 4 true, .tmp [0] 5]

def k_spec_MulWide_vars : List Nat := [0, 1, 5, 6, 4]

def k_spec_MulWide_ic : IC :=
 .seq (.reg [⟨(some (.V 4)), .alloc [(.v (.bool false)), (.v (.int .u64 0)), (.v (.int .u64 0))], none⟩])
 (.seq (.reg [⟨(some (.E 8)), .mv (.V 0), none⟩,
   ⟨(some (.E 9)), .call k_spec_l3Abs [([0], (.E 8))], none⟩,
   ⟨(some (.E 10)), .mv (.V 1), none⟩,
   ⟨(some (.E 11)), .call k_spec_l3Abs [([0], (.E 10))], none⟩,
   ⟨(some (.E 12)), .call k_spec_l3Product [([0], (.E 9)), ([0], (.E 11))], none⟩,
   ⟨(some (.E 7)), .mv (.E 12), none⟩,
   ⟨(some (.E 13)), .ext 0 (.E 7), none⟩,
   ⟨(some (.E 14)), .ext 1 (.E 7), none⟩,
   ⟨(some (.V 5)), .mv (.E 13), none⟩,
   ⟨(some (.V 6)), .mv (.E 14), none⟩])
 (.seq (.reg [⟨(some (.E 15)), .mv (.V 0), none⟩,
   ⟨(some (.E 16)), .bin .lss (.E 15) (ki 0), none⟩,
   ⟨(some (.E 17)), .mv (.V 1), none⟩,
   ⟨(some (.E 18)), .bin .lss (.E 17) (ki 0), none⟩,
   ⟨(some (.E 19)), .eqb true [.b] (.E 16) (.E 18), none⟩,
   ⟨(some (.E 20)), .mv (.E 19), none⟩,
   ⟨(some (.E 21)), .mv (.V 0), some ((.E 20), true)⟩,
   ⟨(some (.E 22)), .bin .neq (.E 21) (ki 0), some ((.E 20), true)⟩,
   ⟨(some (.E 23)), .pick (.E 20) (.E 22) (kb false), none⟩,
   ⟨(some (.E 24)), .mv (.E 23), none⟩,
   ⟨(some (.E 25)), .mv (.V 1), some ((.E 24), true)⟩,
   ⟨(some (.E 26)), .bin .neq (.E 25) (ki 0), some ((.E 24), true)⟩,
   ⟨(some (.E 27)), .pick (.E 24) (.E 26) (kb false), none⟩,
   ⟨(some (.E 28)), .mv (.V 5), none⟩,
   ⟨(some (.E 29)), .mv (.V 6), none⟩,
   ⟨(some (.E 30)), .build [(.v (.bool false)), (.v (.int .u64 0)), (.v (.int .u64 0))] [(0, 1, (.E 27)), (1, 1, (.E 28)), (2, 1, (.E 29))], none⟩,
   ⟨none, .store [0, 0, 0] (.V 4) (.E 30), none⟩])
 (.ret)))

def k_spec_MulWide_rv : List RV := [.cell [0, 0, 0] 4 true]

def k_impl_SubInt_vars : List Nat := [0, 1, 6, 4, 5]

def k_impl_SubInt_ic : IC :=
 .seq (.reg [⟨(some (.V 4)), .mv (ki 0), none⟩,
   ⟨(some (.V 5)), .mv (kb false), none⟩])
 (.seq (.reg [⟨(some (.E 7)), .mv (.V 0), none⟩,
   ⟨(some (.E 8)), .mv (.V 1), none⟩,
   ⟨(some (.E 9)), .bin .sub (.E 7) (.E 8), none⟩,
   ⟨(some (.V 6)), .mv (.E 9), none⟩])
 (.seq (.seq (.reg [⟨(some (.E 10)), .mv (.V 0), none⟩,
   ⟨(some (.E 11)), .bin .lss (.E 10) (ki 0), none⟩,
   ⟨(some (.E 12)), .mv (.V 1), none⟩,
   ⟨(some (.E 13)), .bin .lss (.E 12) (ki 0), none⟩,
   ⟨(some (.E 14)), .eqb true [.b] (.E 11) (.E 13), none⟩,
   ⟨(some (.E 15)), .mv (.E 14), none⟩,
   ⟨(some (.E 16)), .mv (.V 6), some ((.E 15), true)⟩,
   ⟨(some (.E 17)), .bin .lss (.E 16) (ki 0), some ((.E 15), true)⟩,
   ⟨(some (.E 18)), .mv (.V 0), some ((.E 15), true)⟩,
   ⟨(some (.E 19)), .bin .lss (.E 18) (ki 0), some ((.E 15), true)⟩,
   ⟨(some (.E 20)), .eqb true [.b] (.E 17) (.E 19), some ((.E 15), true)⟩,
   ⟨(some (.E 21)), .pick (.E 15) (.E 20) (kb false), none⟩])
 (.cond (.E 21)
  (.seq (.reg [⟨(some (.V 4)), .mv (ki 0), none⟩,
    ⟨(some (.V 5)), .mv (kb false), none⟩])
  (.ret))
  (.skip)))
 (.seq (.reg [⟨(some (.E 22)), .mv (.V 6), none⟩,
   ⟨(some (.V 4)), .mv (.E 22), none⟩,
   ⟨(some (.V 5)), .mv (kb true), none⟩])
 (.ret))))

def k_impl_SubInt_rv : List RV := [.tmp [0] 4, .tmp [0] 5]

def k_impl_AddWide_vars : List Nat := [0, 1, 2, 3, 4, 7, 8, 6, 11, 12, 10, 14, 5]

def k_impl_AddWide_ic : IC :=
 .seq (.reg [⟨(some (.V 2)), .box (.V 0), none⟩,
   ⟨(some (.V 3)), .box (.V 1), none⟩,
   ⟨(some (.V 4)), .alloc [(.v (.bool false)), (.v (.int .u64 0)), (.v (.int .u64 0))], none⟩,
   ⟨(some (.V 5)), .mv (kb false), none⟩])
 (.seq (.seq (.reg [⟨(some (.E 15)), .load true 3 (.V 2), none⟩,
   ⟨(some (.E 16)), .call k_impl_WideOk [([0, 0, 0], (.E 15))], none⟩,
   ⟨(some (.E 17)), .un .not (.E 16), none⟩,
   ⟨(some (.E 18)), .mv (.E 17), none⟩,
   ⟨(some (.E 19)), .load true 3 (.V 3), some ((.E 18), false)⟩,
   ⟨(some (.E 20)), .call k_impl_WideOk [([0, 0, 0], (.E 19))], some ((.E 18), false)⟩,
   ⟨(some (.E 21)), .un .not (.E 20), some ((.E 18), false)⟩,
   ⟨(some (.E 22)), .pick (.E 18) (kb true) (.E 21), none⟩])
 (.cond (.E 22)
  (.seq (.reg [⟨(some (.E 23)), .build [(.v (.bool false)), (.v (.int .u64 0)), (.v (.int .u64 0))] [], none⟩,
    ⟨none, .store [0, 0, 0] (.V 4) (.E 23), none⟩,
    ⟨(some (.V 5)), .mv (kb false), none⟩])
  (.ret))
  (.skip)))
 (.seq (.seq (.reg [⟨(some (.E 24)), .faddr 0 (.V 2), none⟩,
   ⟨(some (.E 25)), .load false 1 (.E 24), none⟩,
   ⟨(some (.E 26)), .faddr 0 (.V 3), none⟩,
   ⟨(some (.E 27)), .load false 1 (.E 26), none⟩,
   ⟨(some (.E 28)), .eqb true [.b] (.E 25) (.E 27), none⟩])
 (.cond (.E 28)
  (.seq (.seq (.reg [⟨(some (.E 29)), .load true 3 (.V 2), none⟩,
    ⟨(some (.E 30)), .load true 3 (.V 3), none⟩,
    ⟨(some (.E 31)), .call k_impl_compareSizes [([0, 0, 0], (.E 29)), ([0, 0, 0], (.E 30))], none⟩,
    ⟨(some (.E 32)), .bin .lss (.E 31) (ki 0), none⟩])
  (.cond (.E 32)
   (.reg [⟨(some (.E 33)), .load true 3 (.V 3), none⟩,
     ⟨(some (.E 34)), .load true 3 (.V 2), none⟩,
     ⟨none, .store [0, 0, 0] (.V 2) (.E 33), none⟩,
     ⟨none, .store [0, 0, 0] (.V 3) (.E 34), none⟩])
   (.skip)))
  (.seq (.reg [⟨(some (.E 36)), .faddr 2 (.V 2), none⟩,
    ⟨(some (.E 37)), .load false 1 (.E 36), none⟩,
    ⟨(some (.E 38)), .faddr 2 (.V 3), none⟩,
    ⟨(some (.E 39)), .load false 1 (.E 38), none⟩,
    ⟨(some (.E 40)), .call k_math_bits_Sub64 [([0], (.E 37)), ([0], (.E 39)), ([0], (.C (.v (.int .u64 0))))], none⟩,
    ⟨(some (.E 35)), .mv (.E 40), none⟩,
    ⟨(some (.E 41)), .ext 0 (.E 35), none⟩,
    ⟨(some (.E 42)), .ext 1 (.E 35), none⟩,
    ⟨(some (.V 6)), .mv (.E 41), none⟩,
    ⟨(some (.V 7)), .mv (.E 42), none⟩])
  (.seq (.reg [⟨(some (.E 44)), .faddr 1 (.V 2), none⟩,
    ⟨(some (.E 45)), .load false 1 (.E 44), none⟩,
    ⟨(some (.E 46)), .faddr 1 (.V 3), none⟩,
    ⟨(some (.E 47)), .load false 1 (.E 46), none⟩,
    ⟨(some (.E 48)), .mv (.V 7), none⟩,
    ⟨(some (.E 49)), .call k_math_bits_Sub64 [([0], (.E 45)), ([0], (.E 47)), ([0], (.E 48))], none⟩,
    ⟨(some (.E 43)), .mv (.E 49), none⟩,
    ⟨(some (.E 50)), .ext 0 (.E 43), none⟩,
    ⟨(some (.E 51)), .ext 1 (.E 43), none⟩,
    ⟨(some (.V 8)), .mv (.E 50), none⟩,
    ⟨(some (.E 9)), .mv (.E 51), none⟩])
  (.seq (.reg [⟨(some (.E 52)), .faddr 0 (.V 2), none⟩,
    ⟨(some (.E 53)), .load false 1 (.E 52), none⟩,
    ⟨(some (.E 54)), .mv (.V 8), none⟩,
    ⟨(some (.E 55)), .mv (.V 6), none⟩,
    ⟨(some (.E 56)), .call k_impl_wideOf [([0], (.E 53)), ([0], (.E 54)), ([0], (.E 55))], none⟩,
    ⟨none, .store [0, 0, 0] (.V 4) (.E 56), none⟩,
    ⟨(some (.V 5)), .mv (kb true), none⟩])
  (.ret)))))
  (.skip)))
 (.seq (.reg [⟨(some (.E 58)), .faddr 2 (.V 2), none⟩,
   ⟨(some (.E 59)), .load false 1 (.E 58), none⟩,
   ⟨(some (.E 60)), .faddr 2 (.V 3), none⟩,
   ⟨(some (.E 61)), .load false 1 (.E 60), none⟩,
   ⟨(some (.E 62)), .call k_math_bits_Add64 [([0], (.E 59)), ([0], (.E 61)), ([0], (.C (.v (.int .u64 0))))], none⟩,
   ⟨(some (.E 57)), .mv (.E 62), none⟩,
   ⟨(some (.E 63)), .ext 0 (.E 57), none⟩,
   ⟨(some (.E 64)), .ext 1 (.E 57), none⟩,
   ⟨(some (.V 10)), .mv (.E 63), none⟩,
   ⟨(some (.V 11)), .mv (.E 64), none⟩])
 (.seq (.reg [⟨(some (.E 66)), .faddr 1 (.V 2), none⟩,
   ⟨(some (.E 67)), .load false 1 (.E 66), none⟩,
   ⟨(some (.E 68)), .faddr 1 (.V 3), none⟩,
   ⟨(some (.E 69)), .load false 1 (.E 68), none⟩,
   ⟨(some (.E 70)), .mv (.V 11), none⟩,
   ⟨(some (.E 71)), .call k_math_bits_Add64 [([0], (.E 67)), ([0], (.E 69)), ([0], (.E 70))], none⟩,
   ⟨(some (.E 65)), .mv (.E 71), none⟩,
   ⟨(some (.E 72)), .ext 0 (.E 65), none⟩,
   ⟨(some (.E 73)), .ext 1 (.E 65), none⟩,
   ⟨(some (.V 12)), .mv (.E 72), none⟩,
   ⟨(some (.E 13)), .mv (.E 73), none⟩])
 (.seq (.reg [⟨(some (.E 74)), .faddr 0 (.V 2), none⟩,
   ⟨(some (.E 75)), .load false 1 (.E 74), none⟩,
   ⟨(some (.E 76)), .mv (.V 12), none⟩,
   ⟨(some (.E 77)), .mv (.V 10), none⟩,
   ⟨(some (.E 78)), .call k_impl_wideOf [([0], (.E 75)), ([0], (.E 76)), ([0], (.E 77))], none⟩,
   ⟨(some (.V 14)), .alloc [(.v (.bool false)), (.v (.int .u64 0)), (.v (.int .u64 0))], none⟩,
   ⟨none, .store [0, 0, 0] (.V 14) (.E 78), none⟩])
 (.seq (.seq (.reg [⟨(some (.E 79)), .load true 3 (.V 14), none⟩,
   ⟨(some (.E 80)), .call k_impl_WideOk [([0, 0, 0], (.E 79))], none⟩,
   ⟨(some (.E 81)), .un .not (.E 80), none⟩])
 (.cond (.E 81)
  (.seq (.reg [⟨(some (.E 82)), .build [(.v (.bool false)), (.v (.int .u64 0)), (.v (.int .u64 0))] [], none⟩,
    ⟨none, .store [0, 0, 0] (.V 4) (.E 82), none⟩,
    ⟨(some (.V 5)), .mv (kb false), none⟩])
  (.ret))
  (.skip)))
 (.seq (.reg [⟨(some (.E 83)), .load true 3 (.V 14), none⟩,
   ⟨none, .store [0, 0, 0] (.V 4) (.E 83), none⟩,
   ⟨(some (.V 5)), .mv (kb true), none⟩])
 (.ret))))))))

def k_impl_AddWide_rv : List RV := [.cell [0, 0, 0] 4 true, .tmp [0] 5]

def k_impl_MulWide_vars : List Nat := [0, 1, 5, 6, 4]

def k_impl_MulWide_ic : IC :=
 .seq (.reg [⟨(some (.V 4)), .alloc [(.v (.bool false)), (.v (.int .u64 0)), (.v (.int .u64 0))], none⟩])
 (.seq (.reg [⟨(some (.E 8)), .mv (.V 0), none⟩,
   ⟨(some (.E 9)), .call k_impl_size [([0], (.E 8))], none⟩,
   ⟨(some (.E 10)), .mv (.V 1), none⟩,
   ⟨(some (.E 11)), .call k_impl_size [([0], (.E 10))], none⟩,
   ⟨(some (.E 12)), .call k_math_bits_Mul64 [([0], (.E 9)), ([0], (.E 11))], none⟩,
   ⟨(some (.E 7)), .mv (.E 12), none⟩,
   ⟨(some (.E 13)), .ext 0 (.E 7), none⟩,
   ⟨(some (.E 14)), .ext 1 (.E 7), none⟩,
   ⟨(some (.V 5)), .mv (.E 13), none⟩,
   ⟨(some (.V 6)), .mv (.E 14), none⟩])
 (.seq (.reg [⟨(some (.E 15)), .mv (.V 0), none⟩,
   ⟨(some (.E 16)), .bin .lss (.E 15) (ki 0), none⟩,
   ⟨(some (.E 17)), .mv (.V 1), none⟩,
   ⟨(some (.E 18)), .bin .lss (.E 17) (ki 0), none⟩,
   ⟨(some (.E 19)), .eqb true [.b] (.E 16) (.E 18), none⟩,
   ⟨(some (.E 20)), .mv (.V 5), none⟩,
   ⟨(some (.E 21)), .mv (.V 6), none⟩,
   ⟨(some (.E 22)), .call k_impl_wideOf [([0], (.E 19)), ([0], (.E 20)), ([0], (.E 21))], none⟩,
   ⟨none, .store [0, 0, 0] (.V 4) (.E 22), none⟩])
 (.ret)))

def k_impl_MulWide_rv : List RV := [.cell [0, 0, 0] 4 true]

def k_spec_WideOk_vars : List Nat := [0, 1, 2]

def k_spec_WideOk_ic : IC :=
 .seq (.reg [⟨(some (.V 1)), .box (.V 0), none⟩,
   ⟨(some (.V 2)), .mv (kb false), none⟩])
 (.seq (.reg [⟨(some (.E 3)), .faddr 1 (.V 1), none⟩,
   ⟨(some (.E 4)), .load false 1 (.E 3), none⟩,
   ⟨(some (.E 5)), .bin .lss (.E 4) (.C (.v (.int .u64 9223372036854775808))), none⟩,
   ⟨(some (.E 6)), .mv (.E 5), none⟩,
   ⟨(some (.E 7)), .faddr 0 (.V 1), some ((.E 6), true)⟩,
   ⟨(some (.E 8)), .load false 1 (.E 7), some ((.E 6), true)⟩,
   ⟨(some (.E 9)), .un .not (.E 8), some ((.E 6), true)⟩,
   ⟨(some (.E 10)), .mv (.E 9), some ((.E 6), true)⟩,
   ⟨(some (.E 11)), .faddr 1 (.V 1), some ((.E 10), false)⟩,
   ⟨(some (.E 12)), .load false 1 (.E 11), some ((.E 10), false)⟩,
   ⟨(some (.E 13)), .bin .gtr (.E 12) (.C (.v (.int .u64 0))), some ((.E 10), false)⟩,
   ⟨(some (.E 14)), .pick (.E 10) (kb true) (.E 13), some ((.E 6), true)⟩,
   ⟨(some (.E 15)), .mv (.E 14), some ((.E 6), true)⟩,
   ⟨(some (.E 16)), .faddr 2 (.V 1), some ((.E 15), false)⟩,
   ⟨(some (.E 17)), .load false 1 (.E 16), some ((.E 15), false)⟩,
   ⟨(some (.E 18)), .bin .gtr (.E 17) (.C (.v (.int .u64 0))), some ((.E 15), false)⟩,
   ⟨(some (.E 19)), .pick (.E 15) (kb true) (.E 18), some ((.E 6), true)⟩,
   ⟨(some (.E 20)), .pick (.E 6) (.E 19) (kb false), none⟩,
   ⟨(some (.V 2)), .mv (.E 20), none⟩])
 (.ret))

def k_spec_WideOk_rv : List RV := [.tmp [0] 2]

def k_spec_l3Order_vars : List Nat := [0, 1, 2, 3, 4]

def k_spec_l3Order_ic : IC :=
 .seq (.reg [⟨(some (.V 2)), .box (.V 0), none⟩,
   ⟨(some (.V 3)), .box (.V 1), none⟩,
   ⟨(some (.V 4)), .mv (ki 0), none⟩])
 (.seq (.block 0 (.seq (.reg [⟨(some (.E 6)), .faddr 1 (.V 2), none⟩,
    ⟨(some (.E 7)), .load false 1 (.E 6), none⟩,
    ⟨(some (.E 8)), .faddr 1 (.V 3), none⟩,
    ⟨(some (.E 9)), .load false 1 (.E 8), none⟩,
    ⟨(some (.E 10)), .bin .lss (.E 7) (.E 9), none⟩,
    ⟨(some (.E 11)), .mv (.E 10), none⟩,
    ⟨(some (.E 12)), .faddr 1 (.V 2), some ((.E 11), false)⟩,
    ⟨(some (.E 13)), .load false 1 (.E 12), some ((.E 11), false)⟩,
    ⟨(some (.E 14)), .faddr 1 (.V 3), some ((.E 11), false)⟩,
    ⟨(some (.E 15)), .load false 1 (.E 14), some ((.E 11), false)⟩,
    ⟨(some (.E 16)), .bin .eql (.E 13) (.E 15), some ((.E 11), false)⟩,
    ⟨(some (.E 17)), .mv (.E 16), some ((.E 11), false)⟩,
    ⟨(some (.E 18)), .faddr 2 (.V 2), some ((.E 17), true)⟩,
    ⟨(some (.E 19)), .load false 1 (.E 18), some ((.E 17), true)⟩,
    ⟨(some (.E 20)), .faddr 2 (.V 3), some ((.E 17), true)⟩,
    ⟨(some (.E 21)), .load false 1 (.E 20), some ((.E 17), true)⟩,
    ⟨(some (.E 22)), .bin .lss (.E 19) (.E 21), some ((.E 17), true)⟩,
    ⟨(some (.E 23)), .pick (.E 17) (.E 22) (kb false), some ((.E 11), false)⟩,
    ⟨(some (.E 24)), .pick (.E 11) (kb true) (.E 23), none⟩,
    ⟨(some (.E 5)), .mv (.E 24), none⟩])
  (.cond (.E 5)
   (.seq (.reg [⟨(some (.V 4)), .mv (ki (-1)), none⟩])
   (.ret))
   (.seq (.reg [⟨(some (.E 26)), .faddr 1 (.V 2), none⟩,
     ⟨(some (.E 27)), .load false 1 (.E 26), none⟩,
     ⟨(some (.E 28)), .faddr 1 (.V 3), none⟩,
     ⟨(some (.E 29)), .load false 1 (.E 28), none⟩,
     ⟨(some (.E 30)), .bin .gtr (.E 27) (.E 29), none⟩,
     ⟨(some (.E 31)), .mv (.E 30), none⟩,
     ⟨(some (.E 32)), .faddr 2 (.V 2), some ((.E 31), false)⟩,
     ⟨(some (.E 33)), .load false 1 (.E 32), some ((.E 31), false)⟩,
     ⟨(some (.E 34)), .faddr 2 (.V 3), some ((.E 31), false)⟩,
     ⟨(some (.E 35)), .load false 1 (.E 34), some ((.E 31), false)⟩,
     ⟨(some (.E 36)), .bin .gtr (.E 33) (.E 35), some ((.E 31), false)⟩,
     ⟨(some (.E 37)), .pick (.E 31) (kb true) (.E 36), none⟩,
     ⟨(some (.E 25)), .mv (.E 37), none⟩])
   (.cond (.E 25)
    (.seq (.reg [⟨(some (.V 4)), .mv (ki 1), none⟩])
    (.ret))
    (.skip))))))
 (.seq (.reg [⟨(some (.V 4)), .mv (ki 0), none⟩])
 (.ret)))

def k_spec_l3Order_rv : List RV := [.tmp [0] 4]

def k_spec_l3Zero_vars : List Nat := [0, 1, 2]

def k_spec_l3Zero_ic : IC :=
 .seq (.reg [⟨(some (.V 1)), .box (.V 0), none⟩,
   ⟨(some (.V 2)), .mv (kb false), none⟩])
 (.seq (.reg [⟨(some (.E 3)), .faddr 1 (.V 1), none⟩,
   ⟨(some (.E 4)), .load false 1 (.E 3), none⟩,
   ⟨(some (.E 5)), .bin .eql (.E 4) (.C (.v (.int .u64 0))), none⟩,
   ⟨(some (.E 6)), .mv (.E 5), none⟩,
   ⟨(some (.E 7)), .faddr 2 (.V 1), some ((.E 6), true)⟩,
   ⟨(some (.E 8)), .load false 1 (.E 7), some ((.E 6), true)⟩,
   ⟨(some (.E 9)), .bin .eql (.E 8) (.C (.v (.int .u64 0))), some ((.E 6), true)⟩,
   ⟨(some (.E 10)), .pick (.E 6) (.E 9) (kb false), none⟩,
   ⟨(some (.V 2)), .mv (.E 10), none⟩])
 (.ret))

def k_spec_l3Zero_rv : List RV := [.tmp [0] 2]

def k_spec_l3Product_vars : List Nat := [0, 1, 7, 9, 6, 10, 8, 11, 12, 4, 5]

def k_spec_l3Product_ic : IC :=
 .seq (.reg [⟨(some (.V 4)), .mv (.C (.v (.int .u64 0))), none⟩,
   ⟨(some (.V 5)), .mv (.C (.v (.int .u64 0))), none⟩])
 (.seq (.reg [⟨(some (.E 13)), .mv (.V 0), none⟩,
   ⟨(some (.E 14)), .bin .shr (.E 13) (.C (.v (.int .u64 32))), none⟩,
   ⟨(some (.V 6)), .mv (.E 14), none⟩])
 (.seq (.reg [⟨(some (.E 15)), .mv (.V 0), none⟩,
   ⟨(some (.E 16)), .bin .and (.E 15) (.C (.v (.int .u64 4294967295))), none⟩,
   ⟨(some (.V 7)), .mv (.E 16), none⟩])
 (.seq (.reg [⟨(some (.E 17)), .mv (.V 1), none⟩,
   ⟨(some (.E 18)), .bin .shr (.E 17) (.C (.v (.int .u64 32))), none⟩,
   ⟨(some (.V 8)), .mv (.E 18), none⟩])
 (.seq (.reg [⟨(some (.E 19)), .mv (.V 1), none⟩,
   ⟨(some (.E 20)), .bin .and (.E 19) (.C (.v (.int .u64 4294967295))), none⟩,
   ⟨(some (.V 9)), .mv (.E 20), none⟩])
 (.seq (.reg [⟨(some (.E 21)), .mv (.V 7), none⟩,
   ⟨(some (.E 22)), .mv (.V 9), none⟩,
   ⟨(some (.E 23)), .bin .mul (.E 21) (.E 22), none⟩,
   ⟨(some (.V 10)), .mv (.E 23), none⟩])
 (.seq (.reg [⟨(some (.E 24)), .mv (.V 6), none⟩,
   ⟨(some (.E 25)), .mv (.V 9), none⟩,
   ⟨(some (.E 26)), .bin .mul (.E 24) (.E 25), none⟩,
   ⟨(some (.E 27)), .mv (.V 10), none⟩,
   ⟨(some (.E 28)), .bin .shr (.E 27) (.C (.v (.int .u64 32))), none⟩,
   ⟨(some (.E 29)), .bin .add (.E 26) (.E 28), none⟩,
   ⟨(some (.V 11)), .mv (.E 29), none⟩])
 (.seq (.reg [⟨(some (.E 30)), .mv (.V 7), none⟩,
   ⟨(some (.E 31)), .mv (.V 8), none⟩,
   ⟨(some (.E 32)), .bin .mul (.E 30) (.E 31), none⟩,
   ⟨(some (.E 33)), .mv (.V 11), none⟩,
   ⟨(some (.E 34)), .bin .and (.E 33) (.C (.v (.int .u64 4294967295))), none⟩,
   ⟨(some (.E 35)), .bin .add (.E 32) (.E 34), none⟩,
   ⟨(some (.V 12)), .mv (.E 35), none⟩])
 (.seq (.reg [⟨(some (.E 36)), .mv (.V 6), none⟩,
   ⟨(some (.E 37)), .mv (.V 8), none⟩,
   ⟨(some (.E 38)), .bin .mul (.E 36) (.E 37), none⟩,
   ⟨(some (.E 39)), .mv (.V 11), none⟩,
   ⟨(some (.E 40)), .bin .shr (.E 39) (.C (.v (.int .u64 32))), none⟩,
   ⟨(some (.E 41)), .bin .add (.E 38) (.E 40), none⟩,
   ⟨(some (.E 42)), .mv (.V 12), none⟩,
   ⟨(some (.E 43)), .bin .shr (.E 42) (.C (.v (.int .u64 32))), none⟩,
   ⟨(some (.E 44)), .bin .add (.E 41) (.E 43), none⟩,
   ⟨(some (.E 45)), .mv (.V 12), none⟩,
   ⟨(some (.E 46)), .bin .shl (.E 45) (.C (.v (.int .u64 32))), none⟩,
   ⟨(some (.E 47)), .mv (.V 10), none⟩,
   ⟨(some (.E 48)), .bin .and (.E 47) (.C (.v (.int .u64 4294967295))), none⟩,
   ⟨(some (.E 49)), .bin .add (.E 46) (.E 48), none⟩,
   ⟨(some (.V 4)), .mv (.E 44), none⟩,
   ⟨(some (.V 5)), .mv (.E 49), none⟩])
 (.ret)))))))))

def k_spec_l3Product_rv : List RV := [.tmp [0] 4, .tmp [0] 5]

def k_spec_l3Abs_vars : List Nat := [0, 2]

def k_spec_l3Abs_ic : IC :=
 .seq (.reg [⟨(some (.V 2)), .mv (.C (.v (.int .u64 0))), none⟩])
 (.seq (.seq (.reg [⟨(some (.E 3)), .mv (.V 0), none⟩,
   ⟨(some (.E 4)), .bin .lss (.E 3) (ki 0), none⟩])
 (.cond (.E 4)
  (.seq (.reg [⟨(some (.E 5)), .mv (.V 0), none⟩,
    ⟨(some (.E 6)), .bin .add (.E 5) (ki 1), none⟩,
    ⟨(some (.E 7)), .un .neg (.E 6), none⟩,
    ⟨(some (.E 8)), .convI .u64 (.E 7), none⟩,
    ⟨(some (.E 9)), .bin .add (.E 8) (.C (.v (.int .u64 1))), none⟩,
    ⟨(some (.V 2)), .mv (.E 9), none⟩])
  (.ret))
  (.skip)))
 (.seq (.reg [⟨(some (.E 10)), .mv (.V 0), none⟩,
   ⟨(some (.E 11)), .convI .u64 (.E 10), none⟩,
   ⟨(some (.V 2)), .mv (.E 11), none⟩])
 (.ret)))

def k_spec_l3Abs_rv : List RV := [.tmp [0] 2]

def k_impl_WideOk_vars : List Nat := [0, 1, 2]

def k_impl_WideOk_ic : IC :=
 .seq (.reg [⟨(some (.V 1)), .box (.V 0), none⟩,
   ⟨(some (.V 2)), .mv (kb false), none⟩])
 (.seq (.reg [⟨(some (.E 3)), .faddr 1 (.V 1), none⟩,
   ⟨(some (.E 4)), .load false 1 (.E 3), none⟩,
   ⟨(some (.E 5)), .bin .lss (.E 4) (.C (.v (.int .u64 9223372036854775808))), none⟩,
   ⟨(some (.E 6)), .mv (.E 5), none⟩,
   ⟨(some (.E 7)), .faddr 0 (.V 1), some ((.E 6), true)⟩,
   ⟨(some (.E 8)), .load false 1 (.E 7), some ((.E 6), true)⟩,
   ⟨(some (.E 9)), .un .not (.E 8), some ((.E 6), true)⟩,
   ⟨(some (.E 10)), .mv (.E 9), some ((.E 6), true)⟩,
   ⟨(some (.E 11)), .faddr 1 (.V 1), some ((.E 10), false)⟩,
   ⟨(some (.E 12)), .load false 1 (.E 11), some ((.E 10), false)⟩,
   ⟨(some (.E 13)), .bin .gtr (.E 12) (.C (.v (.int .u64 0))), some ((.E 10), false)⟩,
   ⟨(some (.E 14)), .pick (.E 10) (kb true) (.E 13), some ((.E 6), true)⟩,
   ⟨(some (.E 15)), .mv (.E 14), some ((.E 6), true)⟩,
   ⟨(some (.E 16)), .faddr 2 (.V 1), some ((.E 15), false)⟩,
   ⟨(some (.E 17)), .load false 1 (.E 16), some ((.E 15), false)⟩,
   ⟨(some (.E 18)), .bin .gtr (.E 17) (.C (.v (.int .u64 0))), some ((.E 15), false)⟩,
   ⟨(some (.E 19)), .pick (.E 15) (kb true) (.E 18), some ((.E 6), true)⟩,
   ⟨(some (.E 20)), .pick (.E 6) (.E 19) (kb false), none⟩,
   ⟨(some (.V 2)), .mv (.E 20), none⟩])
 (.ret))

def k_impl_WideOk_rv : List RV := [.tmp [0] 2]

def k_impl_compareSizes_vars : List Nat := [0, 1, 2, 3, 4]

def k_impl_compareSizes_ic : IC :=
 .seq (.reg [⟨(some (.V 2)), .box (.V 0), none⟩,
   ⟨(some (.V 3)), .box (.V 1), none⟩,
   ⟨(some (.V 4)), .mv (ki 0), none⟩])
 (.seq (.regD [(⟨(some (.E 5)), .faddr 1 (.V 2), none⟩, 0, 0),
   (⟨(some (.E 6)), .load false 1 (.E 5), none⟩, 0, 0),
   (⟨(some (.E 7)), .faddr 1 (.V 3), none⟩, 0, 0),
   (⟨(some (.E 8)), .load false 1 (.E 7), none⟩, 0, 0),
   (⟨(some (.E 9)), .call k_cmp_Compare_uint64_ [([0], (.E 6)), ([0], (.E 8))], none⟩, 0, 0),
   (⟨(some (.E 10)), .faddr 2 (.V 2), none⟩, 1, 0),
   (⟨(some (.E 11)), .load false 1 (.E 10), none⟩, 1, 0),
   (⟨(some (.E 12)), .faddr 2 (.V 3), none⟩, 1, 0),
   (⟨(some (.E 13)), .load false 1 (.E 12), none⟩, 1, 0),
   (⟨(some (.E 14)), .call k_cmp_Compare_uint64_ [([0], (.E 11)), ([0], (.E 13))], none⟩, 0, 0),
   (⟨(some (.E 15)), .bslice 2 1 [(.v (.int .i64 0))] [(0, (.E 9)), (1, (.E 14))], none⟩, 0, 0),
   (⟨(some (.E 16)), .call k_cmp_Or_int_ [([1], (.E 15))], none⟩, 0, 0),
   (⟨(some (.V 4)), .mv (.E 16), none⟩, 0, 0)])
 (.ret))

def k_impl_compareSizes_rv : List RV := [.tmp [0] 4]

def k_impl_wideOf_vars : List Nat := [0, 1, 2, 6]

def k_impl_wideOf_ic : IC :=
 .seq (.reg [⟨(some (.V 6)), .alloc [(.v (.bool false)), (.v (.int .u64 0)), (.v (.int .u64 0))], none⟩])
 (.seq (.reg [⟨(some (.E 7)), .mv (.V 0), none⟩,
   ⟨(some (.E 8)), .mv (.E 7), none⟩,
   ⟨(some (.E 9)), .mv (.V 1), some ((.E 8), true)⟩,
   ⟨(some (.E 10)), .bin .gtr (.E 9) (.C (.v (.int .u64 0))), some ((.E 8), true)⟩,
   ⟨(some (.E 11)), .mv (.E 10), some ((.E 8), true)⟩,
   ⟨(some (.E 12)), .mv (.V 2), some ((.E 11), false)⟩,
   ⟨(some (.E 13)), .bin .gtr (.E 12) (.C (.v (.int .u64 0))), some ((.E 11), false)⟩,
   ⟨(some (.E 14)), .pick (.E 11) (kb true) (.E 13), some ((.E 8), true)⟩,
   ⟨(some (.E 15)), .pick (.E 8) (.E 14) (kb false), none⟩,
   ⟨(some (.E 16)), .mv (.V 1), none⟩,
   ⟨(some (.E 17)), .mv (.V 2), none⟩,
   ⟨(some (.E 18)), .build [(.v (.bool false)), (.v (.int .u64 0)), (.v (.int .u64 0))] [(0, 1, (.E 15)), (1, 1, (.E 16)), (2, 1, (.E 17))], none⟩,
   ⟨none, .store [0, 0, 0] (.V 6) (.E 18), none⟩])
 (.ret))

def k_impl_wideOf_rv : List RV := [.cell [0, 0, 0] 6 true]

def k_math_bits_Mul64_vars : List Nat := [0, 1, 6, 8, 7, 10, 11, 12, 9, 13, 4, 5]

def k_math_bits_Mul64_ic : IC :=
 .seq (.reg [⟨(some (.V 4)), .mv (.C (.v (.int .u64 0))), none⟩,
   ⟨(some (.V 5)), .mv (.C (.v (.int .u64 0))), none⟩])
 (.seq (.reg [⟨(some (.E 14)), .mv (.V 0), none⟩,
   ⟨(some (.E 15)), .bin .and (.E 14) (.C (.v (.int .u64 4294967295))), none⟩,
   ⟨(some (.V 6)), .mv (.E 15), none⟩])
 (.seq (.reg [⟨(some (.E 16)), .mv (.V 0), none⟩,
   ⟨(some (.E 17)), .bin .shr (.E 16) (.C (.v (.int .u64 32))), none⟩,
   ⟨(some (.V 7)), .mv (.E 17), none⟩])
 (.seq (.reg [⟨(some (.E 18)), .mv (.V 1), none⟩,
   ⟨(some (.E 19)), .bin .and (.E 18) (.C (.v (.int .u64 4294967295))), none⟩,
   ⟨(some (.V 8)), .mv (.E 19), none⟩])
 (.seq (.reg [⟨(some (.E 20)), .mv (.V 1), none⟩,
   ⟨(some (.E 21)), .bin .shr (.E 20) (.C (.v (.int .u64 32))), none⟩,
   ⟨(some (.V 9)), .mv (.E 21), none⟩])
 (.seq (.reg [⟨(some (.E 22)), .mv (.V 6), none⟩,
   ⟨(some (.E 23)), .mv (.V 8), none⟩,
   ⟨(some (.E 24)), .bin .mul (.E 22) (.E 23), none⟩,
   ⟨(some (.V 10)), .mv (.E 24), none⟩])
 (.seq (.reg [⟨(some (.E 25)), .mv (.V 7), none⟩,
   ⟨(some (.E 26)), .mv (.V 8), none⟩,
   ⟨(some (.E 27)), .bin .mul (.E 25) (.E 26), none⟩,
   ⟨(some (.E 28)), .mv (.V 10), none⟩,
   ⟨(some (.E 29)), .bin .shr (.E 28) (.C (.v (.int .u64 32))), none⟩,
   ⟨(some (.E 30)), .bin .add (.E 27) (.E 29), none⟩,
   ⟨(some (.V 11)), .mv (.E 30), none⟩])
 (.seq (.reg [⟨(some (.E 31)), .mv (.V 11), none⟩,
   ⟨(some (.E 32)), .bin .and (.E 31) (.C (.v (.int .u64 4294967295))), none⟩,
   ⟨(some (.V 12)), .mv (.E 32), none⟩])
 (.seq (.reg [⟨(some (.E 33)), .mv (.V 11), none⟩,
   ⟨(some (.E 34)), .bin .shr (.E 33) (.C (.v (.int .u64 32))), none⟩,
   ⟨(some (.V 13)), .mv (.E 34), none⟩])
 (.seq (.reg [⟨(some (.E 35)), .mv (.V 12), none⟩,
   ⟨(some (.E 36)), .mv (.V 6), none⟩,
   ⟨(some (.E 37)), .mv (.V 9), none⟩,
   ⟨(some (.E 38)), .bin .mul (.E 36) (.E 37), none⟩,
   ⟨(some (.E 39)), .bin .add (.E 35) (.E 38), none⟩,
   ⟨(some (.V 12)), .mv (.E 39), none⟩])
 (.seq (.reg [⟨(some (.E 40)), .mv (.V 7), none⟩,
   ⟨(some (.E 41)), .mv (.V 9), none⟩,
   ⟨(some (.E 42)), .bin .mul (.E 40) (.E 41), none⟩,
   ⟨(some (.E 43)), .mv (.V 13), none⟩,
   ⟨(some (.E 44)), .bin .add (.E 42) (.E 43), none⟩,
   ⟨(some (.E 45)), .mv (.V 12), none⟩,
   ⟨(some (.E 46)), .bin .shr (.E 45) (.C (.v (.int .u64 32))), none⟩,
   ⟨(some (.E 47)), .bin .add (.E 44) (.E 46), none⟩,
   ⟨(some (.V 4)), .mv (.E 47), none⟩])
 (.seq (.reg [⟨(some (.E 48)), .mv (.V 0), none⟩,
   ⟨(some (.E 49)), .mv (.V 1), none⟩,
   ⟨(some (.E 50)), .bin .mul (.E 48) (.E 49), none⟩,
   ⟨(some (.V 5)), .mv (.E 50), none⟩])
 (.ret))))))))))))

def k_math_bits_Mul64_rv : List RV := [.tmp [0] 4, .tmp [0] 5]

def k_impl_size_vars : List Nat := [0, 2]

def k_impl_size_ic : IC :=
 .seq (.reg [⟨(some (.V 2)), .mv (.C (.v (.int .u64 0))), none⟩])
 (.seq (.seq (.reg [⟨(some (.E 3)), .mv (.V 0), none⟩,
   ⟨(some (.E 4)), .bin .lss (.E 3) (ki 0), none⟩])
 (.cond (.E 4)
  (.seq (.reg [⟨(some (.E 5)), .mv (.V 0), none⟩,
    ⟨(some (.E 6)), .convI .u64 (.E 5), none⟩,
    ⟨(some (.E 7)), .un .neg (.E 6), none⟩,
    ⟨(some (.V 2)), .mv (.E 7), none⟩])
  (.ret))
  (.skip)))
 (.seq (.reg [⟨(some (.E 8)), .mv (.V 0), none⟩,
   ⟨(some (.E 9)), .convI .u64 (.E 8), none⟩,
   ⟨(some (.V 2)), .mv (.E 9), none⟩])
 (.ret)))

def k_impl_size_rv : List RV := [.tmp [0] 2]

def k_cmp_Or_int__vars : List Nat := [0, 8, 7, 6, 5, 3, 2]

def k_cmp_Or_int__b0 : IC :=
 .seq (.reg [⟨(some (.E 9)), .bin .lss (.V 8) (.V 7), none⟩])
 (.seq (.cond (.E 9)
  (.skip)
  (.exit 0))
 (.seq (.block 1 (.seq (.reg [⟨(some (.E 10)), .iaddr 1 (.V 6) (.V 8), none⟩,
    ⟨(some (.E 11)), .load false 1 (.E 10), none⟩,
    ⟨(some (.V 5)), .mv (.E 11), none⟩])
  (.seq (.reg [⟨(some (.E 12)), .mv (.V 5), none⟩,
    ⟨(some (.E 13)), .mv (.V 3), none⟩,
    ⟨(some (.E 14)), .bin .neq (.E 12) (.E 13), none⟩])
  (.cond (.E 14)
   (.seq (.reg [⟨(some (.E 15)), .mv (.V 5), none⟩,
     ⟨(some (.V 2)), .mv (.E 15), none⟩])
   (.ret))
   (.skip)))))
 (.reg [⟨(some (.E 16)), .bin .add (.V 8) (ki 1), none⟩,
   ⟨(some (.V 8)), .mv (.E 16), none⟩])))

def k_cmp_Or_int__ic : IC :=
 .seq (.reg [⟨(some (.V 2)), .mv (ki 0), none⟩])
 (.seq (.reg [⟨(some (.V 3)), .mv (ki 0), none⟩])
 (.seq (.seq (.reg [⟨(some (.V 6)), .mv (.V 0), none⟩,
   ⟨(some (.V 7)), .len (.V 6), none⟩,
   ⟨(some (.V 8)), .mv (ki 0), none⟩])
 (.block 0 (.loop k_cmp_Or_int__b0)))
 (.seq (.reg [⟨(some (.E 17)), .mv (.V 3), none⟩,
   ⟨(some (.V 2)), .mv (.E 17), none⟩])
 (.ret))))

def k_cmp_Or_int__rv : List RV := [.tmp [0] 2]

def k_cmp_Compare_uint64__vars : List Nat := [0, 1, 5, 6, 4]

def k_cmp_Compare_uint64__ic : IC :=
 .seq (.reg [⟨(some (.V 4)), .mv (ki 0), none⟩])
 (.seq (.reg [⟨(some (.E 7)), .mv (.V 0), none⟩,
   ⟨(some (.E 8)), .call k_cmp_isNaN_uint64_ [([0], (.E 7))], none⟩,
   ⟨(some (.V 5)), .mv (.E 8), none⟩])
 (.seq (.reg [⟨(some (.E 9)), .mv (.V 1), none⟩,
   ⟨(some (.E 10)), .call k_cmp_isNaN_uint64_ [([0], (.E 9))], none⟩,
   ⟨(some (.V 6)), .mv (.E 10), none⟩])
 (.seq (.seq (.reg [⟨(some (.E 11)), .mv (.V 5), none⟩])
 (.cond (.E 11)
  (.seq (.seq (.reg [⟨(some (.E 12)), .mv (.V 6), none⟩])
  (.cond (.E 12)
   (.seq (.reg [⟨(some (.V 4)), .mv (ki 0), none⟩])
   (.ret))
   (.skip)))
  (.seq (.reg [⟨(some (.V 4)), .mv (ki (-1)), none⟩])
  (.ret)))
  (.skip)))
 (.seq (.seq (.reg [⟨(some (.E 13)), .mv (.V 6), none⟩])
 (.cond (.E 13)
  (.seq (.reg [⟨(some (.V 4)), .mv (ki 1), none⟩])
  (.ret))
  (.skip)))
 (.seq (.seq (.reg [⟨(some (.E 14)), .mv (.V 0), none⟩,
   ⟨(some (.E 15)), .mv (.V 1), none⟩,
   ⟨(some (.E 16)), .bin .lss (.E 14) (.E 15), none⟩])
 (.cond (.E 16)
  (.seq (.reg [⟨(some (.V 4)), .mv (ki (-1)), none⟩])
  (.ret))
  (.skip)))
 (.seq (.seq (.reg [⟨(some (.E 17)), .mv (.V 0), none⟩,
   ⟨(some (.E 18)), .mv (.V 1), none⟩,
   ⟨(some (.E 19)), .bin .gtr (.E 17) (.E 18), none⟩])
 (.cond (.E 19)
  (.seq (.reg [⟨(some (.V 4)), .mv (ki 1), none⟩])
  (.ret))
  (.skip)))
 (.seq (.reg [⟨(some (.V 4)), .mv (ki 0), none⟩])
 (.ret))))))))

def k_cmp_Compare_uint64__rv : List RV := [.tmp [0] 4]

def k_cmp_isNaN_uint64__vars : List Nat := [0, 2]

def k_cmp_isNaN_uint64__ic : IC :=
 .seq (.reg [⟨(some (.V 2)), .mv (kb false), none⟩])
 (.seq (.reg [⟨(some (.E 3)), .mv (.V 0), none⟩,
   ⟨(some (.E 4)), .mv (.V 0), none⟩,
   ⟨(some (.E 5)), .bin .neq (.E 3) (.E 4), none⟩,
   ⟨(some (.V 2)), .mv (.E 5), none⟩])
 (.ret))

def k_cmp_isNaN_uint64__rv : List RV := [.tmp [0] 2]

def tbl : List (Nat × Fun) := [
  (k_laws_FnExactStateLoss, fnOf k_laws_FnExactStateLoss_ic k_laws_FnExactStateLoss_rv []),
  (k_laws_szTree, fnOf k_laws_szTree_ic k_laws_szTree_rv []),
  (k_laws_toTree, fnOf k_laws_toTree_ic k_laws_toTree_rv []),
  (k_laws_eqTree, fnOf k_laws_eqTree_ic k_laws_eqTree_rv []),
  (k_laws_toIntS, fnOf k_laws_toIntS_ic k_laws_toIntS_rv []),
  (k_laws_eqIntS, fnOf k_laws_eqIntS_ic k_laws_eqIntS_rv []),
  (k_laws_szTable, fnOf k_laws_szTable_ic k_laws_szTable_rv []),
  (k_laws_toTable, fnOf k_laws_toTable_ic k_laws_toTable_rv []),
  (k_laws_eqState, fnOf k_laws_eqState_ic k_laws_eqState_rv []),
  (k_laws_eqTable, fnOf k_laws_eqTable_ic k_laws_eqTable_rv []),
  (k_laws_szState, fnOf k_laws_szState_ic k_laws_szState_rv []),
  (k_spec_StateLoss, fnOf k_spec_StateLoss_ic k_spec_StateLoss_rv []),
  (k_laws_toState, fnOf k_laws_toState_ic k_laws_toState_rv []),
  (k_impl_StateLoss, fnOf k_impl_StateLoss_ic k_impl_StateLoss_rv []),
  (k_laws_eqWide, fnOf k_laws_eqWide_ic k_laws_eqWide_rv []),
  (k_laws_szIntSS, fnOf k_laws_szIntSS_ic k_laws_szIntSS_rv []),
  (k_laws_toIntSS, fnOf k_laws_toIntSS_ic k_laws_toIntSS_rv []),
  (k_laws_eqIntSS, fnOf k_laws_eqIntSS_ic k_laws_eqIntSS_rv []),
  (k_laws_szStringS, fnOf k_laws_szStringS_ic k_laws_szStringS_rv []),
  (k_laws_szIntS, fnOf k_laws_szIntS_ic k_laws_szIntS_rv []),
  (k_laws_szTreeS, fnOf k_laws_szTreeS_ic k_laws_szTreeS_rv []),
  (k_laws_toStringS, fnOf k_laws_toStringS_ic k_laws_toStringS_rv []),
  (k_laws_toTreeS, fnOf k_laws_toTreeS_ic k_laws_toTreeS_rv []),
  (k_laws_eqStringS, fnOf k_laws_eqStringS_ic k_laws_eqStringS_rv []),
  (k_laws_eqTreeS, fnOf k_laws_eqTreeS_ic k_laws_eqTreeS_rv []),
  (k_laws_szNodeS, fnOf k_laws_szNodeS_ic k_laws_szNodeS_rv []),
  (k_laws_toNodeS, fnOf k_laws_toNodeS_ic k_laws_toNodeS_rv []),
  (k_laws_eqNodeS, fnOf k_laws_eqNodeS_ic k_laws_eqNodeS_rv []),
  (k_spec_Residuals, fnOf k_spec_Residuals_ic k_spec_Residuals_rv []),
  (k_spec_LossOf, fnOf k_spec_LossOf_ic k_spec_LossOf_rv []),
  (k_impl_Residuals, fnOf k_impl_Residuals_ic k_impl_Residuals_rv []),
  (k_impl_LossOf, fnOf k_impl_LossOf_ic k_impl_LossOf_rv []),
  (k_laws_toNode, fnOf k_laws_toNode_ic k_laws_toNode_rv []),
  (k_laws_eqNode, fnOf k_laws_eqNode_ic k_laws_eqNode_rv []),
  (k_spec_SubInt, fnOf k_spec_SubInt_ic k_spec_SubInt_rv []),
  (k_spec_AddWide, fnOf k_spec_AddWide_ic k_spec_AddWide_rv []),
  (k_spec_MulWide, fnOf k_spec_MulWide_ic k_spec_MulWide_rv []),
  (k_impl_SubInt, fnOf k_impl_SubInt_ic k_impl_SubInt_rv []),
  (k_impl_AddWide, fnOf k_impl_AddWide_ic k_impl_AddWide_rv []),
  (k_impl_MulWide, fnOf k_impl_MulWide_ic k_impl_MulWide_rv []),
  (k_spec_WideOk, fnOf k_spec_WideOk_ic k_spec_WideOk_rv []),
  (k_spec_l3Order, fnOf k_spec_l3Order_ic k_spec_l3Order_rv []),
  (k_spec_l3Zero, fnOf k_spec_l3Zero_ic k_spec_l3Zero_rv []),
  (k_spec_l3Product, fnOf k_spec_l3Product_ic k_spec_l3Product_rv []),
  (k_spec_l3Abs, fnOf k_spec_l3Abs_ic k_spec_l3Abs_rv []),
  (k_impl_WideOk, fnOf k_impl_WideOk_ic k_impl_WideOk_rv []),
  (k_impl_compareSizes, fnOf k_impl_compareSizes_ic k_impl_compareSizes_rv []),
  (k_math_bits_Sub64, .ext sub64G),
  (k_impl_wideOf, fnOf k_impl_wideOf_ic k_impl_wideOf_rv []),
  (k_math_bits_Add64, .ext add64G),
  (k_math_bits_Mul64, fnOf k_math_bits_Mul64_ic k_math_bits_Mul64_rv []),
  (k_impl_size, fnOf k_impl_size_ic k_impl_size_rv []),
  (k_cmp_Or_int_, fnOf k_cmp_Or_int__ic k_cmp_Or_int__rv []),
  (k_cmp_Compare_uint64_, fnOf k_cmp_Compare_uint64__ic k_cmp_Compare_uint64__rv []),
  (k_cmp_isNaN_uint64_, fnOf k_cmp_isNaN_uint64__ic k_cmp_isNaN_uint64__rv [])]

def T : Table := fun f => (tbl.find? fun q => q.1 == f).map fun q => q.2

theorem T_laws_FnExactStateLoss : T k_laws_FnExactStateLoss = some (fnOf k_laws_FnExactStateLoss_ic k_laws_FnExactStateLoss_rv []) := rfl

@[simp] theorem M_laws_FnExactStateLoss : modesOf T k_laws_FnExactStateLoss = [] := modesOf_code T_laws_FnExactStateLoss

theorem T_laws_szTree : T k_laws_szTree = some (fnOf k_laws_szTree_ic k_laws_szTree_rv []) := rfl

@[simp] theorem M_laws_szTree : modesOf T k_laws_szTree = [] := modesOf_code T_laws_szTree

theorem T_laws_toTree : T k_laws_toTree = some (fnOf k_laws_toTree_ic k_laws_toTree_rv []) := rfl

@[simp] theorem M_laws_toTree : modesOf T k_laws_toTree = [] := modesOf_code T_laws_toTree

theorem T_laws_eqTree : T k_laws_eqTree = some (fnOf k_laws_eqTree_ic k_laws_eqTree_rv []) := rfl

@[simp] theorem M_laws_eqTree : modesOf T k_laws_eqTree = [] := modesOf_code T_laws_eqTree

theorem T_laws_toIntS : T k_laws_toIntS = some (fnOf k_laws_toIntS_ic k_laws_toIntS_rv []) := rfl

@[simp] theorem M_laws_toIntS : modesOf T k_laws_toIntS = [] := modesOf_code T_laws_toIntS

theorem T_laws_eqIntS : T k_laws_eqIntS = some (fnOf k_laws_eqIntS_ic k_laws_eqIntS_rv []) := rfl

@[simp] theorem M_laws_eqIntS : modesOf T k_laws_eqIntS = [] := modesOf_code T_laws_eqIntS

theorem T_laws_szTable : T k_laws_szTable = some (fnOf k_laws_szTable_ic k_laws_szTable_rv []) := rfl

@[simp] theorem M_laws_szTable : modesOf T k_laws_szTable = [] := modesOf_code T_laws_szTable

theorem T_laws_toTable : T k_laws_toTable = some (fnOf k_laws_toTable_ic k_laws_toTable_rv []) := rfl

@[simp] theorem M_laws_toTable : modesOf T k_laws_toTable = [] := modesOf_code T_laws_toTable

theorem T_laws_eqState : T k_laws_eqState = some (fnOf k_laws_eqState_ic k_laws_eqState_rv []) := rfl

@[simp] theorem M_laws_eqState : modesOf T k_laws_eqState = [] := modesOf_code T_laws_eqState

theorem T_laws_eqTable : T k_laws_eqTable = some (fnOf k_laws_eqTable_ic k_laws_eqTable_rv []) := rfl

@[simp] theorem M_laws_eqTable : modesOf T k_laws_eqTable = [] := modesOf_code T_laws_eqTable

theorem T_laws_szState : T k_laws_szState = some (fnOf k_laws_szState_ic k_laws_szState_rv []) := rfl

@[simp] theorem M_laws_szState : modesOf T k_laws_szState = [] := modesOf_code T_laws_szState

theorem T_spec_StateLoss : T k_spec_StateLoss = some (fnOf k_spec_StateLoss_ic k_spec_StateLoss_rv []) := rfl

@[simp] theorem M_spec_StateLoss : modesOf T k_spec_StateLoss = [] := modesOf_code T_spec_StateLoss

theorem T_laws_toState : T k_laws_toState = some (fnOf k_laws_toState_ic k_laws_toState_rv []) := rfl

@[simp] theorem M_laws_toState : modesOf T k_laws_toState = [] := modesOf_code T_laws_toState

theorem T_impl_StateLoss : T k_impl_StateLoss = some (fnOf k_impl_StateLoss_ic k_impl_StateLoss_rv []) := rfl

@[simp] theorem M_impl_StateLoss : modesOf T k_impl_StateLoss = [] := modesOf_code T_impl_StateLoss

theorem T_laws_eqWide : T k_laws_eqWide = some (fnOf k_laws_eqWide_ic k_laws_eqWide_rv []) := rfl

@[simp] theorem M_laws_eqWide : modesOf T k_laws_eqWide = [] := modesOf_code T_laws_eqWide

theorem T_laws_szIntSS : T k_laws_szIntSS = some (fnOf k_laws_szIntSS_ic k_laws_szIntSS_rv []) := rfl

@[simp] theorem M_laws_szIntSS : modesOf T k_laws_szIntSS = [] := modesOf_code T_laws_szIntSS

theorem T_laws_toIntSS : T k_laws_toIntSS = some (fnOf k_laws_toIntSS_ic k_laws_toIntSS_rv []) := rfl

@[simp] theorem M_laws_toIntSS : modesOf T k_laws_toIntSS = [] := modesOf_code T_laws_toIntSS

theorem T_laws_eqIntSS : T k_laws_eqIntSS = some (fnOf k_laws_eqIntSS_ic k_laws_eqIntSS_rv []) := rfl

@[simp] theorem M_laws_eqIntSS : modesOf T k_laws_eqIntSS = [] := modesOf_code T_laws_eqIntSS

theorem T_laws_szStringS : T k_laws_szStringS = some (fnOf k_laws_szStringS_ic k_laws_szStringS_rv []) := rfl

@[simp] theorem M_laws_szStringS : modesOf T k_laws_szStringS = [] := modesOf_code T_laws_szStringS

theorem T_laws_szIntS : T k_laws_szIntS = some (fnOf k_laws_szIntS_ic k_laws_szIntS_rv []) := rfl

@[simp] theorem M_laws_szIntS : modesOf T k_laws_szIntS = [] := modesOf_code T_laws_szIntS

theorem T_laws_szTreeS : T k_laws_szTreeS = some (fnOf k_laws_szTreeS_ic k_laws_szTreeS_rv []) := rfl

@[simp] theorem M_laws_szTreeS : modesOf T k_laws_szTreeS = [] := modesOf_code T_laws_szTreeS

theorem T_laws_toStringS : T k_laws_toStringS = some (fnOf k_laws_toStringS_ic k_laws_toStringS_rv []) := rfl

@[simp] theorem M_laws_toStringS : modesOf T k_laws_toStringS = [] := modesOf_code T_laws_toStringS

theorem T_laws_toTreeS : T k_laws_toTreeS = some (fnOf k_laws_toTreeS_ic k_laws_toTreeS_rv []) := rfl

@[simp] theorem M_laws_toTreeS : modesOf T k_laws_toTreeS = [] := modesOf_code T_laws_toTreeS

theorem T_laws_eqStringS : T k_laws_eqStringS = some (fnOf k_laws_eqStringS_ic k_laws_eqStringS_rv []) := rfl

@[simp] theorem M_laws_eqStringS : modesOf T k_laws_eqStringS = [] := modesOf_code T_laws_eqStringS

theorem T_laws_eqTreeS : T k_laws_eqTreeS = some (fnOf k_laws_eqTreeS_ic k_laws_eqTreeS_rv []) := rfl

@[simp] theorem M_laws_eqTreeS : modesOf T k_laws_eqTreeS = [] := modesOf_code T_laws_eqTreeS

theorem T_laws_szNodeS : T k_laws_szNodeS = some (fnOf k_laws_szNodeS_ic k_laws_szNodeS_rv []) := rfl

@[simp] theorem M_laws_szNodeS : modesOf T k_laws_szNodeS = [] := modesOf_code T_laws_szNodeS

theorem T_laws_toNodeS : T k_laws_toNodeS = some (fnOf k_laws_toNodeS_ic k_laws_toNodeS_rv []) := rfl

@[simp] theorem M_laws_toNodeS : modesOf T k_laws_toNodeS = [] := modesOf_code T_laws_toNodeS

theorem T_laws_eqNodeS : T k_laws_eqNodeS = some (fnOf k_laws_eqNodeS_ic k_laws_eqNodeS_rv []) := rfl

@[simp] theorem M_laws_eqNodeS : modesOf T k_laws_eqNodeS = [] := modesOf_code T_laws_eqNodeS

theorem T_spec_Residuals : T k_spec_Residuals = some (fnOf k_spec_Residuals_ic k_spec_Residuals_rv []) := rfl

@[simp] theorem M_spec_Residuals : modesOf T k_spec_Residuals = [] := modesOf_code T_spec_Residuals

theorem T_spec_LossOf : T k_spec_LossOf = some (fnOf k_spec_LossOf_ic k_spec_LossOf_rv []) := rfl

@[simp] theorem M_spec_LossOf : modesOf T k_spec_LossOf = [] := modesOf_code T_spec_LossOf

theorem T_impl_Residuals : T k_impl_Residuals = some (fnOf k_impl_Residuals_ic k_impl_Residuals_rv []) := rfl

@[simp] theorem M_impl_Residuals : modesOf T k_impl_Residuals = [] := modesOf_code T_impl_Residuals

theorem T_impl_LossOf : T k_impl_LossOf = some (fnOf k_impl_LossOf_ic k_impl_LossOf_rv []) := rfl

@[simp] theorem M_impl_LossOf : modesOf T k_impl_LossOf = [] := modesOf_code T_impl_LossOf

theorem T_laws_toNode : T k_laws_toNode = some (fnOf k_laws_toNode_ic k_laws_toNode_rv []) := rfl

@[simp] theorem M_laws_toNode : modesOf T k_laws_toNode = [] := modesOf_code T_laws_toNode

theorem T_laws_eqNode : T k_laws_eqNode = some (fnOf k_laws_eqNode_ic k_laws_eqNode_rv []) := rfl

@[simp] theorem M_laws_eqNode : modesOf T k_laws_eqNode = [] := modesOf_code T_laws_eqNode

theorem T_spec_SubInt : T k_spec_SubInt = some (fnOf k_spec_SubInt_ic k_spec_SubInt_rv []) := rfl

@[simp] theorem M_spec_SubInt : modesOf T k_spec_SubInt = [] := modesOf_code T_spec_SubInt

theorem T_spec_AddWide : T k_spec_AddWide = some (fnOf k_spec_AddWide_ic k_spec_AddWide_rv []) := rfl

@[simp] theorem M_spec_AddWide : modesOf T k_spec_AddWide = [] := modesOf_code T_spec_AddWide

theorem T_spec_MulWide : T k_spec_MulWide = some (fnOf k_spec_MulWide_ic k_spec_MulWide_rv []) := rfl

@[simp] theorem M_spec_MulWide : modesOf T k_spec_MulWide = [] := modesOf_code T_spec_MulWide

theorem T_impl_SubInt : T k_impl_SubInt = some (fnOf k_impl_SubInt_ic k_impl_SubInt_rv []) := rfl

@[simp] theorem M_impl_SubInt : modesOf T k_impl_SubInt = [] := modesOf_code T_impl_SubInt

theorem T_impl_AddWide : T k_impl_AddWide = some (fnOf k_impl_AddWide_ic k_impl_AddWide_rv []) := rfl

@[simp] theorem M_impl_AddWide : modesOf T k_impl_AddWide = [] := modesOf_code T_impl_AddWide

theorem T_impl_MulWide : T k_impl_MulWide = some (fnOf k_impl_MulWide_ic k_impl_MulWide_rv []) := rfl

@[simp] theorem M_impl_MulWide : modesOf T k_impl_MulWide = [] := modesOf_code T_impl_MulWide

theorem T_spec_WideOk : T k_spec_WideOk = some (fnOf k_spec_WideOk_ic k_spec_WideOk_rv []) := rfl

@[simp] theorem M_spec_WideOk : modesOf T k_spec_WideOk = [] := modesOf_code T_spec_WideOk

theorem T_spec_l3Order : T k_spec_l3Order = some (fnOf k_spec_l3Order_ic k_spec_l3Order_rv []) := rfl

@[simp] theorem M_spec_l3Order : modesOf T k_spec_l3Order = [] := modesOf_code T_spec_l3Order

theorem T_spec_l3Zero : T k_spec_l3Zero = some (fnOf k_spec_l3Zero_ic k_spec_l3Zero_rv []) := rfl

@[simp] theorem M_spec_l3Zero : modesOf T k_spec_l3Zero = [] := modesOf_code T_spec_l3Zero

theorem T_spec_l3Product : T k_spec_l3Product = some (fnOf k_spec_l3Product_ic k_spec_l3Product_rv []) := rfl

@[simp] theorem M_spec_l3Product : modesOf T k_spec_l3Product = [] := modesOf_code T_spec_l3Product

theorem T_spec_l3Abs : T k_spec_l3Abs = some (fnOf k_spec_l3Abs_ic k_spec_l3Abs_rv []) := rfl

@[simp] theorem M_spec_l3Abs : modesOf T k_spec_l3Abs = [] := modesOf_code T_spec_l3Abs

theorem T_impl_WideOk : T k_impl_WideOk = some (fnOf k_impl_WideOk_ic k_impl_WideOk_rv []) := rfl

@[simp] theorem M_impl_WideOk : modesOf T k_impl_WideOk = [] := modesOf_code T_impl_WideOk

theorem T_impl_compareSizes : T k_impl_compareSizes = some (fnOf k_impl_compareSizes_ic k_impl_compareSizes_rv []) := rfl

@[simp] theorem M_impl_compareSizes : modesOf T k_impl_compareSizes = [] := modesOf_code T_impl_compareSizes

theorem T_math_bits_Sub64 : T k_math_bits_Sub64 = some (.ext sub64G) := rfl

@[simp] theorem M_math_bits_Sub64 : modesOf T k_math_bits_Sub64 = [] := rfl

theorem T_impl_wideOf : T k_impl_wideOf = some (fnOf k_impl_wideOf_ic k_impl_wideOf_rv []) := rfl

@[simp] theorem M_impl_wideOf : modesOf T k_impl_wideOf = [] := modesOf_code T_impl_wideOf

theorem T_math_bits_Add64 : T k_math_bits_Add64 = some (.ext add64G) := rfl

@[simp] theorem M_math_bits_Add64 : modesOf T k_math_bits_Add64 = [] := rfl

theorem T_math_bits_Mul64 : T k_math_bits_Mul64 = some (fnOf k_math_bits_Mul64_ic k_math_bits_Mul64_rv []) := rfl

@[simp] theorem M_math_bits_Mul64 : modesOf T k_math_bits_Mul64 = [] := modesOf_code T_math_bits_Mul64

theorem T_impl_size : T k_impl_size = some (fnOf k_impl_size_ic k_impl_size_rv []) := rfl

@[simp] theorem M_impl_size : modesOf T k_impl_size = [] := modesOf_code T_impl_size

theorem T_cmp_Or_int_ : T k_cmp_Or_int_ = some (fnOf k_cmp_Or_int__ic k_cmp_Or_int__rv []) := rfl

@[simp] theorem M_cmp_Or_int_ : modesOf T k_cmp_Or_int_ = [] := modesOf_code T_cmp_Or_int_

theorem T_cmp_Compare_uint64_ : T k_cmp_Compare_uint64_ = some (fnOf k_cmp_Compare_uint64__ic k_cmp_Compare_uint64__rv []) := rfl

@[simp] theorem M_cmp_Compare_uint64_ : modesOf T k_cmp_Compare_uint64_ = [] := modesOf_code T_cmp_Compare_uint64_

theorem T_cmp_isNaN_uint64_ : T k_cmp_isNaN_uint64_ = some (fnOf k_cmp_isNaN_uint64__ic k_cmp_isNaN_uint64__rv []) := rfl

@[simp] theorem M_cmp_isNaN_uint64_ : modesOf T k_cmp_isNaN_uint64_ = [] := modesOf_code T_cmp_isNaN_uint64_

end Go.Pe
