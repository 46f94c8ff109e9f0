/- The compact texts of the functions that the law reaches; no condition. -/
import Derived.Test.YtnioodedhoccaaaEvA0
set_option linter.all false
namespace Go.Pe
open Go
def k_laws_FnExactShrunk : Nat := 5

def k_laws_eqIntS : Nat := 22

def k_laws_szConfig : Nat := 26

def k_spec_Shrunk : Nat := 27

def k_laws_toConfig : Nat := 28

def k_impl_Shrunk : Nat := 29

def k_laws_eqConfig : Nat := 30

def k_laws_toIntS : Nat := 34

def k_spec_l1In : Nat := 60

def k_laws_szIntS : Nat := 68

def k_spec_ConfigOk : Nat := 69

def k_spec_l14Leaf : Nat := 70

def k_spec_FloorDiv : Nat := 71

def k_impl_ConfigOk : Nat := 72

def k_impl_isLeafValue : Nat := 73

def k_impl_FloorDiv : Nat := 74

def k_impl_within : Nat := 89

def k_slices_ContainsFunc___int_int_ : Nat := 97

def k_spec_l8Numbers : Nat := 104

def k_spec_l8Least : Nat := 105

def k_spec_l8Most : Nat := 106

def k_impl_ConfigOk_1 : Nat := 107

def k_impl_isSign : Nat := 108

def k_slices_IndexFunc___int_int_ : Nat := 114

def k_laws_FnExactShrunk_vars : List Nat := [0, 1, 3, 5, 8, 9, 6, 10, 7, 4]

def k_laws_FnExactShrunk_ic : IC :=
 .seq (.reg [⟨(some (.V 3)), .box (.V 1), none⟩,
   ⟨(some (.V 4)), .mv (kb false), none⟩])
 (.seq (.reg [⟨(some (.V 5)), .mv (ki 1048576), none⟩])
 (.seq (.reg [⟨(some (.E 11)), .load true 8 (.V 3), none⟩,
   ⟨(some (.E 12)), .mv (.V 5), none⟩,
   ⟨(some (.E 13)), .call k_laws_szConfig [([0, 0, 0, 0, 0, 0, 0, 1], (.E 11)), ([0], (.E 12))], none⟩,
   ⟨(some (.V 5)), .mv (.E 13), none⟩])
 (.seq (.seq (.reg [⟨(some (.E 14)), .mv (.V 5), none⟩,
   ⟨(some (.E 15)), .bin .lss (.E 14) (ki 0), none⟩])
 (.cond (.E 15)
  (.seq (.reg [⟨(some (.V 4)), .mv (kb true), none⟩])
  (.ret))
  (.skip)))
 (.seq (.reg [⟨(some (.E 17)), .mv (.V 0), none⟩,
   ⟨(some (.E 18)), .load true 8 (.V 3), none⟩,
   ⟨(some (.E 19)), .call k_laws_toConfig [([0, 0, 0, 0, 0, 0, 0, 1], (.E 18))], none⟩,
   ⟨(some (.E 20)), .call k_spec_Shrunk [([0], (.E 17)), ([0, 0, 0, 0, 0, 0, 0, 1], (.E 19))], none⟩,
   ⟨(some (.E 16)), .mv (.E 20), none⟩,
   ⟨(some (.E 21)), .ext 0 (.E 16), none⟩,
   ⟨(some (.E 22)), .ext 1 (.E 16), none⟩,
   ⟨(some (.V 6)), .mv (.E 21), none⟩,
   ⟨(some (.V 7)), .mv (.E 22), none⟩])
 (.seq (.reg [⟨(some (.E 23)), .load true 8 (.V 3), none⟩,
   ⟨(some (.E 24)), .call k_laws_toConfig [([0, 0, 0, 0, 0, 0, 0, 1], (.E 23))], none⟩,
   ⟨(some (.V 8)), .alloc [(.v (.int .i64 0)), (.v (.int .i64 0)), (.v (.int .i64 0)), (.v (.int .i64 0)), (.v (.int .i64 0)), (.v (.int .i64 0)), (.v (.int .i64 0)), .e0], none⟩,
   ⟨none, .store [0, 0, 0, 0, 0, 0, 0, 1] (.V 8) (.E 24), none⟩])
 (.seq (.reg [⟨(some (.E 26)), .mv (.V 0), none⟩,
   ⟨(some (.E 27)), .load true 8 (.V 8), none⟩,
   ⟨(some (.E 28)), .call k_impl_Shrunk [([0], (.E 26)), ([0, 0, 0, 0, 0, 0, 0, 1], (.E 27))], none⟩,
   ⟨(some (.E 25)), .mv (.E 28), none⟩,
   ⟨(some (.E 29)), .ext 0 (.E 25), none⟩,
   ⟨(some (.E 30)), .ext 1 (.E 25), none⟩,
   ⟨(some (.V 9)), .mv (.E 29), none⟩,
   ⟨(some (.V 10)), .mv (.E 30), none⟩])
 (.seq (.seq (.reg [⟨(some (.E 31)), .mv (.V 9), none⟩,
   ⟨(some (.E 32)), .mv (.V 6), none⟩,
   ⟨(some (.E 33)), .bin .neq (.E 31) (.E 32), none⟩,
   ⟨(some (.E 34)), .mv (.E 33), none⟩,
   ⟨(some (.E 35)), .mv (.V 10), some ((.E 34), false)⟩,
   ⟨(some (.E 36)), .mv (.V 7), some ((.E 34), false)⟩,
   ⟨(some (.E 37)), .eqb true [.b] (.E 35) (.E 36), some ((.E 34), false)⟩,
   ⟨(some (.E 38)), .pick (.E 34) (kb true) (.E 37), none⟩])
 (.cond (.E 38)
  (.seq (.reg [⟨(some (.V 4)), .mv (kb false), none⟩])
  (.ret))
  (.skip)))
 (.seq (.seq (.regD [(⟨(some (.E 39)), .load true 8 (.V 8), none⟩, 0, 1),
   (⟨(some (.E 40)), .load true 8 (.V 3), none⟩, 0, 0),
   (⟨(some (.E 41)), .call k_laws_toConfig [([0, 0, 0, 0, 0, 0, 0, 1], (.E 40))], none⟩, 0, 0),
   (⟨(some (.E 42)), .call k_laws_eqConfig [([0, 0, 0, 0, 0, 0, 0, 1], (.E 39)), ([0, 0, 0, 0, 0, 0, 0, 1], (.E 41))], none⟩, 0, 0),
   (⟨(some (.E 43)), .un .not (.E 42), none⟩, 0, 0)])
 (.cond (.E 43)
  (.seq (.reg [⟨(some (.V 4)), .mv (kb false), none⟩])
  (.ret))
  (.skip)))
 (.seq (.reg [⟨(some (.V 4)), .mv (kb true), none⟩])
 (.ret))))))))))

def k_laws_FnExactShrunk_rv : List RV := [.tmp [0] 4]

def k_laws_eqIntS_vars : List Nat := [0, 1, 5, 4]

def k_laws_eqIntS_b0 : IC :=
 .seq (.seq (.reg [⟨(some (.E 11)), .mv (.V 5), none⟩,
   ⟨(some (.E 12)), .mv (.V 0), none⟩,
   ⟨(some (.E 13)), .len (.E 12), none⟩,
   ⟨(some (.E 14)), .bin .lss (.E 11) (.E 13), none⟩])
 (.cond (.E 14)
  (.skip)
  (.exit 0)))
 (.seq (.block 1 (.seq (.regD [(⟨(some (.E 17)), .mv (.V 0), none⟩, 0, 0),
    (⟨(some (.E 18)), .mv (.V 5), none⟩, 0, 0),
    (⟨(some (.E 19)), .iaddr 1 (.E 17) (.E 18), none⟩, 0, 0),
    (⟨(some (.E 20)), .load false 1 (.E 19), none⟩, 0, 0),
    (⟨(some (.E 21)), .mv (.V 1), none⟩, 0, 0),
    (⟨(some (.E 22)), .mv (.V 5), none⟩, 0, 0),
    (⟨(some (.E 23)), .iaddr 1 (.E 21) (.E 22), none⟩, 0, 0),
    (⟨(some (.E 24)), .load false 1 (.E 23), none⟩, 0, 0),
    (⟨(some (.E 25)), .bin .neq (.E 20) (.E 24), none⟩, 0, 0)])
  (.cond (.E 25)
   (.seq (.reg [⟨(some (.V 4)), .mv (kb false), none⟩])
   (.ret))
   (.skip))))
 (.reg [⟨(some (.E 15)), .mv (.V 5), none⟩,
   ⟨(some (.E 16)), .bin .add (.E 15) (ki 1), none⟩,
   ⟨(some (.V 5)), .mv (.E 16), none⟩]))

def k_laws_eqIntS_ic : IC :=
 .seq (.reg [⟨(some (.V 4)), .mv (kb false), none⟩])
 (.seq (.seq (.reg [⟨(some (.E 6)), .mv (.V 0), none⟩,
   ⟨(some (.E 7)), .len (.E 6), none⟩,
   ⟨(some (.E 8)), .mv (.V 1), none⟩,
   ⟨(some (.E 9)), .len (.E 8), none⟩,
   ⟨(some (.E 10)), .bin .neq (.E 7) (.E 9), none⟩])
 (.cond (.E 10)
  (.seq (.reg [⟨(some (.V 4)), .mv (kb false), none⟩])
  (.ret))
  (.skip)))
 (.seq (.seq (.reg [⟨(some (.V 5)), .mv (ki 0), none⟩])
 (.block 0 (.loop k_laws_eqIntS_b0)))
 (.seq (.reg [⟨(some (.V 4)), .mv (kb true), none⟩])
 (.ret))))

def k_laws_eqIntS_rv : List RV := [.tmp [0] 4]

def k_laws_szConfig_vars : List Nat := [0, 1, 2, 4]

def k_laws_szConfig_ic : IC :=
 .seq (.reg [⟨(some (.V 2)), .box (.V 0), none⟩,
   ⟨(some (.V 4)), .mv (ki 0), none⟩])
 (.seq (.reg [⟨(some (.E 5)), .faddr 7 (.V 2), none⟩,
   ⟨(some (.E 6)), .load false 1 (.E 5), none⟩,
   ⟨(some (.E 7)), .mv (.V 1), none⟩,
   ⟨(some (.E 8)), .call k_laws_szIntS [([1], (.E 6)), ([0], (.E 7))], none⟩,
   ⟨(some (.V 1)), .mv (.E 8), none⟩])
 (.seq (.seq (.reg [⟨(some (.E 9)), .mv (.V 1), none⟩,
   ⟨(some (.E 10)), .bin .lss (.E 9) (ki 0), none⟩])
 (.cond (.E 10)
  (.seq (.reg [⟨(some (.V 4)), .mv (ki (-1)), none⟩])
  (.ret))
  (.skip)))
 (.seq (.reg [⟨(some (.E 11)), .mv (.V 1), none⟩,
   ⟨(some (.V 4)), .mv (.E 11), none⟩])
 (.ret))))

def k_laws_szConfig_rv : List RV := [.tmp [0] 4]

def k_spec_Shrunk_vars : List Nat := [0, 1, 3, 4, 5]

def k_spec_Shrunk_ic : IC :=
 .seq (.reg [⟨(some (.V 3)), .box (.V 1), none⟩,
   ⟨(some (.V 4)), .mv (ki 0), none⟩,
   ⟨(some (.V 5)), .mv (kb false), none⟩])
 (.seq (.seq (.reg [⟨(some (.E 6)), .load true 8 (.V 3), none⟩,
   ⟨(some (.E 7)), .call k_spec_ConfigOk [([0, 0, 0, 0, 0, 0, 0, 1], (.E 6))], none⟩,
   ⟨(some (.E 8)), .un .not (.E 7), none⟩,
   ⟨(some (.E 9)), .mv (.E 8), none⟩,
   ⟨(some (.E 10)), .mv (.V 0), some ((.E 9), false)⟩,
   ⟨(some (.E 11)), .call k_spec_l14Leaf [([0], (.E 10))], some ((.E 9), false)⟩,
   ⟨(some (.E 12)), .un .not (.E 11), some ((.E 9), false)⟩,
   ⟨(some (.E 13)), .pick (.E 9) (kb true) (.E 12), none⟩])
 (.cond (.E 13)
  (.seq (.reg [⟨(some (.V 4)), .mv (ki 0), none⟩,
    ⟨(some (.V 5)), .mv (kb false), none⟩])
  (.ret))
  (.skip)))
 (.seq (.reg [⟨(some (.E 14)), .mv (.V 0), none⟩,
   ⟨(some (.E 15)), .faddr 5 (.V 3), none⟩,
   ⟨(some (.E 16)), .load false 1 (.E 15), none⟩,
   ⟨(some (.E 17)), .bin .mul (.E 14) (.E 16), none⟩,
   ⟨(some (.E 18)), .faddr 6 (.V 3), none⟩,
   ⟨(some (.E 19)), .load false 1 (.E 18), none⟩,
   ⟨(some (.E 20)), .call k_spec_FloorDiv [([0], (.E 17)), ([0], (.E 19))], none⟩,
   ⟨(some (.E 21)), .ext 0 (.E 20), none⟩,
   ⟨(some (.E 22)), .ext 1 (.E 20), none⟩,
   ⟨(some (.V 4)), .mv (.E 21), none⟩,
   ⟨(some (.V 5)), .mv (.E 22), none⟩])
 (.ret)))

def k_spec_Shrunk_rv : List RV := [.tmp [0] 4, .tmp [0] 5]

def k_laws_toConfig_vars : List Nat := [0, 1, 3, 2]

def k_laws_toConfig_ic : IC :=
 .seq (.reg [⟨(some (.V 1)), .box (.V 0), none⟩,
   ⟨(some (.V 2)), .alloc [(.v (.int .i64 0)), (.v (.int .i64 0)), (.v (.int .i64 0)), (.v (.int .i64 0)), (.v (.int .i64 0)), (.v (.int .i64 0)), (.v (.int .i64 0)), .e0], none⟩])
 (.seq (.reg [⟨(some (.V 3)), .alloc [(.v (.int .i64 0)), (.v (.int .i64 0)), (.v (.int .i64 0)), (.v (.int .i64 0)), (.v (.int .i64 0)), (.v (.int .i64 0)), (.v (.int .i64 0)), .e0], none⟩])
 (.seq (.reg [⟨(some (.E 4)), .faddr 0 (.V 1), none⟩,
   ⟨(some (.E 5)), .load false 1 (.E 4), none⟩,
   ⟨(some (.E 6)), .faddr 0 (.V 3), none⟩,
   ⟨none, .store [0] (.E 6) (.E 5), none⟩])
 (.seq (.reg [⟨(some (.E 7)), .faddr 1 (.V 1), none⟩,
   ⟨(some (.E 8)), .load false 1 (.E 7), none⟩,
   ⟨(some (.E 9)), .faddr 1 (.V 3), none⟩,
   ⟨none, .store [0] (.E 9) (.E 8), none⟩])
 (.seq (.reg [⟨(some (.E 10)), .faddr 2 (.V 1), none⟩,
   ⟨(some (.E 11)), .load false 1 (.E 10), none⟩,
   ⟨(some (.E 12)), .faddr 2 (.V 3), none⟩,
   ⟨none, .store [0] (.E 12) (.E 11), none⟩])
 (.seq (.reg [⟨(some (.E 13)), .faddr 3 (.V 1), none⟩,
   ⟨(some (.E 14)), .load false 1 (.E 13), none⟩,
   ⟨(some (.E 15)), .faddr 3 (.V 3), none⟩,
   ⟨none, .store [0] (.E 15) (.E 14), none⟩])
 (.seq (.reg [⟨(some (.E 16)), .faddr 4 (.V 1), none⟩,
   ⟨(some (.E 17)), .load false 1 (.E 16), none⟩,
   ⟨(some (.E 18)), .faddr 4 (.V 3), none⟩,
   ⟨none, .store [0] (.E 18) (.E 17), none⟩])
 (.seq (.reg [⟨(some (.E 19)), .faddr 5 (.V 1), none⟩,
   ⟨(some (.E 20)), .load false 1 (.E 19), none⟩,
   ⟨(some (.E 21)), .faddr 5 (.V 3), none⟩,
   ⟨none, .store [0] (.E 21) (.E 20), none⟩])
 (.seq (.reg [⟨(some (.E 22)), .faddr 6 (.V 1), none⟩,
   ⟨(some (.E 23)), .load false 1 (.E 22), none⟩,
   ⟨(some (.E 24)), .faddr 6 (.V 3), none⟩,
   ⟨none, .store [0] (.E 24) (.E 23), none⟩])
 (.seq (.reg [⟨(some (.E 25)), .faddr 7 (.V 1), none⟩,
   ⟨(some (.E 26)), .load false 1 (.E 25), none⟩,
   ⟨(some (.E 27)), .call k_laws_toIntS [([1], (.E 26))], none⟩,
   ⟨(some (.E 28)), .faddr 7 (.V 3), none⟩,
   ⟨none, .store [1] (.E 28) (.E 27), none⟩])
 (.seq (.reg [⟨(some (.E 29)), .load true 8 (.V 3), none⟩,
   ⟨none, .store [0, 0, 0, 0, 0, 0, 0, 1] (.V 2) (.E 29), none⟩])
 (.ret)))))))))))

def k_laws_toConfig_rv : List RV := [.cell [0, 0, 0, 0, 0, 0, 0, 1] 2 true]

def k_impl_Shrunk_vars : List Nat := [0, 1, 3, 4, 5]

def k_impl_Shrunk_ic : IC :=
 .seq (.reg [⟨(some (.V 3)), .box (.V 1), none⟩,
   ⟨(some (.V 4)), .mv (ki 0), none⟩,
   ⟨(some (.V 5)), .mv (kb false), none⟩])
 (.seq (.seq (.reg [⟨(some (.E 6)), .load true 8 (.V 3), none⟩,
   ⟨(some (.E 7)), .call k_impl_ConfigOk [([0, 0, 0, 0, 0, 0, 0, 1], (.E 6))], none⟩,
   ⟨(some (.E 8)), .un .not (.E 7), none⟩,
   ⟨(some (.E 9)), .mv (.E 8), none⟩,
   ⟨(some (.E 10)), .mv (.V 0), some ((.E 9), false)⟩,
   ⟨(some (.E 11)), .call k_impl_isLeafValue [([0], (.E 10))], some ((.E 9), false)⟩,
   ⟨(some (.E 12)), .un .not (.E 11), some ((.E 9), false)⟩,
   ⟨(some (.E 13)), .pick (.E 9) (kb true) (.E 12), none⟩])
 (.cond (.E 13)
  (.seq (.reg [⟨(some (.V 4)), .mv (ki 0), none⟩,
    ⟨(some (.V 5)), .mv (kb false), none⟩])
  (.ret))
  (.skip)))
 (.seq (.reg [⟨(some (.E 14)), .mv (.V 0), none⟩,
   ⟨(some (.E 15)), .faddr 5 (.V 3), none⟩,
   ⟨(some (.E 16)), .load false 1 (.E 15), none⟩,
   ⟨(some (.E 17)), .bin .mul (.E 14) (.E 16), none⟩,
   ⟨(some (.E 18)), .faddr 6 (.V 3), none⟩,
   ⟨(some (.E 19)), .load false 1 (.E 18), none⟩,
   ⟨(some (.E 20)), .call k_impl_FloorDiv [([0], (.E 17)), ([0], (.E 19))], none⟩,
   ⟨(some (.E 21)), .ext 0 (.E 20), none⟩,
   ⟨(some (.E 22)), .ext 1 (.E 20), none⟩,
   ⟨(some (.V 4)), .mv (.E 21), none⟩,
   ⟨(some (.V 5)), .mv (.E 22), none⟩])
 (.ret)))

def k_impl_Shrunk_rv : List RV := [.tmp [0] 4, .tmp [0] 5]

def k_laws_eqConfig_vars : List Nat := [0, 1, 2, 3, 4]

def k_laws_eqConfig_ic : IC :=
 .seq (.reg [⟨(some (.V 2)), .box (.V 0), none⟩,
   ⟨(some (.V 3)), .box (.V 1), none⟩,
   ⟨(some (.V 4)), .mv (kb false), none⟩])
 (.seq (.seq (.reg [⟨(some (.E 5)), .faddr 0 (.V 2), none⟩,
   ⟨(some (.E 6)), .load false 1 (.E 5), none⟩,
   ⟨(some (.E 7)), .faddr 0 (.V 3), none⟩,
   ⟨(some (.E 8)), .load false 1 (.E 7), none⟩,
   ⟨(some (.E 9)), .bin .neq (.E 6) (.E 8), none⟩])
 (.cond (.E 9)
  (.seq (.reg [⟨(some (.V 4)), .mv (kb false), none⟩])
  (.ret))
  (.skip)))
 (.seq (.seq (.reg [⟨(some (.E 10)), .faddr 1 (.V 2), none⟩,
   ⟨(some (.E 11)), .load false 1 (.E 10), none⟩,
   ⟨(some (.E 12)), .faddr 1 (.V 3), none⟩,
   ⟨(some (.E 13)), .load false 1 (.E 12), none⟩,
   ⟨(some (.E 14)), .bin .neq (.E 11) (.E 13), none⟩])
 (.cond (.E 14)
  (.seq (.reg [⟨(some (.V 4)), .mv (kb false), none⟩])
  (.ret))
  (.skip)))
 (.seq (.seq (.reg [⟨(some (.E 15)), .faddr 2 (.V 2), none⟩,
   ⟨(some (.E 16)), .load false 1 (.E 15), none⟩,
   ⟨(some (.E 17)), .faddr 2 (.V 3), none⟩,
   ⟨(some (.E 18)), .load false 1 (.E 17), none⟩,
   ⟨(some (.E 19)), .bin .neq (.E 16) (.E 18), none⟩])
 (.cond (.E 19)
  (.seq (.reg [⟨(some (.V 4)), .mv (kb false), none⟩])
  (.ret))
  (.skip)))
 (.seq (.seq (.reg [⟨(some (.E 20)), .faddr 3 (.V 2), none⟩,
   ⟨(some (.E 21)), .load false 1 (.E 20), none⟩,
   ⟨(some (.E 22)), .faddr 3 (.V 3), none⟩,
   ⟨(some (.E 23)), .load false 1 (.E 22), none⟩,
   ⟨(some (.E 24)), .bin .neq (.E 21) (.E 23), none⟩])
 (.cond (.E 24)
  (.seq (.reg [⟨(some (.V 4)), .mv (kb false), none⟩])
  (.ret))
  (.skip)))
 (.seq (.seq (.reg [⟨(some (.E 25)), .faddr 4 (.V 2), none⟩,
   ⟨(some (.E 26)), .load false 1 (.E 25), none⟩,
   ⟨(some (.E 27)), .faddr 4 (.V 3), none⟩,
   ⟨(some (.E 28)), .load false 1 (.E 27), none⟩,
   ⟨(some (.E 29)), .bin .neq (.E 26) (.E 28), none⟩])
 (.cond (.E 29)
  (.seq (.reg [⟨(some (.V 4)), .mv (kb false), none⟩])
  (.ret))
  (.skip)))
 (.seq (.seq (.reg [⟨(some (.E 30)), .faddr 5 (.V 2), none⟩,
   ⟨(some (.E 31)), .load false 1 (.E 30), none⟩,
   ⟨(some (.E 32)), .faddr 5 (.V 3), none⟩,
   ⟨(some (.E 33)), .load false 1 (.E 32), none⟩,
   ⟨(some (.E 34)), .bin .neq (.E 31) (.E 33), none⟩])
 (.cond (.E 34)
  (.seq (.reg [⟨(some (.V 4)), .mv (kb false), none⟩])
  (.ret))
  (.skip)))
 (.seq (.seq (.reg [⟨(some (.E 35)), .faddr 6 (.V 2), none⟩,
   ⟨(some (.E 36)), .load false 1 (.E 35), none⟩,
   ⟨(some (.E 37)), .faddr 6 (.V 3), none⟩,
   ⟨(some (.E 38)), .load false 1 (.E 37), none⟩,
   ⟨(some (.E 39)), .bin .neq (.E 36) (.E 38), none⟩])
 (.cond (.E 39)
  (.seq (.reg [⟨(some (.V 4)), .mv (kb false), none⟩])
  (.ret))
  (.skip)))
 (.seq (.seq (.reg [⟨(some (.E 40)), .faddr 7 (.V 2), none⟩,
   ⟨(some (.E 41)), .load false 1 (.E 40), none⟩,
   ⟨(some (.E 42)), .faddr 7 (.V 3), none⟩,
   ⟨(some (.E 43)), .load false 1 (.E 42), none⟩,
   ⟨(some (.E 44)), .call k_laws_eqIntS [([1], (.E 41)), ([1], (.E 43))], none⟩,
   ⟨(some (.E 45)), .un .not (.E 44), none⟩])
 (.cond (.E 45)
  (.seq (.reg [⟨(some (.V 4)), .mv (kb false), none⟩])
  (.ret))
  (.skip)))
 (.seq (.reg [⟨(some (.V 4)), .mv (kb true), none⟩])
 (.ret))))))))))

def k_laws_eqConfig_rv : List RV := [.tmp [0] 4]

def k_laws_toIntS_vars : List Nat := [0, 4, 3, 2]

def k_laws_toIntS_b0 : IC :=
 .seq (.seq (.reg [⟨(some (.E 8)), .mv (.V 4), none⟩,
   ⟨(some (.E 9)), .mv (.V 0), none⟩,
   ⟨(some (.E 10)), .len (.E 9), none⟩,
   ⟨(some (.E 11)), .bin .lss (.E 8) (.E 10), none⟩])
 (.cond (.E 11)
  (.skip)
  (.exit 0)))
 (.seq (.block 1 (.reg [⟨(some (.E 14)), .mv (.V 3), none⟩,
    ⟨(some (.E 15)), .mv (.V 4), none⟩,
    ⟨(some (.E 16)), .mv (.V 0), none⟩,
    ⟨(some (.E 17)), .mv (.V 4), none⟩,
    ⟨(some (.E 18)), .iaddr 1 (.E 16) (.E 17), none⟩,
    ⟨(some (.E 19)), .load false 1 (.E 18), none⟩,
    ⟨(some (.E 20)), .iaddr 1 (.E 14) (.E 15), none⟩,
    ⟨none, .store [0] (.E 20) (.E 19), none⟩]))
 (.reg [⟨(some (.E 12)), .mv (.V 4), none⟩,
   ⟨(some (.E 13)), .bin .add (.E 12) (ki 1), none⟩,
   ⟨(some (.V 4)), .mv (.E 13), none⟩]))

def k_laws_toIntS_ic : IC :=
 .seq (.reg [⟨(some (.V 2)), .mv (.C .e0), none⟩])
 (.seq (.reg [⟨(some (.E 5)), .mv (.V 0), none⟩,
   ⟨(some (.E 6)), .len (.E 5), none⟩,
   ⟨(some (.E 7)), .mksl 8 1 [(.v (.int .i64 0))] (.E 6) (.E 6), none⟩,
   ⟨(some (.V 3)), .mv (.E 7), none⟩])
 (.seq (.seq (.reg [⟨(some (.V 4)), .mv (ki 0), none⟩])
 (.block 0 (.loop k_laws_toIntS_b0)))
 (.seq (.reg [⟨(some (.E 21)), .mv (.V 3), none⟩,
   ⟨(some (.V 2)), .mv (.E 21), none⟩])
 (.ret))))

def k_laws_toIntS_rv : List RV := [.tmp [1] 2]

def k_spec_l1In_vars : List Nat := [0, 1, 2, 6]

def k_spec_l1In_ic : IC :=
 .seq (.reg [⟨(some (.V 6)), .mv (kb false), none⟩])
 (.seq (.reg [⟨(some (.E 7)), .mv (.V 0), none⟩,
   ⟨(some (.E 8)), .mv (.V 1), none⟩,
   ⟨(some (.E 9)), .bin .geq (.E 7) (.E 8), none⟩,
   ⟨(some (.E 10)), .mv (.E 9), none⟩,
   ⟨(some (.E 11)), .mv (.V 0), some ((.E 10), true)⟩,
   ⟨(some (.E 12)), .mv (.V 2), some ((.E 10), true)⟩,
   ⟨(some (.E 13)), .bin .leq (.E 11) (.E 12), some ((.E 10), true)⟩,
   ⟨(some (.E 14)), .pick (.E 10) (.E 13) (kb false), none⟩,
   ⟨(some (.V 6)), .mv (.E 14), none⟩])
 (.ret))

def k_spec_l1In_rv : List RV := [.tmp [0] 6]

def k_laws_szIntS_vars : List Nat := [0, 1, 4]

def k_laws_szIntS_ic : IC :=
 .seq (.reg [⟨(some (.V 4)), .mv (ki 0), none⟩])
 (.seq (.reg [⟨(some (.E 5)), .mv (.V 1), none⟩,
   ⟨(some (.E 6)), .mv (.V 0), none⟩,
   ⟨(some (.E 7)), .len (.E 6), none⟩,
   ⟨(some (.E 8)), .bin .sub (.E 5) (.E 7), none⟩,
   ⟨(some (.V 1)), .mv (.E 8), none⟩])
 (.seq (.seq (.reg [⟨(some (.E 9)), .mv (.V 1), none⟩,
   ⟨(some (.E 10)), .bin .lss (.E 9) (ki 0), none⟩])
 (.cond (.E 10)
  (.seq (.reg [⟨(some (.V 4)), .mv (ki (-1)), none⟩])
  (.ret))
  (.skip)))
 (.seq (.reg [⟨(some (.E 11)), .mv (.V 1), none⟩,
   ⟨(some (.V 4)), .mv (.E 11), none⟩])
 (.ret))))

def k_laws_szIntS_rv : List RV := [.tmp [0] 4]

def k_spec_ConfigOk_vars : List Nat := [0, 1, 4, 3, 5, 2]

def k_spec_ConfigOk_b0 : IC :=
 .seq (.seq (.reg [⟨(some (.E 8)), .mv (.V 4), none⟩,
   ⟨(some (.E 9)), .bin .lss (.E 8) (ki 5), none⟩])
 (.cond (.E 9)
  (.skip)
  (.exit 0)))
 (.seq (.block 1 (.seq (.regD [(⟨(some (.E 12)), .mv (.V 3), none⟩, 0, 0),
    (⟨(some (.E 13)), .mv (.V 4), none⟩, 0, 0),
    (⟨(some (.E 14)), .iaddr 1 (.E 12) (.E 13), none⟩, 0, 2),
    (⟨(some (.E 15)), .load false 1 (.E 14), none⟩, 0, 2),
    (⟨(some (.E 16)), .call k_spec_l8Least [], none⟩, 0, 0),
    (⟨(some (.E 17)), .mv (.V 4), none⟩, 0, 0),
    (⟨(some (.E 18)), .iaddr 1 (.E 16) (.E 17), none⟩, 0, 1),
    (⟨(some (.E 19)), .load false 1 (.E 18), none⟩, 0, 1),
    (⟨(some (.E 20)), .call k_spec_l8Most [], none⟩, 0, 0),
    (⟨(some (.E 21)), .mv (.V 4), none⟩, 0, 0),
    (⟨(some (.E 22)), .iaddr 1 (.E 20) (.E 21), none⟩, 0, 0),
    (⟨(some (.E 23)), .load false 1 (.E 22), none⟩, 0, 0),
    (⟨(some (.E 24)), .call k_spec_l1In [([0], (.E 15)), ([0], (.E 19)), ([0], (.E 23))], none⟩, 0, 0),
    (⟨(some (.E 25)), .un .not (.E 24), none⟩, 0, 0)])
  (.cond (.E 25)
   (.seq (.reg [⟨(some (.V 2)), .mv (kb false), none⟩])
   (.ret))
   (.skip))))
 (.reg [⟨(some (.E 10)), .mv (.V 4), none⟩,
   ⟨(some (.E 11)), .bin .add (.E 10) (ki 1), none⟩,
   ⟨(some (.V 4)), .mv (.E 11), none⟩]))

def k_spec_ConfigOk_b1 : IC :=
 .seq (.seq (.reg [⟨(some (.E 26)), .mv (.V 5), none⟩,
   ⟨(some (.E 27)), .faddr 7 (.V 1), none⟩,
   ⟨(some (.E 28)), .load false 1 (.E 27), none⟩,
   ⟨(some (.E 29)), .len (.E 28), none⟩,
   ⟨(some (.E 30)), .bin .lss (.E 26) (.E 29), none⟩])
 (.cond (.E 30)
  (.skip)
  (.exit 2)))
 (.seq (.block 3 (.seq (.reg [⟨(some (.E 33)), .faddr 7 (.V 1), none⟩,
    ⟨(some (.E 34)), .load false 1 (.E 33), none⟩,
    ⟨(some (.E 35)), .mv (.V 5), none⟩,
    ⟨(some (.E 36)), .iaddr 1 (.E 34) (.E 35), none⟩,
    ⟨(some (.E 37)), .load false 1 (.E 36), none⟩,
    ⟨(some (.E 38)), .call k_spec_l1In [([0], (.E 37)), ([0], (ki (-1))), ([0], (ki 1))], none⟩,
    ⟨(some (.E 39)), .un .not (.E 38), none⟩])
  (.cond (.E 39)
   (.seq (.reg [⟨(some (.V 2)), .mv (kb false), none⟩])
   (.ret))
   (.skip))))
 (.reg [⟨(some (.E 31)), .mv (.V 5), none⟩,
   ⟨(some (.E 32)), .bin .add (.E 31) (ki 1), none⟩,
   ⟨(some (.V 5)), .mv (.E 32), none⟩]))

def k_spec_ConfigOk_ic : IC :=
 .seq (.reg [⟨(some (.V 1)), .box (.V 0), none⟩,
   ⟨(some (.V 2)), .mv (kb false), none⟩])
 (.seq (.reg [⟨(some (.E 6)), .load true 8 (.V 1), none⟩,
   ⟨(some (.E 7)), .call k_spec_l8Numbers [([0, 0, 0, 0, 0, 0, 0, 1], (.E 6))], none⟩,
   ⟨(some (.V 3)), .mv (.E 7), none⟩])
 (.seq (.seq (.reg [⟨(some (.V 4)), .mv (ki 0), none⟩])
 (.block 0 (.loop k_spec_ConfigOk_b0)))
 (.seq (.seq (.reg [⟨(some (.V 5)), .mv (ki 0), none⟩])
 (.block 2 (.loop k_spec_ConfigOk_b1)))
 (.seq (.reg [⟨(some (.E 40)), .faddr 6 (.V 1), none⟩,
   ⟨(some (.E 41)), .load false 1 (.E 40), none⟩,
   ⟨(some (.E 42)), .call k_spec_l1In [([0], (.E 41)), ([0], (ki 1)), ([0], (ki 1000))], none⟩,
   ⟨(some (.E 43)), .mv (.E 42), none⟩,
   ⟨(some (.E 44)), .faddr 5 (.V 1), some ((.E 43), true)⟩,
   ⟨(some (.E 45)), .load false 1 (.E 44), some ((.E 43), true)⟩,
   ⟨(some (.E 46)), .faddr 6 (.V 1), some ((.E 43), true)⟩,
   ⟨(some (.E 47)), .load false 1 (.E 46), some ((.E 43), true)⟩,
   ⟨(some (.E 48)), .call k_spec_l1In [([0], (.E 45)), ([0], (ki 1)), ([0], (.E 47))], some ((.E 43), true)⟩,
   ⟨(some (.E 49)), .pick (.E 43) (.E 48) (kb false), none⟩,
   ⟨(some (.E 50)), .mv (.E 49), none⟩,
   ⟨(some (.E 51)), .faddr 7 (.V 1), some ((.E 50), true)⟩,
   ⟨(some (.E 52)), .load false 1 (.E 51), some ((.E 50), true)⟩,
   ⟨(some (.E 53)), .len (.E 52), some ((.E 50), true)⟩,
   ⟨(some (.E 54)), .bin .leq (.E 53) (ki 4), some ((.E 50), true)⟩,
   ⟨(some (.E 55)), .pick (.E 50) (.E 54) (kb false), none⟩,
   ⟨(some (.V 2)), .mv (.E 55), none⟩])
 (.ret)))))

def k_spec_ConfigOk_rv : List RV := [.tmp [0] 2]

def k_spec_l14Leaf_vars : List Nat := [0, 2]

def k_spec_l14Leaf_ic : IC :=
 .seq (.reg [⟨(some (.V 2)), .mv (kb false), none⟩])
 (.seq (.reg [⟨(some (.E 3)), .mv (.V 0), none⟩,
   ⟨(some (.E 4)), .call k_spec_l1In [([0], (.E 3)), ([0], (ki (-1099511627776))), ([0], (ki 1099511627776))], none⟩,
   ⟨(some (.V 2)), .mv (.E 4), none⟩])
 (.ret))

def k_spec_l14Leaf_rv : List RV := [.tmp [0] 2]

def k_spec_FloorDiv_vars : List Nat := [0, 1, 6, 4, 5]

def k_spec_FloorDiv_ic : IC :=
 .seq (.reg [⟨(some (.V 4)), .mv (ki 0), none⟩,
   ⟨(some (.V 5)), .mv (kb false), none⟩])
 (.seq (.seq (.reg [⟨(some (.E 7)), .mv (.V 1), none⟩,
   ⟨(some (.E 8)), .bin .eql (.E 7) (ki 0), none⟩,
   ⟨(some (.E 9)), .mv (.E 8), none⟩,
   ⟨(some (.E 10)), .mv (.V 1), some ((.E 9), false)⟩,
   ⟨(some (.E 11)), .bin .eql (.E 10) (ki (-1)), some ((.E 9), false)⟩,
   ⟨(some (.E 12)), .mv (.E 11), some ((.E 9), false)⟩,
   ⟨(some (.E 13)), .mv (.V 0), some ((.E 12), true)⟩,
   ⟨(some (.E 14)), .bin .eql (.E 13) (ki (-9223372036854775808)), some ((.E 12), true)⟩,
   ⟨(some (.E 15)), .pick (.E 12) (.E 14) (kb false), some ((.E 9), false)⟩,
   ⟨(some (.E 16)), .pick (.E 9) (kb true) (.E 15), none⟩])
 (.cond (.E 16)
  (.seq (.reg [⟨(some (.V 4)), .mv (ki 0), none⟩,
    ⟨(some (.V 5)), .mv (kb false), none⟩])
  (.ret))
  (.skip)))
 (.seq (.reg [⟨(some (.E 17)), .mv (.V 0), none⟩,
   ⟨(some (.E 18)), .mv (.V 1), none⟩,
   ⟨(some (.E 19)), .bin .quo (.E 17) (.E 18), none⟩,
   ⟨(some (.V 6)), .mv (.E 19), none⟩])
 (.seq (.seq (.reg [⟨(some (.E 20)), .mv (.V 0), none⟩,
   ⟨(some (.E 21)), .mv (.V 1), none⟩,
   ⟨(some (.E 22)), .bin .rem (.E 20) (.E 21), none⟩,
   ⟨(some (.E 23)), .bin .neq (.E 22) (ki 0), none⟩,
   ⟨(some (.E 24)), .mv (.E 23), none⟩,
   ⟨(some (.E 25)), .mv (.V 0), some ((.E 24), true)⟩,
   ⟨(some (.E 26)), .bin .lss (.E 25) (ki 0), some ((.E 24), true)⟩,
   ⟨(some (.E 27)), .mv (.V 1), some ((.E 24), true)⟩,
   ⟨(some (.E 28)), .bin .lss (.E 27) (ki 0), some ((.E 24), true)⟩,
   ⟨(some (.E 29)), .eqb true [.b] (.E 26) (.E 28), some ((.E 24), true)⟩,
   ⟨(some (.E 30)), .pick (.E 24) (.E 29) (kb false), none⟩])
 (.cond (.E 30)
  (.reg [⟨(some (.E 31)), .mv (.V 6), none⟩,
    ⟨(some (.E 32)), .bin .sub (.E 31) (ki 1), none⟩,
    ⟨(some (.V 6)), .mv (.E 32), none⟩])
  (.skip)))
 (.seq (.reg [⟨(some (.E 33)), .mv (.V 6), none⟩,
   ⟨(some (.V 4)), .mv (.E 33), none⟩,
   ⟨(some (.V 5)), .mv (kb true), none⟩])
 (.ret)))))

def k_spec_FloorDiv_rv : List RV := [.tmp [0] 4, .tmp [0] 5]

def k_impl_ConfigOk_vars : List Nat := [0, 1, 2]

def k_impl_ConfigOk_ic : IC :=
 .seq (.reg [⟨(some (.V 1)), .box (.V 0), none⟩,
   ⟨(some (.V 2)), .mv (kb false), none⟩])
 (.seq (.reg [⟨(some (.E 3)), .faddr 0 (.V 1), none⟩,
   ⟨(some (.E 4)), .load false 1 (.E 3), none⟩,
   ⟨(some (.E 5)), .call k_impl_within [([0], (.E 4)), ([0], (ki 1)), ([0], (ki 8))], none⟩,
   ⟨(some (.E 6)), .mv (.E 5), none⟩,
   ⟨(some (.E 7)), .faddr 1 (.V 1), some ((.E 6), true)⟩,
   ⟨(some (.E 8)), .load false 1 (.E 7), some ((.E 6), true)⟩,
   ⟨(some (.E 9)), .call k_impl_within [([0], (.E 8)), ([0], (ki 0)), ([0], (ki 4))], some ((.E 6), true)⟩,
   ⟨(some (.E 10)), .pick (.E 6) (.E 9) (kb false), none⟩,
   ⟨(some (.E 11)), .mv (.E 10), none⟩,
   ⟨(some (.E 12)), .faddr 2 (.V 1), some ((.E 11), true)⟩,
   ⟨(some (.E 13)), .load false 1 (.E 12), some ((.E 11), true)⟩,
   ⟨(some (.E 14)), .call k_impl_within [([0], (.E 13)), ([0], (ki 2)), ([0], (ki 8))], some ((.E 11), true)⟩,
   ⟨(some (.E 15)), .pick (.E 11) (.E 14) (kb false), none⟩,
   ⟨(some (.E 16)), .mv (.E 15), none⟩,
   ⟨(some (.E 17)), .faddr 3 (.V 1), some ((.E 16), true)⟩,
   ⟨(some (.E 18)), .load false 1 (.E 17), some ((.E 16), true)⟩,
   ⟨(some (.E 19)), .call k_impl_within [([0], (.E 18)), ([0], (ki 1)), ([0], (ki 100))], some ((.E 16), true)⟩,
   ⟨(some (.E 20)), .pick (.E 16) (.E 19) (kb false), none⟩,
   ⟨(some (.E 21)), .mv (.E 20), none⟩,
   ⟨(some (.E 22)), .faddr 4 (.V 1), some ((.E 21), true)⟩,
   ⟨(some (.E 23)), .load false 1 (.E 22), some ((.E 21), true)⟩,
   ⟨(some (.E 24)), .call k_impl_within [([0], (.E 23)), ([0], (ki 1)), ([0], (ki 20))], some ((.E 21), true)⟩,
   ⟨(some (.E 25)), .pick (.E 21) (.E 24) (kb false), none⟩,
   ⟨(some (.E 26)), .mv (.E 25), none⟩,
   ⟨(some (.E 27)), .faddr 6 (.V 1), some ((.E 26), true)⟩,
   ⟨(some (.E 28)), .load false 1 (.E 27), some ((.E 26), true)⟩,
   ⟨(some (.E 29)), .call k_impl_within [([0], (.E 28)), ([0], (ki 1)), ([0], (ki 1000))], some ((.E 26), true)⟩,
   ⟨(some (.E 30)), .pick (.E 26) (.E 29) (kb false), none⟩,
   ⟨(some (.E 31)), .mv (.E 30), none⟩,
   ⟨(some (.E 32)), .faddr 5 (.V 1), some ((.E 31), true)⟩,
   ⟨(some (.E 33)), .load false 1 (.E 32), some ((.E 31), true)⟩,
   ⟨(some (.E 34)), .faddr 6 (.V 1), some ((.E 31), true)⟩,
   ⟨(some (.E 35)), .load false 1 (.E 34), some ((.E 31), true)⟩,
   ⟨(some (.E 36)), .call k_impl_within [([0], (.E 33)), ([0], (ki 1)), ([0], (.E 35))], some ((.E 31), true)⟩,
   ⟨(some (.E 37)), .pick (.E 31) (.E 36) (kb false), none⟩,
   ⟨(some (.E 38)), .mv (.E 37), none⟩,
   ⟨(some (.E 39)), .faddr 7 (.V 1), some ((.E 38), true)⟩,
   ⟨(some (.E 40)), .load false 1 (.E 39), some ((.E 38), true)⟩,
   ⟨(some (.E 41)), .len (.E 40), some ((.E 38), true)⟩,
   ⟨(some (.E 42)), .bin .leq (.E 41) (ki 4), some ((.E 38), true)⟩,
   ⟨(some (.E 43)), .pick (.E 38) (.E 42) (kb false), none⟩,
   ⟨(some (.E 44)), .mv (.E 43), none⟩,
   ⟨(some (.E 45)), .faddr 7 (.V 1), some ((.E 44), true)⟩,
   ⟨(some (.E 46)), .load false 1 (.E 45), some ((.E 44), true)⟩,
   ⟨(some (.E 47)), .call k_slices_ContainsFunc___int_int_ [([1], (.E 46)), ([0], (.C (.fn k_impl_ConfigOk_1 [])))], some ((.E 44), true)⟩,
   ⟨(some (.E 48)), .un .not (.E 47), some ((.E 44), true)⟩,
   ⟨(some (.E 49)), .pick (.E 44) (.E 48) (kb false), none⟩,
   ⟨(some (.V 2)), .mv (.E 49), none⟩])
 (.ret))

def k_impl_ConfigOk_rv : List RV := [.tmp [0] 2]

def k_impl_isLeafValue_vars : List Nat := [0, 2]

def k_impl_isLeafValue_ic : IC :=
 .seq (.reg [⟨(some (.V 2)), .mv (kb false), none⟩])
 (.seq (.reg [⟨(some (.E 3)), .mv (.V 0), none⟩,
   ⟨(some (.E 4)), .call k_impl_within [([0], (.E 3)), ([0], (ki (-1099511627776))), ([0], (ki 1099511627776))], none⟩,
   ⟨(some (.V 2)), .mv (.E 4), none⟩])
 (.ret))

def k_impl_isLeafValue_rv : List RV := [.tmp [0] 2]

def k_impl_FloorDiv_vars : List Nat := [0, 1, 6, 4, 5]

def k_impl_FloorDiv_ic : IC :=
 .seq (.reg [⟨(some (.V 4)), .mv (ki 0), none⟩,
   ⟨(some (.V 5)), .mv (kb false), none⟩])
 (.seq (.seq (.reg [⟨(some (.E 7)), .mv (.V 1), none⟩,
   ⟨(some (.E 8)), .bin .eql (.E 7) (ki 0), none⟩,
   ⟨(some (.E 9)), .mv (.E 8), none⟩,
   ⟨(some (.E 10)), .mv (.V 0), some ((.E 9), false)⟩,
   ⟨(some (.E 11)), .bin .eql (.E 10) (ki (-9223372036854775808)), some ((.E 9), false)⟩,
   ⟨(some (.E 12)), .mv (.E 11), some ((.E 9), false)⟩,
   ⟨(some (.E 13)), .mv (.V 1), some ((.E 12), true)⟩,
   ⟨(some (.E 14)), .bin .eql (.E 13) (ki (-1)), some ((.E 12), true)⟩,
   ⟨(some (.E 15)), .pick (.E 12) (.E 14) (kb false), some ((.E 9), false)⟩,
   ⟨(some (.E 16)), .pick (.E 9) (kb true) (.E 15), none⟩])
 (.cond (.E 16)
  (.seq (.reg [⟨(some (.V 4)), .mv (ki 0), none⟩,
    ⟨(some (.V 5)), .mv (kb false), none⟩])
  (.ret))
  (.skip)))
 (.seq (.reg [⟨(some (.E 17)), .mv (.V 0), none⟩,
   ⟨(some (.E 18)), .mv (.V 1), none⟩,
   ⟨(some (.E 19)), .bin .quo (.E 17) (.E 18), none⟩,
   ⟨(some (.V 6)), .mv (.E 19), none⟩])
 (.seq (.seq (.reg [⟨(some (.E 20)), .mv (.V 0), none⟩,
   ⟨(some (.E 21)), .mv (.V 1), none⟩,
   ⟨(some (.E 22)), .bin .rem (.E 20) (.E 21), none⟩,
   ⟨(some (.E 23)), .bin .neq (.E 22) (ki 0), none⟩,
   ⟨(some (.E 24)), .mv (.E 23), none⟩,
   ⟨(some (.E 25)), .mv (.V 0), some ((.E 24), true)⟩,
   ⟨(some (.E 26)), .bin .lss (.E 25) (ki 0), some ((.E 24), true)⟩,
   ⟨(some (.E 27)), .mv (.V 1), some ((.E 24), true)⟩,
   ⟨(some (.E 28)), .bin .lss (.E 27) (ki 0), some ((.E 24), true)⟩,
   ⟨(some (.E 29)), .eqb true [.b] (.E 26) (.E 28), some ((.E 24), true)⟩,
   ⟨(some (.E 30)), .pick (.E 24) (.E 29) (kb false), none⟩])
 (.cond (.E 30)
  (.reg [⟨(some (.E 31)), .mv (.V 6), none⟩,
    ⟨(some (.E 32)), .bin .sub (.E 31) (ki 1), none⟩,
    ⟨(some (.V 6)), .mv (.E 32), none⟩])
  (.skip)))
 (.seq (.reg [⟨(some (.E 33)), .mv (.V 6), none⟩,
   ⟨(some (.V 4)), .mv (.E 33), none⟩,
   ⟨(some (.V 5)), .mv (kb true), none⟩])
 (.ret)))))

def k_impl_FloorDiv_rv : List RV := [.tmp [0] 4, .tmp [0] 5]

def k_impl_within_vars : List Nat := [0, 1, 2, 6]

def k_impl_within_ic : IC :=
 .seq (.reg [⟨(some (.V 6)), .mv (kb false), none⟩])
 (.seq (.reg [⟨(some (.E 7)), .mv (.V 0), none⟩,
   ⟨(some (.E 8)), .mv (.V 1), none⟩,
   ⟨(some (.E 9)), .bin .geq (.E 7) (.E 8), none⟩,
   ⟨(some (.E 10)), .mv (.E 9), none⟩,
   ⟨(some (.E 11)), .mv (.V 0), some ((.E 10), true)⟩,
   ⟨(some (.E 12)), .mv (.V 2), some ((.E 10), true)⟩,
   ⟨(some (.E 13)), .bin .leq (.E 11) (.E 12), some ((.E 10), true)⟩,
   ⟨(some (.E 14)), .pick (.E 10) (.E 13) (kb false), none⟩,
   ⟨(some (.V 6)), .mv (.E 14), none⟩])
 (.ret))

def k_impl_within_rv : List RV := [.tmp [0] 6]

def k_slices_ContainsFunc___int_int__vars : List Nat := [0, 1, 4]

def k_slices_ContainsFunc___int_int__ic : IC :=
 .seq (.reg [⟨(some (.V 4)), .mv (kb false), none⟩])
 (.seq (.reg [⟨(some (.E 5)), .mv (.V 0), none⟩,
   ⟨(some (.E 6)), .mv (.V 1), none⟩,
   ⟨(some (.E 7)), .call k_slices_IndexFunc___int_int_ [([1], (.E 5)), ([0], (.E 6))], none⟩,
   ⟨(some (.E 8)), .bin .geq (.E 7) (ki 0), none⟩,
   ⟨(some (.V 4)), .mv (.E 8), none⟩])
 (.ret))

def k_slices_ContainsFunc___int_int__rv : List RV := [.tmp [0] 4]

def k_spec_l8Numbers_vars : List Nat := [0, 1, 2]

def k_spec_l8Numbers_ic : IC :=
 .seq (.reg [⟨(some (.V 1)), .box (.V 0), none⟩,
   ⟨(some (.V 2)), .mv (.C .e0), none⟩])
 (.seq (.reg [⟨(some (.E 3)), .faddr 0 (.V 1), none⟩,
   ⟨(some (.E 4)), .load false 1 (.E 3), none⟩,
   ⟨(some (.E 5)), .faddr 1 (.V 1), none⟩,
   ⟨(some (.E 6)), .load false 1 (.E 5), none⟩,
   ⟨(some (.E 7)), .faddr 2 (.V 1), none⟩,
   ⟨(some (.E 8)), .load false 1 (.E 7), none⟩,
   ⟨(some (.E 9)), .faddr 3 (.V 1), none⟩,
   ⟨(some (.E 10)), .load false 1 (.E 9), none⟩,
   ⟨(some (.E 11)), .faddr 4 (.V 1), none⟩,
   ⟨(some (.E 12)), .load false 1 (.E 11), none⟩,
   ⟨(some (.E 13)), .bslice 5 1 [(.v (.int .i64 0))] [(0, (.E 4)), (1, (.E 6)), (2, (.E 8)), (3, (.E 10)), (4, (.E 12))], none⟩,
   ⟨(some (.V 2)), .mv (.E 13), none⟩])
 (.ret))

def k_spec_l8Numbers_rv : List RV := [.tmp [1] 2]

def k_spec_l8Least_vars : List Nat := [0]

def k_spec_l8Least_ic : IC :=
 .seq (.reg [⟨(some (.V 0)), .mv (.C .e0), none⟩])
 (.seq (.reg [⟨(some (.E 1)), .bslice 5 1 [(.v (.int .i64 0))] [(0, (ki 1)), (1, (ki 0)), (2, (ki 2)), (3, (ki 1)), (4, (ki 1))], none⟩,
   ⟨(some (.V 0)), .mv (.E 1), none⟩])
 (.ret))

def k_spec_l8Least_rv : List RV := [.tmp [1] 0]

def k_spec_l8Most_vars : List Nat := [0]

def k_spec_l8Most_ic : IC :=
 .seq (.reg [⟨(some (.V 0)), .mv (.C .e0), none⟩])
 (.seq (.reg [⟨(some (.E 1)), .bslice 5 1 [(.v (.int .i64 0))] [(0, (ki 8)), (1, (ki 4)), (2, (ki 8)), (3, (ki 100)), (4, (ki 20))], none⟩,
   ⟨(some (.V 0)), .mv (.E 1), none⟩])
 (.ret))

def k_spec_l8Most_rv : List RV := [.tmp [1] 0]

def k_impl_ConfigOk_1_vars : List Nat := [0, 2]

def k_impl_ConfigOk_1_ic : IC :=
 .seq (.reg [⟨(some (.V 2)), .mv (kb false), none⟩])
 (.seq (.reg [⟨(some (.E 3)), .mv (.V 0), none⟩,
   ⟨(some (.E 4)), .call k_impl_isSign [([0], (.E 3))], none⟩,
   ⟨(some (.E 5)), .un .not (.E 4), none⟩,
   ⟨(some (.V 2)), .mv (.E 5), none⟩])
 (.ret))

def k_impl_ConfigOk_1_rv : List RV := [.tmp [0] 2]

def k_impl_isSign_vars : List Nat := [0, 2]

def k_impl_isSign_ic : IC :=
 .seq (.reg [⟨(some (.V 2)), .mv (kb false), none⟩])
 (.seq (.reg [⟨(some (.E 3)), .mv (.V 0), none⟩,
   ⟨(some (.E 4)), .call k_impl_within [([0], (.E 3)), ([0], (ki (-1))), ([0], (ki 1))], none⟩,
   ⟨(some (.V 2)), .mv (.E 4), none⟩])
 (.ret))

def k_impl_isSign_rv : List RV := [.tmp [0] 2]

def k_slices_IndexFunc___int_int__vars : List Nat := [0, 1, 8, 7, 5, 4]

def k_slices_IndexFunc___int_int__b0 : IC :=
 .seq (.reg [⟨(some (.E 9)), .bin .lss (.V 8) (.V 7), none⟩])
 (.seq (.cond (.E 9)
  (.skip)
  (.exit 0))
 (.seq (.block 1 (.seq (.reg [⟨(some (.E 10)), .mv (.V 8), none⟩,
    ⟨(some (.V 5)), .mv (.E 10), none⟩])
  (.seq (.reg [⟨(some (.E 11)), .mv (.V 1), none⟩,
    ⟨(some (.E 12)), .mv (.V 0), none⟩,
    ⟨(some (.E 13)), .mv (.V 5), none⟩,
    ⟨(some (.E 14)), .iaddr 1 (.E 12) (.E 13), none⟩,
    ⟨(some (.E 15)), .load false 1 (.E 14), none⟩,
    ⟨(some (.E 16)), .callv (.E 11) [([0], (.E 15))], none⟩])
  (.cond (.E 16)
   (.seq (.reg [⟨(some (.E 17)), .mv (.V 5), none⟩,
     ⟨(some (.V 4)), .mv (.E 17), none⟩])
   (.ret))
   (.skip)))))
 (.reg [⟨(some (.E 18)), .bin .add (.V 8) (ki 1), none⟩,
   ⟨(some (.V 8)), .mv (.E 18), none⟩])))

def k_slices_IndexFunc___int_int__ic : IC :=
 .seq (.reg [⟨(some (.V 4)), .mv (ki 0), none⟩])
 (.seq (.seq (.reg [⟨(some (.E 6)), .mv (.V 0), none⟩,
   ⟨(some (.V 7)), .len (.E 6), none⟩,
   ⟨(some (.V 8)), .mv (ki 0), none⟩])
 (.block 0 (.loop k_slices_IndexFunc___int_int__b0)))
 (.seq (.reg [⟨(some (.V 4)), .mv (ki (-1)), none⟩])
 (.ret)))

def k_slices_IndexFunc___int_int__rv : List RV := [.tmp [0] 4]

def tbl : List (Nat × Fun) := [
  (k_laws_FnExactShrunk, fnOf k_laws_FnExactShrunk_ic k_laws_FnExactShrunk_rv []),
  (k_laws_eqIntS, fnOf k_laws_eqIntS_ic k_laws_eqIntS_rv []),
  (k_laws_szConfig, fnOf k_laws_szConfig_ic k_laws_szConfig_rv []),
  (k_spec_Shrunk, fnOf k_spec_Shrunk_ic k_spec_Shrunk_rv []),
  (k_laws_toConfig, fnOf k_laws_toConfig_ic k_laws_toConfig_rv []),
  (k_impl_Shrunk, fnOf k_impl_Shrunk_ic k_impl_Shrunk_rv []),
  (k_laws_eqConfig, fnOf k_laws_eqConfig_ic k_laws_eqConfig_rv []),
  (k_laws_toIntS, fnOf k_laws_toIntS_ic k_laws_toIntS_rv []),
  (k_spec_l1In, fnOf k_spec_l1In_ic k_spec_l1In_rv []),
  (k_laws_szIntS, fnOf k_laws_szIntS_ic k_laws_szIntS_rv []),
  (k_spec_ConfigOk, fnOf k_spec_ConfigOk_ic k_spec_ConfigOk_rv []),
  (k_spec_l14Leaf, fnOf k_spec_l14Leaf_ic k_spec_l14Leaf_rv []),
  (k_spec_FloorDiv, fnOf k_spec_FloorDiv_ic k_spec_FloorDiv_rv []),
  (k_impl_ConfigOk, fnOf k_impl_ConfigOk_ic k_impl_ConfigOk_rv []),
  (k_impl_isLeafValue, fnOf k_impl_isLeafValue_ic k_impl_isLeafValue_rv []),
  (k_impl_FloorDiv, fnOf k_impl_FloorDiv_ic k_impl_FloorDiv_rv []),
  (k_impl_within, fnOf k_impl_within_ic k_impl_within_rv []),
  (k_slices_ContainsFunc___int_int_, fnOf k_slices_ContainsFunc___int_int__ic k_slices_ContainsFunc___int_int__rv []),
  (k_spec_l8Numbers, fnOf k_spec_l8Numbers_ic k_spec_l8Numbers_rv []),
  (k_spec_l8Least, fnOf k_spec_l8Least_ic k_spec_l8Least_rv []),
  (k_spec_l8Most, fnOf k_spec_l8Most_ic k_spec_l8Most_rv []),
  (k_impl_ConfigOk_1, fnOf k_impl_ConfigOk_1_ic k_impl_ConfigOk_1_rv []),
  (k_impl_isSign, fnOf k_impl_isSign_ic k_impl_isSign_rv []),
  (k_slices_IndexFunc___int_int_, fnOf k_slices_IndexFunc___int_int__ic k_slices_IndexFunc___int_int__rv [])]

def T : Table := fun f => (tbl.find? fun q => q.1 == f).map fun q => q.2

theorem T_laws_FnExactShrunk : T k_laws_FnExactShrunk = some (fnOf k_laws_FnExactShrunk_ic k_laws_FnExactShrunk_rv []) := rfl

@[simp] theorem M_laws_FnExactShrunk : modesOf T k_laws_FnExactShrunk = [] := modesOf_code T_laws_FnExactShrunk

theorem T_laws_eqIntS : T k_laws_eqIntS = some (fnOf k_laws_eqIntS_ic k_laws_eqIntS_rv []) := rfl

@[simp] theorem M_laws_eqIntS : modesOf T k_laws_eqIntS = [] := modesOf_code T_laws_eqIntS

theorem T_laws_szConfig : T k_laws_szConfig = some (fnOf k_laws_szConfig_ic k_laws_szConfig_rv []) := rfl

@[simp] theorem M_laws_szConfig : modesOf T k_laws_szConfig = [] := modesOf_code T_laws_szConfig

theorem T_spec_Shrunk : T k_spec_Shrunk = some (fnOf k_spec_Shrunk_ic k_spec_Shrunk_rv []) := rfl

@[simp] theorem M_spec_Shrunk : modesOf T k_spec_Shrunk = [] := modesOf_code T_spec_Shrunk

theorem T_laws_toConfig : T k_laws_toConfig = some (fnOf k_laws_toConfig_ic k_laws_toConfig_rv []) := rfl

@[simp] theorem M_laws_toConfig : modesOf T k_laws_toConfig = [] := modesOf_code T_laws_toConfig

theorem T_impl_Shrunk : T k_impl_Shrunk = some (fnOf k_impl_Shrunk_ic k_impl_Shrunk_rv []) := rfl

@[simp] theorem M_impl_Shrunk : modesOf T k_impl_Shrunk = [] := modesOf_code T_impl_Shrunk

theorem T_laws_eqConfig : T k_laws_eqConfig = some (fnOf k_laws_eqConfig_ic k_laws_eqConfig_rv []) := rfl

@[simp] theorem M_laws_eqConfig : modesOf T k_laws_eqConfig = [] := modesOf_code T_laws_eqConfig

theorem T_laws_toIntS : T k_laws_toIntS = some (fnOf k_laws_toIntS_ic k_laws_toIntS_rv []) := rfl

@[simp] theorem M_laws_toIntS : modesOf T k_laws_toIntS = [] := modesOf_code T_laws_toIntS

theorem T_spec_l1In : T k_spec_l1In = some (fnOf k_spec_l1In_ic k_spec_l1In_rv []) := rfl

@[simp] theorem M_spec_l1In : modesOf T k_spec_l1In = [] := modesOf_code T_spec_l1In

theorem T_laws_szIntS : T k_laws_szIntS = some (fnOf k_laws_szIntS_ic k_laws_szIntS_rv []) := rfl

@[simp] theorem M_laws_szIntS : modesOf T k_laws_szIntS = [] := modesOf_code T_laws_szIntS

theorem T_spec_ConfigOk : T k_spec_ConfigOk = some (fnOf k_spec_ConfigOk_ic k_spec_ConfigOk_rv []) := rfl

@[simp] theorem M_spec_ConfigOk : modesOf T k_spec_ConfigOk = [] := modesOf_code T_spec_ConfigOk

theorem T_spec_l14Leaf : T k_spec_l14Leaf = some (fnOf k_spec_l14Leaf_ic k_spec_l14Leaf_rv []) := rfl

@[simp] theorem M_spec_l14Leaf : modesOf T k_spec_l14Leaf = [] := modesOf_code T_spec_l14Leaf

theorem T_spec_FloorDiv : T k_spec_FloorDiv = some (fnOf k_spec_FloorDiv_ic k_spec_FloorDiv_rv []) := rfl

@[simp] theorem M_spec_FloorDiv : modesOf T k_spec_FloorDiv = [] := modesOf_code T_spec_FloorDiv

theorem T_impl_ConfigOk : T k_impl_ConfigOk = some (fnOf k_impl_ConfigOk_ic k_impl_ConfigOk_rv []) := rfl

@[simp] theorem M_impl_ConfigOk : modesOf T k_impl_ConfigOk = [] := modesOf_code T_impl_ConfigOk

theorem T_impl_isLeafValue : T k_impl_isLeafValue = some (fnOf k_impl_isLeafValue_ic k_impl_isLeafValue_rv []) := rfl

@[simp] theorem M_impl_isLeafValue : modesOf T k_impl_isLeafValue = [] := modesOf_code T_impl_isLeafValue

theorem T_impl_FloorDiv : T k_impl_FloorDiv = some (fnOf k_impl_FloorDiv_ic k_impl_FloorDiv_rv []) := rfl

@[simp] theorem M_impl_FloorDiv : modesOf T k_impl_FloorDiv = [] := modesOf_code T_impl_FloorDiv

theorem T_impl_within : T k_impl_within = some (fnOf k_impl_within_ic k_impl_within_rv []) := rfl

@[simp] theorem M_impl_within : modesOf T k_impl_within = [] := modesOf_code T_impl_within

theorem T_slices_ContainsFunc___int_int_ : T k_slices_ContainsFunc___int_int_ = some (fnOf k_slices_ContainsFunc___int_int__ic k_slices_ContainsFunc___int_int__rv []) := rfl

@[simp] theorem M_slices_ContainsFunc___int_int_ : modesOf T k_slices_ContainsFunc___int_int_ = [] := modesOf_code T_slices_ContainsFunc___int_int_

theorem T_spec_l8Numbers : T k_spec_l8Numbers = some (fnOf k_spec_l8Numbers_ic k_spec_l8Numbers_rv []) := rfl

@[simp] theorem M_spec_l8Numbers : modesOf T k_spec_l8Numbers = [] := modesOf_code T_spec_l8Numbers

theorem T_spec_l8Least : T k_spec_l8Least = some (fnOf k_spec_l8Least_ic k_spec_l8Least_rv []) := rfl

@[simp] theorem M_spec_l8Least : modesOf T k_spec_l8Least = [] := modesOf_code T_spec_l8Least

theorem T_spec_l8Most : T k_spec_l8Most = some (fnOf k_spec_l8Most_ic k_spec_l8Most_rv []) := rfl

@[simp] theorem M_spec_l8Most : modesOf T k_spec_l8Most = [] := modesOf_code T_spec_l8Most

theorem T_impl_ConfigOk_1 : T k_impl_ConfigOk_1 = some (fnOf k_impl_ConfigOk_1_ic k_impl_ConfigOk_1_rv []) := rfl

@[simp] theorem M_impl_ConfigOk_1 : modesOf T k_impl_ConfigOk_1 = [] := modesOf_code T_impl_ConfigOk_1

theorem T_impl_isSign : T k_impl_isSign = some (fnOf k_impl_isSign_ic k_impl_isSign_rv []) := rfl

@[simp] theorem M_impl_isSign : modesOf T k_impl_isSign = [] := modesOf_code T_impl_isSign

theorem T_slices_IndexFunc___int_int_ : T k_slices_IndexFunc___int_int_ = some (fnOf k_slices_IndexFunc___int_int__ic k_slices_IndexFunc___int_int__rv []) := rfl

@[simp] theorem M_slices_IndexFunc___int_int_ : modesOf T k_slices_IndexFunc___int_int_ = [] := modesOf_code T_slices_IndexFunc___int_int_

end Go.Pe
