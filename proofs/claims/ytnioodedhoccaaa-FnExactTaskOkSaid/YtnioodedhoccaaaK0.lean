/- The compact texts of the functions that the law reaches; no condition. -/
import Derived.Test.YtnioodedhoccaaaEvA0
set_option linter.all false
namespace Go.Pe
open Go
def k_laws_FnExactTaskOk : Nat := 14

def k_laws_eqIntS : Nat := 22

def k_laws_szConfig : Nat := 26

def k_laws_toConfig : Nat := 28

def k_laws_eqConfig : Nat := 30

def k_laws_toIntS : Nat := 34

def k_laws_szGrid : Nat := 54

def k_spec_TaskOk : Nat := 55

def k_laws_toGrid : Nat := 56

def k_impl_TaskOk : Nat := 57

def k_laws_eqGrid : Nat := 58

def k_spec_l1In : Nat := 60

def k_laws_szIntS : Nat := 68

def k_spec_ConfigOk : Nat := 69

def k_impl_ConfigOk : Nat := 72

def k_impl_within : Nat := 89

def k_laws_szIntSS : Nat := 91

def k_spec_GridOk : Nat := 92

def k_spec_RowsIn : Nat := 93

def k_laws_toIntSS : Nat := 94

def k_impl_GridOk : Nat := 95

def k_impl_RowsIn : Nat := 96

def k_slices_ContainsFunc___int_int_ : Nat := 97

def k_impl_TaskOk_1 : Nat := 98

def k_laws_eqIntSS : Nat := 99

def k_spec_l8Numbers : Nat := 104

def k_spec_l8Least : Nat := 105

def k_spec_l8Most : Nat := 106

def k_impl_ConfigOk_1 : Nat := 107

def k_impl_isSign : Nat := 108

def k_spec_l6Value : Nat := 109

def k_impl_isDecimal : Nat := 110

def k_spec_CutsOk : Nat := 111

def k_impl_CutsOk : Nat := 112

def k_impl_GridOk_1 : Nat := 113

def k_slices_IndexFunc___int_int_ : Nat := 114

def k_impl_areDecimals : Nat := 117

def k_impl_areDecimals_1 : Nat := 118

def k_laws_FnExactTaskOk_vars : List Nat := [0, 1, 2, 3, 7, 5, 9, 10, 11, 12, 8, 6]

def k_laws_FnExactTaskOk_ic : IC :=
 .seq (.reg [⟨(some (.V 3)), .box (.V 0), none⟩,
   ⟨(some (.V 5)), .box (.V 2), none⟩,
   ⟨(some (.V 6)), .mv (kb false), none⟩])
 (.seq (.seq (.reg [⟨(some (.E 13)), .mv (.V 1), none⟩,
   ⟨(some (.E 14)), .len (.E 13), none⟩,
   ⟨(some (.E 15)), .bin .gtr (.E 14) (ki 1048576), none⟩])
 (.cond (.E 15)
  (.seq (.reg [⟨(some (.V 6)), .mv (kb true), none⟩])
  (.ret))
  (.skip)))
 (.seq (.reg [⟨(some (.V 7)), .mv (ki 1048576), none⟩])
 (.seq (.reg [⟨(some (.E 16)), .load true 2 (.V 3), none⟩,
   ⟨(some (.E 17)), .mv (.V 7), none⟩,
   ⟨(some (.E 18)), .call k_laws_szGrid [([1, 1], (.E 16)), ([0], (.E 17))], none⟩,
   ⟨(some (.V 7)), .mv (.E 18), none⟩])
 (.seq (.seq (.reg [⟨(some (.E 19)), .mv (.V 7), none⟩,
   ⟨(some (.E 20)), .bin .lss (.E 19) (ki 0), none⟩])
 (.cond (.E 20)
  (.seq (.reg [⟨(some (.V 6)), .mv (kb true), none⟩])
  (.ret))
  (.skip)))
 (.seq (.reg [⟨(some (.E 21)), .load true 8 (.V 5), none⟩,
   ⟨(some (.E 22)), .mv (.V 7), none⟩,
   ⟨(some (.E 23)), .call k_laws_szConfig [([0, 0, 0, 0, 0, 0, 0, 1], (.E 21)), ([0], (.E 22))], none⟩,
   ⟨(some (.V 7)), .mv (.E 23), none⟩])
 (.seq (.seq (.reg [⟨(some (.E 24)), .mv (.V 7), none⟩,
   ⟨(some (.E 25)), .bin .lss (.E 24) (ki 0), none⟩])
 (.cond (.E 25)
  (.seq (.reg [⟨(some (.V 6)), .mv (kb true), none⟩])
  (.ret))
  (.skip)))
 (.seq (.regD [(⟨(some (.E 26)), .load true 2 (.V 3), none⟩, 0, 0),
   (⟨(some (.E 27)), .call k_laws_toGrid [([1, 1], (.E 26))], none⟩, 0, 0),
   (⟨(some (.E 28)), .mv (.V 1), none⟩, 0, 0),
   (⟨(some (.E 29)), .call k_laws_toIntS [([1], (.E 28))], none⟩, 0, 0),
   (⟨(some (.E 30)), .load true 8 (.V 5), none⟩, 2, 0),
   (⟨(some (.E 31)), .call k_laws_toConfig [([0, 0, 0, 0, 0, 0, 0, 1], (.E 30))], none⟩, 0, 0),
   (⟨(some (.E 32)), .call k_spec_TaskOk [([1, 1], (.E 27)), ([1], (.E 29)), ([0, 0, 0, 0, 0, 0, 0, 1], (.E 31))], none⟩, 0, 0),
   (⟨(some (.V 8)), .mv (.E 32), none⟩, 0, 0)])
 (.seq (.reg [⟨(some (.E 33)), .load true 2 (.V 3), none⟩,
   ⟨(some (.E 34)), .call k_laws_toGrid [([1, 1], (.E 33))], none⟩,
   ⟨(some (.V 9)), .alloc [.e0, .e0], none⟩,
   ⟨none, .store [1, 1] (.V 9) (.E 34), none⟩])
 (.seq (.reg [⟨(some (.E 35)), .mv (.V 1), none⟩,
   ⟨(some (.E 36)), .call k_laws_toIntS [([1], (.E 35))], none⟩,
   ⟨(some (.V 10)), .mv (.E 36), none⟩])
 (.seq (.reg [⟨(some (.E 37)), .load true 8 (.V 5), none⟩,
   ⟨(some (.E 38)), .call k_laws_toConfig [([0, 0, 0, 0, 0, 0, 0, 1], (.E 37))], none⟩,
   ⟨(some (.V 11)), .alloc [(.v (.int .i64 0)), (.v (.int .i64 0)), (.v (.int .i64 0)), (.v (.int .i64 0)), (.v (.int .i64 0)), (.v (.int .i64 0)), (.v (.int .i64 0)), .e0], none⟩,
   ⟨none, .store [0, 0, 0, 0, 0, 0, 0, 1] (.V 11) (.E 38), none⟩])
 (.seq (.reg [⟨(some (.E 39)), .load true 2 (.V 9), none⟩,
   ⟨(some (.E 40)), .mv (.V 10), none⟩,
   ⟨(some (.E 41)), .load true 8 (.V 11), none⟩,
   ⟨(some (.E 42)), .call k_impl_TaskOk [([1, 1], (.E 39)), ([1], (.E 40)), ([0, 0, 0, 0, 0, 0, 0, 1], (.E 41))], none⟩,
   ⟨(some (.V 12)), .mv (.E 42), none⟩])
 (.seq (.seq (.reg [⟨(some (.E 43)), .mv (.V 12), none⟩,
   ⟨(some (.E 44)), .mv (.V 8), none⟩,
   ⟨(some (.E 45)), .eqb true [.b] (.E 43) (.E 44), none⟩])
 (.cond (.E 45)
  (.seq (.reg [⟨(some (.V 6)), .mv (kb false), none⟩])
  (.ret))
  (.skip)))
 (.seq (.seq (.regD [(⟨(some (.E 46)), .load true 2 (.V 9), none⟩, 0, 1),
   (⟨(some (.E 47)), .load true 2 (.V 3), none⟩, 0, 0),
   (⟨(some (.E 48)), .call k_laws_toGrid [([1, 1], (.E 47))], none⟩, 0, 0),
   (⟨(some (.E 49)), .call k_laws_eqGrid [([1, 1], (.E 46)), ([1, 1], (.E 48))], none⟩, 0, 0),
   (⟨(some (.E 50)), .un .not (.E 49), none⟩, 0, 0)])
 (.cond (.E 50)
  (.seq (.reg [⟨(some (.V 6)), .mv (kb false), none⟩])
  (.ret))
  (.skip)))
 (.seq (.seq (.reg [⟨(some (.E 51)), .mv (.V 10), none⟩,
   ⟨(some (.E 52)), .mv (.V 1), none⟩,
   ⟨(some (.E 53)), .call k_laws_toIntS [([1], (.E 52))], none⟩,
   ⟨(some (.E 54)), .call k_laws_eqIntS [([1], (.E 51)), ([1], (.E 53))], none⟩,
   ⟨(some (.E 55)), .un .not (.E 54), none⟩])
 (.cond (.E 55)
  (.seq (.reg [⟨(some (.V 6)), .mv (kb false), none⟩])
  (.ret))
  (.skip)))
 (.seq (.seq (.regD [(⟨(some (.E 56)), .load true 8 (.V 11), none⟩, 0, 1),
   (⟨(some (.E 57)), .load true 8 (.V 5), none⟩, 0, 0),
   (⟨(some (.E 58)), .call k_laws_toConfig [([0, 0, 0, 0, 0, 0, 0, 1], (.E 57))], none⟩, 0, 0),
   (⟨(some (.E 59)), .call k_laws_eqConfig [([0, 0, 0, 0, 0, 0, 0, 1], (.E 56)), ([0, 0, 0, 0, 0, 0, 0, 1], (.E 58))], none⟩, 0, 0),
   (⟨(some (.E 60)), .un .not (.E 59), none⟩, 0, 0)])
 (.cond (.E 60)
  (.seq (.reg [⟨(some (.V 6)), .mv (kb false), none⟩])
  (.ret))
  (.skip)))
 (.seq (.reg [⟨(some (.V 6)), .mv (kb true), none⟩])
 (.ret)))))))))))))))))

def k_laws_FnExactTaskOk_rv : List RV := [.tmp [0] 6]

def k_laws_eqIntS_vars : List Nat := [0, 1, 5, 4]

def k_laws_eqIntS_b0 : IC :=
 .seq (.seq (.reg [⟨(some (.E 11)), .mv (.V 5), none⟩,
   ⟨(some (.E 12)), .mv (.V 0), none⟩,
   ⟨(some (.E 13)), .len (.E 12), none⟩,
   ⟨(some (.E 14)), .bin .lss (.E 11) (.E 13), none⟩])
 (.cond (.E 14)
  (.skip)
  (.exit 0)))
 (.seq (.block 1 (.seq (.regD [(⟨(some (.E 17)), .mv (.V 0), none⟩, 0, 0),
    (⟨(some (.E 18)), .mv (.V 5), none⟩, 0, 0),
    (⟨(some (.E 19)), .iaddr 1 (.E 17) (.E 18), none⟩, 0, 0),
    (⟨(some (.E 20)), .load false 1 (.E 19), none⟩, 0, 0),
    (⟨(some (.E 21)), .mv (.V 1), none⟩, 0, 0),
    (⟨(some (.E 22)), .mv (.V 5), none⟩, 0, 0),
    (⟨(some (.E 23)), .iaddr 1 (.E 21) (.E 22), none⟩, 0, 0),
    (⟨(some (.E 24)), .load false 1 (.E 23), none⟩, 0, 0),
    (⟨(some (.E 25)), .bin .neq (.E 20) (.E 24), none⟩, 0, 0)])
  (.cond (.E 25)
   (.seq (.reg [⟨(some (.V 4)), .mv (kb false), none⟩])
   (.ret))
   (.skip))))
 (.reg [⟨(some (.E 15)), .mv (.V 5), none⟩,
   ⟨(some (.E 16)), .bin .add (.E 15) (ki 1), none⟩,
   ⟨(some (.V 5)), .mv (.E 16), none⟩]))

def k_laws_eqIntS_ic : IC :=
 .seq (.reg [⟨(some (.V 4)), .mv (kb false), none⟩])
 (.seq (.seq (.reg [⟨(some (.E 6)), .mv (.V 0), none⟩,
   ⟨(some (.E 7)), .len (.E 6), none⟩,
   ⟨(some (.E 8)), .mv (.V 1), none⟩,
   ⟨(some (.E 9)), .len (.E 8), none⟩,
   ⟨(some (.E 10)), .bin .neq (.E 7) (.E 9), none⟩])
 (.cond (.E 10)
  (.seq (.reg [⟨(some (.V 4)), .mv (kb false), none⟩])
  (.ret))
  (.skip)))
 (.seq (.seq (.reg [⟨(some (.V 5)), .mv (ki 0), none⟩])
 (.block 0 (.loop k_laws_eqIntS_b0)))
 (.seq (.reg [⟨(some (.V 4)), .mv (kb true), none⟩])
 (.ret))))

def k_laws_eqIntS_rv : List RV := [.tmp [0] 4]

def k_laws_szConfig_vars : List Nat := [0, 1, 2, 4]

def k_laws_szConfig_ic : IC :=
 .seq (.reg [⟨(some (.V 2)), .box (.V 0), none⟩,
   ⟨(some (.V 4)), .mv (ki 0), none⟩])
 (.seq (.reg [⟨(some (.E 5)), .faddr 7 (.V 2), none⟩,
   ⟨(some (.E 6)), .load false 1 (.E 5), none⟩,
   ⟨(some (.E 7)), .mv (.V 1), none⟩,
   ⟨(some (.E 8)), .call k_laws_szIntS [([1], (.E 6)), ([0], (.E 7))], none⟩,
   ⟨(some (.V 1)), .mv (.E 8), none⟩])
 (.seq (.seq (.reg [⟨(some (.E 9)), .mv (.V 1), none⟩,
   ⟨(some (.E 10)), .bin .lss (.E 9) (ki 0), none⟩])
 (.cond (.E 10)
  (.seq (.reg [⟨(some (.V 4)), .mv (ki (-1)), none⟩])
  (.ret))
  (.skip)))
 (.seq (.reg [⟨(some (.E 11)), .mv (.V 1), none⟩,
   ⟨(some (.V 4)), .mv (.E 11), none⟩])
 (.ret))))

def k_laws_szConfig_rv : List RV := [.tmp [0] 4]

def k_laws_toConfig_vars : List Nat := [0, 1, 3, 2]

def k_laws_toConfig_ic : IC :=
 .seq (.reg [⟨(some (.V 1)), .box (.V 0), none⟩,
   ⟨(some (.V 2)), .alloc [(.v (.int .i64 0)), (.v (.int .i64 0)), (.v (.int .i64 0)), (.v (.int .i64 0)), (.v (.int .i64 0)), (.v (.int .i64 0)), (.v (.int .i64 0)), .e0], none⟩])
 (.seq (.reg [⟨(some (.V 3)), .alloc [(.v (.int .i64 0)), (.v (.int .i64 0)), (.v (.int .i64 0)), (.v (.int .i64 0)), (.v (.int .i64 0)), (.v (.int .i64 0)), (.v (.int .i64 0)), .e0], none⟩])
 (.seq (.reg [⟨(some (.E 4)), .faddr 0 (.V 1), none⟩,
   ⟨(some (.E 5)), .load false 1 (.E 4), none⟩,
   ⟨(some (.E 6)), .faddr 0 (.V 3), none⟩,
   ⟨none, .store [0] (.E 6) (.E 5), none⟩])
 (.seq (.reg [⟨(some (.E 7)), .faddr 1 (.V 1), none⟩,
   ⟨(some (.E 8)), .load false 1 (.E 7), none⟩,
   ⟨(some (.E 9)), .faddr 1 (.V 3), none⟩,
   ⟨none, .store [0] (.E 9) (.E 8), none⟩])
 (.seq (.reg [⟨(some (.E 10)), .faddr 2 (.V 1), none⟩,
   ⟨(some (.E 11)), .load false 1 (.E 10), none⟩,
   ⟨(some (.E 12)), .faddr 2 (.V 3), none⟩,
   ⟨none, .store [0] (.E 12) (.E 11), none⟩])
 (.seq (.reg [⟨(some (.E 13)), .faddr 3 (.V 1), none⟩,
   ⟨(some (.E 14)), .load false 1 (.E 13), none⟩,
   ⟨(some (.E 15)), .faddr 3 (.V 3), none⟩,
   ⟨none, .store [0] (.E 15) (.E 14), none⟩])
 (.seq (.reg [⟨(some (.E 16)), .faddr 4 (.V 1), none⟩,
   ⟨(some (.E 17)), .load false 1 (.E 16), none⟩,
   ⟨(some (.E 18)), .faddr 4 (.V 3), none⟩,
   ⟨none, .store [0] (.E 18) (.E 17), none⟩])
 (.seq (.reg [⟨(some (.E 19)), .faddr 5 (.V 1), none⟩,
   ⟨(some (.E 20)), .load false 1 (.E 19), none⟩,
   ⟨(some (.E 21)), .faddr 5 (.V 3), none⟩,
   ⟨none, .store [0] (.E 21) (.E 20), none⟩])
 (.seq (.reg [⟨(some (.E 22)), .faddr 6 (.V 1), none⟩,
   ⟨(some (.E 23)), .load false 1 (.E 22), none⟩,
   ⟨(some (.E 24)), .faddr 6 (.V 3), none⟩,
   ⟨none, .store [0] (.E 24) (.E 23), none⟩])
 (.seq (.reg [⟨(some (.E 25)), .faddr 7 (.V 1), none⟩,
   ⟨(some (.E 26)), .load false 1 (.E 25), none⟩,
   ⟨(some (.E 27)), .call k_laws_toIntS [([1], (.E 26))], none⟩,
   ⟨(some (.E 28)), .faddr 7 (.V 3), none⟩,
   ⟨none, .store [1] (.E 28) (.E 27), none⟩])
 (.seq (.reg [⟨(some (.E 29)), .load true 8 (.V 3), none⟩,
   ⟨none, .store [0, 0, 0, 0, 0, 0, 0, 1] (.V 2) (.E 29), none⟩])
 (.ret)))))))))))

def k_laws_toConfig_rv : List RV := [.cell [0, 0, 0, 0, 0, 0, 0, 1] 2 true]

def k_laws_eqConfig_vars : List Nat := [0, 1, 2, 3, 4]

def k_laws_eqConfig_ic : IC :=
 .seq (.reg [⟨(some (.V 2)), .box (.V 0), none⟩,
   ⟨(some (.V 3)), .box (.V 1), none⟩,
   ⟨(some (.V 4)), .mv (kb false), none⟩])
 (.seq (.seq (.reg [⟨(some (.E 5)), .faddr 0 (.V 2), none⟩,
   ⟨(some (.E 6)), .load false 1 (.E 5), none⟩,
   ⟨(some (.E 7)), .faddr 0 (.V 3), none⟩,
   ⟨(some (.E 8)), .load false 1 (.E 7), none⟩,
   ⟨(some (.E 9)), .bin .neq (.E 6) (.E 8), none⟩])
 (.cond (.E 9)
  (.seq (.reg [⟨(some (.V 4)), .mv (kb false), none⟩])
  (.ret))
  (.skip)))
 (.seq (.seq (.reg [⟨(some (.E 10)), .faddr 1 (.V 2), none⟩,
   ⟨(some (.E 11)), .load false 1 (.E 10), none⟩,
   ⟨(some (.E 12)), .faddr 1 (.V 3), none⟩,
   ⟨(some (.E 13)), .load false 1 (.E 12), none⟩,
   ⟨(some (.E 14)), .bin .neq (.E 11) (.E 13), none⟩])
 (.cond (.E 14)
  (.seq (.reg [⟨(some (.V 4)), .mv (kb false), none⟩])
  (.ret))
  (.skip)))
 (.seq (.seq (.reg [⟨(some (.E 15)), .faddr 2 (.V 2), none⟩,
   ⟨(some (.E 16)), .load false 1 (.E 15), none⟩,
   ⟨(some (.E 17)), .faddr 2 (.V 3), none⟩,
   ⟨(some (.E 18)), .load false 1 (.E 17), none⟩,
   ⟨(some (.E 19)), .bin .neq (.E 16) (.E 18), none⟩])
 (.cond (.E 19)
  (.seq (.reg [⟨(some (.V 4)), .mv (kb false), none⟩])
  (.ret))
  (.skip)))
 (.seq (.seq (.reg [⟨(some (.E 20)), .faddr 3 (.V 2), none⟩,
   ⟨(some (.E 21)), .load false 1 (.E 20), none⟩,
   ⟨(some (.E 22)), .faddr 3 (.V 3), none⟩,
   ⟨(some (.E 23)), .load false 1 (.E 22), none⟩,
   ⟨(some (.E 24)), .bin .neq (.E 21) (.E 23), none⟩])
 (.cond (.E 24)
  (.seq (.reg [⟨(some (.V 4)), .mv (kb false), none⟩])
  (.ret))
  (.skip)))
 (.seq (.seq (.reg [⟨(some (.E 25)), .faddr 4 (.V 2), none⟩,
   ⟨(some (.E 26)), .load false 1 (.E 25), none⟩,
   ⟨(some (.E 27)), .faddr 4 (.V 3), none⟩,
   ⟨(some (.E 28)), .load false 1 (.E 27), none⟩,
   ⟨(some (.E 29)), .bin .neq (.E 26) (.E 28), none⟩])
 (.cond (.E 29)
  (.seq (.reg [⟨(some (.V 4)), .mv (kb false), none⟩])
  (.ret))
  (.skip)))
 (.seq (.seq (.reg [⟨(some (.E 30)), .faddr 5 (.V 2), none⟩,
   ⟨(some (.E 31)), .load false 1 (.E 30), none⟩,
   ⟨(some (.E 32)), .faddr 5 (.V 3), none⟩,
   ⟨(some (.E 33)), .load false 1 (.E 32), none⟩,
   ⟨(some (.E 34)), .bin .neq (.E 31) (.E 33), none⟩])
 (.cond (.E 34)
  (.seq (.reg [⟨(some (.V 4)), .mv (kb false), none⟩])
  (.ret))
  (.skip)))
 (.seq (.seq (.reg [⟨(some (.E 35)), .faddr 6 (.V 2), none⟩,
   ⟨(some (.E 36)), .load false 1 (.E 35), none⟩,
   ⟨(some (.E 37)), .faddr 6 (.V 3), none⟩,
   ⟨(some (.E 38)), .load false 1 (.E 37), none⟩,
   ⟨(some (.E 39)), .bin .neq (.E 36) (.E 38), none⟩])
 (.cond (.E 39)
  (.seq (.reg [⟨(some (.V 4)), .mv (kb false), none⟩])
  (.ret))
  (.skip)))
 (.seq (.seq (.reg [⟨(some (.E 40)), .faddr 7 (.V 2), none⟩,
   ⟨(some (.E 41)), .load false 1 (.E 40), none⟩,
   ⟨(some (.E 42)), .faddr 7 (.V 3), none⟩,
   ⟨(some (.E 43)), .load false 1 (.E 42), none⟩,
   ⟨(some (.E 44)), .call k_laws_eqIntS [([1], (.E 41)), ([1], (.E 43))], none⟩,
   ⟨(some (.E 45)), .un .not (.E 44), none⟩])
 (.cond (.E 45)
  (.seq (.reg [⟨(some (.V 4)), .mv (kb false), none⟩])
  (.ret))
  (.skip)))
 (.seq (.reg [⟨(some (.V 4)), .mv (kb true), none⟩])
 (.ret))))))))))

def k_laws_eqConfig_rv : List RV := [.tmp [0] 4]

def k_laws_toIntS_vars : List Nat := [0, 4, 3, 2]

def k_laws_toIntS_b0 : IC :=
 .seq (.seq (.reg [⟨(some (.E 8)), .mv (.V 4), none⟩,
   ⟨(some (.E 9)), .mv (.V 0), none⟩,
   ⟨(some (.E 10)), .len (.E 9), none⟩,
   ⟨(some (.E 11)), .bin .lss (.E 8) (.E 10), none⟩])
 (.cond (.E 11)
  (.skip)
  (.exit 0)))
 (.seq (.block 1 (.reg [⟨(some (.E 14)), .mv (.V 3), none⟩,
    ⟨(some (.E 15)), .mv (.V 4), none⟩,
    ⟨(some (.E 16)), .mv (.V 0), none⟩,
    ⟨(some (.E 17)), .mv (.V 4), none⟩,
    ⟨(some (.E 18)), .iaddr 1 (.E 16) (.E 17), none⟩,
    ⟨(some (.E 19)), .load false 1 (.E 18), none⟩,
    ⟨(some (.E 20)), .iaddr 1 (.E 14) (.E 15), none⟩,
    ⟨none, .store [0] (.E 20) (.E 19), none⟩]))
 (.reg [⟨(some (.E 12)), .mv (.V 4), none⟩,
   ⟨(some (.E 13)), .bin .add (.E 12) (ki 1), none⟩,
   ⟨(some (.V 4)), .mv (.E 13), none⟩]))

def k_laws_toIntS_ic : IC :=
 .seq (.reg [⟨(some (.V 2)), .mv (.C .e0), none⟩])
 (.seq (.reg [⟨(some (.E 5)), .mv (.V 0), none⟩,
   ⟨(some (.E 6)), .len (.E 5), none⟩,
   ⟨(some (.E 7)), .mksl 8 1 [(.v (.int .i64 0))] (.E 6) (.E 6), none⟩,
   ⟨(some (.V 3)), .mv (.E 7), none⟩])
 (.seq (.seq (.reg [⟨(some (.V 4)), .mv (ki 0), none⟩])
 (.block 0 (.loop k_laws_toIntS_b0)))
 (.seq (.reg [⟨(some (.E 21)), .mv (.V 3), none⟩,
   ⟨(some (.V 2)), .mv (.E 21), none⟩])
 (.ret))))

def k_laws_toIntS_rv : List RV := [.tmp [1] 2]

def k_laws_szGrid_vars : List Nat := [0, 1, 2, 4]

def k_laws_szGrid_ic : IC :=
 .seq (.reg [⟨(some (.V 2)), .box (.V 0), none⟩,
   ⟨(some (.V 4)), .mv (ki 0), none⟩])
 (.seq (.reg [⟨(some (.E 5)), .faddr 0 (.V 2), none⟩,
   ⟨(some (.E 6)), .load false 1 (.E 5), none⟩,
   ⟨(some (.E 7)), .mv (.V 1), none⟩,
   ⟨(some (.E 8)), .call k_laws_szIntSS [([1], (.E 6)), ([0], (.E 7))], none⟩,
   ⟨(some (.V 1)), .mv (.E 8), none⟩])
 (.seq (.seq (.reg [⟨(some (.E 9)), .mv (.V 1), none⟩,
   ⟨(some (.E 10)), .bin .lss (.E 9) (ki 0), none⟩])
 (.cond (.E 10)
  (.seq (.reg [⟨(some (.V 4)), .mv (ki (-1)), none⟩])
  (.ret))
  (.skip)))
 (.seq (.reg [⟨(some (.E 11)), .faddr 1 (.V 2), none⟩,
   ⟨(some (.E 12)), .load false 1 (.E 11), none⟩,
   ⟨(some (.E 13)), .mv (.V 1), none⟩,
   ⟨(some (.E 14)), .call k_laws_szIntSS [([1], (.E 12)), ([0], (.E 13))], none⟩,
   ⟨(some (.V 1)), .mv (.E 14), none⟩])
 (.seq (.seq (.reg [⟨(some (.E 15)), .mv (.V 1), none⟩,
   ⟨(some (.E 16)), .bin .lss (.E 15) (ki 0), none⟩])
 (.cond (.E 16)
  (.seq (.reg [⟨(some (.V 4)), .mv (ki (-1)), none⟩])
  (.ret))
  (.skip)))
 (.seq (.reg [⟨(some (.E 17)), .mv (.V 1), none⟩,
   ⟨(some (.V 4)), .mv (.E 17), none⟩])
 (.ret))))))

def k_laws_szGrid_rv : List RV := [.tmp [0] 4]

def k_spec_TaskOk_vars : List Nat := [0, 1, 2, 3, 5, 7, 6]

def k_spec_TaskOk_b0 : IC :=
 .seq (.seq (.reg [⟨(some (.E 23)), .mv (.V 7), none⟩,
   ⟨(some (.E 24)), .mv (.V 1), none⟩,
   ⟨(some (.E 25)), .len (.E 24), none⟩,
   ⟨(some (.E 26)), .bin .lss (.E 23) (.E 25), none⟩])
 (.cond (.E 26)
  (.skip)
  (.exit 0)))
 (.seq (.block 1 (.seq (.reg [⟨(some (.E 29)), .mv (.V 1), none⟩,
    ⟨(some (.E 30)), .mv (.V 7), none⟩,
    ⟨(some (.E 31)), .iaddr 1 (.E 29) (.E 30), none⟩,
    ⟨(some (.E 32)), .load false 1 (.E 31), none⟩,
    ⟨(some (.E 33)), .call k_spec_l1In [([0], (.E 32)), ([0], (ki (-2199023255552))), ([0], (ki 2199023255552))], none⟩,
    ⟨(some (.E 34)), .un .not (.E 33), none⟩])
  (.cond (.E 34)
   (.seq (.reg [⟨(some (.V 6)), .mv (kb false), none⟩])
   (.ret))
   (.skip))))
 (.reg [⟨(some (.E 27)), .mv (.V 7), none⟩,
   ⟨(some (.E 28)), .bin .add (.E 27) (ki 1), none⟩,
   ⟨(some (.V 7)), .mv (.E 28), none⟩]))

def k_spec_TaskOk_ic : IC :=
 .seq (.reg [⟨(some (.V 3)), .box (.V 0), none⟩,
   ⟨(some (.V 5)), .box (.V 2), none⟩,
   ⟨(some (.V 6)), .mv (kb false), none⟩])
 (.seq (.seq (.reg [⟨(some (.E 8)), .load true 2 (.V 3), none⟩,
   ⟨(some (.E 9)), .call k_spec_GridOk [([1, 1], (.E 8))], none⟩,
   ⟨(some (.E 10)), .un .not (.E 9), none⟩,
   ⟨(some (.E 11)), .mv (.E 10), none⟩,
   ⟨(some (.E 12)), .load true 8 (.V 5), some ((.E 11), false)⟩,
   ⟨(some (.E 13)), .call k_spec_ConfigOk [([0, 0, 0, 0, 0, 0, 0, 1], (.E 12))], some ((.E 11), false)⟩,
   ⟨(some (.E 14)), .un .not (.E 13), some ((.E 11), false)⟩,
   ⟨(some (.E 15)), .pick (.E 11) (kb true) (.E 14), none⟩,
   ⟨(some (.E 16)), .mv (.E 15), none⟩,
   ⟨(some (.E 17)), .mv (.V 1), some ((.E 16), false)⟩,
   ⟨(some (.E 18)), .len (.E 17), some ((.E 16), false)⟩,
   ⟨(some (.E 19)), .load true 2 (.V 3), some ((.E 16), false)⟩,
   ⟨(some (.E 20)), .call k_spec_RowsIn [([1, 1], (.E 19))], some ((.E 16), false)⟩,
   ⟨(some (.E 21)), .bin .neq (.E 18) (.E 20), some ((.E 16), false)⟩,
   ⟨(some (.E 22)), .pick (.E 16) (kb true) (.E 21), none⟩])
 (.cond (.E 22)
  (.seq (.reg [⟨(some (.V 6)), .mv (kb false), none⟩])
  (.ret))
  (.skip)))
 (.seq (.seq (.reg [⟨(some (.V 7)), .mv (ki 0), none⟩])
 (.block 0 (.loop k_spec_TaskOk_b0)))
 (.seq (.reg [⟨(some (.V 6)), .mv (kb true), none⟩])
 (.ret))))

def k_spec_TaskOk_rv : List RV := [.tmp [0] 6]

def k_laws_toGrid_vars : List Nat := [0, 1, 3, 2]

def k_laws_toGrid_ic : IC :=
 .seq (.reg [⟨(some (.V 1)), .box (.V 0), none⟩,
   ⟨(some (.V 2)), .alloc [.e0, .e0], none⟩])
 (.seq (.reg [⟨(some (.V 3)), .alloc [.e0, .e0], none⟩])
 (.seq (.reg [⟨(some (.E 4)), .faddr 0 (.V 1), none⟩,
   ⟨(some (.E 5)), .load false 1 (.E 4), none⟩,
   ⟨(some (.E 6)), .call k_laws_toIntSS [([1], (.E 5))], none⟩,
   ⟨(some (.E 7)), .faddr 0 (.V 3), none⟩,
   ⟨none, .store [1] (.E 7) (.E 6), none⟩])
 (.seq (.reg [⟨(some (.E 8)), .faddr 1 (.V 1), none⟩,
   ⟨(some (.E 9)), .load false 1 (.E 8), none⟩,
   ⟨(some (.E 10)), .call k_laws_toIntSS [([1], (.E 9))], none⟩,
   ⟨(some (.E 11)), .faddr 1 (.V 3), none⟩,
   ⟨none, .store [1] (.E 11) (.E 10), none⟩])
 (.seq (.reg [⟨(some (.E 12)), .load true 2 (.V 3), none⟩,
   ⟨none, .store [1, 1] (.V 2) (.E 12), none⟩])
 (.ret)))))

def k_laws_toGrid_rv : List RV := [.cell [1, 1] 2 true]

def k_impl_TaskOk_vars : List Nat := [0, 1, 2, 3, 5, 6]

def k_impl_TaskOk_ic : IC :=
 .seq (.reg [⟨(some (.V 3)), .box (.V 0), none⟩,
   ⟨(some (.V 5)), .box (.V 2), none⟩,
   ⟨(some (.V 6)), .mv (kb false), none⟩])
 (.seq (.reg [⟨(some (.E 7)), .load true 2 (.V 3), none⟩,
   ⟨(some (.E 8)), .call k_impl_GridOk [([1, 1], (.E 7))], none⟩,
   ⟨(some (.E 9)), .mv (.E 8), none⟩,
   ⟨(some (.E 10)), .load true 8 (.V 5), some ((.E 9), true)⟩,
   ⟨(some (.E 11)), .call k_impl_ConfigOk [([0, 0, 0, 0, 0, 0, 0, 1], (.E 10))], some ((.E 9), true)⟩,
   ⟨(some (.E 12)), .pick (.E 9) (.E 11) (kb false), none⟩,
   ⟨(some (.E 13)), .mv (.E 12), none⟩,
   ⟨(some (.E 14)), .mv (.V 1), some ((.E 13), true)⟩,
   ⟨(some (.E 15)), .len (.E 14), some ((.E 13), true)⟩,
   ⟨(some (.E 16)), .load true 2 (.V 3), some ((.E 13), true)⟩,
   ⟨(some (.E 17)), .call k_impl_RowsIn [([1, 1], (.E 16))], some ((.E 13), true)⟩,
   ⟨(some (.E 18)), .bin .eql (.E 15) (.E 17), some ((.E 13), true)⟩,
   ⟨(some (.E 19)), .pick (.E 13) (.E 18) (kb false), none⟩,
   ⟨(some (.E 20)), .mv (.E 19), none⟩,
   ⟨(some (.E 21)), .mv (.V 1), some ((.E 20), true)⟩,
   ⟨(some (.E 22)), .call k_slices_ContainsFunc___int_int_ [([1], (.E 21)), ([0], (.C (.fn k_impl_TaskOk_1 [])))], some ((.E 20), true)⟩,
   ⟨(some (.E 23)), .un .not (.E 22), some ((.E 20), true)⟩,
   ⟨(some (.E 24)), .pick (.E 20) (.E 23) (kb false), none⟩,
   ⟨(some (.V 6)), .mv (.E 24), none⟩])
 (.ret))

def k_impl_TaskOk_rv : List RV := [.tmp [0] 6]

def k_laws_eqGrid_vars : List Nat := [0, 1, 2, 3, 4]

def k_laws_eqGrid_ic : IC :=
 .seq (.reg [⟨(some (.V 2)), .box (.V 0), none⟩,
   ⟨(some (.V 3)), .box (.V 1), none⟩,
   ⟨(some (.V 4)), .mv (kb false), none⟩])
 (.seq (.seq (.reg [⟨(some (.E 5)), .faddr 0 (.V 2), none⟩,
   ⟨(some (.E 6)), .load false 1 (.E 5), none⟩,
   ⟨(some (.E 7)), .faddr 0 (.V 3), none⟩,
   ⟨(some (.E 8)), .load false 1 (.E 7), none⟩,
   ⟨(some (.E 9)), .call k_laws_eqIntSS [([1], (.E 6)), ([1], (.E 8))], none⟩,
   ⟨(some (.E 10)), .un .not (.E 9), none⟩])
 (.cond (.E 10)
  (.seq (.reg [⟨(some (.V 4)), .mv (kb false), none⟩])
  (.ret))
  (.skip)))
 (.seq (.seq (.reg [⟨(some (.E 11)), .faddr 1 (.V 2), none⟩,
   ⟨(some (.E 12)), .load false 1 (.E 11), none⟩,
   ⟨(some (.E 13)), .faddr 1 (.V 3), none⟩,
   ⟨(some (.E 14)), .load false 1 (.E 13), none⟩,
   ⟨(some (.E 15)), .call k_laws_eqIntSS [([1], (.E 12)), ([1], (.E 14))], none⟩,
   ⟨(some (.E 16)), .un .not (.E 15), none⟩])
 (.cond (.E 16)
  (.seq (.reg [⟨(some (.V 4)), .mv (kb false), none⟩])
  (.ret))
  (.skip)))
 (.seq (.reg [⟨(some (.V 4)), .mv (kb true), none⟩])
 (.ret))))

def k_laws_eqGrid_rv : List RV := [.tmp [0] 4]

def k_spec_l1In_vars : List Nat := [0, 1, 2, 6]

def k_spec_l1In_ic : IC :=
 .seq (.reg [⟨(some (.V 6)), .mv (kb false), none⟩])
 (.seq (.reg [⟨(some (.E 7)), .mv (.V 0), none⟩,
   ⟨(some (.E 8)), .mv (.V 1), none⟩,
   ⟨(some (.E 9)), .bin .geq (.E 7) (.E 8), none⟩,
   ⟨(some (.E 10)), .mv (.E 9), none⟩,
   ⟨(some (.E 11)), .mv (.V 0), some ((.E 10), true)⟩,
   ⟨(some (.E 12)), .mv (.V 2), some ((.E 10), true)⟩,
   ⟨(some (.E 13)), .bin .leq (.E 11) (.E 12), some ((.E 10), true)⟩,
   ⟨(some (.E 14)), .pick (.E 10) (.E 13) (kb false), none⟩,
   ⟨(some (.V 6)), .mv (.E 14), none⟩])
 (.ret))

def k_spec_l1In_rv : List RV := [.tmp [0] 6]

def k_laws_szIntS_vars : List Nat := [0, 1, 4]

def k_laws_szIntS_ic : IC :=
 .seq (.reg [⟨(some (.V 4)), .mv (ki 0), none⟩])
 (.seq (.reg [⟨(some (.E 5)), .mv (.V 1), none⟩,
   ⟨(some (.E 6)), .mv (.V 0), none⟩,
   ⟨(some (.E 7)), .len (.E 6), none⟩,
   ⟨(some (.E 8)), .bin .sub (.E 5) (.E 7), none⟩,
   ⟨(some (.V 1)), .mv (.E 8), none⟩])
 (.seq (.seq (.reg [⟨(some (.E 9)), .mv (.V 1), none⟩,
   ⟨(some (.E 10)), .bin .lss (.E 9) (ki 0), none⟩])
 (.cond (.E 10)
  (.seq (.reg [⟨(some (.V 4)), .mv (ki (-1)), none⟩])
  (.ret))
  (.skip)))
 (.seq (.reg [⟨(some (.E 11)), .mv (.V 1), none⟩,
   ⟨(some (.V 4)), .mv (.E 11), none⟩])
 (.ret))))

def k_laws_szIntS_rv : List RV := [.tmp [0] 4]

def k_spec_ConfigOk_vars : List Nat := [0, 1, 4, 3, 5, 2]

def k_spec_ConfigOk_b0 : IC :=
 .seq (.seq (.reg [⟨(some (.E 8)), .mv (.V 4), none⟩,
   ⟨(some (.E 9)), .bin .lss (.E 8) (ki 5), none⟩])
 (.cond (.E 9)
  (.skip)
  (.exit 0)))
 (.seq (.block 1 (.seq (.regD [(⟨(some (.E 12)), .mv (.V 3), none⟩, 0, 0),
    (⟨(some (.E 13)), .mv (.V 4), none⟩, 0, 0),
    (⟨(some (.E 14)), .iaddr 1 (.E 12) (.E 13), none⟩, 0, 2),
    (⟨(some (.E 15)), .load false 1 (.E 14), none⟩, 0, 2),
    (⟨(some (.E 16)), .call k_spec_l8Least [], none⟩, 0, 0),
    (⟨(some (.E 17)), .mv (.V 4), none⟩, 0, 0),
    (⟨(some (.E 18)), .iaddr 1 (.E 16) (.E 17), none⟩, 0, 1),
    (⟨(some (.E 19)), .load false 1 (.E 18), none⟩, 0, 1),
    (⟨(some (.E 20)), .call k_spec_l8Most [], none⟩, 0, 0),
    (⟨(some (.E 21)), .mv (.V 4), none⟩, 0, 0),
    (⟨(some (.E 22)), .iaddr 1 (.E 20) (.E 21), none⟩, 0, 0),
    (⟨(some (.E 23)), .load false 1 (.E 22), none⟩, 0, 0),
    (⟨(some (.E 24)), .call k_spec_l1In [([0], (.E 15)), ([0], (.E 19)), ([0], (.E 23))], none⟩, 0, 0),
    (⟨(some (.E 25)), .un .not (.E 24), none⟩, 0, 0)])
  (.cond (.E 25)
   (.seq (.reg [⟨(some (.V 2)), .mv (kb false), none⟩])
   (.ret))
   (.skip))))
 (.reg [⟨(some (.E 10)), .mv (.V 4), none⟩,
   ⟨(some (.E 11)), .bin .add (.E 10) (ki 1), none⟩,
   ⟨(some (.V 4)), .mv (.E 11), none⟩]))

def k_spec_ConfigOk_b1 : IC :=
 .seq (.seq (.reg [⟨(some (.E 26)), .mv (.V 5), none⟩,
   ⟨(some (.E 27)), .faddr 7 (.V 1), none⟩,
   ⟨(some (.E 28)), .load false 1 (.E 27), none⟩,
   ⟨(some (.E 29)), .len (.E 28), none⟩,
   ⟨(some (.E 30)), .bin .lss (.E 26) (.E 29), none⟩])
 (.cond (.E 30)
  (.skip)
  (.exit 2)))
 (.seq (.block 3 (.seq (.reg [⟨(some (.E 33)), .faddr 7 (.V 1), none⟩,
    ⟨(some (.E 34)), .load false 1 (.E 33), none⟩,
    ⟨(some (.E 35)), .mv (.V 5), none⟩,
    ⟨(some (.E 36)), .iaddr 1 (.E 34) (.E 35), none⟩,
    ⟨(some (.E 37)), .load false 1 (.E 36), none⟩,
    ⟨(some (.E 38)), .call k_spec_l1In [([0], (.E 37)), ([0], (ki (-1))), ([0], (ki 1))], none⟩,
    ⟨(some (.E 39)), .un .not (.E 38), none⟩])
  (.cond (.E 39)
   (.seq (.reg [⟨(some (.V 2)), .mv (kb false), none⟩])
   (.ret))
   (.skip))))
 (.reg [⟨(some (.E 31)), .mv (.V 5), none⟩,
   ⟨(some (.E 32)), .bin .add (.E 31) (ki 1), none⟩,
   ⟨(some (.V 5)), .mv (.E 32), none⟩]))

def k_spec_ConfigOk_ic : IC :=
 .seq (.reg [⟨(some (.V 1)), .box (.V 0), none⟩,
   ⟨(some (.V 2)), .mv (kb false), none⟩])
 (.seq (.reg [⟨(some (.E 6)), .load true 8 (.V 1), none⟩,
   ⟨(some (.E 7)), .call k_spec_l8Numbers [([0, 0, 0, 0, 0, 0, 0, 1], (.E 6))], none⟩,
   ⟨(some (.V 3)), .mv (.E 7), none⟩])
 (.seq (.seq (.reg [⟨(some (.V 4)), .mv (ki 0), none⟩])
 (.block 0 (.loop k_spec_ConfigOk_b0)))
 (.seq (.seq (.reg [⟨(some (.V 5)), .mv (ki 0), none⟩])
 (.block 2 (.loop k_spec_ConfigOk_b1)))
 (.seq (.reg [⟨(some (.E 40)), .faddr 6 (.V 1), none⟩,
   ⟨(some (.E 41)), .load false 1 (.E 40), none⟩,
   ⟨(some (.E 42)), .call k_spec_l1In [([0], (.E 41)), ([0], (ki 1)), ([0], (ki 1000))], none⟩,
   ⟨(some (.E 43)), .mv (.E 42), none⟩,
   ⟨(some (.E 44)), .faddr 5 (.V 1), some ((.E 43), true)⟩,
   ⟨(some (.E 45)), .load false 1 (.E 44), some ((.E 43), true)⟩,
   ⟨(some (.E 46)), .faddr 6 (.V 1), some ((.E 43), true)⟩,
   ⟨(some (.E 47)), .load false 1 (.E 46), some ((.E 43), true)⟩,
   ⟨(some (.E 48)), .call k_spec_l1In [([0], (.E 45)), ([0], (ki 1)), ([0], (.E 47))], some ((.E 43), true)⟩,
   ⟨(some (.E 49)), .pick (.E 43) (.E 48) (kb false), none⟩,
   ⟨(some (.E 50)), .mv (.E 49), none⟩,
   ⟨(some (.E 51)), .faddr 7 (.V 1), some ((.E 50), true)⟩,
   ⟨(some (.E 52)), .load false 1 (.E 51), some ((.E 50), true)⟩,
   ⟨(some (.E 53)), .len (.E 52), some ((.E 50), true)⟩,
   ⟨(some (.E 54)), .bin .leq (.E 53) (ki 4), some ((.E 50), true)⟩,
   ⟨(some (.E 55)), .pick (.E 50) (.E 54) (kb false), none⟩,
   ⟨(some (.V 2)), .mv (.E 55), none⟩])
 (.ret)))))

def k_spec_ConfigOk_rv : List RV := [.tmp [0] 2]

def k_impl_ConfigOk_vars : List Nat := [0, 1, 2]

def k_impl_ConfigOk_ic : IC :=
 .seq (.reg [⟨(some (.V 1)), .box (.V 0), none⟩,
   ⟨(some (.V 2)), .mv (kb false), none⟩])
 (.seq (.reg [⟨(some (.E 3)), .faddr 0 (.V 1), none⟩,
   ⟨(some (.E 4)), .load false 1 (.E 3), none⟩,
   ⟨(some (.E 5)), .call k_impl_within [([0], (.E 4)), ([0], (ki 1)), ([0], (ki 8))], none⟩,
   ⟨(some (.E 6)), .mv (.E 5), none⟩,
   ⟨(some (.E 7)), .faddr 1 (.V 1), some ((.E 6), true)⟩,
   ⟨(some (.E 8)), .load false 1 (.E 7), some ((.E 6), true)⟩,
   ⟨(some (.E 9)), .call k_impl_within [([0], (.E 8)), ([0], (ki 0)), ([0], (ki 4))], some ((.E 6), true)⟩,
   ⟨(some (.E 10)), .pick (.E 6) (.E 9) (kb false), none⟩,
   ⟨(some (.E 11)), .mv (.E 10), none⟩,
   ⟨(some (.E 12)), .faddr 2 (.V 1), some ((.E 11), true)⟩,
   ⟨(some (.E 13)), .load false 1 (.E 12), some ((.E 11), true)⟩,
   ⟨(some (.E 14)), .call k_impl_within [([0], (.E 13)), ([0], (ki 2)), ([0], (ki 8))], some ((.E 11), true)⟩,
   ⟨(some (.E 15)), .pick (.E 11) (.E 14) (kb false), none⟩,
   ⟨(some (.E 16)), .mv (.E 15), none⟩,
   ⟨(some (.E 17)), .faddr 3 (.V 1), some ((.E 16), true)⟩,
   ⟨(some (.E 18)), .load false 1 (.E 17), some ((.E 16), true)⟩,
   ⟨(some (.E 19)), .call k_impl_within [([0], (.E 18)), ([0], (ki 1)), ([0], (ki 100))], some ((.E 16), true)⟩,
   ⟨(some (.E 20)), .pick (.E 16) (.E 19) (kb false), none⟩,
   ⟨(some (.E 21)), .mv (.E 20), none⟩,
   ⟨(some (.E 22)), .faddr 4 (.V 1), some ((.E 21), true)⟩,
   ⟨(some (.E 23)), .load false 1 (.E 22), some ((.E 21), true)⟩,
   ⟨(some (.E 24)), .call k_impl_within [([0], (.E 23)), ([0], (ki 1)), ([0], (ki 20))], some ((.E 21), true)⟩,
   ⟨(some (.E 25)), .pick (.E 21) (.E 24) (kb false), none⟩,
   ⟨(some (.E 26)), .mv (.E 25), none⟩,
   ⟨(some (.E 27)), .faddr 6 (.V 1), some ((.E 26), true)⟩,
   ⟨(some (.E 28)), .load false 1 (.E 27), some ((.E 26), true)⟩,
   ⟨(some (.E 29)), .call k_impl_within [([0], (.E 28)), ([0], (ki 1)), ([0], (ki 1000))], some ((.E 26), true)⟩,
   ⟨(some (.E 30)), .pick (.E 26) (.E 29) (kb false), none⟩,
   ⟨(some (.E 31)), .mv (.E 30), none⟩,
   ⟨(some (.E 32)), .faddr 5 (.V 1), some ((.E 31), true)⟩,
   ⟨(some (.E 33)), .load false 1 (.E 32), some ((.E 31), true)⟩,
   ⟨(some (.E 34)), .faddr 6 (.V 1), some ((.E 31), true)⟩,
   ⟨(some (.E 35)), .load false 1 (.E 34), some ((.E 31), true)⟩,
   ⟨(some (.E 36)), .call k_impl_within [([0], (.E 33)), ([0], (ki 1)), ([0], (.E 35))], some ((.E 31), true)⟩,
   ⟨(some (.E 37)), .pick (.E 31) (.E 36) (kb false), none⟩,
   ⟨(some (.E 38)), .mv (.E 37), none⟩,
   ⟨(some (.E 39)), .faddr 7 (.V 1), some ((.E 38), true)⟩,
   ⟨(some (.E 40)), .load false 1 (.E 39), some ((.E 38), true)⟩,
   ⟨(some (.E 41)), .len (.E 40), some ((.E 38), true)⟩,
   ⟨(some (.E 42)), .bin .leq (.E 41) (ki 4), some ((.E 38), true)⟩,
   ⟨(some (.E 43)), .pick (.E 38) (.E 42) (kb false), none⟩,
   ⟨(some (.E 44)), .mv (.E 43), none⟩,
   ⟨(some (.E 45)), .faddr 7 (.V 1), some ((.E 44), true)⟩,
   ⟨(some (.E 46)), .load false 1 (.E 45), some ((.E 44), true)⟩,
   ⟨(some (.E 47)), .call k_slices_ContainsFunc___int_int_ [([1], (.E 46)), ([0], (.C (.fn k_impl_ConfigOk_1 [])))], some ((.E 44), true)⟩,
   ⟨(some (.E 48)), .un .not (.E 47), some ((.E 44), true)⟩,
   ⟨(some (.E 49)), .pick (.E 44) (.E 48) (kb false), none⟩,
   ⟨(some (.V 2)), .mv (.E 49), none⟩])
 (.ret))

def k_impl_ConfigOk_rv : List RV := [.tmp [0] 2]

def k_impl_within_vars : List Nat := [0, 1, 2, 6]

def k_impl_within_ic : IC :=
 .seq (.reg [⟨(some (.V 6)), .mv (kb false), none⟩])
 (.seq (.reg [⟨(some (.E 7)), .mv (.V 0), none⟩,
   ⟨(some (.E 8)), .mv (.V 1), none⟩,
   ⟨(some (.E 9)), .bin .geq (.E 7) (.E 8), none⟩,
   ⟨(some (.E 10)), .mv (.E 9), none⟩,
   ⟨(some (.E 11)), .mv (.V 0), some ((.E 10), true)⟩,
   ⟨(some (.E 12)), .mv (.V 2), some ((.E 10), true)⟩,
   ⟨(some (.E 13)), .bin .leq (.E 11) (.E 12), some ((.E 10), true)⟩,
   ⟨(some (.E 14)), .pick (.E 10) (.E 13) (kb false), none⟩,
   ⟨(some (.V 6)), .mv (.E 14), none⟩])
 (.ret))

def k_impl_within_rv : List RV := [.tmp [0] 6]

def k_laws_szIntSS_vars : List Nat := [0, 1, 5, 4]

def k_laws_szIntSS_b0 : IC :=
 .seq (.seq (.reg [⟨(some (.E 12)), .mv (.V 5), none⟩,
   ⟨(some (.E 13)), .mv (.V 0), none⟩,
   ⟨(some (.E 14)), .len (.E 13), none⟩,
   ⟨(some (.E 15)), .bin .lss (.E 12) (.E 14), none⟩])
 (.cond (.E 15)
  (.skip)
  (.exit 0)))
 (.seq (.block 1 (.seq (.reg [⟨(some (.E 18)), .mv (.V 0), none⟩,
    ⟨(some (.E 19)), .mv (.V 5), none⟩,
    ⟨(some (.E 20)), .iaddr 1 (.E 18) (.E 19), none⟩,
    ⟨(some (.E 21)), .load false 1 (.E 20), none⟩,
    ⟨(some (.E 22)), .mv (.V 1), none⟩,
    ⟨(some (.E 23)), .call k_laws_szIntS [([1], (.E 21)), ([0], (.E 22))], none⟩,
    ⟨(some (.V 1)), .mv (.E 23), none⟩])
  (.seq (.reg [⟨(some (.E 24)), .mv (.V 1), none⟩,
    ⟨(some (.E 25)), .bin .lss (.E 24) (ki 0), none⟩])
  (.cond (.E 25)
   (.seq (.reg [⟨(some (.V 4)), .mv (ki (-1)), none⟩])
   (.ret))
   (.skip)))))
 (.reg [⟨(some (.E 16)), .mv (.V 5), none⟩,
   ⟨(some (.E 17)), .bin .add (.E 16) (ki 1), none⟩,
   ⟨(some (.V 5)), .mv (.E 17), none⟩]))

def k_laws_szIntSS_ic : IC :=
 .seq (.reg [⟨(some (.V 4)), .mv (ki 0), none⟩])
 (.seq (.reg [⟨(some (.E 6)), .mv (.V 1), none⟩,
   ⟨(some (.E 7)), .mv (.V 0), none⟩,
   ⟨(some (.E 8)), .len (.E 7), none⟩,
   ⟨(some (.E 9)), .bin .sub (.E 6) (.E 8), none⟩,
   ⟨(some (.V 1)), .mv (.E 9), none⟩])
 (.seq (.seq (.reg [⟨(some (.E 10)), .mv (.V 1), none⟩,
   ⟨(some (.E 11)), .bin .lss (.E 10) (ki 0), none⟩])
 (.cond (.E 11)
  (.seq (.reg [⟨(some (.V 4)), .mv (ki (-1)), none⟩])
  (.ret))
  (.skip)))
 (.seq (.seq (.reg [⟨(some (.V 5)), .mv (ki 0), none⟩])
 (.block 0 (.loop k_laws_szIntSS_b0)))
 (.seq (.reg [⟨(some (.E 26)), .mv (.V 1), none⟩,
   ⟨(some (.V 4)), .mv (.E 26), none⟩])
 (.ret)))))

def k_laws_szIntSS_rv : List RV := [.tmp [0] 4]

def k_spec_GridOk_vars : List Nat := [0, 1, 3, 4, 2]

def k_spec_GridOk_b0 : IC :=
 .seq (.seq (.reg [⟨(some (.E 50)), .mv (.V 4), none⟩,
   ⟨(some (.E 51)), .faddr 1 (.V 1), none⟩,
   ⟨(some (.E 52)), .load false 1 (.E 51), none⟩,
   ⟨(some (.E 53)), .mv (.V 3), none⟩,
   ⟨(some (.E 54)), .iaddr 1 (.E 52) (.E 53), none⟩,
   ⟨(some (.E 55)), .load false 1 (.E 54), none⟩,
   ⟨(some (.E 56)), .len (.E 55), none⟩,
   ⟨(some (.E 57)), .bin .lss (.E 50) (.E 56), none⟩])
 (.cond (.E 57)
  (.skip)
  (.exit 2)))
 (.seq (.block 3 (.seq (.regD [(⟨(some (.E 60)), .faddr 1 (.V 1), none⟩, 0, 0),
    (⟨(some (.E 61)), .load false 1 (.E 60), none⟩, 0, 0),
    (⟨(some (.E 62)), .mv (.V 3), none⟩, 0, 0),
    (⟨(some (.E 63)), .iaddr 1 (.E 61) (.E 62), none⟩, 0, 0),
    (⟨(some (.E 64)), .load false 1 (.E 63), none⟩, 0, 0),
    (⟨(some (.E 65)), .mv (.V 4), none⟩, 0, 0),
    (⟨(some (.E 66)), .iaddr 1 (.E 64) (.E 65), none⟩, 0, 0),
    (⟨(some (.E 67)), .load false 1 (.E 66), none⟩, 0, 0),
    (⟨(some (.E 68)), .faddr 0 (.V 1), none⟩, 0, 0),
    (⟨(some (.E 69)), .load false 1 (.E 68), none⟩, 0, 0),
    (⟨(some (.E 70)), .mv (.V 3), none⟩, 0, 0),
    (⟨(some (.E 71)), .iaddr 1 (.E 69) (.E 70), none⟩, 0, 0),
    (⟨(some (.E 72)), .load false 1 (.E 71), none⟩, 0, 0),
    (⟨(some (.E 73)), .len (.E 72), none⟩, 0, 0),
    (⟨(some (.E 74)), .call k_spec_l1In [([0], (.E 67)), ([0], (ki 0)), ([0], (.E 73))], none⟩, 0, 0),
    (⟨(some (.E 75)), .un .not (.E 74), none⟩, 0, 0)])
  (.cond (.E 75)
   (.seq (.reg [⟨(some (.V 2)), .mv (kb false), none⟩])
   (.ret))
   (.skip))))
 (.reg [⟨(some (.E 58)), .mv (.V 4), none⟩,
   ⟨(some (.E 59)), .bin .add (.E 58) (ki 1), none⟩,
   ⟨(some (.V 4)), .mv (.E 59), none⟩]))

def k_spec_GridOk_b1 : IC :=
 .seq (.seq (.reg [⟨(some (.E 25)), .mv (.V 3), none⟩,
   ⟨(some (.E 26)), .faddr 0 (.V 1), none⟩,
   ⟨(some (.E 27)), .load false 1 (.E 26), none⟩,
   ⟨(some (.E 28)), .len (.E 27), none⟩,
   ⟨(some (.E 29)), .bin .lss (.E 25) (.E 28), none⟩])
 (.cond (.E 29)
  (.skip)
  (.exit 0)))
 (.seq (.block 1 (.seq (.seq (.regD [(⟨(some (.E 32)), .faddr 0 (.V 1), none⟩, 0, 0),
    (⟨(some (.E 33)), .load false 1 (.E 32), none⟩, 0, 0),
    (⟨(some (.E 34)), .mv (.V 3), none⟩, 0, 0),
    (⟨(some (.E 35)), .iaddr 1 (.E 33) (.E 34), none⟩, 0, 0),
    (⟨(some (.E 36)), .load false 1 (.E 35), none⟩, 0, 0),
    (⟨(some (.E 37)), .call k_spec_CutsOk [([1], (.E 36))], none⟩, 0, 0),
    (⟨(some (.E 38)), .un .not (.E 37), none⟩, 0, 0),
    (⟨(some (.E 39)), .mv (.E 38), none⟩, 0, 0),
    (⟨(some (.E 40)), .faddr 1 (.V 1), some ((.E 39), false)⟩, 0, 1),
    (⟨(some (.E 41)), .load false 1 (.E 40), some ((.E 39), false)⟩, 0, 1),
    (⟨(some (.E 42)), .mv (.V 3), some ((.E 39), false)⟩, 0, 0),
    (⟨(some (.E 43)), .iaddr 1 (.E 41) (.E 42), some ((.E 39), false)⟩, 0, 1),
    (⟨(some (.E 44)), .load false 1 (.E 43), some ((.E 39), false)⟩, 0, 1),
    (⟨(some (.E 45)), .len (.E 44), some ((.E 39), false)⟩, 0, 1),
    (⟨(some (.E 46)), .load true 2 (.V 1), some ((.E 39), false)⟩, 0, 0),
    (⟨(some (.E 47)), .call k_spec_RowsIn [([1, 1], (.E 46))], some ((.E 39), false)⟩, 0, 0),
    (⟨(some (.E 48)), .bin .neq (.E 45) (.E 47), some ((.E 39), false)⟩, 0, 0),
    (⟨(some (.E 49)), .pick (.E 39) (kb true) (.E 48), none⟩, 0, 0)])
  (.cond (.E 49)
   (.seq (.reg [⟨(some (.V 2)), .mv (kb false), none⟩])
   (.ret))
   (.skip)))
  (.seq (.reg [⟨(some (.V 4)), .mv (ki 0), none⟩])
  (.block 2 (.loop k_spec_GridOk_b0)))))
 (.reg [⟨(some (.E 30)), .mv (.V 3), none⟩,
   ⟨(some (.E 31)), .bin .add (.E 30) (ki 1), none⟩,
   ⟨(some (.V 3)), .mv (.E 31), none⟩]))

def k_spec_GridOk_ic : IC :=
 .seq (.reg [⟨(some (.V 1)), .box (.V 0), none⟩,
   ⟨(some (.V 2)), .mv (kb false), none⟩])
 (.seq (.seq (.reg [⟨(some (.E 5)), .faddr 0 (.V 1), none⟩,
   ⟨(some (.E 6)), .load false 1 (.E 5), none⟩,
   ⟨(some (.E 7)), .len (.E 6), none⟩,
   ⟨(some (.E 8)), .call k_spec_l1In [([0], (.E 7)), ([0], (ki 1)), ([0], (ki 4))], none⟩,
   ⟨(some (.E 9)), .un .not (.E 8), none⟩,
   ⟨(some (.E 10)), .mv (.E 9), none⟩,
   ⟨(some (.E 11)), .faddr 1 (.V 1), some ((.E 10), false)⟩,
   ⟨(some (.E 12)), .load false 1 (.E 11), some ((.E 10), false)⟩,
   ⟨(some (.E 13)), .len (.E 12), some ((.E 10), false)⟩,
   ⟨(some (.E 14)), .faddr 0 (.V 1), some ((.E 10), false)⟩,
   ⟨(some (.E 15)), .load false 1 (.E 14), some ((.E 10), false)⟩,
   ⟨(some (.E 16)), .len (.E 15), some ((.E 10), false)⟩,
   ⟨(some (.E 17)), .bin .neq (.E 13) (.E 16), some ((.E 10), false)⟩,
   ⟨(some (.E 18)), .pick (.E 10) (kb true) (.E 17), none⟩,
   ⟨(some (.E 19)), .mv (.E 18), none⟩,
   ⟨(some (.E 20)), .load true 2 (.V 1), some ((.E 19), false)⟩,
   ⟨(some (.E 21)), .call k_spec_RowsIn [([1, 1], (.E 20))], some ((.E 19), false)⟩,
   ⟨(some (.E 22)), .call k_spec_l1In [([0], (.E 21)), ([0], (ki 1)), ([0], (ki 40))], some ((.E 19), false)⟩,
   ⟨(some (.E 23)), .un .not (.E 22), some ((.E 19), false)⟩,
   ⟨(some (.E 24)), .pick (.E 19) (kb true) (.E 23), none⟩])
 (.cond (.E 24)
  (.seq (.reg [⟨(some (.V 2)), .mv (kb false), none⟩])
  (.ret))
  (.skip)))
 (.seq (.seq (.reg [⟨(some (.V 3)), .mv (ki 0), none⟩])
 (.block 0 (.loop k_spec_GridOk_b1)))
 (.seq (.reg [⟨(some (.V 2)), .mv (kb true), none⟩])
 (.ret))))

def k_spec_GridOk_rv : List RV := [.tmp [0] 2]

def k_spec_RowsIn_vars : List Nat := [0, 1, 2]

def k_spec_RowsIn_ic : IC :=
 .seq (.reg [⟨(some (.V 1)), .box (.V 0), none⟩,
   ⟨(some (.V 2)), .mv (ki 0), none⟩])
 (.seq (.seq (.reg [⟨(some (.E 3)), .faddr 1 (.V 1), none⟩,
   ⟨(some (.E 4)), .load false 1 (.E 3), none⟩,
   ⟨(some (.E 5)), .len (.E 4), none⟩,
   ⟨(some (.E 6)), .bin .eql (.E 5) (ki 0), none⟩])
 (.cond (.E 6)
  (.seq (.reg [⟨(some (.V 2)), .mv (ki 0), none⟩])
  (.ret))
  (.skip)))
 (.seq (.reg [⟨(some (.E 7)), .faddr 1 (.V 1), none⟩,
   ⟨(some (.E 8)), .load false 1 (.E 7), none⟩,
   ⟨(some (.E 9)), .iaddr 1 (.E 8) (ki 0), none⟩,
   ⟨(some (.E 10)), .load false 1 (.E 9), none⟩,
   ⟨(some (.E 11)), .len (.E 10), none⟩,
   ⟨(some (.V 2)), .mv (.E 11), none⟩])
 (.ret)))

def k_spec_RowsIn_rv : List RV := [.tmp [0] 2]

def k_laws_toIntSS_vars : List Nat := [0, 4, 3, 2]

def k_laws_toIntSS_b0 : IC :=
 .seq (.seq (.reg [⟨(some (.E 8)), .mv (.V 4), none⟩,
   ⟨(some (.E 9)), .mv (.V 0), none⟩,
   ⟨(some (.E 10)), .len (.E 9), none⟩,
   ⟨(some (.E 11)), .bin .lss (.E 8) (.E 10), none⟩])
 (.cond (.E 11)
  (.skip)
  (.exit 0)))
 (.seq (.block 1 (.reg [⟨(some (.E 14)), .mv (.V 3), none⟩,
    ⟨(some (.E 15)), .mv (.V 4), none⟩,
    ⟨(some (.E 16)), .mv (.V 0), none⟩,
    ⟨(some (.E 17)), .mv (.V 4), none⟩,
    ⟨(some (.E 18)), .iaddr 1 (.E 16) (.E 17), none⟩,
    ⟨(some (.E 19)), .load false 1 (.E 18), none⟩,
    ⟨(some (.E 20)), .call k_laws_toIntS [([1], (.E 19))], none⟩,
    ⟨(some (.E 21)), .iaddr 1 (.E 14) (.E 15), none⟩,
    ⟨none, .store [1] (.E 21) (.E 20), none⟩]))
 (.reg [⟨(some (.E 12)), .mv (.V 4), none⟩,
   ⟨(some (.E 13)), .bin .add (.E 12) (ki 1), none⟩,
   ⟨(some (.V 4)), .mv (.E 13), none⟩]))

def k_laws_toIntSS_ic : IC :=
 .seq (.reg [⟨(some (.V 2)), .mv (.C .e0), none⟩])
 (.seq (.reg [⟨(some (.E 5)), .mv (.V 0), none⟩,
   ⟨(some (.E 6)), .len (.E 5), none⟩,
   ⟨(some (.E 7)), .mksl 24 1 [(.own 1 [])] (.E 6) (.E 6), none⟩,
   ⟨(some (.V 3)), .mv (.E 7), none⟩])
 (.seq (.seq (.reg [⟨(some (.V 4)), .mv (ki 0), none⟩])
 (.block 0 (.loop k_laws_toIntSS_b0)))
 (.seq (.reg [⟨(some (.E 22)), .mv (.V 3), none⟩,
   ⟨(some (.V 2)), .mv (.E 22), none⟩])
 (.ret))))

def k_laws_toIntSS_rv : List RV := [.tmp [1] 2]

def k_impl_GridOk_vars : List Nat := [0, 1, 28, 27, 26, 4, 3, 2]

def k_impl_GridOk_b0 : IC :=
 .seq (.reg [⟨(some (.E 29)), .bin .lss (.V 28) (.V 27), none⟩])
 (.seq (.cond (.E 29)
  (.skip)
  (.exit 0))
 (.seq (.block 1 (.seq (.reg [⟨(some (.E 30)), .mv (.V 28), none⟩,
    ⟨(some (.E 31)), .iaddr 1 (.V 26) (.V 28), none⟩,
    ⟨(some (.E 32)), .load false 1 (.E 31), none⟩,
    ⟨(some (.V 4)), .alloc [.e0], none⟩,
    ⟨(some (.V 3)), .mv (.E 30), none⟩,
    ⟨none, .store [1] (.V 4) (.E 32), none⟩])
  (.seq (.regD [(⟨(some (.E 33)), .load false 1 (.V 4), none⟩, 0, 0),
    (⟨(some (.E 34)), .call k_impl_CutsOk [([1], (.E 33))], none⟩, 0, 0),
    (⟨(some (.E 35)), .un .not (.E 34), none⟩, 0, 0),
    (⟨(some (.E 36)), .mv (.E 35), none⟩, 0, 0),
    (⟨(some (.E 37)), .faddr 1 (.V 1), some ((.E 36), false)⟩, 0, 1),
    (⟨(some (.E 38)), .load false 1 (.E 37), some ((.E 36), false)⟩, 0, 1),
    (⟨(some (.E 39)), .mv (.V 3), some ((.E 36), false)⟩, 0, 0),
    (⟨(some (.E 40)), .iaddr 1 (.E 38) (.E 39), some ((.E 36), false)⟩, 0, 1),
    (⟨(some (.E 41)), .load false 1 (.E 40), some ((.E 36), false)⟩, 0, 1),
    (⟨(some (.E 42)), .len (.E 41), some ((.E 36), false)⟩, 0, 1),
    (⟨(some (.E 43)), .load true 2 (.V 1), some ((.E 36), false)⟩, 0, 0),
    (⟨(some (.E 44)), .call k_impl_RowsIn [([1, 1], (.E 43))], some ((.E 36), false)⟩, 0, 0),
    (⟨(some (.E 45)), .bin .neq (.E 42) (.E 44), some ((.E 36), false)⟩, 0, 0),
    (⟨(some (.E 46)), .pick (.E 36) (kb true) (.E 45), none⟩, 0, 0),
    (⟨(some (.E 47)), .mv (.E 46), none⟩, 0, 0),
    (⟨(some (.E 48)), .faddr 1 (.V 1), some ((.E 47), false)⟩, 0, 0),
    (⟨(some (.E 49)), .load false 1 (.E 48), some ((.E 47), false)⟩, 0, 0),
    (⟨(some (.E 50)), .mv (.V 3), some ((.E 47), false)⟩, 0, 0),
    (⟨(some (.E 51)), .iaddr 1 (.E 49) (.E 50), some ((.E 47), false)⟩, 0, 0),
    (⟨(some (.E 52)), .load false 1 (.E 51), some ((.E 47), false)⟩, 0, 0),
    (⟨(some (.E 53)), .mkfn k_impl_GridOk_1 [(.V 4)], some ((.E 47), false)⟩, 0, 0),
    (⟨(some (.E 54)), .call k_slices_ContainsFunc___int_int_ [([1], (.E 52)), ([0], (.E 53))], some ((.E 47), false)⟩, 0, 0),
    (⟨(some (.E 55)), .pick (.E 47) (kb true) (.E 54), none⟩, 0, 0)])
  (.cond (.E 55)
   (.seq (.reg [⟨(some (.V 2)), .mv (kb false), none⟩])
   (.ret))
   (.skip)))))
 (.reg [⟨(some (.E 56)), .bin .add (.V 28) (ki 1), none⟩,
   ⟨(some (.V 28)), .mv (.E 56), none⟩])))

def k_impl_GridOk_ic : IC :=
 .seq (.reg [⟨(some (.V 1)), .box (.V 0), none⟩,
   ⟨(some (.V 2)), .mv (kb false), none⟩])
 (.seq (.seq (.reg [⟨(some (.E 5)), .faddr 0 (.V 1), none⟩,
   ⟨(some (.E 6)), .load false 1 (.E 5), none⟩,
   ⟨(some (.E 7)), .len (.E 6), none⟩,
   ⟨(some (.E 8)), .call k_impl_within [([0], (.E 7)), ([0], (ki 1)), ([0], (ki 4))], none⟩,
   ⟨(some (.E 9)), .un .not (.E 8), none⟩,
   ⟨(some (.E 10)), .mv (.E 9), none⟩,
   ⟨(some (.E 11)), .faddr 1 (.V 1), some ((.E 10), false)⟩,
   ⟨(some (.E 12)), .load false 1 (.E 11), some ((.E 10), false)⟩,
   ⟨(some (.E 13)), .len (.E 12), some ((.E 10), false)⟩,
   ⟨(some (.E 14)), .faddr 0 (.V 1), some ((.E 10), false)⟩,
   ⟨(some (.E 15)), .load false 1 (.E 14), some ((.E 10), false)⟩,
   ⟨(some (.E 16)), .len (.E 15), some ((.E 10), false)⟩,
   ⟨(some (.E 17)), .bin .neq (.E 13) (.E 16), some ((.E 10), false)⟩,
   ⟨(some (.E 18)), .pick (.E 10) (kb true) (.E 17), none⟩,
   ⟨(some (.E 19)), .mv (.E 18), none⟩,
   ⟨(some (.E 20)), .load true 2 (.V 1), some ((.E 19), false)⟩,
   ⟨(some (.E 21)), .call k_impl_RowsIn [([1, 1], (.E 20))], some ((.E 19), false)⟩,
   ⟨(some (.E 22)), .call k_impl_within [([0], (.E 21)), ([0], (ki 1)), ([0], (ki 40))], some ((.E 19), false)⟩,
   ⟨(some (.E 23)), .un .not (.E 22), some ((.E 19), false)⟩,
   ⟨(some (.E 24)), .pick (.E 19) (kb true) (.E 23), none⟩])
 (.cond (.E 24)
  (.seq (.reg [⟨(some (.V 2)), .mv (kb false), none⟩])
  (.ret))
  (.skip)))
 (.seq (.seq (.reg [⟨(some (.E 25)), .faddr 0 (.V 1), none⟩,
   ⟨(some (.V 26)), .load false 1 (.E 25), none⟩,
   ⟨(some (.V 27)), .len (.V 26), none⟩,
   ⟨(some (.V 28)), .mv (ki 0), none⟩])
 (.block 0 (.loop k_impl_GridOk_b0)))
 (.seq (.reg [⟨(some (.V 2)), .mv (kb true), none⟩])
 (.ret))))

def k_impl_GridOk_rv : List RV := [.tmp [0] 2]

def k_impl_RowsIn_vars : List Nat := [0, 1, 2]

def k_impl_RowsIn_ic : IC :=
 .seq (.reg [⟨(some (.V 1)), .box (.V 0), none⟩,
   ⟨(some (.V 2)), .mv (ki 0), none⟩])
 (.seq (.seq (.reg [⟨(some (.E 3)), .faddr 1 (.V 1), none⟩,
   ⟨(some (.E 4)), .load false 1 (.E 3), none⟩,
   ⟨(some (.E 5)), .len (.E 4), none⟩,
   ⟨(some (.E 6)), .bin .eql (.E 5) (ki 0), none⟩])
 (.cond (.E 6)
  (.seq (.reg [⟨(some (.V 2)), .mv (ki 0), none⟩])
  (.ret))
  (.skip)))
 (.seq (.reg [⟨(some (.E 7)), .faddr 1 (.V 1), none⟩,
   ⟨(some (.E 8)), .load false 1 (.E 7), none⟩,
   ⟨(some (.E 9)), .iaddr 1 (.E 8) (ki 0), none⟩,
   ⟨(some (.E 10)), .load false 1 (.E 9), none⟩,
   ⟨(some (.E 11)), .len (.E 10), none⟩,
   ⟨(some (.V 2)), .mv (.E 11), none⟩])
 (.ret)))

def k_impl_RowsIn_rv : List RV := [.tmp [0] 2]

def k_slices_ContainsFunc___int_int__vars : List Nat := [0, 1, 4]

def k_slices_ContainsFunc___int_int__ic : IC :=
 .seq (.reg [⟨(some (.V 4)), .mv (kb false), none⟩])
 (.seq (.reg [⟨(some (.E 5)), .mv (.V 0), none⟩,
   ⟨(some (.E 6)), .mv (.V 1), none⟩,
   ⟨(some (.E 7)), .call k_slices_IndexFunc___int_int_ [([1], (.E 5)), ([0], (.E 6))], none⟩,
   ⟨(some (.E 8)), .bin .geq (.E 7) (ki 0), none⟩,
   ⟨(some (.V 4)), .mv (.E 8), none⟩])
 (.ret))

def k_slices_ContainsFunc___int_int__rv : List RV := [.tmp [0] 4]

def k_impl_TaskOk_1_vars : List Nat := [0, 2]

def k_impl_TaskOk_1_ic : IC :=
 .seq (.reg [⟨(some (.V 2)), .mv (kb false), none⟩])
 (.seq (.reg [⟨(some (.E 3)), .mv (.V 0), none⟩,
   ⟨(some (.E 4)), .call k_impl_within [([0], (.E 3)), ([0], (ki (-2199023255552))), ([0], (ki 2199023255552))], none⟩,
   ⟨(some (.E 5)), .un .not (.E 4), none⟩,
   ⟨(some (.V 2)), .mv (.E 5), none⟩])
 (.ret))

def k_impl_TaskOk_1_rv : List RV := [.tmp [0] 2]

def k_laws_eqIntSS_vars : List Nat := [0, 1, 5, 4]

def k_laws_eqIntSS_b0 : IC :=
 .seq (.seq (.reg [⟨(some (.E 11)), .mv (.V 5), none⟩,
   ⟨(some (.E 12)), .mv (.V 0), none⟩,
   ⟨(some (.E 13)), .len (.E 12), none⟩,
   ⟨(some (.E 14)), .bin .lss (.E 11) (.E 13), none⟩])
 (.cond (.E 14)
  (.skip)
  (.exit 0)))
 (.seq (.block 1 (.seq (.regD [(⟨(some (.E 17)), .mv (.V 0), none⟩, 0, 0),
    (⟨(some (.E 18)), .mv (.V 5), none⟩, 0, 0),
    (⟨(some (.E 19)), .iaddr 1 (.E 17) (.E 18), none⟩, 0, 0),
    (⟨(some (.E 20)), .load false 1 (.E 19), none⟩, 0, 0),
    (⟨(some (.E 21)), .mv (.V 1), none⟩, 0, 0),
    (⟨(some (.E 22)), .mv (.V 5), none⟩, 0, 0),
    (⟨(some (.E 23)), .iaddr 1 (.E 21) (.E 22), none⟩, 0, 0),
    (⟨(some (.E 24)), .load false 1 (.E 23), none⟩, 0, 0),
    (⟨(some (.E 25)), .call k_laws_eqIntS [([1], (.E 20)), ([1], (.E 24))], none⟩, 0, 0),
    (⟨(some (.E 26)), .un .not (.E 25), none⟩, 0, 0)])
  (.cond (.E 26)
   (.seq (.reg [⟨(some (.V 4)), .mv (kb false), none⟩])
   (.ret))
   (.skip))))
 (.reg [⟨(some (.E 15)), .mv (.V 5), none⟩,
   ⟨(some (.E 16)), .bin .add (.E 15) (ki 1), none⟩,
   ⟨(some (.V 5)), .mv (.E 16), none⟩]))

def k_laws_eqIntSS_ic : IC :=
 .seq (.reg [⟨(some (.V 4)), .mv (kb false), none⟩])
 (.seq (.seq (.reg [⟨(some (.E 6)), .mv (.V 0), none⟩,
   ⟨(some (.E 7)), .len (.E 6), none⟩,
   ⟨(some (.E 8)), .mv (.V 1), none⟩,
   ⟨(some (.E 9)), .len (.E 8), none⟩,
   ⟨(some (.E 10)), .bin .neq (.E 7) (.E 9), none⟩])
 (.cond (.E 10)
  (.seq (.reg [⟨(some (.V 4)), .mv (kb false), none⟩])
  (.ret))
  (.skip)))
 (.seq (.seq (.reg [⟨(some (.V 5)), .mv (ki 0), none⟩])
 (.block 0 (.loop k_laws_eqIntSS_b0)))
 (.seq (.reg [⟨(some (.V 4)), .mv (kb true), none⟩])
 (.ret))))

def k_laws_eqIntSS_rv : List RV := [.tmp [0] 4]

def k_spec_l8Numbers_vars : List Nat := [0, 1, 2]

def k_spec_l8Numbers_ic : IC :=
 .seq (.reg [⟨(some (.V 1)), .box (.V 0), none⟩,
   ⟨(some (.V 2)), .mv (.C .e0), none⟩])
 (.seq (.reg [⟨(some (.E 3)), .faddr 0 (.V 1), none⟩,
   ⟨(some (.E 4)), .load false 1 (.E 3), none⟩,
   ⟨(some (.E 5)), .faddr 1 (.V 1), none⟩,
   ⟨(some (.E 6)), .load false 1 (.E 5), none⟩,
   ⟨(some (.E 7)), .faddr 2 (.V 1), none⟩,
   ⟨(some (.E 8)), .load false 1 (.E 7), none⟩,
   ⟨(some (.E 9)), .faddr 3 (.V 1), none⟩,
   ⟨(some (.E 10)), .load false 1 (.E 9), none⟩,
   ⟨(some (.E 11)), .faddr 4 (.V 1), none⟩,
   ⟨(some (.E 12)), .load false 1 (.E 11), none⟩,
   ⟨(some (.E 13)), .bslice 5 1 [(.v (.int .i64 0))] [(0, (.E 4)), (1, (.E 6)), (2, (.E 8)), (3, (.E 10)), (4, (.E 12))], none⟩,
   ⟨(some (.V 2)), .mv (.E 13), none⟩])
 (.ret))

def k_spec_l8Numbers_rv : List RV := [.tmp [1] 2]

def k_spec_l8Least_vars : List Nat := [0]

def k_spec_l8Least_ic : IC :=
 .seq (.reg [⟨(some (.V 0)), .mv (.C .e0), none⟩])
 (.seq (.reg [⟨(some (.E 1)), .bslice 5 1 [(.v (.int .i64 0))] [(0, (ki 1)), (1, (ki 0)), (2, (ki 2)), (3, (ki 1)), (4, (ki 1))], none⟩,
   ⟨(some (.V 0)), .mv (.E 1), none⟩])
 (.ret))

def k_spec_l8Least_rv : List RV := [.tmp [1] 0]

def k_spec_l8Most_vars : List Nat := [0]

def k_spec_l8Most_ic : IC :=
 .seq (.reg [⟨(some (.V 0)), .mv (.C .e0), none⟩])
 (.seq (.reg [⟨(some (.E 1)), .bslice 5 1 [(.v (.int .i64 0))] [(0, (ki 8)), (1, (ki 4)), (2, (ki 8)), (3, (ki 100)), (4, (ki 20))], none⟩,
   ⟨(some (.V 0)), .mv (.E 1), none⟩])
 (.ret))

def k_spec_l8Most_rv : List RV := [.tmp [1] 0]

def k_impl_ConfigOk_1_vars : List Nat := [0, 2]

def k_impl_ConfigOk_1_ic : IC :=
 .seq (.reg [⟨(some (.V 2)), .mv (kb false), none⟩])
 (.seq (.reg [⟨(some (.E 3)), .mv (.V 0), none⟩,
   ⟨(some (.E 4)), .call k_impl_isSign [([0], (.E 3))], none⟩,
   ⟨(some (.E 5)), .un .not (.E 4), none⟩,
   ⟨(some (.V 2)), .mv (.E 5), none⟩])
 (.ret))

def k_impl_ConfigOk_1_rv : List RV := [.tmp [0] 2]

def k_impl_isSign_vars : List Nat := [0, 2]

def k_impl_isSign_ic : IC :=
 .seq (.reg [⟨(some (.V 2)), .mv (kb false), none⟩])
 (.seq (.reg [⟨(some (.E 3)), .mv (.V 0), none⟩,
   ⟨(some (.E 4)), .call k_impl_within [([0], (.E 3)), ([0], (ki (-1))), ([0], (ki 1))], none⟩,
   ⟨(some (.V 2)), .mv (.E 4), none⟩])
 (.ret))

def k_impl_isSign_rv : List RV := [.tmp [0] 2]

def k_spec_l6Value_vars : List Nat := [0, 2]

def k_spec_l6Value_ic : IC :=
 .seq (.reg [⟨(some (.V 2)), .mv (kb false), none⟩])
 (.seq (.reg [⟨(some (.E 3)), .mv (.V 0), none⟩,
   ⟨(some (.E 4)), .call k_spec_l1In [([0], (.E 3)), ([0], (ki (-2147483647))), ([0], (ki 2147483647))], none⟩,
   ⟨(some (.V 2)), .mv (.E 4), none⟩])
 (.ret))

def k_spec_l6Value_rv : List RV := [.tmp [0] 2]

def k_impl_isDecimal_vars : List Nat := [0, 2]

def k_impl_isDecimal_ic : IC :=
 .seq (.reg [⟨(some (.V 2)), .mv (kb false), none⟩])
 (.seq (.reg [⟨(some (.E 3)), .mv (.V 0), none⟩,
   ⟨(some (.E 4)), .call k_impl_within [([0], (.E 3)), ([0], (ki (-2147483647))), ([0], (ki 2147483647))], none⟩,
   ⟨(some (.V 2)), .mv (.E 4), none⟩])
 (.ret))

def k_impl_isDecimal_rv : List RV := [.tmp [0] 2]

def k_spec_CutsOk_vars : List Nat := [0, 3, 2]

def k_spec_CutsOk_b0 : IC :=
 .seq (.seq (.reg [⟨(some (.E 4)), .mv (.V 3), none⟩,
   ⟨(some (.E 5)), .mv (.V 0), none⟩,
   ⟨(some (.E 6)), .len (.E 5), none⟩,
   ⟨(some (.E 7)), .bin .lss (.E 4) (.E 6), none⟩])
 (.cond (.E 7)
  (.skip)
  (.exit 0)))
 (.seq (.block 1 (.seq (.regD [(⟨(some (.E 10)), .mv (.V 0), none⟩, 0, 0),
    (⟨(some (.E 11)), .mv (.V 3), none⟩, 0, 0),
    (⟨(some (.E 12)), .iaddr 1 (.E 10) (.E 11), none⟩, 0, 0),
    (⟨(some (.E 13)), .load false 1 (.E 12), none⟩, 0, 0),
    (⟨(some (.E 14)), .call k_spec_l6Value [([0], (.E 13))], none⟩, 0, 0),
    (⟨(some (.E 15)), .un .not (.E 14), none⟩, 0, 0),
    (⟨(some (.E 16)), .mv (.E 15), none⟩, 0, 0),
    (⟨(some (.E 17)), .mv (.V 3), some ((.E 16), false)⟩, 0, 0),
    (⟨(some (.E 18)), .bin .gtr (.E 17) (ki 0), some ((.E 16), false)⟩, 0, 0),
    (⟨(some (.E 19)), .mv (.E 18), some ((.E 16), false)⟩, 0, 0),
    (⟨(some (.E 20)), .mv (.V 0), some ((.E 19), true)⟩, 0, 0),
    (⟨(some (.E 21)), .mv (.V 3), some ((.E 19), true)⟩, 0, 0),
    (⟨(some (.E 22)), .bin .sub (.E 21) (ki 1), some ((.E 19), true)⟩, 0, 0),
    (⟨(some (.E 23)), .iaddr 1 (.E 20) (.E 22), some ((.E 19), true)⟩, 0, 0),
    (⟨(some (.E 24)), .load false 1 (.E 23), some ((.E 19), true)⟩, 0, 0),
    (⟨(some (.E 25)), .mv (.V 0), some ((.E 19), true)⟩, 0, 0),
    (⟨(some (.E 26)), .mv (.V 3), some ((.E 19), true)⟩, 0, 0),
    (⟨(some (.E 27)), .iaddr 1 (.E 25) (.E 26), some ((.E 19), true)⟩, 0, 0),
    (⟨(some (.E 28)), .load false 1 (.E 27), some ((.E 19), true)⟩, 0, 0),
    (⟨(some (.E 29)), .bin .geq (.E 24) (.E 28), some ((.E 19), true)⟩, 0, 0),
    (⟨(some (.E 30)), .pick (.E 19) (.E 29) (kb false), some ((.E 16), false)⟩, 0, 0),
    (⟨(some (.E 31)), .pick (.E 16) (kb true) (.E 30), none⟩, 0, 0)])
  (.cond (.E 31)
   (.seq (.reg [⟨(some (.V 2)), .mv (kb false), none⟩])
   (.ret))
   (.skip))))
 (.reg [⟨(some (.E 8)), .mv (.V 3), none⟩,
   ⟨(some (.E 9)), .bin .add (.E 8) (ki 1), none⟩,
   ⟨(some (.V 3)), .mv (.E 9), none⟩]))

def k_spec_CutsOk_ic : IC :=
 .seq (.reg [⟨(some (.V 2)), .mv (kb false), none⟩])
 (.seq (.seq (.reg [⟨(some (.V 3)), .mv (ki 0), none⟩])
 (.block 0 (.loop k_spec_CutsOk_b0)))
 (.seq (.reg [⟨(some (.E 32)), .mv (.V 0), none⟩,
   ⟨(some (.E 33)), .len (.E 32), none⟩,
   ⟨(some (.E 34)), .bin .leq (.E 33) (ki 7), none⟩,
   ⟨(some (.V 2)), .mv (.E 34), none⟩])
 (.ret)))

def k_spec_CutsOk_rv : List RV := [.tmp [0] 2]

def k_impl_CutsOk_vars : List Nat := [0, 3, 2]

def k_impl_CutsOk_b0 : IC :=
 .seq (.seq (.reg [⟨(some (.E 4)), .mv (.V 3), none⟩,
   ⟨(some (.E 5)), .mv (.V 0), none⟩,
   ⟨(some (.E 6)), .len (.E 5), none⟩,
   ⟨(some (.E 7)), .bin .lss (.E 4) (.E 6), none⟩])
 (.cond (.E 7)
  (.skip)
  (.exit 0)))
 (.seq (.block 1 (.seq (.regD [(⟨(some (.E 10)), .mv (.V 0), none⟩, 0, 0),
    (⟨(some (.E 11)), .mv (.V 3), none⟩, 0, 0),
    (⟨(some (.E 12)), .bin .sub (.E 11) (ki 1), none⟩, 0, 0),
    (⟨(some (.E 13)), .iaddr 1 (.E 10) (.E 12), none⟩, 0, 0),
    (⟨(some (.E 14)), .load false 1 (.E 13), none⟩, 0, 0),
    (⟨(some (.E 15)), .mv (.V 0), none⟩, 0, 0),
    (⟨(some (.E 16)), .mv (.V 3), none⟩, 0, 0),
    (⟨(some (.E 17)), .iaddr 1 (.E 15) (.E 16), none⟩, 0, 0),
    (⟨(some (.E 18)), .load false 1 (.E 17), none⟩, 0, 0),
    (⟨(some (.E 19)), .bin .geq (.E 14) (.E 18), none⟩, 0, 0)])
  (.cond (.E 19)
   (.seq (.reg [⟨(some (.V 2)), .mv (kb false), none⟩])
   (.ret))
   (.skip))))
 (.reg [⟨(some (.E 8)), .mv (.V 3), none⟩,
   ⟨(some (.E 9)), .bin .add (.E 8) (ki 1), none⟩,
   ⟨(some (.V 3)), .mv (.E 9), none⟩]))

def k_impl_CutsOk_ic : IC :=
 .seq (.reg [⟨(some (.V 2)), .mv (kb false), none⟩])
 (.seq (.seq (.reg [⟨(some (.V 3)), .mv (ki 1), none⟩])
 (.block 0 (.loop k_impl_CutsOk_b0)))
 (.seq (.reg [⟨(some (.E 20)), .mv (.V 0), none⟩,
   ⟨(some (.E 21)), .len (.E 20), none⟩,
   ⟨(some (.E 22)), .bin .leq (.E 21) (ki 7), none⟩,
   ⟨(some (.E 23)), .mv (.E 22), none⟩,
   ⟨(some (.E 24)), .mv (.V 0), some ((.E 23), true)⟩,
   ⟨(some (.E 25)), .call k_impl_areDecimals [([1], (.E 24))], some ((.E 23), true)⟩,
   ⟨(some (.E 26)), .pick (.E 23) (.E 25) (kb false), none⟩,
   ⟨(some (.V 2)), .mv (.E 26), none⟩])
 (.ret)))

def k_impl_CutsOk_rv : List RV := [.tmp [0] 2]

def k_impl_GridOk_1_vars : List Nat := [0, 1, 3]

def k_impl_GridOk_1_ic : IC :=
 .seq (.reg [⟨(some (.V 3)), .mv (kb false), none⟩])
 (.seq (.reg [⟨(some (.E 4)), .mv (.V 0), none⟩,
   ⟨(some (.E 5)), .load false 1 (.V 1), none⟩,
   ⟨(some (.E 6)), .len (.E 5), none⟩,
   ⟨(some (.E 7)), .call k_impl_within [([0], (.E 4)), ([0], (ki 0)), ([0], (.E 6))], none⟩,
   ⟨(some (.E 8)), .un .not (.E 7), none⟩,
   ⟨(some (.V 3)), .mv (.E 8), none⟩])
 (.ret))

def k_impl_GridOk_1_rv : List RV := [.tmp [0] 3]

def k_slices_IndexFunc___int_int__vars : List Nat := [0, 1, 8, 7, 5, 4]

def k_slices_IndexFunc___int_int__b0 : IC :=
 .seq (.reg [⟨(some (.E 9)), .bin .lss (.V 8) (.V 7), none⟩])
 (.seq (.cond (.E 9)
  (.skip)
  (.exit 0))
 (.seq (.block 1 (.seq (.reg [⟨(some (.E 10)), .mv (.V 8), none⟩,
    ⟨(some (.V 5)), .mv (.E 10), none⟩])
  (.seq (.reg [⟨(some (.E 11)), .mv (.V 1), none⟩,
    ⟨(some (.E 12)), .mv (.V 0), none⟩,
    ⟨(some (.E 13)), .mv (.V 5), none⟩,
    ⟨(some (.E 14)), .iaddr 1 (.E 12) (.E 13), none⟩,
    ⟨(some (.E 15)), .load false 1 (.E 14), none⟩,
    ⟨(some (.E 16)), .callv (.E 11) [([0], (.E 15))], none⟩])
  (.cond (.E 16)
   (.seq (.reg [⟨(some (.E 17)), .mv (.V 5), none⟩,
     ⟨(some (.V 4)), .mv (.E 17), none⟩])
   (.ret))
   (.skip)))))
 (.reg [⟨(some (.E 18)), .bin .add (.V 8) (ki 1), none⟩,
   ⟨(some (.V 8)), .mv (.E 18), none⟩])))

def k_slices_IndexFunc___int_int__ic : IC :=
 .seq (.reg [⟨(some (.V 4)), .mv (ki 0), none⟩])
 (.seq (.seq (.reg [⟨(some (.E 6)), .mv (.V 0), none⟩,
   ⟨(some (.V 7)), .len (.E 6), none⟩,
   ⟨(some (.V 8)), .mv (ki 0), none⟩])
 (.block 0 (.loop k_slices_IndexFunc___int_int__b0)))
 (.seq (.reg [⟨(some (.V 4)), .mv (ki (-1)), none⟩])
 (.ret)))

def k_slices_IndexFunc___int_int__rv : List RV := [.tmp [0] 4]

def k_impl_areDecimals_vars : List Nat := [0, 2]

def k_impl_areDecimals_ic : IC :=
 .seq (.reg [⟨(some (.V 2)), .mv (kb false), none⟩])
 (.seq (.reg [⟨(some (.E 3)), .mv (.V 0), none⟩,
   ⟨(some (.E 4)), .call k_slices_ContainsFunc___int_int_ [([1], (.E 3)), ([0], (.C (.fn k_impl_areDecimals_1 [])))], none⟩,
   ⟨(some (.E 5)), .un .not (.E 4), none⟩,
   ⟨(some (.V 2)), .mv (.E 5), none⟩])
 (.ret))

def k_impl_areDecimals_rv : List RV := [.tmp [0] 2]

def k_impl_areDecimals_1_vars : List Nat := [0, 2]

def k_impl_areDecimals_1_ic : IC :=
 .seq (.reg [⟨(some (.V 2)), .mv (kb false), none⟩])
 (.seq (.reg [⟨(some (.E 3)), .mv (.V 0), none⟩,
   ⟨(some (.E 4)), .call k_impl_isDecimal [([0], (.E 3))], none⟩,
   ⟨(some (.E 5)), .un .not (.E 4), none⟩,
   ⟨(some (.V 2)), .mv (.E 5), none⟩])
 (.ret))

def k_impl_areDecimals_1_rv : List RV := [.tmp [0] 2]

def tbl : List (Nat × Fun) := [
  (k_laws_FnExactTaskOk, fnOf k_laws_FnExactTaskOk_ic k_laws_FnExactTaskOk_rv []),
  (k_laws_eqIntS, fnOf k_laws_eqIntS_ic k_laws_eqIntS_rv []),
  (k_laws_szConfig, fnOf k_laws_szConfig_ic k_laws_szConfig_rv []),
  (k_laws_toConfig, fnOf k_laws_toConfig_ic k_laws_toConfig_rv []),
  (k_laws_eqConfig, fnOf k_laws_eqConfig_ic k_laws_eqConfig_rv []),
  (k_laws_toIntS, fnOf k_laws_toIntS_ic k_laws_toIntS_rv []),
  (k_laws_szGrid, fnOf k_laws_szGrid_ic k_laws_szGrid_rv []),
  (k_spec_TaskOk, fnOf k_spec_TaskOk_ic k_spec_TaskOk_rv []),
  (k_laws_toGrid, fnOf k_laws_toGrid_ic k_laws_toGrid_rv []),
  (k_impl_TaskOk, fnOf k_impl_TaskOk_ic k_impl_TaskOk_rv []),
  (k_laws_eqGrid, fnOf k_laws_eqGrid_ic k_laws_eqGrid_rv []),
  (k_spec_l1In, fnOf k_spec_l1In_ic k_spec_l1In_rv []),
  (k_laws_szIntS, fnOf k_laws_szIntS_ic k_laws_szIntS_rv []),
  (k_spec_ConfigOk, fnOf k_spec_ConfigOk_ic k_spec_ConfigOk_rv []),
  (k_impl_ConfigOk, fnOf k_impl_ConfigOk_ic k_impl_ConfigOk_rv []),
  (k_impl_within, fnOf k_impl_within_ic k_impl_within_rv []),
  (k_laws_szIntSS, fnOf k_laws_szIntSS_ic k_laws_szIntSS_rv []),
  (k_spec_GridOk, fnOf k_spec_GridOk_ic k_spec_GridOk_rv []),
  (k_spec_RowsIn, fnOf k_spec_RowsIn_ic k_spec_RowsIn_rv []),
  (k_laws_toIntSS, fnOf k_laws_toIntSS_ic k_laws_toIntSS_rv []),
  (k_impl_GridOk, fnOf k_impl_GridOk_ic k_impl_GridOk_rv []),
  (k_impl_RowsIn, fnOf k_impl_RowsIn_ic k_impl_RowsIn_rv []),
  (k_slices_ContainsFunc___int_int_, fnOf k_slices_ContainsFunc___int_int__ic k_slices_ContainsFunc___int_int__rv []),
  (k_impl_TaskOk_1, fnOf k_impl_TaskOk_1_ic k_impl_TaskOk_1_rv []),
  (k_laws_eqIntSS, fnOf k_laws_eqIntSS_ic k_laws_eqIntSS_rv []),
  (k_spec_l8Numbers, fnOf k_spec_l8Numbers_ic k_spec_l8Numbers_rv []),
  (k_spec_l8Least, fnOf k_spec_l8Least_ic k_spec_l8Least_rv []),
  (k_spec_l8Most, fnOf k_spec_l8Most_ic k_spec_l8Most_rv []),
  (k_impl_ConfigOk_1, fnOf k_impl_ConfigOk_1_ic k_impl_ConfigOk_1_rv []),
  (k_impl_isSign, fnOf k_impl_isSign_ic k_impl_isSign_rv []),
  (k_spec_l6Value, fnOf k_spec_l6Value_ic k_spec_l6Value_rv []),
  (k_impl_isDecimal, fnOf k_impl_isDecimal_ic k_impl_isDecimal_rv []),
  (k_spec_CutsOk, fnOf k_spec_CutsOk_ic k_spec_CutsOk_rv []),
  (k_impl_CutsOk, fnOf k_impl_CutsOk_ic k_impl_CutsOk_rv []),
  (k_impl_GridOk_1, fnOf k_impl_GridOk_1_ic k_impl_GridOk_1_rv []),
  (k_slices_IndexFunc___int_int_, fnOf k_slices_IndexFunc___int_int__ic k_slices_IndexFunc___int_int__rv []),
  (k_impl_areDecimals, fnOf k_impl_areDecimals_ic k_impl_areDecimals_rv []),
  (k_impl_areDecimals_1, fnOf k_impl_areDecimals_1_ic k_impl_areDecimals_1_rv [])]

def T : Table := fun f => (tbl.find? fun q => q.1 == f).map fun q => q.2

theorem T_laws_FnExactTaskOk : T k_laws_FnExactTaskOk = some (fnOf k_laws_FnExactTaskOk_ic k_laws_FnExactTaskOk_rv []) := rfl

@[simp] theorem M_laws_FnExactTaskOk : modesOf T k_laws_FnExactTaskOk = [] := modesOf_code T_laws_FnExactTaskOk

theorem T_laws_eqIntS : T k_laws_eqIntS = some (fnOf k_laws_eqIntS_ic k_laws_eqIntS_rv []) := rfl

@[simp] theorem M_laws_eqIntS : modesOf T k_laws_eqIntS = [] := modesOf_code T_laws_eqIntS

theorem T_laws_szConfig : T k_laws_szConfig = some (fnOf k_laws_szConfig_ic k_laws_szConfig_rv []) := rfl

@[simp] theorem M_laws_szConfig : modesOf T k_laws_szConfig = [] := modesOf_code T_laws_szConfig

theorem T_laws_toConfig : T k_laws_toConfig = some (fnOf k_laws_toConfig_ic k_laws_toConfig_rv []) := rfl

@[simp] theorem M_laws_toConfig : modesOf T k_laws_toConfig = [] := modesOf_code T_laws_toConfig

theorem T_laws_eqConfig : T k_laws_eqConfig = some (fnOf k_laws_eqConfig_ic k_laws_eqConfig_rv []) := rfl

@[simp] theorem M_laws_eqConfig : modesOf T k_laws_eqConfig = [] := modesOf_code T_laws_eqConfig

theorem T_laws_toIntS : T k_laws_toIntS = some (fnOf k_laws_toIntS_ic k_laws_toIntS_rv []) := rfl

@[simp] theorem M_laws_toIntS : modesOf T k_laws_toIntS = [] := modesOf_code T_laws_toIntS

theorem T_laws_szGrid : T k_laws_szGrid = some (fnOf k_laws_szGrid_ic k_laws_szGrid_rv []) := rfl

@[simp] theorem M_laws_szGrid : modesOf T k_laws_szGrid = [] := modesOf_code T_laws_szGrid

theorem T_spec_TaskOk : T k_spec_TaskOk = some (fnOf k_spec_TaskOk_ic k_spec_TaskOk_rv []) := rfl

@[simp] theorem M_spec_TaskOk : modesOf T k_spec_TaskOk = [] := modesOf_code T_spec_TaskOk

theorem T_laws_toGrid : T k_laws_toGrid = some (fnOf k_laws_toGrid_ic k_laws_toGrid_rv []) := rfl

@[simp] theorem M_laws_toGrid : modesOf T k_laws_toGrid = [] := modesOf_code T_laws_toGrid

theorem T_impl_TaskOk : T k_impl_TaskOk = some (fnOf k_impl_TaskOk_ic k_impl_TaskOk_rv []) := rfl

@[simp] theorem M_impl_TaskOk : modesOf T k_impl_TaskOk = [] := modesOf_code T_impl_TaskOk

theorem T_laws_eqGrid : T k_laws_eqGrid = some (fnOf k_laws_eqGrid_ic k_laws_eqGrid_rv []) := rfl

@[simp] theorem M_laws_eqGrid : modesOf T k_laws_eqGrid = [] := modesOf_code T_laws_eqGrid

theorem T_spec_l1In : T k_spec_l1In = some (fnOf k_spec_l1In_ic k_spec_l1In_rv []) := rfl

@[simp] theorem M_spec_l1In : modesOf T k_spec_l1In = [] := modesOf_code T_spec_l1In

theorem T_laws_szIntS : T k_laws_szIntS = some (fnOf k_laws_szIntS_ic k_laws_szIntS_rv []) := rfl

@[simp] theorem M_laws_szIntS : modesOf T k_laws_szIntS = [] := modesOf_code T_laws_szIntS

theorem T_spec_ConfigOk : T k_spec_ConfigOk = some (fnOf k_spec_ConfigOk_ic k_spec_ConfigOk_rv []) := rfl

@[simp] theorem M_spec_ConfigOk : modesOf T k_spec_ConfigOk = [] := modesOf_code T_spec_ConfigOk

theorem T_impl_ConfigOk : T k_impl_ConfigOk = some (fnOf k_impl_ConfigOk_ic k_impl_ConfigOk_rv []) := rfl

@[simp] theorem M_impl_ConfigOk : modesOf T k_impl_ConfigOk = [] := modesOf_code T_impl_ConfigOk

theorem T_impl_within : T k_impl_within = some (fnOf k_impl_within_ic k_impl_within_rv []) := rfl

@[simp] theorem M_impl_within : modesOf T k_impl_within = [] := modesOf_code T_impl_within

theorem T_laws_szIntSS : T k_laws_szIntSS = some (fnOf k_laws_szIntSS_ic k_laws_szIntSS_rv []) := rfl

@[simp] theorem M_laws_szIntSS : modesOf T k_laws_szIntSS = [] := modesOf_code T_laws_szIntSS

theorem T_spec_GridOk : T k_spec_GridOk = some (fnOf k_spec_GridOk_ic k_spec_GridOk_rv []) := rfl

@[simp] theorem M_spec_GridOk : modesOf T k_spec_GridOk = [] := modesOf_code T_spec_GridOk

theorem T_spec_RowsIn : T k_spec_RowsIn = some (fnOf k_spec_RowsIn_ic k_spec_RowsIn_rv []) := rfl

@[simp] theorem M_spec_RowsIn : modesOf T k_spec_RowsIn = [] := modesOf_code T_spec_RowsIn

theorem T_laws_toIntSS : T k_laws_toIntSS = some (fnOf k_laws_toIntSS_ic k_laws_toIntSS_rv []) := rfl

@[simp] theorem M_laws_toIntSS : modesOf T k_laws_toIntSS = [] := modesOf_code T_laws_toIntSS

theorem T_impl_GridOk : T k_impl_GridOk = some (fnOf k_impl_GridOk_ic k_impl_GridOk_rv []) := rfl

@[simp] theorem M_impl_GridOk : modesOf T k_impl_GridOk = [] := modesOf_code T_impl_GridOk

theorem T_impl_RowsIn : T k_impl_RowsIn = some (fnOf k_impl_RowsIn_ic k_impl_RowsIn_rv []) := rfl

@[simp] theorem M_impl_RowsIn : modesOf T k_impl_RowsIn = [] := modesOf_code T_impl_RowsIn

theorem T_slices_ContainsFunc___int_int_ : T k_slices_ContainsFunc___int_int_ = some (fnOf k_slices_ContainsFunc___int_int__ic k_slices_ContainsFunc___int_int__rv []) := rfl

@[simp] theorem M_slices_ContainsFunc___int_int_ : modesOf T k_slices_ContainsFunc___int_int_ = [] := modesOf_code T_slices_ContainsFunc___int_int_

theorem T_impl_TaskOk_1 : T k_impl_TaskOk_1 = some (fnOf k_impl_TaskOk_1_ic k_impl_TaskOk_1_rv []) := rfl

@[simp] theorem M_impl_TaskOk_1 : modesOf T k_impl_TaskOk_1 = [] := modesOf_code T_impl_TaskOk_1

theorem T_laws_eqIntSS : T k_laws_eqIntSS = some (fnOf k_laws_eqIntSS_ic k_laws_eqIntSS_rv []) := rfl

@[simp] theorem M_laws_eqIntSS : modesOf T k_laws_eqIntSS = [] := modesOf_code T_laws_eqIntSS

theorem T_spec_l8Numbers : T k_spec_l8Numbers = some (fnOf k_spec_l8Numbers_ic k_spec_l8Numbers_rv []) := rfl

@[simp] theorem M_spec_l8Numbers : modesOf T k_spec_l8Numbers = [] := modesOf_code T_spec_l8Numbers

theorem T_spec_l8Least : T k_spec_l8Least = some (fnOf k_spec_l8Least_ic k_spec_l8Least_rv []) := rfl

@[simp] theorem M_spec_l8Least : modesOf T k_spec_l8Least = [] := modesOf_code T_spec_l8Least

theorem T_spec_l8Most : T k_spec_l8Most = some (fnOf k_spec_l8Most_ic k_spec_l8Most_rv []) := rfl

@[simp] theorem M_spec_l8Most : modesOf T k_spec_l8Most = [] := modesOf_code T_spec_l8Most

theorem T_impl_ConfigOk_1 : T k_impl_ConfigOk_1 = some (fnOf k_impl_ConfigOk_1_ic k_impl_ConfigOk_1_rv []) := rfl

@[simp] theorem M_impl_ConfigOk_1 : modesOf T k_impl_ConfigOk_1 = [] := modesOf_code T_impl_ConfigOk_1

theorem T_impl_isSign : T k_impl_isSign = some (fnOf k_impl_isSign_ic k_impl_isSign_rv []) := rfl

@[simp] theorem M_impl_isSign : modesOf T k_impl_isSign = [] := modesOf_code T_impl_isSign

theorem T_spec_l6Value : T k_spec_l6Value = some (fnOf k_spec_l6Value_ic k_spec_l6Value_rv []) := rfl

@[simp] theorem M_spec_l6Value : modesOf T k_spec_l6Value = [] := modesOf_code T_spec_l6Value

theorem T_impl_isDecimal : T k_impl_isDecimal = some (fnOf k_impl_isDecimal_ic k_impl_isDecimal_rv []) := rfl

@[simp] theorem M_impl_isDecimal : modesOf T k_impl_isDecimal = [] := modesOf_code T_impl_isDecimal

theorem T_spec_CutsOk : T k_spec_CutsOk = some (fnOf k_spec_CutsOk_ic k_spec_CutsOk_rv []) := rfl

@[simp] theorem M_spec_CutsOk : modesOf T k_spec_CutsOk = [] := modesOf_code T_spec_CutsOk

theorem T_impl_CutsOk : T k_impl_CutsOk = some (fnOf k_impl_CutsOk_ic k_impl_CutsOk_rv []) := rfl

@[simp] theorem M_impl_CutsOk : modesOf T k_impl_CutsOk = [] := modesOf_code T_impl_CutsOk

theorem T_impl_GridOk_1 : T k_impl_GridOk_1 = some (fnOf k_impl_GridOk_1_ic k_impl_GridOk_1_rv []) := rfl

@[simp] theorem M_impl_GridOk_1 : modesOf T k_impl_GridOk_1 = [] := modesOf_code T_impl_GridOk_1

theorem T_slices_IndexFunc___int_int_ : T k_slices_IndexFunc___int_int_ = some (fnOf k_slices_IndexFunc___int_int__ic k_slices_IndexFunc___int_int__rv []) := rfl

@[simp] theorem M_slices_IndexFunc___int_int_ : modesOf T k_slices_IndexFunc___int_int_ = [] := modesOf_code T_slices_IndexFunc___int_int_

theorem T_impl_areDecimals : T k_impl_areDecimals = some (fnOf k_impl_areDecimals_ic k_impl_areDecimals_rv []) := rfl

@[simp] theorem M_impl_areDecimals : modesOf T k_impl_areDecimals = [] := modesOf_code T_impl_areDecimals

theorem T_impl_areDecimals_1 : T k_impl_areDecimals_1 = some (fnOf k_impl_areDecimals_1_ic k_impl_areDecimals_1_rv []) := rfl

@[simp] theorem M_impl_areDecimals_1 : modesOf T k_impl_areDecimals_1 = [] := modesOf_code T_impl_areDecimals_1

end Go.Pe
