/- The compact texts of the functions that the law reaches; no condition. -/
import Derived.Test.YthjpnjnlhmkepaaEvA0
set_option linter.all false
namespace Go.Pe
open Go
def k_laws_FnResiduals : Nat := 4

def k_laws_big : Nat := 15

def k_spec_DrawResiduals : Nat := 20

def k_impl_Residuals : Nat := 21

def k_spec_Residuals : Nat := 22

def k_spec_AddInt : Nat := 23

def k_spec_l10List : Nat := 78

def k_spec_l1New : Nat := 79

def k_spec_l1PickInt : Nat := 82

def k_spec_l1Whole : Nat := 83

def k_spec_l1Once : Nat := 84

def k_impl_SubInt : Nat := 85

def k_spec_SubInt : Nat := 86

def k_spec_l1Below : Nat := 116

def k_spec_l1Byte : Nat := 130

def k_laws_FnResiduals_vars : List Nat := [0, 3, 4, 6, 8, 5, 9, 11, 10, 2]

def k_laws_FnResiduals_b0 : IC :=
 .seq (.seq (.reg [⟨(some (.E 39)), .mv (.V 9), none⟩,
   ⟨(some (.E 40)), .mv (.V 3), none⟩,
   ⟨(some (.E 41)), .len (.E 40), none⟩,
   ⟨(some (.E 42)), .bin .lss (.E 39) (.E 41), none⟩])
 (.cond (.E 42)
  (.skip)
  (.exit 0)))
 (.seq (.block 1 (.seq (.regD [(⟨(some (.E 46)), .mv (.V 4), none⟩, 0, 0),
    (⟨(some (.E 47)), .mv (.V 9), none⟩, 0, 0),
    (⟨(some (.E 48)), .iaddr 1 (.E 46) (.E 47), none⟩, 0, 0),
    (⟨(some (.E 49)), .load false 1 (.E 48), none⟩, 0, 0),
    (⟨(some (.E 50)), .mv (.V 5), none⟩, 0, 0),
    (⟨(some (.E 51)), .mv (.V 9), none⟩, 0, 0),
    (⟨(some (.E 52)), .iaddr 1 (.E 50) (.E 51), none⟩, 0, 0),
    (⟨(some (.E 53)), .load false 1 (.E 52), none⟩, 0, 0),
    (⟨(some (.E 54)), .call k_spec_AddInt [([0], (.E 49)), ([0], (.E 53))], none⟩, 0, 0),
    (⟨(some (.E 45)), .mv (.E 54), none⟩, 0, 0),
    (⟨(some (.E 55)), .ext 0 (.E 45), none⟩, 0, 0),
    (⟨(some (.E 56)), .ext 1 (.E 45), none⟩, 0, 0),
    (⟨(some (.V 10)), .mv (.E 55), none⟩, 0, 0),
    (⟨(some (.V 11)), .mv (.E 56), none⟩, 0, 0)])
  (.seq (.reg [⟨(some (.E 57)), .mv (.V 11), none⟩,
    ⟨(some (.E 58)), .un .not (.E 57), none⟩,
    ⟨(some (.E 59)), .mv (.E 58), none⟩,
    ⟨(some (.E 60)), .mv (.V 10), some ((.E 59), false)⟩,
    ⟨(some (.E 61)), .mv (.V 3), some ((.E 59), false)⟩,
    ⟨(some (.E 62)), .mv (.V 9), some ((.E 59), false)⟩,
    ⟨(some (.E 63)), .iaddr 1 (.E 61) (.E 62), some ((.E 59), false)⟩,
    ⟨(some (.E 64)), .load false 1 (.E 63), some ((.E 59), false)⟩,
    ⟨(some (.E 65)), .bin .neq (.E 60) (.E 64), some ((.E 59), false)⟩,
    ⟨(some (.E 66)), .pick (.E 59) (kb true) (.E 65), none⟩])
  (.cond (.E 66)
   (.seq (.reg [⟨(some (.V 2)), .mv (kb false), none⟩])
   (.ret))
   (.skip)))))
 (.reg [⟨(some (.E 43)), .mv (.V 9), none⟩,
   ⟨(some (.E 44)), .bin .add (.E 43) (ki 1), none⟩,
   ⟨(some (.V 9)), .mv (.E 44), none⟩]))

def k_laws_FnResiduals_ic : IC :=
 .seq (.reg [⟨(some (.V 2)), .mv (kb false), none⟩])
 (.seq (.seq (.reg [⟨(some (.E 12)), .mv (.V 0), none⟩,
   ⟨(some (.E 13)), .call k_laws_big [([1], (.E 12))], none⟩])
 (.cond (.E 13)
  (.seq (.reg [⟨(some (.V 2)), .mv (kb true), none⟩])
  (.ret))
  (.skip)))
 (.seq (.reg [⟨(some (.E 15)), .mv (.V 0), none⟩,
   ⟨(some (.E 16)), .call k_spec_DrawResiduals [([1], (.E 15))], none⟩,
   ⟨(some (.E 14)), .mv (.E 16), none⟩,
   ⟨(some (.E 17)), .ext 0 (.E 14), none⟩,
   ⟨(some (.E 18)), .ext 1 (.E 14), none⟩,
   ⟨(some (.V 3)), .mv (.E 17), none⟩,
   ⟨(some (.V 4)), .mv (.E 18), none⟩])
 (.seq (.reg [⟨(some (.E 20)), .mv (.V 3), none⟩,
   ⟨(some (.E 21)), .mv (.V 4), none⟩,
   ⟨(some (.E 22)), .call k_impl_Residuals [([1], (.E 20)), ([1], (.E 21))], none⟩,
   ⟨(some (.E 19)), .mv (.E 22), none⟩,
   ⟨(some (.E 23)), .ext 0 (.E 19), none⟩,
   ⟨(some (.E 24)), .ext 1 (.E 19), none⟩,
   ⟨(some (.V 5)), .mv (.E 23), none⟩,
   ⟨(some (.V 6)), .mv (.E 24), none⟩])
 (.seq (.reg [⟨(some (.E 26)), .mv (.V 3), none⟩,
   ⟨(some (.E 27)), .mv (.V 4), none⟩,
   ⟨(some (.E 28)), .call k_spec_Residuals [([1], (.E 26)), ([1], (.E 27))], none⟩,
   ⟨(some (.E 25)), .mv (.E 28), none⟩,
   ⟨(some (.E 29)), .ext 0 (.E 25), none⟩,
   ⟨(some (.E 30)), .ext 1 (.E 25), none⟩,
   ⟨(some (.E 7)), .mv (.E 29), none⟩,
   ⟨(some (.V 8)), .mv (.E 30), none⟩])
 (.seq (.seq (.reg [⟨(some (.E 31)), .mv (.V 6), none⟩,
   ⟨(some (.E 32)), .mv (.V 8), none⟩,
   ⟨(some (.E 33)), .eqb true [.b] (.E 31) (.E 32), none⟩])
 (.cond (.E 33)
  (.seq (.reg [⟨(some (.V 2)), .mv (kb false), none⟩])
  (.ret))
  (.skip)))
 (.seq (.seq (.reg [⟨(some (.E 34)), .mv (.V 6), none⟩,
   ⟨(some (.E 35)), .un .not (.E 34), none⟩])
 (.cond (.E 35)
  (.seq (.reg [⟨(some (.E 36)), .mv (.V 5), none⟩,
    ⟨(some (.E 37)), .len (.E 36), none⟩,
    ⟨(some (.E 38)), .bin .eql (.E 37) (ki 0), none⟩,
    ⟨(some (.V 2)), .mv (.E 38), none⟩])
  (.ret))
  (.skip)))
 (.seq (.seq (.reg [⟨(some (.V 9)), .mv (ki 0), none⟩])
 (.block 0 (.loop k_laws_FnResiduals_b0)))
 (.seq (.reg [⟨(some (.E 67)), .mv (.V 5), none⟩,
   ⟨(some (.E 68)), .len (.E 67), none⟩,
   ⟨(some (.E 69)), .mv (.V 3), none⟩,
   ⟨(some (.E 70)), .len (.E 69), none⟩,
   ⟨(some (.E 71)), .bin .eql (.E 68) (.E 70), none⟩,
   ⟨(some (.V 2)), .mv (.E 71), none⟩])
 (.ret)))))))))

def k_laws_FnResiduals_rv : List RV := [.tmp [0] 2]

def k_laws_big_vars : List Nat := [0, 2]

def k_laws_big_ic : IC :=
 .seq (.reg [⟨(some (.V 2)), .mv (kb false), none⟩])
 (.seq (.reg [⟨(some (.E 3)), .mv (.V 0), none⟩,
   ⟨(some (.E 4)), .len (.E 3), none⟩,
   ⟨(some (.E 5)), .bin .gtr (.E 4) (ki 1048576), none⟩,
   ⟨(some (.V 2)), .mv (.E 5), none⟩])
 (.ret))

def k_laws_big_rv : List RV := [.tmp [0] 2]

def k_spec_DrawResiduals_vars : List Nat := [0, 4, 7, 5, 6, 2, 3]

def k_spec_DrawResiduals_b0 : IC :=
 .seq (.seq (.reg [⟨(some (.E 13)), .mv (.V 7), none⟩,
   ⟨(some (.E 14)), .mv (.V 5), none⟩,
   ⟨(some (.E 15)), .len (.E 14), none⟩,
   ⟨(some (.E 16)), .bin .lss (.E 13) (.E 15), none⟩])
 (.cond (.E 16)
  (.skip)
  (.exit 0)))
 (.seq (.block 1 (.reg [⟨(some (.E 19)), .mv (.V 6), none⟩,
    ⟨(some (.E 20)), .mv (.V 4), none⟩,
    ⟨(some (.E 21)), .mv (.V 4), none⟩,
    ⟨(some (.E 22)), .call k_spec_l1Whole [([0], (.E 21))], none⟩,
    ⟨(some (.E 23)), .bslice 4 1 [(.v (.int .i64 0))] [(0, (ki 0)), (1, (ki 500)), (2, (ki (-500))), (3, (.E 22))], none⟩,
    ⟨(some (.E 24)), .call k_spec_l1PickInt [([0], (.E 20)), ([1], (.E 23))], none⟩,
    ⟨(some (.E 25)), .bslice 1 1 [(.v (.int .i64 0))] [(0, (.E 24))], none⟩,
    ⟨(some (.E 26)), .app 8 1 (.E 19) (.E 25), none⟩,
    ⟨(some (.V 6)), .mv (.E 26), none⟩]))
 (.reg [⟨(some (.E 17)), .mv (.V 7), none⟩,
   ⟨(some (.E 18)), .bin .add (.E 17) (ki 1), none⟩,
   ⟨(some (.V 7)), .mv (.E 18), none⟩]))

def k_spec_DrawResiduals_ic : IC :=
 .seq (.reg [⟨(some (.V 2)), .mv (.C .e0), none⟩,
   ⟨(some (.V 3)), .mv (.C .e0), none⟩])
 (.seq (.reg [⟨(some (.E 8)), .mv (.V 0), none⟩,
   ⟨(some (.E 9)), .call k_spec_l1New [([1], (.E 8))], none⟩,
   ⟨(some (.V 4)), .mv (.E 9), none⟩])
 (.seq (.reg [⟨(some (.E 10)), .mv (.V 4), none⟩,
   ⟨(some (.E 11)), .call k_spec_l10List [([0], (.E 10))], none⟩,
   ⟨(some (.V 5)), .mv (.E 11), none⟩])
 (.seq (.reg [⟨(some (.E 12)), .bslice 0 1 [(.v (.int .i64 0))] [], none⟩,
   ⟨(some (.V 6)), .mv (.E 12), none⟩])
 (.seq (.seq (.reg [⟨(some (.V 7)), .mv (ki 0), none⟩])
 (.block 0 (.loop k_spec_DrawResiduals_b0)))
 (.seq (.seq (.reg [⟨(some (.E 27)), .mv (.V 4), none⟩,
   ⟨(some (.E 28)), .call k_spec_l1Once [([0], (.E 27)), ([0], (ki 8))], none⟩])
 (.cond (.E 28)
  (.reg [⟨(some (.E 29)), .mv (.V 6), none⟩,
    ⟨(some (.E 30)), .bslice 1 1 [(.v (.int .i64 0))] [(0, (ki 0))], none⟩,
    ⟨(some (.E 31)), .app 8 1 (.E 29) (.E 30), none⟩,
    ⟨(some (.V 6)), .mv (.E 31), none⟩])
  (.skip)))
 (.seq (.reg [⟨(some (.E 32)), .mv (.V 5), none⟩,
   ⟨(some (.E 33)), .mv (.V 6), none⟩,
   ⟨(some (.V 2)), .mv (.E 32), none⟩,
   ⟨(some (.V 3)), .mv (.E 33), none⟩])
 (.ret)))))))

def k_spec_DrawResiduals_rv : List RV := [.tmp [1] 2, .tmp [1] 3]

def k_impl_Residuals_vars : List Nat := [0, 1, 18, 17, 7, 9, 6, 8, 4, 5]

def k_impl_Residuals_b0 : IC :=
 .seq (.reg [⟨(some (.E 19)), .bin .lss (.V 18) (.V 17), none⟩])
 (.seq (.cond (.E 19)
  (.skip)
  (.exit 0))
 (.seq (.block 1 (.seq (.reg [⟨(some (.E 20)), .mv (.V 18), none⟩,
    ⟨(some (.V 7)), .mv (.E 20), none⟩])
  (.seq (.regD [(⟨(some (.E 22)), .mv (.V 0), none⟩, 0, 0),
    (⟨(some (.E 23)), .mv (.V 7), none⟩, 0, 0),
    (⟨(some (.E 24)), .iaddr 1 (.E 22) (.E 23), none⟩, 0, 0),
    (⟨(some (.E 25)), .load false 1 (.E 24), none⟩, 0, 0),
    (⟨(some (.E 26)), .mv (.V 1), none⟩, 0, 0),
    (⟨(some (.E 27)), .mv (.V 7), none⟩, 0, 0),
    (⟨(some (.E 28)), .iaddr 1 (.E 26) (.E 27), none⟩, 0, 0),
    (⟨(some (.E 29)), .load false 1 (.E 28), none⟩, 0, 0),
    (⟨(some (.E 30)), .call k_impl_SubInt [([0], (.E 25)), ([0], (.E 29))], none⟩, 0, 0),
    (⟨(some (.E 21)), .mv (.E 30), none⟩, 0, 0),
    (⟨(some (.E 31)), .ext 0 (.E 21), none⟩, 0, 0),
    (⟨(some (.E 32)), .ext 1 (.E 21), none⟩, 0, 0),
    (⟨(some (.V 8)), .mv (.E 31), none⟩, 0, 0),
    (⟨(some (.V 9)), .mv (.E 32), none⟩, 0, 0)])
  (.seq (.seq (.reg [⟨(some (.E 33)), .mv (.V 9), none⟩,
    ⟨(some (.E 34)), .un .not (.E 33), none⟩])
  (.cond (.E 34)
   (.seq (.reg [⟨(some (.V 4)), .mv (.C .e0), none⟩,
     ⟨(some (.V 5)), .mv (kb false), none⟩])
   (.ret))
   (.skip)))
  (.reg [⟨(some (.E 35)), .mv (.V 6), none⟩,
    ⟨(some (.E 36)), .mv (.V 8), none⟩,
    ⟨(some (.E 37)), .bslice 1 1 [(.v (.int .i64 0))] [(0, (.E 36))], none⟩,
    ⟨(some (.E 38)), .app 8 1 (.E 35) (.E 37), none⟩,
    ⟨(some (.V 6)), .mv (.E 38), none⟩])))))
 (.reg [⟨(some (.E 39)), .bin .add (.V 18) (ki 1), none⟩,
   ⟨(some (.V 18)), .mv (.E 39), none⟩])))

def k_impl_Residuals_ic : IC :=
 .seq (.reg [⟨(some (.V 4)), .mv (.C .e0), none⟩,
   ⟨(some (.V 5)), .mv (kb false), none⟩])
 (.seq (.seq (.reg [⟨(some (.E 10)), .mv (.V 0), none⟩,
   ⟨(some (.E 11)), .len (.E 10), none⟩,
   ⟨(some (.E 12)), .mv (.V 1), none⟩,
   ⟨(some (.E 13)), .len (.E 12), none⟩,
   ⟨(some (.E 14)), .bin .neq (.E 11) (.E 13), none⟩])
 (.cond (.E 14)
  (.seq (.reg [⟨(some (.V 4)), .mv (.C .e0), none⟩,
    ⟨(some (.V 5)), .mv (kb false), none⟩])
  (.ret))
  (.skip)))
 (.seq (.reg [⟨(some (.E 15)), .bslice 0 1 [(.v (.int .i64 0))] [], none⟩,
   ⟨(some (.V 6)), .mv (.E 15), none⟩])
 (.seq (.seq (.reg [⟨(some (.E 16)), .mv (.V 0), none⟩,
   ⟨(some (.V 17)), .len (.E 16), none⟩,
   ⟨(some (.V 18)), .mv (ki 0), none⟩])
 (.block 0 (.loop k_impl_Residuals_b0)))
 (.seq (.reg [⟨(some (.E 40)), .mv (.V 6), none⟩,
   ⟨(some (.V 4)), .mv (.E 40), none⟩,
   ⟨(some (.V 5)), .mv (kb true), none⟩])
 (.ret)))))

def k_impl_Residuals_rv : List RV := [.tmp [1] 4, .tmp [0] 5]

def k_spec_Residuals_vars : List Nat := [0, 1, 6, 7, 9, 8, 4, 5]

def k_spec_Residuals_b0 : IC :=
 .seq (.seq (.reg [⟨(some (.E 17)), .mv (.V 7), none⟩,
   ⟨(some (.E 18)), .mv (.V 0), none⟩,
   ⟨(some (.E 19)), .len (.E 18), none⟩,
   ⟨(some (.E 20)), .bin .lss (.E 17) (.E 19), none⟩])
 (.cond (.E 20)
  (.skip)
  (.exit 0)))
 (.seq (.block 1 (.seq (.regD [(⟨(some (.E 24)), .mv (.V 0), none⟩, 0, 0),
    (⟨(some (.E 25)), .mv (.V 7), none⟩, 0, 0),
    (⟨(some (.E 26)), .iaddr 1 (.E 24) (.E 25), none⟩, 0, 0),
    (⟨(some (.E 27)), .load false 1 (.E 26), none⟩, 0, 0),
    (⟨(some (.E 28)), .mv (.V 1), none⟩, 0, 0),
    (⟨(some (.E 29)), .mv (.V 7), none⟩, 0, 0),
    (⟨(some (.E 30)), .iaddr 1 (.E 28) (.E 29), none⟩, 0, 0),
    (⟨(some (.E 31)), .load false 1 (.E 30), none⟩, 0, 0),
    (⟨(some (.E 32)), .call k_spec_SubInt [([0], (.E 27)), ([0], (.E 31))], none⟩, 0, 0),
    (⟨(some (.E 23)), .mv (.E 32), none⟩, 0, 0),
    (⟨(some (.E 33)), .ext 0 (.E 23), none⟩, 0, 0),
    (⟨(some (.E 34)), .ext 1 (.E 23), none⟩, 0, 0),
    (⟨(some (.V 8)), .mv (.E 33), none⟩, 0, 0),
    (⟨(some (.V 9)), .mv (.E 34), none⟩, 0, 0)])
  (.seq (.seq (.reg [⟨(some (.E 35)), .mv (.V 9), none⟩,
    ⟨(some (.E 36)), .un .not (.E 35), none⟩])
  (.cond (.E 36)
   (.seq (.reg [⟨(some (.E 37)), .bslice 0 1 [(.v (.int .i64 0))] [], none⟩,
     ⟨(some (.V 4)), .mv (.E 37), none⟩,
     ⟨(some (.V 5)), .mv (kb false), none⟩])
   (.ret))
   (.skip)))
  (.reg [⟨(some (.E 38)), .mv (.V 6), none⟩,
    ⟨(some (.E 39)), .mv (.V 8), none⟩,
    ⟨(some (.E 40)), .bslice 1 1 [(.v (.int .i64 0))] [(0, (.E 39))], none⟩,
    ⟨(some (.E 41)), .app 8 1 (.E 38) (.E 40), none⟩,
    ⟨(some (.V 6)), .mv (.E 41), none⟩]))))
 (.reg [⟨(some (.E 21)), .mv (.V 7), none⟩,
   ⟨(some (.E 22)), .bin .add (.E 21) (ki 1), none⟩,
   ⟨(some (.V 7)), .mv (.E 22), none⟩]))

def k_spec_Residuals_ic : IC :=
 .seq (.reg [⟨(some (.V 4)), .mv (.C .e0), none⟩,
   ⟨(some (.V 5)), .mv (kb false), none⟩])
 (.seq (.reg [⟨(some (.E 10)), .bslice 0 1 [(.v (.int .i64 0))] [], none⟩,
   ⟨(some (.V 6)), .mv (.E 10), none⟩])
 (.seq (.seq (.reg [⟨(some (.E 11)), .mv (.V 0), none⟩,
   ⟨(some (.E 12)), .len (.E 11), none⟩,
   ⟨(some (.E 13)), .mv (.V 1), none⟩,
   ⟨(some (.E 14)), .len (.E 13), none⟩,
   ⟨(some (.E 15)), .bin .neq (.E 12) (.E 14), none⟩])
 (.cond (.E 15)
  (.seq (.reg [⟨(some (.E 16)), .mv (.V 6), none⟩,
    ⟨(some (.V 4)), .mv (.E 16), none⟩,
    ⟨(some (.V 5)), .mv (kb false), none⟩])
  (.ret))
  (.skip)))
 (.seq (.seq (.reg [⟨(some (.V 7)), .mv (ki 0), none⟩])
 (.block 0 (.loop k_spec_Residuals_b0)))
 (.seq (.reg [⟨(some (.E 42)), .mv (.V 6), none⟩,
   ⟨(some (.V 4)), .mv (.E 42), none⟩,
   ⟨(some (.V 5)), .mv (kb true), none⟩])
 (.ret)))))

def k_spec_Residuals_rv : List RV := [.tmp [1] 4, .tmp [0] 5]

def k_spec_AddInt_vars : List Nat := [0, 1, 4, 5]

def k_spec_AddInt_ic : IC :=
 .seq (.reg [⟨(some (.V 4)), .mv (ki 0), none⟩,
   ⟨(some (.V 5)), .mv (kb false), none⟩])
 (.seq (.seq (.reg [⟨(some (.E 6)), .mv (.V 1), none⟩,
   ⟨(some (.E 7)), .bin .gtr (.E 6) (ki 0), none⟩,
   ⟨(some (.E 8)), .mv (.E 7), none⟩,
   ⟨(some (.E 9)), .mv (.V 0), some ((.E 8), true)⟩,
   ⟨(some (.E 10)), .mv (.V 1), some ((.E 8), true)⟩,
   ⟨(some (.E 11)), .bin .sub (ki 9223372036854775807) (.E 10), some ((.E 8), true)⟩,
   ⟨(some (.E 12)), .bin .gtr (.E 9) (.E 11), some ((.E 8), true)⟩,
   ⟨(some (.E 13)), .pick (.E 8) (.E 12) (kb false), none⟩,
   ⟨(some (.E 14)), .mv (.E 13), none⟩,
   ⟨(some (.E 15)), .mv (.V 1), some ((.E 14), false)⟩,
   ⟨(some (.E 16)), .bin .lss (.E 15) (ki 0), some ((.E 14), false)⟩,
   ⟨(some (.E 17)), .mv (.E 16), some ((.E 14), false)⟩,
   ⟨(some (.E 18)), .mv (.V 0), some ((.E 17), true)⟩,
   ⟨(some (.E 19)), .mv (.V 1), some ((.E 17), true)⟩,
   ⟨(some (.E 20)), .bin .sub (ki (-9223372036854775808)) (.E 19), some ((.E 17), true)⟩,
   ⟨(some (.E 21)), .bin .lss (.E 18) (.E 20), some ((.E 17), true)⟩,
   ⟨(some (.E 22)), .pick (.E 17) (.E 21) (kb false), some ((.E 14), false)⟩,
   ⟨(some (.E 23)), .pick (.E 14) (kb true) (.E 22), none⟩])
 (.cond (.E 23)
  (.seq (.reg [⟨(some (.V 4)), .mv (ki 0), none⟩,
    ⟨(some (.V 5)), .mv (kb false), none⟩])
  (.ret))
  (.skip)))
 (.seq (.reg [⟨(some (.E 24)), .mv (.V 0), none⟩,
   ⟨(some (.E 25)), .mv (.V 1), none⟩,
   ⟨(some (.E 26)), .bin .add (.E 24) (.E 25), none⟩,
   ⟨(some (.V 4)), .mv (.E 26), none⟩,
   ⟨(some (.V 5)), .mv (kb true), none⟩])
 (.ret)))

def k_spec_AddInt_rv : List RV := [.tmp [0] 4, .tmp [0] 5]

def k_spec_l10List_vars : List Nat := [0, 5, 4, 3, 2]

def k_spec_l10List_b0 : IC :=
 .seq (.seq (.reg [⟨(some (.E 14)), .mv (.V 5), none⟩,
   ⟨(some (.E 15)), .mv (.V 4), none⟩,
   ⟨(some (.E 16)), .bin .lss (.E 14) (.E 15), none⟩])
 (.cond (.E 16)
  (.skip)
  (.exit 0)))
 (.seq (.block 1 (.seq (.reg [⟨(some (.E 19)), .mv (.V 0), none⟩,
    ⟨(some (.E 20)), .call k_spec_l1Once [([0], (.E 19)), ([0], (ki 12))], none⟩])
  (.cond (.E 20)
   (.reg [⟨(some (.E 21)), .mv (.V 3), none⟩,
     ⟨(some (.E 22)), .mv (.V 0), none⟩,
     ⟨(some (.E 23)), .call k_spec_l1Whole [([0], (.E 22))], none⟩,
     ⟨(some (.E 24)), .bslice 1 1 [(.v (.int .i64 0))] [(0, (.E 23))], none⟩,
     ⟨(some (.E 25)), .app 8 1 (.E 21) (.E 24), none⟩,
     ⟨(some (.V 3)), .mv (.E 25), none⟩])
   (.reg [⟨(some (.E 26)), .mv (.V 3), none⟩,
     ⟨(some (.E 27)), .mv (.V 0), none⟩,
     ⟨(some (.E 28)), .call k_spec_l1Below [([0], (.E 27)), ([0], (ki 9))], none⟩,
     ⟨(some (.E 29)), .bin .sub (.E 28) (ki 4), none⟩,
     ⟨(some (.E 30)), .bin .mul (ki 500) (.E 29), none⟩,
     ⟨(some (.E 31)), .bslice 1 1 [(.v (.int .i64 0))] [(0, (.E 30))], none⟩,
     ⟨(some (.E 32)), .app 8 1 (.E 26) (.E 31), none⟩,
     ⟨(some (.V 3)), .mv (.E 32), none⟩]))))
 (.reg [⟨(some (.E 17)), .mv (.V 5), none⟩,
   ⟨(some (.E 18)), .bin .add (.E 17) (ki 1), none⟩,
   ⟨(some (.V 5)), .mv (.E 18), none⟩]))

def k_spec_l10List_ic : IC :=
 .seq (.reg [⟨(some (.V 2)), .mv (.C .e0), none⟩])
 (.seq (.reg [⟨(some (.E 6)), .bslice 0 1 [(.v (.int .i64 0))] [], none⟩,
   ⟨(some (.V 3)), .mv (.E 6), none⟩])
 (.seq (.reg [⟨(some (.E 7)), .mv (.V 0), none⟩,
   ⟨(some (.E 8)), .call k_spec_l1Below [([0], (.E 7)), ([0], (ki 10))], none⟩,
   ⟨(some (.V 4)), .mv (.E 8), none⟩])
 (.seq (.seq (.reg [⟨(some (.E 9)), .mv (.V 0), none⟩,
   ⟨(some (.E 10)), .call k_spec_l1Once [([0], (.E 9)), ([0], (ki 12))], none⟩])
 (.cond (.E 10)
  (.reg [⟨(some (.E 11)), .mv (.V 0), none⟩,
    ⟨(some (.E 12)), .call k_spec_l1Below [([0], (.E 11)), ([0], (ki 5))], none⟩,
    ⟨(some (.E 13)), .bin .add (ki 38) (.E 12), none⟩,
    ⟨(some (.V 4)), .mv (.E 13), none⟩])
  (.skip)))
 (.seq (.seq (.reg [⟨(some (.V 5)), .mv (ki 0), none⟩])
 (.block 0 (.loop k_spec_l10List_b0)))
 (.seq (.reg [⟨(some (.E 33)), .mv (.V 3), none⟩,
   ⟨(some (.V 2)), .mv (.E 33), none⟩])
 (.ret))))))

def k_spec_l10List_rv : List RV := [.tmp [1] 2]

def k_spec_l1New_vars : List Nat := [0, 4, 3, 2]

def k_spec_l1New_b0 : IC :=
 .seq (.seq (.reg [⟨(some (.E 8)), .mv (.V 4), none⟩,
   ⟨(some (.E 9)), .mv (.V 0), none⟩,
   ⟨(some (.E 10)), .len (.E 9), none⟩,
   ⟨(some (.E 11)), .bin .lss (.E 8) (.E 10), none⟩,
   ⟨(some (.E 12)), .mv (.E 11), none⟩,
   ⟨(some (.E 13)), .mv (.V 4), some ((.E 12), true)⟩,
   ⟨(some (.E 14)), .bin .lss (.E 13) (ki 4000), some ((.E 12), true)⟩,
   ⟨(some (.E 15)), .pick (.E 12) (.E 14) (kb false), none⟩])
 (.cond (.E 15)
  (.skip)
  (.exit 0)))
 (.seq (.block 1 (.reg [⟨(some (.E 18)), .mv (.V 3), none⟩,
    ⟨(some (.E 19)), .bin .mul (.E 18) (ki 131), none⟩,
    ⟨(some (.E 20)), .mv (.V 0), none⟩,
    ⟨(some (.E 21)), .mv (.V 4), none⟩,
    ⟨(some (.E 22)), .iaddr 1 (.E 20) (.E 21), none⟩,
    ⟨(some (.E 23)), .load false 1 (.E 22), none⟩,
    ⟨(some (.E 24)), .convI .i64 (.E 23), none⟩,
    ⟨(some (.E 25)), .bin .add (.E 19) (.E 24), none⟩,
    ⟨(some (.E 26)), .bin .add (.E 25) (ki 7), none⟩,
    ⟨(some (.E 27)), .bin .and (.E 26) (ki 1073741823), none⟩,
    ⟨(some (.V 3)), .mv (.E 27), none⟩]))
 (.reg [⟨(some (.E 16)), .mv (.V 4), none⟩,
   ⟨(some (.E 17)), .bin .add (.E 16) (ki 1), none⟩,
   ⟨(some (.V 4)), .mv (.E 17), none⟩]))

def k_spec_l1New_ic : IC :=
 .seq (.reg [⟨(some (.V 2)), .mv (.C (.v (.pointer none))), none⟩])
 (.seq (.reg [⟨(some (.E 5)), .mv (.V 0), none⟩,
   ⟨(some (.E 6)), .len (.E 5), none⟩,
   ⟨(some (.E 7)), .bin .add (ki 28507) (.E 6), none⟩,
   ⟨(some (.V 3)), .mv (.E 7), none⟩])
 (.seq (.seq (.reg [⟨(some (.V 4)), .mv (ki 0), none⟩])
 (.block 0 (.loop k_spec_l1New_b0)))
 (.seq (.reg [⟨(some (.E 28)), .mv (.V 0), none⟩,
   ⟨(some (.E 29)), .mv (.V 3), none⟩,
   ⟨(some (.E 30)), .build [.e0, (.v (.int .i64 0)), (.v (.int .i64 0))] [(0, 1, (.E 28)), (2, 1, (.E 29))], none⟩,
   ⟨(some (.E 31)), .box (.E 30), none⟩,
   ⟨(some (.V 2)), .mv (.E 31), none⟩])
 (.ret))))

def k_spec_l1New_rv : List RV := [.tmp [0] 2]

def k_spec_l1PickInt_vars : List Nat := [0, 1, 4]

def k_spec_l1PickInt_ic : IC :=
 .seq (.reg [⟨(some (.V 4)), .mv (ki 0), none⟩])
 (.seq (.reg [⟨(some (.E 5)), .mv (.V 1), none⟩,
   ⟨(some (.E 6)), .mv (.V 0), none⟩,
   ⟨(some (.E 7)), .mv (.V 1), none⟩,
   ⟨(some (.E 8)), .len (.E 7), none⟩,
   ⟨(some (.E 9)), .call k_spec_l1Below [([0], (.E 6)), ([0], (.E 8))], none⟩,
   ⟨(some (.E 10)), .iaddr 1 (.E 5) (.E 9), none⟩,
   ⟨(some (.E 11)), .load false 1 (.E 10), none⟩,
   ⟨(some (.V 4)), .mv (.E 11), none⟩])
 (.ret))

def k_spec_l1PickInt_rv : List RV := [.tmp [0] 4]

def k_spec_l1Whole_vars : List Nat := [0, 6, 4, 3, 2]

def k_spec_l1Whole_b0 : IC :=
 .seq (.seq (.reg [⟨(some (.E 14)), .mv (.V 4), none⟩,
   ⟨(some (.E 15)), .bin .lss (.E 14) (ki 8), none⟩])
 (.cond (.E 15)
  (.skip)
  (.exit 1)))
 (.seq (.block 2 (.reg [⟨(some (.E 18)), .mv (.V 3), none⟩,
    ⟨(some (.E 19)), .bin .mul (.E 18) (ki 256), none⟩,
    ⟨(some (.E 20)), .mv (.V 0), none⟩,
    ⟨(some (.E 21)), .call k_spec_l1Byte [([0], (.E 20))], none⟩,
    ⟨(some (.E 22)), .bin .add (.E 19) (.E 21), none⟩,
    ⟨(some (.V 3)), .mv (.E 22), none⟩]))
 (.reg [⟨(some (.E 16)), .mv (.V 4), none⟩,
   ⟨(some (.E 17)), .bin .add (.E 16) (ki 1), none⟩,
   ⟨(some (.V 4)), .mv (.E 17), none⟩]))

def k_spec_l1Whole_ic : IC :=
 .seq (.reg [⟨(some (.V 2)), .mv (ki 0), none⟩])
 (.seq (.seq (.reg [⟨(some (.E 5)), .mv (.V 0), none⟩,
   ⟨(some (.V 6)), .call k_spec_l1Below [([0], (.E 5)), ([0], (ki 4))], none⟩])
 (.block 0 (.seq (.reg [⟨(some (.E 8)), .bin .eql (.V 6) (ki 0), none⟩,
    ⟨(some (.E 7)), .mv (.E 8), none⟩])
  (.cond (.E 7)
   (.seq (.reg [⟨(some (.E 9)), .mv (.V 0), none⟩,
     ⟨(some (.E 10)), .bslice 14 1 [(.v (.int .i64 0))] [(0, (ki 0)), (1, (ki 1)), (2, (ki (-1))), (3, (ki 9)), (4, (ki 10)), (5, (ki 999)), (6, (ki 1000)), (7, (ki 2147483647)), (8, (ki (-2147483648))), (9, (ki 3037000499)), (10, (ki 3037000500)), (11, (ki 9223372036854775807)), (12, (ki (-9223372036854775807))), (13, (ki (-9223372036854775808)))], none⟩,
     ⟨(some (.E 11)), .call k_spec_l1PickInt [([0], (.E 9)), ([1], (.E 10))], none⟩,
     ⟨(some (.V 2)), .mv (.E 11), none⟩])
   (.ret))
   (.seq (.reg [⟨(some (.E 13)), .bin .eql (.V 6) (ki 1), none⟩,
     ⟨(some (.E 12)), .mv (.E 13), none⟩])
   (.cond (.E 12)
    (.seq (.reg [⟨(some (.V 3)), .mv (ki 0), none⟩])
    (.seq (.seq (.reg [⟨(some (.V 4)), .mv (ki 0), none⟩])
    (.block 1 (.loop k_spec_l1Whole_b0)))
    (.seq (.reg [⟨(some (.E 23)), .mv (.V 3), none⟩,
      ⟨(some (.V 2)), .mv (.E 23), none⟩])
    (.ret))))
    (.seq (.reg [⟨(some (.E 25)), .bin .eql (.V 6) (ki 2), none⟩,
      ⟨(some (.E 24)), .mv (.E 25), none⟩])
    (.cond (.E 24)
     (.seq (.reg [⟨(some (.E 26)), .mv (.V 0), none⟩,
       ⟨(some (.E 27)), .call k_spec_l1Below [([0], (.E 26)), ([0], (ki 1000000))], none⟩,
       ⟨(some (.E 28)), .bin .sub (.E 27) (ki 500000), none⟩,
       ⟨(some (.V 2)), .mv (.E 28), none⟩])
     (.ret))
     (.skip)))))))))
 (.seq (.reg [⟨(some (.E 29)), .mv (.V 0), none⟩,
   ⟨(some (.E 30)), .call k_spec_l1Below [([0], (.E 29)), ([0], (ki 41))], none⟩,
   ⟨(some (.E 31)), .bin .sub (.E 30) (ki 20), none⟩,
   ⟨(some (.V 2)), .mv (.E 31), none⟩])
 (.ret)))

def k_spec_l1Whole_rv : List RV := [.tmp [0] 2]

def k_spec_l1Once_vars : List Nat := [0, 1, 4]

def k_spec_l1Once_ic : IC :=
 .seq (.reg [⟨(some (.V 4)), .mv (kb false), none⟩])
 (.seq (.reg [⟨(some (.E 5)), .mv (.V 0), none⟩,
   ⟨(some (.E 6)), .mv (.V 1), none⟩,
   ⟨(some (.E 7)), .call k_spec_l1Below [([0], (.E 5)), ([0], (.E 6))], none⟩,
   ⟨(some (.E 8)), .bin .eql (.E 7) (ki 0), none⟩,
   ⟨(some (.V 4)), .mv (.E 8), none⟩])
 (.ret))

def k_spec_l1Once_rv : List RV := [.tmp [0] 4]

def k_impl_SubInt_vars : List Nat := [0, 1, 6, 4, 5]

def k_impl_SubInt_ic : IC :=
 .seq (.reg [⟨(some (.V 4)), .mv (ki 0), none⟩,
   ⟨(some (.V 5)), .mv (kb false), none⟩])
 (.seq (.reg [⟨(some (.E 7)), .mv (.V 0), none⟩,
   ⟨(some (.E 8)), .mv (.V 1), none⟩,
   ⟨(some (.E 9)), .bin .sub (.E 7) (.E 8), none⟩,
   ⟨(some (.V 6)), .mv (.E 9), none⟩])
 (.seq (.seq (.reg [⟨(some (.E 10)), .mv (.V 0), none⟩,
   ⟨(some (.E 11)), .bin .lss (.E 10) (ki 0), none⟩,
   ⟨(some (.E 12)), .mv (.V 1), none⟩,
   ⟨(some (.E 13)), .bin .lss (.E 12) (ki 0), none⟩,
   ⟨(some (.E 14)), .eqb true [.b] (.E 11) (.E 13), none⟩,
   ⟨(some (.E 15)), .mv (.E 14), none⟩,
   ⟨(some (.E 16)), .mv (.V 6), some ((.E 15), true)⟩,
   ⟨(some (.E 17)), .bin .lss (.E 16) (ki 0), some ((.E 15), true)⟩,
   ⟨(some (.E 18)), .mv (.V 0), some ((.E 15), true)⟩,
   ⟨(some (.E 19)), .bin .lss (.E 18) (ki 0), some ((.E 15), true)⟩,
   ⟨(some (.E 20)), .eqb true [.b] (.E 17) (.E 19), some ((.E 15), true)⟩,
   ⟨(some (.E 21)), .pick (.E 15) (.E 20) (kb false), none⟩])
 (.cond (.E 21)
  (.seq (.reg [⟨(some (.V 4)), .mv (ki 0), none⟩,
    ⟨(some (.V 5)), .mv (kb false), none⟩])
  (.ret))
  (.skip)))
 (.seq (.reg [⟨(some (.E 22)), .mv (.V 6), none⟩,
   ⟨(some (.V 4)), .mv (.E 22), none⟩,
   ⟨(some (.V 5)), .mv (kb true), none⟩])
 (.ret))))

def k_impl_SubInt_rv : List RV := [.tmp [0] 4, .tmp [0] 5]

def k_spec_SubInt_vars : List Nat := [0, 1, 4, 5]

def k_spec_SubInt_ic : IC :=
 .seq (.reg [⟨(some (.V 4)), .mv (ki 0), none⟩,
   ⟨(some (.V 5)), .mv (kb false), none⟩])
 (.seq (.seq (.reg [⟨(some (.E 6)), .mv (.V 1), none⟩,
   ⟨(some (.E 7)), .bin .lss (.E 6) (ki 0), none⟩,
   ⟨(some (.E 8)), .mv (.E 7), none⟩,
   ⟨(some (.E 9)), .mv (.V 0), some ((.E 8), true)⟩,
   ⟨(some (.E 10)), .mv (.V 1), some ((.E 8), true)⟩,
   ⟨(some (.E 11)), .bin .add (ki 9223372036854775807) (.E 10), some ((.E 8), true)⟩,
   ⟨(some (.E 12)), .bin .gtr (.E 9) (.E 11), some ((.E 8), true)⟩,
   ⟨(some (.E 13)), .pick (.E 8) (.E 12) (kb false), none⟩,
   ⟨(some (.E 14)), .mv (.E 13), none⟩,
   ⟨(some (.E 15)), .mv (.V 1), some ((.E 14), false)⟩,
   ⟨(some (.E 16)), .bin .gtr (.E 15) (ki 0), some ((.E 14), false)⟩,
   ⟨(some (.E 17)), .mv (.E 16), some ((.E 14), false)⟩,
   ⟨(some (.E 18)), .mv (.V 0), some ((.E 17), true)⟩,
   ⟨(some (.E 19)), .mv (.V 1), some ((.E 17), true)⟩,
   ⟨(some (.E 20)), .bin .add (ki (-9223372036854775808)) (.E 19), some ((.E 17), true)⟩,
   ⟨(some (.E 21)), .bin .lss (.E 18) (.E 20), some ((.E 17), true)⟩,
   ⟨(some (.E 22)), .pick (.E 17) (.E 21) (kb false), some ((.E 14), false)⟩,
   ⟨(some (.E 23)), .pick (.E 14) (kb true) (.E 22), none⟩])
 (.cond (.E 23)
  (.seq (.reg [⟨(some (.V 4)), .mv (ki 0), none⟩,
    ⟨(some (.V 5)), .mv (kb false), none⟩])
  (.ret))
  (.skip)))
 (.seq (.reg [⟨(some (.E 24)), .mv (.V 0), none⟩,
   ⟨(some (.E 25)), .mv (.V 1), none⟩,
   ⟨(some (.E 26)), .bin .sub (.E 24) (.E 25), none⟩,
   ⟨(some (.V 4)), .mv (.E 26), none⟩,
   ⟨(some (.V 5)), .mv (kb true), none⟩])
 (.ret)))

def k_spec_SubInt_rv : List RV := [.tmp [0] 4, .tmp [0] 5]

def k_spec_l1Below_vars : List Nat := [0, 1, 5, 6, 7, 8, 4]

def k_spec_l1Below_ic : IC :=
 .seq (.reg [⟨(some (.V 4)), .mv (ki 0), none⟩])
 (.seq (.seq (.reg [⟨(some (.E 9)), .mv (.V 1), none⟩,
   ⟨(some (.E 10)), .bin .leq (.E 9) (ki 0), none⟩])
 (.cond (.E 10)
  (.seq (.reg [⟨(some (.V 4)), .mv (ki 0), none⟩])
  (.ret))
  (.skip)))
 (.seq (.seq (.reg [⟨(some (.E 11)), .mv (.V 1), none⟩,
   ⟨(some (.E 12)), .bin .leq (.E 11) (ki 256), none⟩])
 (.cond (.E 12)
  (.seq (.reg [⟨(some (.E 13)), .mv (.V 0), none⟩,
    ⟨(some (.E 14)), .call k_spec_l1Byte [([0], (.E 13))], none⟩,
    ⟨(some (.E 15)), .mv (.V 1), none⟩,
    ⟨(some (.E 16)), .bin .rem (.E 14) (.E 15), none⟩,
    ⟨(some (.V 4)), .mv (.E 16), none⟩])
  (.ret))
  (.skip)))
 (.seq (.reg [⟨(some (.E 17)), .mv (.V 0), none⟩,
   ⟨(some (.E 18)), .call k_spec_l1Byte [([0], (.E 17))], none⟩,
   ⟨(some (.V 5)), .mv (.E 18), none⟩])
 (.seq (.reg [⟨(some (.E 19)), .mv (.V 0), none⟩,
   ⟨(some (.E 20)), .call k_spec_l1Byte [([0], (.E 19))], none⟩,
   ⟨(some (.V 6)), .mv (.E 20), none⟩])
 (.seq (.reg [⟨(some (.E 21)), .mv (.V 0), none⟩,
   ⟨(some (.E 22)), .call k_spec_l1Byte [([0], (.E 21))], none⟩,
   ⟨(some (.V 7)), .mv (.E 22), none⟩])
 (.seq (.reg [⟨(some (.E 23)), .mv (.V 0), none⟩,
   ⟨(some (.E 24)), .call k_spec_l1Byte [([0], (.E 23))], none⟩,
   ⟨(some (.V 8)), .mv (.E 24), none⟩])
 (.seq (.reg [⟨(some (.E 25)), .mv (.V 5), none⟩,
   ⟨(some (.E 26)), .bin .mul (.E 25) (ki 16777216), none⟩,
   ⟨(some (.E 27)), .mv (.V 6), none⟩,
   ⟨(some (.E 28)), .bin .mul (.E 27) (ki 65536), none⟩,
   ⟨(some (.E 29)), .bin .add (.E 26) (.E 28), none⟩,
   ⟨(some (.E 30)), .mv (.V 7), none⟩,
   ⟨(some (.E 31)), .bin .mul (.E 30) (ki 256), none⟩,
   ⟨(some (.E 32)), .bin .add (.E 29) (.E 31), none⟩,
   ⟨(some (.E 33)), .mv (.V 8), none⟩,
   ⟨(some (.E 34)), .bin .add (.E 32) (.E 33), none⟩,
   ⟨(some (.E 35)), .mv (.V 1), none⟩,
   ⟨(some (.E 36)), .bin .rem (.E 34) (.E 35), none⟩,
   ⟨(some (.V 4)), .mv (.E 36), none⟩])
 (.ret))))))))

def k_spec_l1Below_rv : List RV := [.tmp [0] 4]

def k_spec_l1Byte_vars : List Nat := [0, 3, 2]

def k_spec_l1Byte_ic : IC :=
 .seq (.reg [⟨(some (.V 2)), .mv (ki 0), none⟩])
 (.seq (.reg [⟨(some (.E 4)), .mv (.V 0), none⟩,
   ⟨(some (.E 5)), .mv (.V 0), none⟩,
   ⟨(some (.E 6)), .nilc (.E 5), none⟩,
   ⟨(some (.E 7)), .faddr 2 (.E 6), none⟩,
   ⟨(some (.E 8)), .load false 1 (.E 7), none⟩,
   ⟨(some (.E 9)), .bin .mul (.E 8) (ki 6364136223846793005), none⟩,
   ⟨(some (.E 10)), .bin .add (.E 9) (ki 1442695040888963407), none⟩,
   ⟨(some (.E 11)), .nilc (.E 4), none⟩,
   ⟨(some (.E 12)), .faddr 2 (.E 11), none⟩,
   ⟨none, .store [0] (.E 12) (.E 10), none⟩])
 (.seq (.regD [(⟨(some (.E 13)), .mv (.V 0), none⟩, 0, 0),
   (⟨(some (.E 14)), .nilc (.E 13), none⟩, 0, 0),
   (⟨(some (.E 15)), .faddr 2 (.E 14), none⟩, 0, 0),
   (⟨(some (.E 16)), .load false 1 (.E 15), none⟩, 0, 0),
   (⟨(some (.E 17)), .bin .shr (.E 16) (.C (.v (.int .u64 33))), none⟩, 0, 0),
   (⟨(some (.E 18)), .mv (.V 0), none⟩, 0, 0),
   (⟨(some (.E 19)), .nilc (.E 18), none⟩, 0, 0),
   (⟨(some (.E 20)), .faddr 2 (.E 19), none⟩, 0, 0),
   (⟨(some (.E 21)), .load false 1 (.E 20), none⟩, 0, 0),
   (⟨(some (.E 22)), .bin .shr (.E 21) (.C (.v (.int .u64 45))), none⟩, 0, 0),
   (⟨(some (.E 23)), .bin .xor (.E 17) (.E 22), none⟩, 0, 0),
   (⟨(some (.E 24)), .bin .and (.E 23) (ki 255), none⟩, 0, 0),
   (⟨(some (.V 3)), .mv (.E 24), none⟩, 0, 0)])
 (.seq (.seq (.regD [(⟨(some (.E 25)), .mv (.V 0), none⟩, 0, 0),
   (⟨(some (.E 26)), .nilc (.E 25), none⟩, 0, 0),
   (⟨(some (.E 27)), .faddr 1 (.E 26), none⟩, 0, 0),
   (⟨(some (.E 28)), .load false 1 (.E 27), none⟩, 0, 0),
   (⟨(some (.E 29)), .mv (.V 0), none⟩, 0, 0),
   (⟨(some (.E 30)), .nilc (.E 29), none⟩, 0, 0),
   (⟨(some (.E 31)), .faddr 0 (.E 30), none⟩, 0, 0),
   (⟨(some (.E 32)), .load false 1 (.E 31), none⟩, 0, 0),
   (⟨(some (.E 33)), .len (.E 32), none⟩, 0, 0),
   (⟨(some (.E 34)), .bin .lss (.E 28) (.E 33), none⟩, 0, 0)])
 (.cond (.E 34)
  (.seq (.regD [(⟨(some (.E 35)), .mv (.V 3), none⟩, 0, 0),
    (⟨(some (.E 36)), .mv (.V 0), none⟩, 0, 0),
    (⟨(some (.E 37)), .nilc (.E 36), none⟩, 0, 0),
    (⟨(some (.E 38)), .faddr 0 (.E 37), none⟩, 0, 0),
    (⟨(some (.E 39)), .load false 1 (.E 38), none⟩, 0, 0),
    (⟨(some (.E 40)), .mv (.V 0), none⟩, 0, 0),
    (⟨(some (.E 41)), .nilc (.E 40), none⟩, 0, 0),
    (⟨(some (.E 42)), .faddr 1 (.E 41), none⟩, 0, 0),
    (⟨(some (.E 43)), .load false 1 (.E 42), none⟩, 0, 0),
    (⟨(some (.E 44)), .iaddr 1 (.E 39) (.E 43), none⟩, 0, 0),
    (⟨(some (.E 45)), .load false 1 (.E 44), none⟩, 0, 0),
    (⟨(some (.E 46)), .convI .i64 (.E 45), none⟩, 0, 0),
    (⟨(some (.E 47)), .bin .add (.E 35) (.E 46), none⟩, 0, 0),
    (⟨(some (.E 48)), .bin .and (.E 47) (ki 255), none⟩, 0, 0),
    (⟨(some (.V 3)), .mv (.E 48), none⟩, 0, 0)])
  (.reg [⟨(some (.E 49)), .mv (.V 0), none⟩,
    ⟨(some (.E 50)), .mv (.V 0), none⟩,
    ⟨(some (.E 51)), .nilc (.E 50), none⟩,
    ⟨(some (.E 52)), .faddr 1 (.E 51), none⟩,
    ⟨(some (.E 53)), .load false 1 (.E 52), none⟩,
    ⟨(some (.E 54)), .bin .add (.E 53) (ki 1), none⟩,
    ⟨(some (.E 55)), .nilc (.E 49), none⟩,
    ⟨(some (.E 56)), .faddr 1 (.E 55), none⟩,
    ⟨none, .store [0] (.E 56) (.E 54), none⟩]))
  (.skip)))
 (.seq (.reg [⟨(some (.E 57)), .mv (.V 3), none⟩,
   ⟨(some (.V 2)), .mv (.E 57), none⟩])
 (.ret)))))

def k_spec_l1Byte_rv : List RV := [.tmp [0] 2]

def tbl : List (Nat × Fun) := [
  (k_laws_FnResiduals, fnOf k_laws_FnResiduals_ic k_laws_FnResiduals_rv []),
  (k_laws_big, fnOf k_laws_big_ic k_laws_big_rv []),
  (k_spec_DrawResiduals, fnOf k_spec_DrawResiduals_ic k_spec_DrawResiduals_rv []),
  (k_impl_Residuals, fnOf k_impl_Residuals_ic k_impl_Residuals_rv []),
  (k_spec_Residuals, fnOf k_spec_Residuals_ic k_spec_Residuals_rv []),
  (k_spec_AddInt, fnOf k_spec_AddInt_ic k_spec_AddInt_rv []),
  (k_spec_l10List, fnOf k_spec_l10List_ic k_spec_l10List_rv [true]),
  (k_spec_l1New, fnOf k_spec_l1New_ic k_spec_l1New_rv []),
  (k_spec_l1PickInt, fnOf k_spec_l1PickInt_ic k_spec_l1PickInt_rv [true, true]),
  (k_spec_l1Whole, fnOf k_spec_l1Whole_ic k_spec_l1Whole_rv [true]),
  (k_spec_l1Once, fnOf k_spec_l1Once_ic k_spec_l1Once_rv [true]),
  (k_impl_SubInt, fnOf k_impl_SubInt_ic k_impl_SubInt_rv []),
  (k_spec_SubInt, fnOf k_spec_SubInt_ic k_spec_SubInt_rv []),
  (k_spec_l1Below, fnOf k_spec_l1Below_ic k_spec_l1Below_rv [true]),
  (k_spec_l1Byte, fnOf k_spec_l1Byte_ic k_spec_l1Byte_rv [true])]

def T : Table := fun f => (tbl.find? fun q => q.1 == f).map fun q => q.2

theorem T_laws_FnResiduals : T k_laws_FnResiduals = some (fnOf k_laws_FnResiduals_ic k_laws_FnResiduals_rv []) := rfl

@[simp] theorem M_laws_FnResiduals : modesOf T k_laws_FnResiduals = [] := modesOf_code T_laws_FnResiduals

theorem T_laws_big : T k_laws_big = some (fnOf k_laws_big_ic k_laws_big_rv []) := rfl

@[simp] theorem M_laws_big : modesOf T k_laws_big = [] := modesOf_code T_laws_big

theorem T_spec_DrawResiduals : T k_spec_DrawResiduals = some (fnOf k_spec_DrawResiduals_ic k_spec_DrawResiduals_rv []) := rfl

@[simp] theorem M_spec_DrawResiduals : modesOf T k_spec_DrawResiduals = [] := modesOf_code T_spec_DrawResiduals

theorem T_impl_Residuals : T k_impl_Residuals = some (fnOf k_impl_Residuals_ic k_impl_Residuals_rv []) := rfl

@[simp] theorem M_impl_Residuals : modesOf T k_impl_Residuals = [] := modesOf_code T_impl_Residuals

theorem T_spec_Residuals : T k_spec_Residuals = some (fnOf k_spec_Residuals_ic k_spec_Residuals_rv []) := rfl

@[simp] theorem M_spec_Residuals : modesOf T k_spec_Residuals = [] := modesOf_code T_spec_Residuals

theorem T_spec_AddInt : T k_spec_AddInt = some (fnOf k_spec_AddInt_ic k_spec_AddInt_rv []) := rfl

@[simp] theorem M_spec_AddInt : modesOf T k_spec_AddInt = [] := modesOf_code T_spec_AddInt

theorem T_spec_l10List : T k_spec_l10List = some (fnOf k_spec_l10List_ic k_spec_l10List_rv [true]) := rfl

@[simp] theorem M_spec_l10List : modesOf T k_spec_l10List = [true] := modesOf_code T_spec_l10List

theorem T_spec_l1New : T k_spec_l1New = some (fnOf k_spec_l1New_ic k_spec_l1New_rv []) := rfl

@[simp] theorem M_spec_l1New : modesOf T k_spec_l1New = [] := modesOf_code T_spec_l1New

theorem T_spec_l1PickInt : T k_spec_l1PickInt = some (fnOf k_spec_l1PickInt_ic k_spec_l1PickInt_rv [true, true]) := rfl

@[simp] theorem M_spec_l1PickInt : modesOf T k_spec_l1PickInt = [true, true] := modesOf_code T_spec_l1PickInt

theorem T_spec_l1Whole : T k_spec_l1Whole = some (fnOf k_spec_l1Whole_ic k_spec_l1Whole_rv [true]) := rfl

@[simp] theorem M_spec_l1Whole : modesOf T k_spec_l1Whole = [true] := modesOf_code T_spec_l1Whole

theorem T_spec_l1Once : T k_spec_l1Once = some (fnOf k_spec_l1Once_ic k_spec_l1Once_rv [true]) := rfl

@[simp] theorem M_spec_l1Once : modesOf T k_spec_l1Once = [true] := modesOf_code T_spec_l1Once

theorem T_impl_SubInt : T k_impl_SubInt = some (fnOf k_impl_SubInt_ic k_impl_SubInt_rv []) := rfl

@[simp] theorem M_impl_SubInt : modesOf T k_impl_SubInt = [] := modesOf_code T_impl_SubInt

theorem T_spec_SubInt : T k_spec_SubInt = some (fnOf k_spec_SubInt_ic k_spec_SubInt_rv []) := rfl

@[simp] theorem M_spec_SubInt : modesOf T k_spec_SubInt = [] := modesOf_code T_spec_SubInt

theorem T_spec_l1Below : T k_spec_l1Below = some (fnOf k_spec_l1Below_ic k_spec_l1Below_rv [true]) := rfl

@[simp] theorem M_spec_l1Below : modesOf T k_spec_l1Below = [true] := modesOf_code T_spec_l1Below

theorem T_spec_l1Byte : T k_spec_l1Byte = some (fnOf k_spec_l1Byte_ic k_spec_l1Byte_rv [true]) := rfl

@[simp] theorem M_spec_l1Byte : modesOf T k_spec_l1Byte = [true] := modesOf_code T_spec_l1Byte

end Go.Pe
