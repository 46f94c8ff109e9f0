/- The compact texts of the functions that the law reaches; no condition. -/
import Derived.Test.YthjpnjnlhmkepaaEvA0
set_option linter.all false
namespace Go.Pe
open Go
def k_laws_FnRoute : Nat := 13

def k_laws_big : Nat := 15

def k_spec_OneLeaf : Nat := 31

def k_impl_EvalTree : Nat := 34

def k_spec_WayTo : Nat := 51

def k_spec_TreeOk : Nat := 54

def k_spec_DepthOf : Nat := 55

def k_spec_DrawRouteTo : Nat := 61

def k_impl_RouteTo : Nat := 62

def k_spec_RouteTo : Nat := 63

def k_spec_LeavesOf : Nat := 64

def k_impl_BoxOf : Nat := 65

def k_spec_BoxOf : Nat := 66

def k_laws_has : Nat := 67

def k_spec_l1New : Nat := 79

def k_spec_l1PickInt : Nat := 82

def k_spec_l1Whole : Nat := 83

def k_spec_l1Once : Nat := 84

def k_spec_l14Leaf : Nat := 91

def k_impl_within : Nat := 92

def k_impl_isLeaf : Nat := 94

def k_impl_wayTo : Nat := 95

def k_spec_l1Max : Nat := 105

def k_spec_LevelOf : Nat := 109

def k_spec_l17Up : Nat := 110

def k_spec_l17Bent : Nat := 111

def k_spec_l1In : Nat := 112

def k_spec_l17Shape : Nat := 113

def k_spec_l17Ways : Nat := 114

def k_spec_l1Below : Nat := 116

def k_spec_l18Row : Nat := 117

def k_impl_route : Nat := 119

def k_spec_l18Way : Nat := 120

def k_spec_l17Inner : Nat := 122

def k_spec_l1Min : Nat := 123

def k_laws_times : Nat := 124

def k_spec_l1Byte : Nat := 130

def k_impl_parent : Nat := 139

def k_slices_Reverse___int_int_ : Nat := 140

def k_spec_l17Right : Nat := 150

def k_spec_l6Value : Nat := 151

def k_slices_IndexFunc___impl_Node_impl_Node_ : Nat := 156

def k_impl_parent_1 : Nat := 157

def k_spec_l17Grown : Nat := 160

def k_spec_l17Levels : Nat := 162

def k_laws_FnRoute_vars : List Nat := [0, 3, 4, 5, 7, 6, 9, 10, 12, 11, 13, 8, 2]

def k_laws_FnRoute_b0 : IC :=
 .seq (.seq (.reg [⟨(some (.E 54)), .mv (.V 9), none⟩,
   ⟨(some (.E 55)), .mv (.V 4), none⟩,
   ⟨(some (.E 56)), .len (.E 55), none⟩,
   ⟨(some (.E 57)), .bin .lss (.E 54) (.E 56), none⟩])
 (.cond (.E 57)
  (.skip)
  (.exit 2)))
 (.seq (.block 3 (.seq (.regD [(⟨(some (.E 61)), .load true 1 (.V 3), none⟩, 0, 0),
    (⟨(some (.E 62)), .mv (.V 6), none⟩, 0, 0),
    (⟨(some (.E 63)), .mv (.V 7), none⟩, 0, 0),
    (⟨(some (.E 64)), .iaddr 1 (.E 62) (.E 63), none⟩, 0, 0),
    (⟨(some (.E 65)), .load false 1 (.E 64), none⟩, 0, 0),
    (⟨(some (.E 66)), .mv (.V 9), none⟩, 0, 0),
    (⟨(some (.E 67)), .call k_impl_BoxOf [([5], (.E 61)), ([0], (.E 65)), ([0], (.E 66))], none⟩, 0, 0),
    (⟨(some (.E 60)), .mv (.E 67), none⟩, 0, 0),
    (⟨(some (.E 68)), .ext 0 (.E 60), none⟩, 0, 0),
    (⟨(some (.E 69)), .ext 1 (.E 60), none⟩, 0, 0),
    (⟨(some (.V 10)), .mv (.E 68), none⟩, 0, 0),
    (⟨(some (.V 11)), .mv (.E 69), none⟩, 0, 0)])
  (.seq (.regD [(⟨(some (.E 71)), .load true 1 (.V 3), none⟩, 0, 0),
    (⟨(some (.E 72)), .mv (.V 6), none⟩, 0, 0),
    (⟨(some (.E 73)), .mv (.V 7), none⟩, 0, 0),
    (⟨(some (.E 74)), .iaddr 1 (.E 72) (.E 73), none⟩, 0, 0),
    (⟨(some (.E 75)), .load false 1 (.E 74), none⟩, 0, 0),
    (⟨(some (.E 76)), .mv (.V 9), none⟩, 0, 0),
    (⟨(some (.E 77)), .call k_spec_BoxOf [([5], (.E 71)), ([0], (.E 75)), ([0], (.E 76))], none⟩, 0, 0),
    (⟨(some (.E 70)), .mv (.E 77), none⟩, 0, 0),
    (⟨(some (.E 78)), .ext 0 (.E 70), none⟩, 0, 0),
    (⟨(some (.E 79)), .ext 1 (.E 70), none⟩, 0, 0),
    (⟨(some (.V 12)), .mv (.E 78), none⟩, 0, 0),
    (⟨(some (.V 13)), .mv (.E 79), none⟩, 0, 0)])
  (.seq (.seq (.reg [⟨(some (.E 80)), .mv (.V 10), none⟩,
    ⟨(some (.E 81)), .mv (.V 12), none⟩,
    ⟨(some (.E 82)), .bin .neq (.E 80) (.E 81), none⟩,
    ⟨(some (.E 83)), .mv (.E 82), none⟩,
    ⟨(some (.E 84)), .mv (.V 11), some ((.E 83), false)⟩,
    ⟨(some (.E 85)), .mv (.V 13), some ((.E 83), false)⟩,
    ⟨(some (.E 86)), .bin .neq (.E 84) (.E 85), some ((.E 83), false)⟩,
    ⟨(some (.E 87)), .pick (.E 83) (kb true) (.E 86), none⟩])
  (.cond (.E 87)
   (.seq (.reg [⟨(some (.V 2)), .mv (kb false), none⟩])
   (.ret))
   (.skip)))
  (.reg [⟨(some (.E 88)), .mv (.V 8), none⟩,
    ⟨(some (.E 89)), .mv (.E 88), none⟩,
    ⟨(some (.E 90)), .mv (.V 4), some ((.E 89), true)⟩,
    ⟨(some (.E 91)), .mv (.V 9), some ((.E 89), true)⟩,
    ⟨(some (.E 92)), .iaddr 1 (.E 90) (.E 91), some ((.E 89), true)⟩,
    ⟨(some (.E 93)), .load false 1 (.E 92), some ((.E 89), true)⟩,
    ⟨(some (.E 94)), .mv (.V 10), some ((.E 89), true)⟩,
    ⟨(some (.E 95)), .bin .geq (.E 93) (.E 94), some ((.E 89), true)⟩,
    ⟨(some (.E 96)), .pick (.E 89) (.E 95) (kb false), none⟩,
    ⟨(some (.E 97)), .mv (.E 96), none⟩,
    ⟨(some (.E 98)), .mv (.V 4), some ((.E 97), true)⟩,
    ⟨(some (.E 99)), .mv (.V 9), some ((.E 97), true)⟩,
    ⟨(some (.E 100)), .iaddr 1 (.E 98) (.E 99), some ((.E 97), true)⟩,
    ⟨(some (.E 101)), .load false 1 (.E 100), some ((.E 97), true)⟩,
    ⟨(some (.E 102)), .mv (.V 11), some ((.E 97), true)⟩,
    ⟨(some (.E 103)), .bin .leq (.E 101) (.E 102), some ((.E 97), true)⟩,
    ⟨(some (.E 104)), .pick (.E 97) (.E 103) (kb false), none⟩,
    ⟨(some (.V 8)), .mv (.E 104), none⟩])))))
 (.reg [⟨(some (.E 58)), .mv (.V 9), none⟩,
   ⟨(some (.E 59)), .bin .add (.E 58) (ki 1), none⟩,
   ⟨(some (.V 9)), .mv (.E 59), none⟩]))

def k_laws_FnRoute_b1 : IC :=
 .seq (.seq (.reg [⟨(some (.E 48)), .mv (.V 7), none⟩,
   ⟨(some (.E 49)), .mv (.V 6), none⟩,
   ⟨(some (.E 50)), .len (.E 49), none⟩,
   ⟨(some (.E 51)), .bin .lss (.E 48) (.E 50), none⟩])
 (.cond (.E 51)
  (.skip)
  (.exit 0)))
 (.seq (.block 1 (.seq (.reg [⟨(some (.V 8)), .mv (kb true), none⟩])
  (.seq (.seq (.reg [⟨(some (.V 9)), .mv (ki 0), none⟩])
  (.block 2 (.loop k_laws_FnRoute_b0)))
  (.seq (.reg [⟨(some (.E 105)), .mv (.V 8), none⟩,
    ⟨(some (.E 106)), .mv (.V 6), none⟩,
    ⟨(some (.E 107)), .mv (.V 7), none⟩,
    ⟨(some (.E 108)), .iaddr 1 (.E 106) (.E 107), none⟩,
    ⟨(some (.E 109)), .load false 1 (.E 108), none⟩,
    ⟨(some (.E 110)), .mv (.V 5), none⟩,
    ⟨(some (.E 111)), .bin .eql (.E 109) (.E 110), none⟩,
    ⟨(some (.E 112)), .eqb true [.b] (.E 105) (.E 111), none⟩])
  (.cond (.E 112)
   (.seq (.reg [⟨(some (.V 2)), .mv (kb false), none⟩])
   (.ret))
   (.skip))))))
 (.reg [⟨(some (.E 52)), .mv (.V 7), none⟩,
   ⟨(some (.E 53)), .bin .add (.E 52) (ki 1), none⟩,
   ⟨(some (.V 7)), .mv (.E 53), none⟩]))

def k_laws_FnRoute_ic : IC :=
 .seq (.reg [⟨(some (.V 2)), .mv (kb false), none⟩])
 (.seq (.seq (.reg [⟨(some (.E 14)), .mv (.V 0), none⟩,
   ⟨(some (.E 15)), .call k_laws_big [([1], (.E 14))], none⟩])
 (.cond (.E 15)
  (.seq (.reg [⟨(some (.V 2)), .mv (kb true), none⟩])
  (.ret))
  (.skip)))
 (.seq (.reg [⟨(some (.E 17)), .mv (.V 0), none⟩,
   ⟨(some (.E 18)), .call k_spec_DrawRouteTo [([1], (.E 17))], none⟩,
   ⟨(some (.E 16)), .mv (.E 18), none⟩,
   ⟨(some (.E 19)), .ext 0 (.E 16), none⟩,
   ⟨(some (.E 20)), .ext 1 (.E 16), none⟩,
   ⟨(some (.V 3)), .alloc [.e0], none⟩,
   ⟨none, .store [5] (.V 3) (.E 19), none⟩,
   ⟨(some (.V 4)), .mv (.E 20), none⟩])
 (.seq (.reg [⟨(some (.E 21)), .load true 1 (.V 3), none⟩,
   ⟨(some (.E 22)), .mv (.V 4), none⟩,
   ⟨(some (.E 23)), .call k_impl_RouteTo [([5], (.E 21)), ([1], (.E 22))], none⟩,
   ⟨(some (.V 5)), .mv (.E 23), none⟩])
 (.seq (.seq (.reg [⟨(some (.E 24)), .mv (.V 5), none⟩,
   ⟨(some (.E 25)), .load true 1 (.V 3), none⟩,
   ⟨(some (.E 26)), .mv (.V 4), none⟩,
   ⟨(some (.E 27)), .call k_spec_RouteTo [([5], (.E 25)), ([1], (.E 26))], none⟩,
   ⟨(some (.E 28)), .bin .neq (.E 24) (.E 27), none⟩])
 (.cond (.E 28)
  (.seq (.reg [⟨(some (.V 2)), .mv (kb false), none⟩])
  (.ret))
  (.skip)))
 (.seq (.seq (.reg [⟨(some (.E 29)), .load true 1 (.V 3), none⟩,
   ⟨(some (.E 30)), .mv (.V 4), none⟩,
   ⟨(some (.E 31)), .len (.E 30), none⟩,
   ⟨(some (.E 32)), .call k_spec_TreeOk [([5], (.E 29)), ([0], (.E 31))], none⟩,
   ⟨(some (.E 33)), .un .not (.E 32), none⟩])
 (.cond (.E 33)
  (.seq (.reg [⟨(some (.E 34)), .mv (.V 5), none⟩,
    ⟨(some (.E 35)), .bin .eql (.E 34) (ki (-1)), none⟩,
    ⟨(some (.E 36)), .mv (.E 35), none⟩,
    ⟨(some (.E 37)), .load true 1 (.V 3), some ((.E 36), true)⟩,
    ⟨(some (.E 38)), .mv (.V 4), some ((.E 36), true)⟩,
    ⟨(some (.E 39)), .call k_impl_EvalTree [([5], (.E 37)), ([1], (.E 38))], some ((.E 36), true)⟩,
    ⟨(some (.E 40)), .bin .eql (.E 39) (ki 0), some ((.E 36), true)⟩,
    ⟨(some (.E 41)), .pick (.E 36) (.E 40) (kb false), none⟩,
    ⟨(some (.E 42)), .mv (.E 41), none⟩,
    ⟨(some (.E 43)), .mv (.V 5), some ((.E 42), false)⟩,
    ⟨(some (.E 44)), .bin .geq (.E 43) (ki 0), some ((.E 42), false)⟩,
    ⟨(some (.E 45)), .pick (.E 42) (kb true) (.E 44), none⟩,
    ⟨(some (.V 2)), .mv (.E 45), none⟩])
  (.ret))
  (.skip)))
 (.seq (.reg [⟨(some (.E 46)), .load true 1 (.V 3), none⟩,
   ⟨(some (.E 47)), .call k_spec_LeavesOf [([5], (.E 46))], none⟩,
   ⟨(some (.V 6)), .mv (.E 47), none⟩])
 (.seq (.seq (.reg [⟨(some (.V 7)), .mv (ki 0), none⟩])
 (.block 0 (.loop k_laws_FnRoute_b1)))
 (.seq (.regD [(⟨(some (.E 113)), .mv (.V 6), none⟩, 0, 0),
   (⟨(some (.E 114)), .mv (.V 5), none⟩, 0, 0),
   (⟨(some (.E 115)), .call k_laws_has [([1], (.E 113)), ([0], (.E 114))], none⟩, 0, 0),
   (⟨(some (.E 116)), .mv (.E 115), none⟩, 0, 0),
   (⟨(some (.E 117)), .load true 1 (.V 3), some ((.E 116), true)⟩, 0, 0),
   (⟨(some (.E 118)), .mv (.V 4), some ((.E 116), true)⟩, 0, 0),
   (⟨(some (.E 119)), .call k_impl_EvalTree [([5], (.E 117)), ([1], (.E 118))], some ((.E 116), true)⟩, 0, 0),
   (⟨(some (.E 120)), .faddr 0 (.V 3), some ((.E 116), true)⟩, 1, 0),
   (⟨(some (.E 121)), .load false 1 (.E 120), some ((.E 116), true)⟩, 1, 0),
   (⟨(some (.E 122)), .mv (.V 5), some ((.E 116), true)⟩, 0, 0),
   (⟨(some (.E 123)), .iaddr 5 (.E 121) (.E 122), some ((.E 116), true)⟩, 1, 0),
   (⟨(some (.E 124)), .faddr 4 (.E 123), some ((.E 116), true)⟩, 1, 0),
   (⟨(some (.E 125)), .load false 1 (.E 124), some ((.E 116), true)⟩, 1, 0),
   (⟨(some (.E 126)), .bin .eql (.E 119) (.E 125), some ((.E 116), true)⟩, 0, 0),
   (⟨(some (.E 127)), .pick (.E 116) (.E 126) (kb false), none⟩, 0, 0),
   (⟨(some (.V 2)), .mv (.E 127), none⟩, 0, 0)])
 (.ret)))))))))

def k_laws_FnRoute_rv : List RV := [.tmp [0] 2]

def k_laws_big_vars : List Nat := [0, 2]

def k_laws_big_ic : IC :=
 .seq (.reg [⟨(some (.V 2)), .mv (kb false), none⟩])
 (.seq (.reg [⟨(some (.E 3)), .mv (.V 0), none⟩,
   ⟨(some (.E 4)), .len (.E 3), none⟩,
   ⟨(some (.E 5)), .bin .gtr (.E 4) (ki 1048576), none⟩,
   ⟨(some (.V 2)), .mv (.E 5), none⟩])
 (.ret))

def k_laws_big_rv : List RV := [.tmp [0] 2]

def k_spec_OneLeaf_vars : List Nat := [0, 2]

def k_spec_OneLeaf_ic : IC :=
 .seq (.reg [⟨(some (.V 2)), .alloc [.e0], none⟩])
 (.seq (.reg [⟨(some (.E 3)), .mv (.V 0), none⟩,
   ⟨(some (.E 4)), .build [(.v (.int .i64 0)), (.v (.int .i64 0)), (.v (.int .i64 0)), (.v (.int .i64 0)), (.v (.int .i64 0))] [(0, 1, (ki (-1))), (4, 1, (.E 3))], none⟩,
   ⟨(some (.E 5)), .bslice 1 5 [(.v (.int .i64 0)), (.v (.int .i64 0)), (.v (.int .i64 0)), (.v (.int .i64 0)), (.v (.int .i64 0))] [(0, (.E 4))], none⟩,
   ⟨(some (.E 6)), .build [.e0] [(0, 1, (.E 5))], none⟩,
   ⟨none, .store [5] (.V 2) (.E 6), none⟩])
 (.ret))

def k_spec_OneLeaf_rv : List RV := [.cell [5] 2 true]

def k_impl_EvalTree_vars : List Nat := [0, 1, 2, 5, 4]

def k_impl_EvalTree_ic : IC :=
 .seq (.reg [⟨(some (.V 2)), .box (.V 0), none⟩,
   ⟨(some (.V 4)), .mv (ki 0), none⟩])
 (.seq (.reg [⟨(some (.E 6)), .load true 1 (.V 2), none⟩,
   ⟨(some (.E 7)), .mv (.V 1), none⟩,
   ⟨(some (.E 8)), .call k_impl_RouteTo [([5], (.E 6)), ([1], (.E 7))], none⟩,
   ⟨(some (.V 5)), .mv (.E 8), none⟩])
 (.seq (.seq (.reg [⟨(some (.E 9)), .mv (.V 5), none⟩,
   ⟨(some (.E 10)), .bin .lss (.E 9) (ki 0), none⟩])
 (.cond (.E 10)
  (.seq (.reg [⟨(some (.V 4)), .mv (ki 0), none⟩])
  (.ret))
  (.skip)))
 (.seq (.reg [⟨(some (.E 11)), .faddr 0 (.V 2), none⟩,
   ⟨(some (.E 12)), .load false 1 (.E 11), none⟩,
   ⟨(some (.E 13)), .mv (.V 5), none⟩,
   ⟨(some (.E 14)), .iaddr 5 (.E 12) (.E 13), none⟩,
   ⟨(some (.E 15)), .faddr 4 (.E 14), none⟩,
   ⟨(some (.E 16)), .load false 1 (.E 15), none⟩,
   ⟨(some (.V 4)), .mv (.E 16), none⟩])
 (.ret))))

def k_impl_EvalTree_rv : List RV := [.tmp [0] 4]

def k_spec_WayTo_vars : List Nat := [0, 1, 2, 5, 4]

def k_spec_WayTo_b0 : IC :=
 .seq (.seq (.reg [⟨(some (.E 12)), .mv (.V 1), none⟩,
   ⟨(some (.E 13)), .bin .geq (.E 12) (ki 0), none⟩])
 (.cond (.E 13)
  (.skip)
  (.exit 0)))
 (.block 1 (.seq (.reg [⟨(some (.E 14)), .mv (.V 1), none⟩,
    ⟨(some (.E 15)), .bslice 1 1 [(.v (.int .i64 0))] [(0, (.E 14))], none⟩,
    ⟨(some (.E 16)), .mv (.V 5), none⟩,
    ⟨(some (.E 17)), .app 8 1 (.E 15) (.E 16), none⟩,
    ⟨(some (.V 5)), .mv (.E 17), none⟩])
  (.reg [⟨(some (.E 18)), .load true 1 (.V 2), none⟩,
    ⟨(some (.E 19)), .mv (.V 1), none⟩,
    ⟨(some (.E 20)), .call k_spec_l17Up [([5], (.E 18)), ([0], (.E 19))], none⟩,
    ⟨(some (.V 1)), .mv (.E 20), none⟩])))

def k_spec_WayTo_ic : IC :=
 .seq (.reg [⟨(some (.V 2)), .box (.V 0), none⟩,
   ⟨(some (.V 4)), .mv (.C .e0), none⟩])
 (.seq (.reg [⟨(some (.E 6)), .bslice 0 1 [(.v (.int .i64 0))] [], none⟩,
   ⟨(some (.V 5)), .mv (.E 6), none⟩])
 (.seq (.seq (.reg [⟨(some (.E 7)), .load true 1 (.V 2), none⟩,
   ⟨(some (.E 8)), .mv (.V 1), none⟩,
   ⟨(some (.E 9)), .call k_spec_LevelOf [([5], (.E 7)), ([0], (.E 8))], none⟩,
   ⟨(some (.E 10)), .bin .lss (.E 9) (ki 0), none⟩])
 (.cond (.E 10)
  (.seq (.reg [⟨(some (.E 11)), .mv (.V 5), none⟩,
    ⟨(some (.V 4)), .mv (.E 11), none⟩])
  (.ret))
  (.skip)))
 (.seq (.block 0 (.loop k_spec_WayTo_b0))
 (.seq (.reg [⟨(some (.E 21)), .mv (.V 5), none⟩,
   ⟨(some (.V 4)), .mv (.E 21), none⟩])
 (.ret)))))

def k_spec_WayTo_rv : List RV := [.tmp [1] 4]

def k_spec_TreeOk_vars : List Nat := [0, 1, 2, 4]

def k_spec_TreeOk_ic : IC :=
 .seq (.reg [⟨(some (.V 2)), .box (.V 0), none⟩,
   ⟨(some (.V 4)), .mv (kb false), none⟩])
 (.seq (.reg [⟨(some (.E 5)), .faddr 0 (.V 2), none⟩,
   ⟨(some (.E 6)), .load false 1 (.E 5), none⟩,
   ⟨(some (.E 7)), .len (.E 6), none⟩,
   ⟨(some (.E 8)), .call k_spec_l1In [([0], (.E 7)), ([0], (ki 1)), ([0], (ki 31))], none⟩,
   ⟨(some (.E 9)), .mv (.E 8), none⟩,
   ⟨(some (.E 10)), .mv (.V 1), some ((.E 9), true)⟩,
   ⟨(some (.E 11)), .call k_spec_l1In [([0], (.E 10)), ([0], (ki 0)), ([0], (ki 4))], some ((.E 9), true)⟩,
   ⟨(some (.E 12)), .pick (.E 9) (.E 11) (kb false), none⟩,
   ⟨(some (.E 13)), .mv (.E 12), none⟩,
   ⟨(some (.E 14)), .load true 1 (.V 2), some ((.E 13), true)⟩,
   ⟨(some (.E 15)), .mv (.V 1), some ((.E 13), true)⟩,
   ⟨(some (.E 16)), .call k_spec_l17Shape [([5], (.E 14)), ([0], (.E 15))], some ((.E 13), true)⟩,
   ⟨(some (.E 17)), .pick (.E 13) (.E 16) (kb false), none⟩,
   ⟨(some (.E 18)), .mv (.E 17), none⟩,
   ⟨(some (.E 19)), .load true 1 (.V 2), some ((.E 18), true)⟩,
   ⟨(some (.E 20)), .call k_spec_DepthOf [([5], (.E 19))], some ((.E 18), true)⟩,
   ⟨(some (.E 21)), .bin .leq (.E 20) (ki 4), some ((.E 18), true)⟩,
   ⟨(some (.E 22)), .pick (.E 18) (.E 21) (kb false), none⟩,
   ⟨(some (.E 23)), .mv (.E 22), none⟩,
   ⟨(some (.E 24)), .load true 1 (.V 2), some ((.E 23), true)⟩,
   ⟨(some (.E 25)), .call k_spec_l17Ways [([5], (.E 24))], some ((.E 23), true)⟩,
   ⟨(some (.E 26)), .pick (.E 23) (.E 25) (kb false), none⟩,
   ⟨(some (.V 4)), .mv (.E 26), none⟩])
 (.ret))

def k_spec_TreeOk_rv : List RV := [.tmp [0] 4]

def k_spec_DepthOf_vars : List Nat := [0, 4, 1, 3, 2]

def k_spec_DepthOf_b0 : IC :=
 .seq (.seq (.reg [⟨(some (.E 5)), .mv (.V 4), none⟩,
   ⟨(some (.E 6)), .faddr 0 (.V 1), none⟩,
   ⟨(some (.E 7)), .load false 1 (.E 6), none⟩,
   ⟨(some (.E 8)), .len (.E 7), none⟩,
   ⟨(some (.E 9)), .bin .lss (.E 5) (.E 8), none⟩])
 (.cond (.E 9)
  (.skip)
  (.exit 0)))
 (.seq (.block 1 (.reg [⟨(some (.E 12)), .mv (.V 3), none⟩,
    ⟨(some (.E 13)), .load true 1 (.V 1), none⟩,
    ⟨(some (.E 14)), .mv (.V 4), none⟩,
    ⟨(some (.E 15)), .call k_spec_LevelOf [([5], (.E 13)), ([0], (.E 14))], none⟩,
    ⟨(some (.E 16)), .call k_spec_l1Max [([0], (.E 12)), ([0], (.E 15))], none⟩,
    ⟨(some (.V 3)), .mv (.E 16), none⟩]))
 (.reg [⟨(some (.E 10)), .mv (.V 4), none⟩,
   ⟨(some (.E 11)), .bin .add (.E 10) (ki 1), none⟩,
   ⟨(some (.V 4)), .mv (.E 11), none⟩]))

def k_spec_DepthOf_ic : IC :=
 .seq (.reg [⟨(some (.V 1)), .box (.V 0), none⟩,
   ⟨(some (.V 2)), .mv (ki 0), none⟩])
 (.seq (.reg [⟨(some (.V 3)), .mv (ki (-1)), none⟩])
 (.seq (.seq (.reg [⟨(some (.V 4)), .mv (ki 0), none⟩])
 (.block 0 (.loop k_spec_DepthOf_b0)))
 (.seq (.reg [⟨(some (.E 17)), .mv (.V 3), none⟩,
   ⟨(some (.V 2)), .mv (.E 17), none⟩])
 (.ret))))

def k_spec_DepthOf_rv : List RV := [.tmp [0] 2]

def k_spec_DrawRouteTo_vars : List Nat := [0, 4, 5, 6, 2, 3]

def k_spec_DrawRouteTo_ic : IC :=
 .seq (.reg [⟨(some (.V 2)), .alloc [.e0], none⟩,
   ⟨(some (.V 3)), .mv (.C .e0), none⟩])
 (.seq (.reg [⟨(some (.E 7)), .mv (.V 0), none⟩,
   ⟨(some (.E 8)), .call k_spec_l1New [([1], (.E 7))], none⟩,
   ⟨(some (.V 4)), .mv (.E 8), none⟩])
 (.seq (.reg [⟨(some (.E 9)), .mv (.V 4), none⟩,
   ⟨(some (.E 10)), .call k_spec_l17Bent [([0], (.E 9))], none⟩,
   ⟨(some (.V 5)), .alloc [.e0], none⟩,
   ⟨none, .store [5] (.V 5) (.E 10), none⟩])
 (.seq (.reg [⟨(some (.V 6)), .mv (ki 3), none⟩])
 (.seq (.seq (.reg [⟨(some (.E 11)), .mv (.V 4), none⟩,
   ⟨(some (.E 12)), .call k_spec_l1Once [([0], (.E 11)), ([0], (ki 8))], none⟩])
 (.cond (.E 12)
  (.reg [⟨(some (.E 13)), .mv (.V 4), none⟩,
    ⟨(some (.E 14)), .call k_spec_l1Below [([0], (.E 13)), ([0], (ki 4))], none⟩,
    ⟨(some (.V 6)), .mv (.E 14), none⟩])
  (.skip)))
 (.seq (.regD [(⟨(some (.E 15)), .load true 1 (.V 5), none⟩, 0, 1),
   (⟨(some (.E 16)), .mv (.V 4), none⟩, 0, 0),
   (⟨(some (.E 17)), .mv (.V 6), none⟩, 0, 0),
   (⟨(some (.E 18)), .call k_spec_l18Row [([0], (.E 16)), ([0], (.E 17))], none⟩, 0, 0),
   (⟨none, .store [5] (.V 2) (.E 15), none⟩, 0, 0),
   (⟨(some (.V 3)), .mv (.E 18), none⟩, 0, 0)])
 (.ret))))))

def k_spec_DrawRouteTo_rv : List RV := [.cell [5] 2 true, .tmp [1] 3]

def k_impl_RouteTo_vars : List Nat := [0, 1, 2, 5, 4]

def k_impl_RouteTo_ic : IC :=
 .seq (.reg [⟨(some (.V 2)), .box (.V 0), none⟩,
   ⟨(some (.V 4)), .mv (ki 0), none⟩])
 (.seq (.reg [⟨(some (.E 6)), .load true 1 (.V 2), none⟩,
   ⟨(some (.E 7)), .mv (.V 1), none⟩,
   ⟨(some (.E 8)), .call k_impl_route [([5], (.E 6)), ([1], (.E 7))], none⟩,
   ⟨(some (.V 5)), .mv (.E 8), none⟩])
 (.seq (.seq (.reg [⟨(some (.E 9)), .mv (.V 5), none⟩,
   ⟨(some (.E 10)), .len (.E 9), none⟩,
   ⟨(some (.E 11)), .bin .eql (.E 10) (ki 0), none⟩])
 (.cond (.E 11)
  (.seq (.reg [⟨(some (.V 4)), .mv (ki (-1)), none⟩])
  (.ret))
  (.skip)))
 (.seq (.reg [⟨(some (.E 12)), .mv (.V 5), none⟩,
   ⟨(some (.E 13)), .mv (.V 5), none⟩,
   ⟨(some (.E 14)), .len (.E 13), none⟩,
   ⟨(some (.E 15)), .bin .sub (.E 14) (ki 1), none⟩,
   ⟨(some (.E 16)), .iaddr 1 (.E 12) (.E 15), none⟩,
   ⟨(some (.E 17)), .load false 1 (.E 16), none⟩,
   ⟨(some (.V 4)), .mv (.E 17), none⟩])
 (.ret))))

def k_impl_RouteTo_rv : List RV := [.tmp [0] 4]

def k_spec_RouteTo_vars : List Nat := [0, 1, 2, 5, 4]

def k_spec_RouteTo_ic : IC :=
 .seq (.reg [⟨(some (.V 2)), .box (.V 0), none⟩,
   ⟨(some (.V 4)), .mv (ki 0), none⟩])
 (.seq (.reg [⟨(some (.E 6)), .load true 1 (.V 2), none⟩,
   ⟨(some (.E 7)), .mv (.V 1), none⟩,
   ⟨(some (.E 8)), .call k_spec_l18Way [([5], (.E 6)), ([1], (.E 7))], none⟩,
   ⟨(some (.V 5)), .mv (.E 8), none⟩])
 (.seq (.seq (.reg [⟨(some (.E 9)), .mv (.V 5), none⟩,
   ⟨(some (.E 10)), .len (.E 9), none⟩,
   ⟨(some (.E 11)), .bin .eql (.E 10) (ki 0), none⟩])
 (.cond (.E 11)
  (.seq (.reg [⟨(some (.V 4)), .mv (ki (-1)), none⟩])
  (.ret))
  (.skip)))
 (.seq (.reg [⟨(some (.E 12)), .mv (.V 5), none⟩,
   ⟨(some (.E 13)), .mv (.V 5), none⟩,
   ⟨(some (.E 14)), .len (.E 13), none⟩,
   ⟨(some (.E 15)), .bin .sub (.E 14) (ki 1), none⟩,
   ⟨(some (.E 16)), .iaddr 1 (.E 12) (.E 15), none⟩,
   ⟨(some (.E 17)), .load false 1 (.E 16), none⟩,
   ⟨(some (.V 4)), .mv (.E 17), none⟩])
 (.ret))))

def k_spec_RouteTo_rv : List RV := [.tmp [0] 4]

def k_spec_LeavesOf_vars : List Nat := [0, 4, 1, 3, 2]

def k_spec_LeavesOf_b0 : IC :=
 .seq (.seq (.reg [⟨(some (.E 6)), .mv (.V 4), none⟩,
   ⟨(some (.E 7)), .faddr 0 (.V 1), none⟩,
   ⟨(some (.E 8)), .load false 1 (.E 7), none⟩,
   ⟨(some (.E 9)), .len (.E 8), none⟩,
   ⟨(some (.E 10)), .bin .lss (.E 6) (.E 9), none⟩])
 (.cond (.E 10)
  (.skip)
  (.exit 0)))
 (.seq (.block 1 (.seq (.reg [⟨(some (.E 13)), .faddr 0 (.V 1), none⟩,
    ⟨(some (.E 14)), .load false 1 (.E 13), none⟩,
    ⟨(some (.E 15)), .mv (.V 4), none⟩,
    ⟨(some (.E 16)), .iaddr 5 (.E 14) (.E 15), none⟩,
    ⟨(some (.E 17)), .load true 5 (.E 16), none⟩,
    ⟨(some (.E 18)), .call k_spec_l17Inner [([0, 0, 0, 0, 0], (.E 17))], none⟩,
    ⟨(some (.E 19)), .un .not (.E 18), none⟩])
  (.cond (.E 19)
   (.reg [⟨(some (.E 20)), .mv (.V 3), none⟩,
     ⟨(some (.E 21)), .mv (.V 4), none⟩,
     ⟨(some (.E 22)), .bslice 1 1 [(.v (.int .i64 0))] [(0, (.E 21))], none⟩,
     ⟨(some (.E 23)), .app 8 1 (.E 20) (.E 22), none⟩,
     ⟨(some (.V 3)), .mv (.E 23), none⟩])
   (.skip))))
 (.reg [⟨(some (.E 11)), .mv (.V 4), none⟩,
   ⟨(some (.E 12)), .bin .add (.E 11) (ki 1), none⟩,
   ⟨(some (.V 4)), .mv (.E 12), none⟩]))

def k_spec_LeavesOf_ic : IC :=
 .seq (.reg [⟨(some (.V 1)), .box (.V 0), none⟩,
   ⟨(some (.V 2)), .mv (.C .e0), none⟩])
 (.seq (.reg [⟨(some (.E 5)), .bslice 0 1 [(.v (.int .i64 0))] [], none⟩,
   ⟨(some (.V 3)), .mv (.E 5), none⟩])
 (.seq (.seq (.reg [⟨(some (.V 4)), .mv (ki 0), none⟩])
 (.block 0 (.loop k_spec_LeavesOf_b0)))
 (.seq (.reg [⟨(some (.E 24)), .mv (.V 3), none⟩,
   ⟨(some (.V 2)), .mv (.E 24), none⟩])
 (.ret))))

def k_spec_LeavesOf_rv : List RV := [.tmp [1] 2]

def k_impl_BoxOf_vars : List Nat := [0, 1, 2, 3, 11, 10, 12, 9, 8, 6, 7]

def k_impl_BoxOf_b0 : IC :=
 .seq (.seq (.reg [⟨(some (.E 16)), .mv (.V 11), none⟩,
   ⟨(some (.E 17)), .bin .add (.E 16) (ki 1), none⟩,
   ⟨(some (.E 18)), .mv (.V 10), none⟩,
   ⟨(some (.E 19)), .len (.E 18), none⟩,
   ⟨(some (.E 20)), .bin .lss (.E 17) (.E 19), none⟩])
 (.cond (.E 20)
  (.skip)
  (.exit 0)))
 (.seq (.block 1 (.seq (.regD [(⟨(some (.E 23)), .faddr 0 (.V 3), none⟩, 0, 1),
    (⟨(some (.E 24)), .load false 1 (.E 23), none⟩, 0, 1),
    (⟨(some (.E 25)), .mv (.V 10), none⟩, 0, 0),
    (⟨(some (.E 26)), .mv (.V 11), none⟩, 0, 0),
    (⟨(some (.E 27)), .iaddr 1 (.E 25) (.E 26), none⟩, 0, 1),
    (⟨(some (.E 28)), .load false 1 (.E 27), none⟩, 0, 1),
    (⟨(some (.E 29)), .iaddr 5 (.E 24) (.E 28), none⟩, 0, 1),
    (⟨(some (.E 30)), .load true 5 (.E 29), none⟩, 0, 1),
    (⟨(some (.V 12)), .alloc [(.v (.int .i64 0)), (.v (.int .i64 0)), (.v (.int .i64 0)), (.v (.int .i64 0)), (.v (.int .i64 0))], none⟩, 0, 0),
    (⟨none, .store [0, 0, 0, 0, 0] (.V 12) (.E 30), none⟩, 0, 0)])
  (.block 2 (.seq (.reg [⟨(some (.E 32)), .faddr 0 (.V 12), none⟩,
     ⟨(some (.E 33)), .load false 1 (.E 32), none⟩,
     ⟨(some (.E 34)), .mv (.V 2), none⟩,
     ⟨(some (.E 35)), .bin .neq (.E 33) (.E 34), none⟩,
     ⟨(some (.E 31)), .mv (.E 35), none⟩])
   (.cond (.E 31)
    (.skip)
    (.seq (.regD [(⟨(some (.E 37)), .faddr 2 (.V 12), none⟩, 0, 0),
      (⟨(some (.E 38)), .load false 1 (.E 37), none⟩, 0, 0),
      (⟨(some (.E 39)), .mv (.V 10), none⟩, 0, 0),
      (⟨(some (.E 40)), .mv (.V 11), none⟩, 0, 0),
      (⟨(some (.E 41)), .bin .add (.E 40) (ki 1), none⟩, 0, 0),
      (⟨(some (.E 42)), .iaddr 1 (.E 39) (.E 41), none⟩, 0, 0),
      (⟨(some (.E 43)), .load false 1 (.E 42), none⟩, 0, 0),
      (⟨(some (.E 44)), .bin .eql (.E 38) (.E 43), none⟩, 0, 0),
      (⟨(some (.E 36)), .mv (.E 44), none⟩, 0, 0)])
    (.cond (.E 36)
     (.reg [⟨(some (.E 45)), .mv (.V 9), none⟩,
       ⟨(some (.E 46)), .faddr 1 (.V 12), none⟩,
       ⟨(some (.E 47)), .load false 1 (.E 46), none⟩,
       ⟨(some (.E 48)), .mx false (.E 45) (.E 47), none⟩,
       ⟨(some (.V 9)), .mv (.E 48), none⟩])
     (.seq (.reg [⟨(some (.E 50)), .faddr 1 (.V 12), none⟩,
       ⟨(some (.E 51)), .load false 1 (.E 50), none⟩,
       ⟨(some (.E 52)), .bin .neq (.E 51) (ki 9223372036854775807), none⟩,
       ⟨(some (.E 49)), .mv (.E 52), none⟩])
     (.cond (.E 49)
      (.reg [⟨(some (.E 53)), .mv (.V 8), none⟩,
        ⟨(some (.E 54)), .faddr 1 (.V 12), none⟩,
        ⟨(some (.E 55)), .load false 1 (.E 54), none⟩,
        ⟨(some (.E 56)), .bin .add (.E 55) (ki 1), none⟩,
        ⟨(some (.E 57)), .mx true (.E 53) (.E 56), none⟩,
        ⟨(some (.V 8)), .mv (.E 57), none⟩])
      (.skip))))))))))
 (.reg [⟨(some (.E 21)), .mv (.V 11), none⟩,
   ⟨(some (.E 22)), .bin .add (.E 21) (ki 1), none⟩,
   ⟨(some (.V 11)), .mv (.E 22), none⟩]))

def k_impl_BoxOf_ic : IC :=
 .seq (.reg [⟨(some (.V 3)), .box (.V 0), none⟩,
   ⟨(some (.V 6)), .mv (ki 0), none⟩,
   ⟨(some (.V 7)), .mv (ki 0), none⟩])
 (.seq (.reg [⟨(some (.V 8)), .mv (ki (-9223372036854775808)), none⟩,
   ⟨(some (.V 9)), .mv (ki 9223372036854775807), none⟩])
 (.seq (.reg [⟨(some (.E 13)), .load true 1 (.V 3), none⟩,
   ⟨(some (.E 14)), .mv (.V 1), none⟩,
   ⟨(some (.E 15)), .call k_impl_wayTo [([5], (.E 13)), ([0], (.E 14))], none⟩,
   ⟨(some (.V 10)), .mv (.E 15), none⟩])
 (.seq (.seq (.reg [⟨(some (.V 11)), .mv (ki 0), none⟩])
 (.block 0 (.loop k_impl_BoxOf_b0)))
 (.seq (.reg [⟨(some (.E 58)), .mv (.V 8), none⟩,
   ⟨(some (.E 59)), .mv (.V 9), none⟩,
   ⟨(some (.V 6)), .mv (.E 58), none⟩,
   ⟨(some (.V 7)), .mv (.E 59), none⟩])
 (.ret)))))

def k_impl_BoxOf_rv : List RV := [.tmp [0] 6, .tmp [0] 7]

def k_spec_BoxOf_vars : List Nat := [0, 1, 2, 3, 11, 10, 12, 9, 8, 6, 7]

def k_spec_BoxOf_b0 : IC :=
 .seq (.seq (.reg [⟨(some (.E 16)), .mv (.V 11), none⟩,
   ⟨(some (.E 17)), .bin .add (.E 16) (ki 1), none⟩,
   ⟨(some (.E 18)), .mv (.V 10), none⟩,
   ⟨(some (.E 19)), .len (.E 18), none⟩,
   ⟨(some (.E 20)), .bin .lss (.E 17) (.E 19), none⟩])
 (.cond (.E 20)
  (.skip)
  (.exit 0)))
 (.seq (.block 1 (.seq (.regD [(⟨(some (.E 23)), .faddr 0 (.V 3), none⟩, 0, 1),
    (⟨(some (.E 24)), .load false 1 (.E 23), none⟩, 0, 1),
    (⟨(some (.E 25)), .mv (.V 10), none⟩, 0, 0),
    (⟨(some (.E 26)), .mv (.V 11), none⟩, 0, 0),
    (⟨(some (.E 27)), .iaddr 1 (.E 25) (.E 26), none⟩, 0, 1),
    (⟨(some (.E 28)), .load false 1 (.E 27), none⟩, 0, 1),
    (⟨(some (.E 29)), .iaddr 5 (.E 24) (.E 28), none⟩, 0, 1),
    (⟨(some (.E 30)), .load true 5 (.E 29), none⟩, 0, 1),
    (⟨(some (.V 12)), .alloc [(.v (.int .i64 0)), (.v (.int .i64 0)), (.v (.int .i64 0)), (.v (.int .i64 0)), (.v (.int .i64 0))], none⟩, 0, 0),
    (⟨none, .store [0, 0, 0, 0, 0] (.V 12) (.E 30), none⟩, 0, 0)])
  (.seq (.seq (.reg [⟨(some (.E 31)), .faddr 0 (.V 12), none⟩,
    ⟨(some (.E 32)), .load false 1 (.E 31), none⟩,
    ⟨(some (.E 33)), .mv (.V 2), none⟩,
    ⟨(some (.E 34)), .bin .neq (.E 32) (.E 33), none⟩])
  (.cond (.E 34)
   (.exit 1)
   (.skip)))
  (.seq (.regD [(⟨(some (.E 35)), .faddr 2 (.V 12), none⟩, 0, 0),
    (⟨(some (.E 36)), .load false 1 (.E 35), none⟩, 0, 0),
    (⟨(some (.E 37)), .mv (.V 10), none⟩, 0, 0),
    (⟨(some (.E 38)), .mv (.V 11), none⟩, 0, 0),
    (⟨(some (.E 39)), .bin .add (.E 38) (ki 1), none⟩, 0, 0),
    (⟨(some (.E 40)), .iaddr 1 (.E 37) (.E 39), none⟩, 0, 0),
    (⟨(some (.E 41)), .load false 1 (.E 40), none⟩, 0, 0),
    (⟨(some (.E 42)), .bin .eql (.E 36) (.E 41), none⟩, 0, 0)])
  (.cond (.E 42)
   (.reg [⟨(some (.E 43)), .mv (.V 9), none⟩,
     ⟨(some (.E 44)), .faddr 1 (.V 12), none⟩,
     ⟨(some (.E 45)), .load false 1 (.E 44), none⟩,
     ⟨(some (.E 46)), .call k_spec_l1Min [([0], (.E 43)), ([0], (.E 45))], none⟩,
     ⟨(some (.V 9)), .mv (.E 46), none⟩])
   (.seq (.reg [⟨(some (.E 47)), .faddr 1 (.V 12), none⟩,
     ⟨(some (.E 48)), .load false 1 (.E 47), none⟩,
     ⟨(some (.E 49)), .bin .lss (.E 48) (ki 9223372036854775807), none⟩])
   (.cond (.E 49)
    (.reg [⟨(some (.E 50)), .mv (.V 8), none⟩,
      ⟨(some (.E 51)), .faddr 1 (.V 12), none⟩,
      ⟨(some (.E 52)), .load false 1 (.E 51), none⟩,
      ⟨(some (.E 53)), .bin .add (.E 52) (ki 1), none⟩,
      ⟨(some (.E 54)), .call k_spec_l1Max [([0], (.E 50)), ([0], (.E 53))], none⟩,
      ⟨(some (.V 8)), .mv (.E 54), none⟩])
    (.skip))))))))
 (.reg [⟨(some (.E 21)), .mv (.V 11), none⟩,
   ⟨(some (.E 22)), .bin .add (.E 21) (ki 1), none⟩,
   ⟨(some (.V 11)), .mv (.E 22), none⟩]))

def k_spec_BoxOf_ic : IC :=
 .seq (.reg [⟨(some (.V 3)), .box (.V 0), none⟩,
   ⟨(some (.V 6)), .mv (ki 0), none⟩,
   ⟨(some (.V 7)), .mv (ki 0), none⟩])
 (.seq (.reg [⟨(some (.V 8)), .mv (ki (-9223372036854775808)), none⟩])
 (.seq (.reg [⟨(some (.V 9)), .mv (ki 9223372036854775807), none⟩])
 (.seq (.reg [⟨(some (.E 13)), .load true 1 (.V 3), none⟩,
   ⟨(some (.E 14)), .mv (.V 1), none⟩,
   ⟨(some (.E 15)), .call k_spec_WayTo [([5], (.E 13)), ([0], (.E 14))], none⟩,
   ⟨(some (.V 10)), .mv (.E 15), none⟩])
 (.seq (.seq (.reg [⟨(some (.V 11)), .mv (ki 0), none⟩])
 (.block 0 (.loop k_spec_BoxOf_b0)))
 (.seq (.reg [⟨(some (.E 55)), .mv (.V 8), none⟩,
   ⟨(some (.E 56)), .mv (.V 9), none⟩,
   ⟨(some (.V 6)), .mv (.E 55), none⟩,
   ⟨(some (.V 7)), .mv (.E 56), none⟩])
 (.ret))))))

def k_spec_BoxOf_rv : List RV := [.tmp [0] 6, .tmp [0] 7]

def k_laws_has_vars : List Nat := [0, 1, 4]

def k_laws_has_ic : IC :=
 .seq (.reg [⟨(some (.V 4)), .mv (kb false), none⟩])
 (.seq (.reg [⟨(some (.E 5)), .mv (.V 0), none⟩,
   ⟨(some (.E 6)), .mv (.V 1), none⟩,
   ⟨(some (.E 7)), .call k_laws_times [([1], (.E 5)), ([0], (.E 6))], none⟩,
   ⟨(some (.E 8)), .bin .gtr (.E 7) (ki 0), none⟩,
   ⟨(some (.V 4)), .mv (.E 8), none⟩])
 (.ret))

def k_laws_has_rv : List RV := [.tmp [0] 4]

def k_spec_l1New_vars : List Nat := [0, 4, 3, 2]

def k_spec_l1New_b0 : IC :=
 .seq (.seq (.reg [⟨(some (.E 8)), .mv (.V 4), none⟩,
   ⟨(some (.E 9)), .mv (.V 0), none⟩,
   ⟨(some (.E 10)), .len (.E 9), none⟩,
   ⟨(some (.E 11)), .bin .lss (.E 8) (.E 10), none⟩,
   ⟨(some (.E 12)), .mv (.E 11), none⟩,
   ⟨(some (.E 13)), .mv (.V 4), some ((.E 12), true)⟩,
   ⟨(some (.E 14)), .bin .lss (.E 13) (ki 4000), some ((.E 12), true)⟩,
   ⟨(some (.E 15)), .pick (.E 12) (.E 14) (kb false), none⟩])
 (.cond (.E 15)
  (.skip)
  (.exit 0)))
 (.seq (.block 1 (.reg [⟨(some (.E 18)), .mv (.V 3), none⟩,
    ⟨(some (.E 19)), .bin .mul (.E 18) (ki 131), none⟩,
    ⟨(some (.E 20)), .mv (.V 0), none⟩,
    ⟨(some (.E 21)), .mv (.V 4), none⟩,
    ⟨(some (.E 22)), .iaddr 1 (.E 20) (.E 21), none⟩,
    ⟨(some (.E 23)), .load false 1 (.E 22), none⟩,
    ⟨(some (.E 24)), .convI .i64 (.E 23), none⟩,
    ⟨(some (.E 25)), .bin .add (.E 19) (.E 24), none⟩,
    ⟨(some (.E 26)), .bin .add (.E 25) (ki 7), none⟩,
    ⟨(some (.E 27)), .bin .and (.E 26) (ki 1073741823), none⟩,
    ⟨(some (.V 3)), .mv (.E 27), none⟩]))
 (.reg [⟨(some (.E 16)), .mv (.V 4), none⟩,
   ⟨(some (.E 17)), .bin .add (.E 16) (ki 1), none⟩,
   ⟨(some (.V 4)), .mv (.E 17), none⟩]))

def k_spec_l1New_ic : IC :=
 .seq (.reg [⟨(some (.V 2)), .mv (.C (.v (.pointer none))), none⟩])
 (.seq (.reg [⟨(some (.E 5)), .mv (.V 0), none⟩,
   ⟨(some (.E 6)), .len (.E 5), none⟩,
   ⟨(some (.E 7)), .bin .add (ki 28507) (.E 6), none⟩,
   ⟨(some (.V 3)), .mv (.E 7), none⟩])
 (.seq (.seq (.reg [⟨(some (.V 4)), .mv (ki 0), none⟩])
 (.block 0 (.loop k_spec_l1New_b0)))
 (.seq (.reg [⟨(some (.E 28)), .mv (.V 0), none⟩,
   ⟨(some (.E 29)), .mv (.V 3), none⟩,
   ⟨(some (.E 30)), .build [.e0, (.v (.int .i64 0)), (.v (.int .i64 0))] [(0, 1, (.E 28)), (2, 1, (.E 29))], none⟩,
   ⟨(some (.E 31)), .box (.E 30), none⟩,
   ⟨(some (.V 2)), .mv (.E 31), none⟩])
 (.ret))))

def k_spec_l1New_rv : List RV := [.tmp [0] 2]

def k_spec_l1PickInt_vars : List Nat := [0, 1, 4]

def k_spec_l1PickInt_ic : IC :=
 .seq (.reg [⟨(some (.V 4)), .mv (ki 0), none⟩])
 (.seq (.reg [⟨(some (.E 5)), .mv (.V 1), none⟩,
   ⟨(some (.E 6)), .mv (.V 0), none⟩,
   ⟨(some (.E 7)), .mv (.V 1), none⟩,
   ⟨(some (.E 8)), .len (.E 7), none⟩,
   ⟨(some (.E 9)), .call k_spec_l1Below [([0], (.E 6)), ([0], (.E 8))], none⟩,
   ⟨(some (.E 10)), .iaddr 1 (.E 5) (.E 9), none⟩,
   ⟨(some (.E 11)), .load false 1 (.E 10), none⟩,
   ⟨(some (.V 4)), .mv (.E 11), none⟩])
 (.ret))

def k_spec_l1PickInt_rv : List RV := [.tmp [0] 4]

def k_spec_l1Whole_vars : List Nat := [0, 6, 4, 3, 2]

def k_spec_l1Whole_b0 : IC :=
 .seq (.seq (.reg [⟨(some (.E 14)), .mv (.V 4), none⟩,
   ⟨(some (.E 15)), .bin .lss (.E 14) (ki 8), none⟩])
 (.cond (.E 15)
  (.skip)
  (.exit 1)))
 (.seq (.block 2 (.reg [⟨(some (.E 18)), .mv (.V 3), none⟩,
    ⟨(some (.E 19)), .bin .mul (.E 18) (ki 256), none⟩,
    ⟨(some (.E 20)), .mv (.V 0), none⟩,
    ⟨(some (.E 21)), .call k_spec_l1Byte [([0], (.E 20))], none⟩,
    ⟨(some (.E 22)), .bin .add (.E 19) (.E 21), none⟩,
    ⟨(some (.V 3)), .mv (.E 22), none⟩]))
 (.reg [⟨(some (.E 16)), .mv (.V 4), none⟩,
   ⟨(some (.E 17)), .bin .add (.E 16) (ki 1), none⟩,
   ⟨(some (.V 4)), .mv (.E 17), none⟩]))

def k_spec_l1Whole_ic : IC :=
 .seq (.reg [⟨(some (.V 2)), .mv (ki 0), none⟩])
 (.seq (.seq (.reg [⟨(some (.E 5)), .mv (.V 0), none⟩,
   ⟨(some (.V 6)), .call k_spec_l1Below [([0], (.E 5)), ([0], (ki 4))], none⟩])
 (.block 0 (.seq (.reg [⟨(some (.E 8)), .bin .eql (.V 6) (ki 0), none⟩,
    ⟨(some (.E 7)), .mv (.E 8), none⟩])
  (.cond (.E 7)
   (.seq (.reg [⟨(some (.E 9)), .mv (.V 0), none⟩,
     ⟨(some (.E 10)), .bslice 14 1 [(.v (.int .i64 0))] [(0, (ki 0)), (1, (ki 1)), (2, (ki (-1))), (3, (ki 9)), (4, (ki 10)), (5, (ki 999)), (6, (ki 1000)), (7, (ki 2147483647)), (8, (ki (-2147483648))), (9, (ki 3037000499)), (10, (ki 3037000500)), (11, (ki 9223372036854775807)), (12, (ki (-9223372036854775807))), (13, (ki (-9223372036854775808)))], none⟩,
     ⟨(some (.E 11)), .call k_spec_l1PickInt [([0], (.E 9)), ([1], (.E 10))], none⟩,
     ⟨(some (.V 2)), .mv (.E 11), none⟩])
   (.ret))
   (.seq (.reg [⟨(some (.E 13)), .bin .eql (.V 6) (ki 1), none⟩,
     ⟨(some (.E 12)), .mv (.E 13), none⟩])
   (.cond (.E 12)
    (.seq (.reg [⟨(some (.V 3)), .mv (ki 0), none⟩])
    (.seq (.seq (.reg [⟨(some (.V 4)), .mv (ki 0), none⟩])
    (.block 1 (.loop k_spec_l1Whole_b0)))
    (.seq (.reg [⟨(some (.E 23)), .mv (.V 3), none⟩,
      ⟨(some (.V 2)), .mv (.E 23), none⟩])
    (.ret))))
    (.seq (.reg [⟨(some (.E 25)), .bin .eql (.V 6) (ki 2), none⟩,
      ⟨(some (.E 24)), .mv (.E 25), none⟩])
    (.cond (.E 24)
     (.seq (.reg [⟨(some (.E 26)), .mv (.V 0), none⟩,
       ⟨(some (.E 27)), .call k_spec_l1Below [([0], (.E 26)), ([0], (ki 1000000))], none⟩,
       ⟨(some (.E 28)), .bin .sub (.E 27) (ki 500000), none⟩,
       ⟨(some (.V 2)), .mv (.E 28), none⟩])
     (.ret))
     (.skip)))))))))
 (.seq (.reg [⟨(some (.E 29)), .mv (.V 0), none⟩,
   ⟨(some (.E 30)), .call k_spec_l1Below [([0], (.E 29)), ([0], (ki 41))], none⟩,
   ⟨(some (.E 31)), .bin .sub (.E 30) (ki 20), none⟩,
   ⟨(some (.V 2)), .mv (.E 31), none⟩])
 (.ret)))

def k_spec_l1Whole_rv : List RV := [.tmp [0] 2]

def k_spec_l1Once_vars : List Nat := [0, 1, 4]

def k_spec_l1Once_ic : IC :=
 .seq (.reg [⟨(some (.V 4)), .mv (kb false), none⟩])
 (.seq (.reg [⟨(some (.E 5)), .mv (.V 0), none⟩,
   ⟨(some (.E 6)), .mv (.V 1), none⟩,
   ⟨(some (.E 7)), .call k_spec_l1Below [([0], (.E 5)), ([0], (.E 6))], none⟩,
   ⟨(some (.E 8)), .bin .eql (.E 7) (ki 0), none⟩,
   ⟨(some (.V 4)), .mv (.E 8), none⟩])
 (.ret))

def k_spec_l1Once_rv : List RV := [.tmp [0] 4]

def k_spec_l14Leaf_vars : List Nat := [0, 2]

def k_spec_l14Leaf_ic : IC :=
 .seq (.reg [⟨(some (.V 2)), .mv (kb false), none⟩])
 (.seq (.reg [⟨(some (.E 3)), .mv (.V 0), none⟩,
   ⟨(some (.E 4)), .call k_spec_l1In [([0], (.E 3)), ([0], (ki (-1099511627776))), ([0], (ki 1099511627776))], none⟩,
   ⟨(some (.V 2)), .mv (.E 4), none⟩])
 (.ret))

def k_spec_l14Leaf_rv : List RV := [.tmp [0] 2]

def k_impl_within_vars : List Nat := [0, 1, 2, 6]

def k_impl_within_ic : IC :=
 .seq (.reg [⟨(some (.V 6)), .mv (kb false), none⟩])
 (.seq (.reg [⟨(some (.E 7)), .mv (.V 0), none⟩,
   ⟨(some (.E 8)), .mv (.V 1), none⟩,
   ⟨(some (.E 9)), .bin .geq (.E 7) (.E 8), none⟩,
   ⟨(some (.E 10)), .mv (.E 9), none⟩,
   ⟨(some (.E 11)), .mv (.V 0), some ((.E 10), true)⟩,
   ⟨(some (.E 12)), .mv (.V 2), some ((.E 10), true)⟩,
   ⟨(some (.E 13)), .bin .leq (.E 11) (.E 12), some ((.E 10), true)⟩,
   ⟨(some (.E 14)), .pick (.E 10) (.E 13) (kb false), none⟩,
   ⟨(some (.V 6)), .mv (.E 14), none⟩])
 (.ret))

def k_impl_within_rv : List RV := [.tmp [0] 6]

def k_impl_isLeaf_vars : List Nat := [0, 1, 2]

def k_impl_isLeaf_ic : IC :=
 .seq (.reg [⟨(some (.V 1)), .box (.V 0), none⟩,
   ⟨(some (.V 2)), .mv (kb false), none⟩])
 (.seq (.reg [⟨(some (.E 3)), .faddr 0 (.V 1), none⟩,
   ⟨(some (.E 4)), .load false 1 (.E 3), none⟩,
   ⟨(some (.E 5)), .bin .eql (.E 4) (ki (-1)), none⟩,
   ⟨(some (.V 2)), .mv (.E 5), none⟩])
 (.ret))

def k_impl_isLeaf_rv : List RV := [.tmp [0] 2]

def k_impl_wayTo_vars : List Nat := [0, 1, 2, 6, 5, 4]

def k_impl_wayTo_b0 : IC :=
 .seq (.seq (.reg [⟨(some (.E 19)), .mv (.V 6), none⟩,
   ⟨(some (.E 20)), .bin .geq (.E 19) (ki 0), none⟩])
 (.cond (.E 20)
  (.skip)
  (.exit 0)))
 (.seq (.block 1 (.seq (.seq (.reg [⟨(some (.E 24)), .mv (.V 5), none⟩,
    ⟨(some (.E 25)), .len (.E 24), none⟩,
    ⟨(some (.E 26)), .bin .gtr (.E 25) (ki 31), none⟩])
  (.cond (.E 26)
   (.seq (.reg [⟨(some (.V 4)), .mv (.C .e0), none⟩])
   (.ret))
   (.skip)))
  (.reg [⟨(some (.E 27)), .mv (.V 5), none⟩,
    ⟨(some (.E 28)), .mv (.V 6), none⟩,
    ⟨(some (.E 29)), .bslice 1 1 [(.v (.int .i64 0))] [(0, (.E 28))], none⟩,
    ⟨(some (.E 30)), .app 8 1 (.E 27) (.E 29), none⟩,
    ⟨(some (.V 5)), .mv (.E 30), none⟩])))
 (.reg [⟨(some (.E 21)), .load true 1 (.V 2), none⟩,
   ⟨(some (.E 22)), .mv (.V 6), none⟩,
   ⟨(some (.E 23)), .call k_impl_parent [([5], (.E 21)), ([0], (.E 22))], none⟩,
   ⟨(some (.V 6)), .mv (.E 23), none⟩]))

def k_impl_wayTo_ic : IC :=
 .seq (.reg [⟨(some (.V 2)), .box (.V 0), none⟩,
   ⟨(some (.V 4)), .mv (.C .e0), none⟩])
 (.seq (.seq (.reg [⟨(some (.E 7)), .mv (.V 1), none⟩,
   ⟨(some (.E 8)), .faddr 0 (.V 2), none⟩,
   ⟨(some (.E 9)), .load false 1 (.E 8), none⟩,
   ⟨(some (.E 10)), .len (.E 9), none⟩,
   ⟨(some (.E 11)), .bin .sub (.E 10) (ki 1), none⟩,
   ⟨(some (.E 12)), .call k_impl_within [([0], (.E 7)), ([0], (ki 0)), ([0], (.E 11))], none⟩,
   ⟨(some (.E 13)), .un .not (.E 12), none⟩])
 (.cond (.E 13)
  (.seq (.reg [⟨(some (.V 4)), .mv (.C .e0), none⟩])
  (.ret))
  (.skip)))
 (.seq (.reg [⟨(some (.E 14)), .mv (.V 1), none⟩,
   ⟨(some (.E 15)), .bslice 1 1 [(.v (.int .i64 0))] [(0, (.E 14))], none⟩,
   ⟨(some (.V 5)), .mv (.E 15), none⟩])
 (.seq (.seq (.reg [⟨(some (.E 16)), .load true 1 (.V 2), none⟩,
   ⟨(some (.E 17)), .mv (.V 1), none⟩,
   ⟨(some (.E 18)), .call k_impl_parent [([5], (.E 16)), ([0], (.E 17))], none⟩,
   ⟨(some (.V 6)), .mv (.E 18), none⟩])
 (.block 0 (.loop k_impl_wayTo_b0)))
 (.seq (.reg [⟨(some (.E 31)), .mv (.V 5), none⟩,
   ⟨(some (.E 32)), .call k_slices_Reverse___int_int_ [([1], (.E 31))], none⟩])
 (.seq (.reg [⟨(some (.E 33)), .mv (.V 5), none⟩,
   ⟨(some (.V 4)), .mv (.E 33), none⟩])
 (.ret))))))

def k_impl_wayTo_rv : List RV := [.tmp [1] 4]

def k_spec_l1Max_vars : List Nat := [0, 1, 4]

def k_spec_l1Max_ic : IC :=
 .seq (.reg [⟨(some (.V 4)), .mv (ki 0), none⟩])
 (.seq (.seq (.reg [⟨(some (.E 5)), .mv (.V 0), none⟩,
   ⟨(some (.E 6)), .mv (.V 1), none⟩,
   ⟨(some (.E 7)), .bin .gtr (.E 5) (.E 6), none⟩])
 (.cond (.E 7)
  (.seq (.reg [⟨(some (.E 8)), .mv (.V 0), none⟩,
    ⟨(some (.V 4)), .mv (.E 8), none⟩])
  (.ret))
  (.skip)))
 (.seq (.reg [⟨(some (.E 9)), .mv (.V 1), none⟩,
   ⟨(some (.V 4)), .mv (.E 9), none⟩])
 (.ret)))

def k_spec_l1Max_rv : List RV := [.tmp [0] 4]

def k_spec_LevelOf_vars : List Nat := [0, 1, 2, 5, 4]

def k_spec_LevelOf_b0 : IC :=
 .seq (.seq (.reg [⟨(some (.E 13)), .mv (.V 5), none⟩,
   ⟨(some (.E 14)), .bin .leq (.E 13) (ki 31), none⟩])
 (.cond (.E 14)
  (.skip)
  (.exit 0)))
 (.block 1 (.seq (.reg [⟨(some (.E 15)), .load true 1 (.V 2), none⟩,
    ⟨(some (.E 16)), .mv (.V 1), none⟩,
    ⟨(some (.E 17)), .call k_spec_l17Up [([5], (.E 15)), ([0], (.E 16))], none⟩,
    ⟨(some (.V 1)), .mv (.E 17), none⟩])
  (.seq (.seq (.reg [⟨(some (.E 18)), .mv (.V 1), none⟩,
    ⟨(some (.E 19)), .bin .lss (.E 18) (ki 0), none⟩])
  (.cond (.E 19)
   (.seq (.reg [⟨(some (.E 20)), .mv (.V 5), none⟩,
     ⟨(some (.V 4)), .mv (.E 20), none⟩])
   (.ret))
   (.skip)))
  (.reg [⟨(some (.E 21)), .mv (.V 5), none⟩,
    ⟨(some (.E 22)), .bin .add (.E 21) (ki 1), none⟩,
    ⟨(some (.V 5)), .mv (.E 22), none⟩]))))

def k_spec_LevelOf_ic : IC :=
 .seq (.reg [⟨(some (.V 2)), .box (.V 0), none⟩,
   ⟨(some (.V 4)), .mv (ki 0), none⟩])
 (.seq (.seq (.reg [⟨(some (.E 6)), .mv (.V 1), none⟩,
   ⟨(some (.E 7)), .faddr 0 (.V 2), none⟩,
   ⟨(some (.E 8)), .load false 1 (.E 7), none⟩,
   ⟨(some (.E 9)), .len (.E 8), none⟩,
   ⟨(some (.E 10)), .bin .sub (.E 9) (ki 1), none⟩,
   ⟨(some (.E 11)), .call k_spec_l1In [([0], (.E 6)), ([0], (ki 0)), ([0], (.E 10))], none⟩,
   ⟨(some (.E 12)), .un .not (.E 11), none⟩])
 (.cond (.E 12)
  (.seq (.reg [⟨(some (.V 4)), .mv (ki (-1)), none⟩])
  (.ret))
  (.skip)))
 (.seq (.reg [⟨(some (.V 5)), .mv (ki 0), none⟩])
 (.seq (.block 0 (.loop k_spec_LevelOf_b0))
 (.seq (.reg [⟨(some (.V 4)), .mv (ki (-1)), none⟩])
 (.ret)))))

def k_spec_LevelOf_rv : List RV := [.tmp [0] 4]

def k_spec_l17Up_vars : List Nat := [0, 1, 5, 2, 4]

def k_spec_l17Up_b0 : IC :=
 .seq (.seq (.reg [⟨(some (.E 6)), .mv (.V 5), none⟩,
   ⟨(some (.E 7)), .faddr 0 (.V 2), none⟩,
   ⟨(some (.E 8)), .load false 1 (.E 7), none⟩,
   ⟨(some (.E 9)), .len (.E 8), none⟩,
   ⟨(some (.E 10)), .bin .lss (.E 6) (.E 9), none⟩])
 (.cond (.E 10)
  (.skip)
  (.exit 0)))
 (.seq (.block 1 (.seq (.reg [⟨(some (.E 13)), .faddr 0 (.V 2), none⟩,
    ⟨(some (.E 14)), .load false 1 (.E 13), none⟩,
    ⟨(some (.E 15)), .mv (.V 5), none⟩,
    ⟨(some (.E 16)), .iaddr 5 (.E 14) (.E 15), none⟩,
    ⟨(some (.E 17)), .load true 5 (.E 16), none⟩,
    ⟨(some (.E 18)), .call k_spec_l17Inner [([0, 0, 0, 0, 0], (.E 17))], none⟩,
    ⟨(some (.E 19)), .mv (.E 18), none⟩,
    ⟨(some (.E 20)), .faddr 0 (.V 2), some ((.E 19), true)⟩,
    ⟨(some (.E 21)), .load false 1 (.E 20), some ((.E 19), true)⟩,
    ⟨(some (.E 22)), .mv (.V 5), some ((.E 19), true)⟩,
    ⟨(some (.E 23)), .iaddr 5 (.E 21) (.E 22), some ((.E 19), true)⟩,
    ⟨(some (.E 24)), .faddr 2 (.E 23), some ((.E 19), true)⟩,
    ⟨(some (.E 25)), .load false 1 (.E 24), some ((.E 19), true)⟩,
    ⟨(some (.E 26)), .mv (.V 1), some ((.E 19), true)⟩,
    ⟨(some (.E 27)), .bin .eql (.E 25) (.E 26), some ((.E 19), true)⟩,
    ⟨(some (.E 28)), .mv (.E 27), some ((.E 19), true)⟩,
    ⟨(some (.E 29)), .faddr 0 (.V 2), some ((.E 28), false)⟩,
    ⟨(some (.E 30)), .load false 1 (.E 29), some ((.E 28), false)⟩,
    ⟨(some (.E 31)), .mv (.V 5), some ((.E 28), false)⟩,
    ⟨(some (.E 32)), .iaddr 5 (.E 30) (.E 31), some ((.E 28), false)⟩,
    ⟨(some (.E 33)), .faddr 3 (.E 32), some ((.E 28), false)⟩,
    ⟨(some (.E 34)), .load false 1 (.E 33), some ((.E 28), false)⟩,
    ⟨(some (.E 35)), .mv (.V 1), some ((.E 28), false)⟩,
    ⟨(some (.E 36)), .bin .eql (.E 34) (.E 35), some ((.E 28), false)⟩,
    ⟨(some (.E 37)), .pick (.E 28) (kb true) (.E 36), some ((.E 19), true)⟩,
    ⟨(some (.E 38)), .pick (.E 19) (.E 37) (kb false), none⟩])
  (.cond (.E 38)
   (.seq (.reg [⟨(some (.E 39)), .mv (.V 5), none⟩,
     ⟨(some (.V 4)), .mv (.E 39), none⟩])
   (.ret))
   (.skip))))
 (.reg [⟨(some (.E 11)), .mv (.V 5), none⟩,
   ⟨(some (.E 12)), .bin .add (.E 11) (ki 1), none⟩,
   ⟨(some (.V 5)), .mv (.E 12), none⟩]))

def k_spec_l17Up_ic : IC :=
 .seq (.reg [⟨(some (.V 2)), .box (.V 0), none⟩,
   ⟨(some (.V 4)), .mv (ki 0), none⟩])
 (.seq (.seq (.reg [⟨(some (.V 5)), .mv (ki 0), none⟩])
 (.block 0 (.loop k_spec_l17Up_b0)))
 (.seq (.reg [⟨(some (.V 4)), .mv (ki (-1)), none⟩])
 (.ret)))

def k_spec_l17Up_rv : List RV := [.tmp [0] 4]

def k_spec_l17Bent_vars : List Nat := [0, 3, 16, 4, 2]

def k_spec_l17Bent_ic : IC :=
 .seq (.reg [⟨(some (.V 2)), .alloc [.e0], none⟩])
 (.seq (.reg [⟨(some (.E 5)), .mv (.V 0), none⟩,
   ⟨(some (.E 6)), .mv (.V 0), none⟩,
   ⟨(some (.E 7)), .call k_spec_l1Below [([0], (.E 6)), ([0], (ki 3))], none⟩,
   ⟨(some (.E 8)), .bin .add (ki 1) (.E 7), none⟩,
   ⟨(some (.E 9)), .call k_spec_l17Right [([0], (.E 5)), ([0], (.E 8))], none⟩,
   ⟨(some (.V 3)), .alloc [.e0], none⟩,
   ⟨none, .store [5] (.V 3) (.E 9), none⟩])
 (.seq (.reg [⟨(some (.E 10)), .mv (.V 0), none⟩,
   ⟨(some (.E 11)), .faddr 0 (.V 3), none⟩,
   ⟨(some (.E 12)), .load false 1 (.E 11), none⟩,
   ⟨(some (.E 13)), .len (.E 12), none⟩,
   ⟨(some (.E 14)), .call k_spec_l1Below [([0], (.E 10)), ([0], (.E 13))], none⟩,
   ⟨(some (.V 4)), .mv (.E 14), none⟩])
 (.seq (.seq (.reg [⟨(some (.E 15)), .mv (.V 0), none⟩,
   ⟨(some (.V 16)), .call k_spec_l1Below [([0], (.E 15)), ([0], (ki 14))], none⟩])
 (.block 0 (.seq (.reg [⟨(some (.E 18)), .bin .eql (.V 16) (ki 0), none⟩,
    ⟨(some (.E 17)), .mv (.E 18), none⟩])
  (.cond (.E 17)
   (.regD [(⟨(some (.E 19)), .faddr 0 (.V 3), none⟩, 0, 2),
     (⟨(some (.E 20)), .load false 1 (.E 19), none⟩, 0, 2),
     (⟨(some (.E 21)), .mv (.V 4), none⟩, 0, 0),
     (⟨(some (.E 22)), .mv (.V 0), none⟩, 0, 0),
     (⟨(some (.E 23)), .bslice 6 1 [(.v (.int .i64 0))] [(0, (ki (-1))), (1, (ki 0)), (2, (ki 1)), (3, (ki 4)), (4, (ki (-2))), (5, (ki 9223372036854775807))], none⟩, 0, 0),
     (⟨(some (.E 24)), .call k_spec_l1PickInt [([0], (.E 22)), ([1], (.E 23))], none⟩, 0, 0),
     (⟨(some (.E 25)), .iaddr 5 (.E 20) (.E 21), none⟩, 0, 0),
     (⟨(some (.E 26)), .faddr 0 (.E 25), none⟩, 0, 0),
     (⟨none, .store [0] (.E 26) (.E 24), none⟩, 0, 0)])
   (.seq (.reg [⟨(some (.E 28)), .bin .eql (.V 16) (ki 1), none⟩,
     ⟨(some (.E 27)), .mv (.E 28), none⟩])
   (.cond (.E 27)
    (.regD [(⟨(some (.E 29)), .faddr 0 (.V 3), none⟩, 0, 2),
      (⟨(some (.E 30)), .load false 1 (.E 29), none⟩, 0, 2),
      (⟨(some (.E 31)), .mv (.V 4), none⟩, 0, 0),
      (⟨(some (.E 32)), .mv (.V 0), none⟩, 0, 0),
      (⟨(some (.E 33)), .bslice 5 1 [(.v (.int .i64 0))] [(0, (ki 0)), (1, (ki 1)), (2, (ki 2147483648)), (3, (ki (-2147483648))), (4, (ki 500))], none⟩, 0, 0),
      (⟨(some (.E 34)), .call k_spec_l1PickInt [([0], (.E 32)), ([1], (.E 33))], none⟩, 0, 0),
      (⟨(some (.E 35)), .iaddr 5 (.E 30) (.E 31), none⟩, 0, 0),
      (⟨(some (.E 36)), .faddr 1 (.E 35), none⟩, 0, 0),
      (⟨none, .store [0] (.E 36) (.E 34), none⟩, 0, 0)])
    (.seq (.reg [⟨(some (.E 38)), .bin .eql (.V 16) (ki 2), none⟩,
      ⟨(some (.E 37)), .mv (.E 38), none⟩])
    (.cond (.E 37)
     (.regD [(⟨(some (.E 39)), .faddr 0 (.V 3), none⟩, 0, 2),
       (⟨(some (.E 40)), .load false 1 (.E 39), none⟩, 0, 2),
       (⟨(some (.E 41)), .mv (.V 4), none⟩, 0, 0),
       (⟨(some (.E 42)), .mv (.V 0), none⟩, 0, 0),
       (⟨(some (.E 43)), .mv (.V 4), none⟩, 0, 0),
       (⟨(some (.E 44)), .bslice 6 1 [(.v (.int .i64 0))] [(0, (ki 0)), (1, (ki 1)), (2, (ki 2)), (3, (ki (-1))), (4, (ki 40)), (5, (.E 43))], none⟩, 0, 0),
       (⟨(some (.E 45)), .call k_spec_l1PickInt [([0], (.E 42)), ([1], (.E 44))], none⟩, 0, 0),
       (⟨(some (.E 46)), .iaddr 5 (.E 40) (.E 41), none⟩, 0, 0),
       (⟨(some (.E 47)), .faddr 2 (.E 46), none⟩, 0, 0),
       (⟨none, .store [0] (.E 47) (.E 45), none⟩, 0, 0)])
     (.seq (.reg [⟨(some (.E 49)), .bin .eql (.V 16) (ki 3), none⟩,
       ⟨(some (.E 48)), .mv (.E 49), none⟩])
     (.cond (.E 48)
      (.regD [(⟨(some (.E 50)), .faddr 0 (.V 3), none⟩, 0, 2),
        (⟨(some (.E 51)), .load false 1 (.E 50), none⟩, 0, 2),
        (⟨(some (.E 52)), .mv (.V 4), none⟩, 0, 0),
        (⟨(some (.E 53)), .mv (.V 0), none⟩, 0, 0),
        (⟨(some (.E 54)), .mv (.V 4), none⟩, 0, 0),
        (⟨(some (.E 55)), .bslice 6 1 [(.v (.int .i64 0))] [(0, (ki 0)), (1, (ki 1)), (2, (ki 2)), (3, (ki (-1))), (4, (ki 40)), (5, (.E 54))], none⟩, 0, 0),
        (⟨(some (.E 56)), .call k_spec_l1PickInt [([0], (.E 53)), ([1], (.E 55))], none⟩, 0, 0),
        (⟨(some (.E 57)), .iaddr 5 (.E 51) (.E 52), none⟩, 0, 0),
        (⟨(some (.E 58)), .faddr 3 (.E 57), none⟩, 0, 0),
        (⟨none, .store [0] (.E 58) (.E 56), none⟩, 0, 0)])
      (.seq (.reg [⟨(some (.E 60)), .bin .eql (.V 16) (ki 4), none⟩,
        ⟨(some (.E 59)), .mv (.E 60), none⟩])
      (.cond (.E 59)
       (.regD [(⟨(some (.E 61)), .faddr 0 (.V 3), none⟩, 0, 2),
         (⟨(some (.E 62)), .load false 1 (.E 61), none⟩, 0, 2),
         (⟨(some (.E 63)), .mv (.V 4), none⟩, 0, 0),
         (⟨(some (.E 64)), .mv (.V 0), none⟩, 0, 0),
         (⟨(some (.E 65)), .bslice 5 1 [(.v (.int .i64 0))] [(0, (ki 0)), (1, (ki 1)), (2, (ki 1099511627776)), (3, (ki 1099511627777)), (4, (ki (-1099511627777)))], none⟩, 0, 0),
         (⟨(some (.E 66)), .call k_spec_l1PickInt [([0], (.E 64)), ([1], (.E 65))], none⟩, 0, 0),
         (⟨(some (.E 67)), .iaddr 5 (.E 62) (.E 63), none⟩, 0, 0),
         (⟨(some (.E 68)), .faddr 4 (.E 67), none⟩, 0, 0),
         (⟨none, .store [0] (.E 68) (.E 66), none⟩, 0, 0)])
       (.seq (.reg [⟨(some (.E 70)), .bin .eql (.V 16) (ki 5), none⟩,
         ⟨(some (.E 69)), .mv (.E 70), none⟩])
       (.cond (.E 69)
        (.reg [⟨(some (.E 71)), .faddr 0 (.V 3), none⟩,
          ⟨(some (.E 72)), .load false 1 (.E 71), none⟩,
          ⟨(some (.E 73)), .build [(.v (.int .i64 0)), (.v (.int .i64 0)), (.v (.int .i64 0)), (.v (.int .i64 0)), (.v (.int .i64 0))] [(0, 1, (ki (-1)))], none⟩,
          ⟨(some (.E 74)), .bslice 1 5 [(.v (.int .i64 0)), (.v (.int .i64 0)), (.v (.int .i64 0)), (.v (.int .i64 0)), (.v (.int .i64 0))] [(0, (.E 73))], none⟩,
          ⟨(some (.E 75)), .app 40 5 (.E 72) (.E 74), none⟩,
          ⟨(some (.E 76)), .faddr 0 (.V 3), none⟩,
          ⟨none, .store [5] (.E 76) (.E 75), none⟩])
        (.seq (.reg [⟨(some (.E 78)), .bin .eql (.V 16) (ki 6), none⟩,
          ⟨(some (.E 77)), .mv (.E 78), none⟩])
        (.cond (.E 77)
         (.reg [⟨(some (.E 79)), .faddr 0 (.V 3), none⟩,
           ⟨(some (.E 80)), .load false 1 (.E 79), none⟩,
           ⟨(some (.E 81)), .mv (.V 4), none⟩,
           ⟨(some (.E 82)), .slice 5 (.E 80) none (some (.E 81)) none, none⟩,
           ⟨(some (.E 83)), .faddr 0 (.V 3), none⟩,
           ⟨none, .store [5] (.E 83) (.E 82), none⟩])
         (.skip)))))))))))))))))
 (.seq (.reg [⟨(some (.E 84)), .load true 1 (.V 3), none⟩,
   ⟨none, .store [5] (.V 2) (.E 84), none⟩])
 (.ret)))))

def k_spec_l17Bent_rv : List RV := [.cell [5] 2 true]

def k_spec_l1In_vars : List Nat := [0, 1, 2, 6]

def k_spec_l1In_ic : IC :=
 .seq (.reg [⟨(some (.V 6)), .mv (kb false), none⟩])
 (.seq (.reg [⟨(some (.E 7)), .mv (.V 0), none⟩,
   ⟨(some (.E 8)), .mv (.V 1), none⟩,
   ⟨(some (.E 9)), .bin .geq (.E 7) (.E 8), none⟩,
   ⟨(some (.E 10)), .mv (.E 9), none⟩,
   ⟨(some (.E 11)), .mv (.V 0), some ((.E 10), true)⟩,
   ⟨(some (.E 12)), .mv (.V 2), some ((.E 10), true)⟩,
   ⟨(some (.E 13)), .bin .leq (.E 11) (.E 12), some ((.E 10), true)⟩,
   ⟨(some (.E 14)), .pick (.E 10) (.E 13) (kb false), none⟩,
   ⟨(some (.V 6)), .mv (.E 14), none⟩])
 (.ret))

def k_spec_l1In_rv : List RV := [.tmp [0] 6]

def k_spec_l17Shape_vars : List Nat := [0, 1, 6, 2, 7, 5, 4]

def k_spec_l17Shape_b0 : IC :=
 .seq (.seq (.reg [⟨(some (.E 8)), .mv (.V 6), none⟩,
   ⟨(some (.E 9)), .faddr 0 (.V 2), none⟩,
   ⟨(some (.E 10)), .load false 1 (.E 9), none⟩,
   ⟨(some (.E 11)), .len (.E 10), none⟩,
   ⟨(some (.E 12)), .bin .lss (.E 8) (.E 11), none⟩])
 (.cond (.E 12)
  (.skip)
  (.exit 0)))
 (.seq (.block 1 (.seq (.reg [⟨(some (.E 15)), .faddr 0 (.V 2), none⟩,
    ⟨(some (.E 16)), .load false 1 (.E 15), none⟩,
    ⟨(some (.E 17)), .mv (.V 6), none⟩,
    ⟨(some (.E 18)), .iaddr 5 (.E 16) (.E 17), none⟩,
    ⟨(some (.E 19)), .load true 5 (.E 18), none⟩,
    ⟨(some (.V 7)), .alloc [(.v (.int .i64 0)), (.v (.int .i64 0)), (.v (.int .i64 0)), (.v (.int .i64 0)), (.v (.int .i64 0))], none⟩,
    ⟨none, .store [0, 0, 0, 0, 0] (.V 7) (.E 19), none⟩])
  (.seq (.seq (.reg [⟨(some (.E 20)), .load true 5 (.V 7), none⟩,
    ⟨(some (.E 21)), .call k_spec_l17Inner [([0, 0, 0, 0, 0], (.E 20))], none⟩,
    ⟨(some (.E 22)), .un .not (.E 21), none⟩])
  (.cond (.E 22)
   (.seq (.seq (.reg [⟨(some (.E 23)), .load true 5 (.V 7), none⟩,
     ⟨(some (.E 24)), .faddr 4 (.V 7), none⟩,
     ⟨(some (.E 25)), .load false 1 (.E 24), none⟩,
     ⟨(some (.E 26)), .build [(.v (.int .i64 0)), (.v (.int .i64 0)), (.v (.int .i64 0)), (.v (.int .i64 0)), (.v (.int .i64 0))] [(0, 1, (ki (-1))), (4, 1, (.E 25))], none⟩,
     ⟨(some (.E 27)), .eqb true [.i .i64, .i .i64, .i .i64, .i .i64, .i .i64] (.E 23) (.E 26), none⟩,
     ⟨(some (.E 28)), .mv (.E 27), none⟩,
     ⟨(some (.E 29)), .faddr 4 (.V 7), some ((.E 28), false)⟩,
     ⟨(some (.E 30)), .load false 1 (.E 29), some ((.E 28), false)⟩,
     ⟨(some (.E 31)), .call k_spec_l14Leaf [([0], (.E 30))], some ((.E 28), false)⟩,
     ⟨(some (.E 32)), .un .not (.E 31), some ((.E 28), false)⟩,
     ⟨(some (.E 33)), .pick (.E 28) (kb true) (.E 32), none⟩])
   (.cond (.E 33)
    (.seq (.reg [⟨(some (.V 4)), .mv (kb false), none⟩])
    (.ret))
    (.skip)))
   (.exit 1))
   (.skip)))
  (.seq (.seq (.reg [⟨(some (.E 34)), .faddr 0 (.V 7), none⟩,
    ⟨(some (.E 35)), .load false 1 (.E 34), none⟩,
    ⟨(some (.E 36)), .mv (.V 1), none⟩,
    ⟨(some (.E 37)), .bin .sub (.E 36) (ki 1), none⟩,
    ⟨(some (.E 38)), .call k_spec_l1In [([0], (.E 35)), ([0], (ki 0)), ([0], (.E 37))], none⟩,
    ⟨(some (.E 39)), .un .not (.E 38), none⟩,
    ⟨(some (.E 40)), .mv (.E 39), none⟩,
    ⟨(some (.E 41)), .faddr 1 (.V 7), some ((.E 40), false)⟩,
    ⟨(some (.E 42)), .load false 1 (.E 41), some ((.E 40), false)⟩,
    ⟨(some (.E 43)), .call k_spec_l6Value [([0], (.E 42))], some ((.E 40), false)⟩,
    ⟨(some (.E 44)), .un .not (.E 43), some ((.E 40), false)⟩,
    ⟨(some (.E 45)), .pick (.E 40) (kb true) (.E 44), none⟩,
    ⟨(some (.E 46)), .mv (.E 45), none⟩,
    ⟨(some (.E 47)), .faddr 4 (.V 7), some ((.E 46), false)⟩,
    ⟨(some (.E 48)), .load false 1 (.E 47), some ((.E 46), false)⟩,
    ⟨(some (.E 49)), .bin .neq (.E 48) (ki 0), some ((.E 46), false)⟩,
    ⟨(some (.E 50)), .pick (.E 46) (kb true) (.E 49), none⟩,
    ⟨(some (.E 51)), .mv (.E 50), none⟩,
    ⟨(some (.E 52)), .faddr 2 (.V 7), some ((.E 51), false)⟩,
    ⟨(some (.E 53)), .load false 1 (.E 52), some ((.E 51), false)⟩,
    ⟨(some (.E 54)), .mv (.V 5), some ((.E 51), false)⟩,
    ⟨(some (.E 55)), .bin .neq (.E 53) (.E 54), some ((.E 51), false)⟩,
    ⟨(some (.E 56)), .pick (.E 51) (kb true) (.E 55), none⟩,
    ⟨(some (.E 57)), .mv (.E 56), none⟩,
    ⟨(some (.E 58)), .faddr 3 (.V 7), some ((.E 57), false)⟩,
    ⟨(some (.E 59)), .load false 1 (.E 58), some ((.E 57), false)⟩,
    ⟨(some (.E 60)), .mv (.V 5), some ((.E 57), false)⟩,
    ⟨(some (.E 61)), .bin .add (.E 60) (ki 1), some ((.E 57), false)⟩,
    ⟨(some (.E 62)), .bin .neq (.E 59) (.E 61), some ((.E 57), false)⟩,
    ⟨(some (.E 63)), .pick (.E 57) (kb true) (.E 62), none⟩,
    ⟨(some (.E 64)), .mv (.E 63), none⟩,
    ⟨(some (.E 65)), .faddr 2 (.V 7), some ((.E 64), false)⟩,
    ⟨(some (.E 66)), .load false 1 (.E 65), some ((.E 64), false)⟩,
    ⟨(some (.E 67)), .mv (.V 6), some ((.E 64), false)⟩,
    ⟨(some (.E 68)), .bin .leq (.E 66) (.E 67), some ((.E 64), false)⟩,
    ⟨(some (.E 69)), .pick (.E 64) (kb true) (.E 68), none⟩])
  (.cond (.E 69)
   (.seq (.reg [⟨(some (.V 4)), .mv (kb false), none⟩])
   (.ret))
   (.skip)))
  (.reg [⟨(some (.E 70)), .mv (.V 5), none⟩,
    ⟨(some (.E 71)), .bin .add (.E 70) (ki 2), none⟩,
    ⟨(some (.V 5)), .mv (.E 71), none⟩])))))
 (.reg [⟨(some (.E 13)), .mv (.V 6), none⟩,
   ⟨(some (.E 14)), .bin .add (.E 13) (ki 1), none⟩,
   ⟨(some (.V 6)), .mv (.E 14), none⟩]))

def k_spec_l17Shape_ic : IC :=
 .seq (.reg [⟨(some (.V 2)), .box (.V 0), none⟩,
   ⟨(some (.V 4)), .mv (kb false), none⟩])
 (.seq (.reg [⟨(some (.V 5)), .mv (ki 1), none⟩])
 (.seq (.seq (.reg [⟨(some (.V 6)), .mv (ki 0), none⟩])
 (.block 0 (.loop k_spec_l17Shape_b0)))
 (.seq (.reg [⟨(some (.E 72)), .mv (.V 5), none⟩,
   ⟨(some (.E 73)), .faddr 0 (.V 2), none⟩,
   ⟨(some (.E 74)), .load false 1 (.E 73), none⟩,
   ⟨(some (.E 75)), .len (.E 74), none⟩,
   ⟨(some (.E 76)), .bin .eql (.E 72) (.E 75), none⟩,
   ⟨(some (.V 4)), .mv (.E 76), none⟩])
 (.ret))))

def k_spec_l17Shape_rv : List RV := [.tmp [0] 4]

def k_spec_l17Ways_vars : List Nat := [0, 3, 1, 5, 6, 4, 2]

def k_spec_l17Ways_b0 : IC :=
 .seq (.seq (.reg [⟨(some (.E 25)), .mv (.V 5), none⟩,
   ⟨(some (.E 26)), .bin .geq (.E 25) (ki 0), none⟩])
 (.cond (.E 26)
  (.skip)
  (.exit 2)))
 (.seq (.block 3 (.seq (.reg [⟨(some (.E 30)), .faddr 0 (.V 1), none⟩,
    ⟨(some (.E 31)), .load false 1 (.E 30), none⟩,
    ⟨(some (.E 32)), .mv (.V 5), none⟩,
    ⟨(some (.E 33)), .iaddr 5 (.E 31) (.E 32), none⟩,
    ⟨(some (.E 34)), .load true 5 (.E 33), none⟩,
    ⟨(some (.V 6)), .alloc [(.v (.int .i64 0)), (.v (.int .i64 0)), (.v (.int .i64 0)), (.v (.int .i64 0)), (.v (.int .i64 0))], none⟩,
    ⟨none, .store [0, 0, 0, 0, 0] (.V 6) (.E 34), none⟩])
  (.seq (.seq (.regD [(⟨(some (.E 35)), .faddr 0 (.V 6), none⟩, 0, 0),
    (⟨(some (.E 36)), .load false 1 (.E 35), none⟩, 0, 0),
    (⟨(some (.E 37)), .faddr 0 (.V 1), none⟩, 0, 0),
    (⟨(some (.E 38)), .load false 1 (.E 37), none⟩, 0, 0),
    (⟨(some (.E 39)), .mv (.V 3), none⟩, 0, 0),
    (⟨(some (.E 40)), .iaddr 5 (.E 38) (.E 39), none⟩, 0, 0),
    (⟨(some (.E 41)), .faddr 0 (.E 40), none⟩, 0, 0),
    (⟨(some (.E 42)), .load false 1 (.E 41), none⟩, 0, 0),
    (⟨(some (.E 43)), .bin .eql (.E 36) (.E 42), none⟩, 0, 0),
    (⟨(some (.E 44)), .mv (.E 43), none⟩, 0, 0),
    (⟨(some (.E 45)), .faddr 3 (.V 6), some ((.E 44), true)⟩, 0, 0),
    (⟨(some (.E 46)), .load false 1 (.E 45), some ((.E 44), true)⟩, 0, 0),
    (⟨(some (.E 47)), .mv (.V 4), some ((.E 44), true)⟩, 0, 0),
    (⟨(some (.E 48)), .bin .eql (.E 46) (.E 47), some ((.E 44), true)⟩, 0, 0),
    (⟨(some (.E 49)), .mv (.E 48), some ((.E 44), true)⟩, 0, 0),
    (⟨(some (.E 50)), .faddr 1 (.V 6), some ((.E 49), true)⟩, 0, 0),
    (⟨(some (.E 51)), .load false 1 (.E 50), some ((.E 49), true)⟩, 0, 0),
    (⟨(some (.E 52)), .faddr 0 (.V 1), some ((.E 49), true)⟩, 0, 0),
    (⟨(some (.E 53)), .load false 1 (.E 52), some ((.E 49), true)⟩, 0, 0),
    (⟨(some (.E 54)), .mv (.V 3), some ((.E 49), true)⟩, 0, 0),
    (⟨(some (.E 55)), .iaddr 5 (.E 53) (.E 54), some ((.E 49), true)⟩, 0, 0),
    (⟨(some (.E 56)), .faddr 1 (.E 55), some ((.E 49), true)⟩, 0, 0),
    (⟨(some (.E 57)), .load false 1 (.E 56), some ((.E 49), true)⟩, 0, 0),
    (⟨(some (.E 58)), .bin .geq (.E 51) (.E 57), some ((.E 49), true)⟩, 0, 0),
    (⟨(some (.E 59)), .pick (.E 49) (.E 58) (kb false), some ((.E 44), true)⟩, 0, 0),
    (⟨(some (.E 60)), .mv (.E 59), some ((.E 44), true)⟩, 0, 0),
    (⟨(some (.E 61)), .faddr 2 (.V 6), some ((.E 60), false)⟩, 0, 0),
    (⟨(some (.E 62)), .load false 1 (.E 61), some ((.E 60), false)⟩, 0, 0),
    (⟨(some (.E 63)), .mv (.V 4), some ((.E 60), false)⟩, 0, 0),
    (⟨(some (.E 64)), .bin .eql (.E 62) (.E 63), some ((.E 60), false)⟩, 0, 0),
    (⟨(some (.E 65)), .mv (.E 64), some ((.E 60), false)⟩, 0, 0),
    (⟨(some (.E 66)), .faddr 1 (.V 6), some ((.E 65), true)⟩, 0, 0),
    (⟨(some (.E 67)), .load false 1 (.E 66), some ((.E 65), true)⟩, 0, 0),
    (⟨(some (.E 68)), .faddr 0 (.V 1), some ((.E 65), true)⟩, 0, 0),
    (⟨(some (.E 69)), .load false 1 (.E 68), some ((.E 65), true)⟩, 0, 0),
    (⟨(some (.E 70)), .mv (.V 3), some ((.E 65), true)⟩, 0, 0),
    (⟨(some (.E 71)), .iaddr 5 (.E 69) (.E 70), some ((.E 65), true)⟩, 0, 0),
    (⟨(some (.E 72)), .faddr 1 (.E 71), some ((.E 65), true)⟩, 0, 0),
    (⟨(some (.E 73)), .load false 1 (.E 72), some ((.E 65), true)⟩, 0, 0),
    (⟨(some (.E 74)), .bin .leq (.E 67) (.E 73), some ((.E 65), true)⟩, 0, 0),
    (⟨(some (.E 75)), .pick (.E 65) (.E 74) (kb false), some ((.E 60), false)⟩, 0, 0),
    (⟨(some (.E 76)), .pick (.E 60) (kb true) (.E 75), some ((.E 44), true)⟩, 0, 0),
    (⟨(some (.E 77)), .pick (.E 44) (.E 76) (kb false), none⟩, 0, 0)])
  (.cond (.E 77)
   (.seq (.reg [⟨(some (.V 2)), .mv (kb false), none⟩])
   (.ret))
   (.skip)))
  (.reg [⟨(some (.E 78)), .mv (.V 5), none⟩,
    ⟨(some (.V 4)), .mv (.E 78), none⟩]))))
 (.reg [⟨(some (.E 27)), .load true 1 (.V 1), none⟩,
   ⟨(some (.E 28)), .mv (.V 5), none⟩,
   ⟨(some (.E 29)), .call k_spec_l17Up [([5], (.E 27)), ([0], (.E 28))], none⟩,
   ⟨(some (.V 5)), .mv (.E 29), none⟩]))

def k_spec_l17Ways_b1 : IC :=
 .seq (.seq (.reg [⟨(some (.E 7)), .mv (.V 3), none⟩,
   ⟨(some (.E 8)), .faddr 0 (.V 1), none⟩,
   ⟨(some (.E 9)), .load false 1 (.E 8), none⟩,
   ⟨(some (.E 10)), .len (.E 9), none⟩,
   ⟨(some (.E 11)), .bin .lss (.E 7) (.E 10), none⟩])
 (.cond (.E 11)
  (.skip)
  (.exit 0)))
 (.seq (.block 1 (.seq (.seq (.reg [⟨(some (.E 14)), .faddr 0 (.V 1), none⟩,
    ⟨(some (.E 15)), .load false 1 (.E 14), none⟩,
    ⟨(some (.E 16)), .mv (.V 3), none⟩,
    ⟨(some (.E 17)), .iaddr 5 (.E 15) (.E 16), none⟩,
    ⟨(some (.E 18)), .load true 5 (.E 17), none⟩,
    ⟨(some (.E 19)), .call k_spec_l17Inner [([0, 0, 0, 0, 0], (.E 18))], none⟩,
    ⟨(some (.E 20)), .un .not (.E 19), none⟩])
  (.cond (.E 20)
   (.exit 1)
   (.skip)))
  (.seq (.reg [⟨(some (.E 21)), .mv (.V 3), none⟩,
    ⟨(some (.V 4)), .mv (.E 21), none⟩])
  (.seq (.reg [⟨(some (.E 22)), .load true 1 (.V 1), none⟩,
    ⟨(some (.E 23)), .mv (.V 3), none⟩,
    ⟨(some (.E 24)), .call k_spec_l17Up [([5], (.E 22)), ([0], (.E 23))], none⟩,
    ⟨(some (.V 5)), .mv (.E 24), none⟩])
  (.block 2 (.loop k_spec_l17Ways_b0))))))
 (.reg [⟨(some (.E 12)), .mv (.V 3), none⟩,
   ⟨(some (.E 13)), .bin .add (.E 12) (ki 1), none⟩,
   ⟨(some (.V 3)), .mv (.E 13), none⟩]))

def k_spec_l17Ways_ic : IC :=
 .seq (.reg [⟨(some (.V 1)), .box (.V 0), none⟩,
   ⟨(some (.V 2)), .mv (kb false), none⟩])
 (.seq (.seq (.reg [⟨(some (.V 3)), .mv (ki 0), none⟩])
 (.block 0 (.loop k_spec_l17Ways_b1)))
 (.seq (.reg [⟨(some (.V 2)), .mv (kb true), none⟩])
 (.ret)))

def k_spec_l17Ways_rv : List RV := [.tmp [0] 2]

def k_spec_l1Below_vars : List Nat := [0, 1, 5, 6, 7, 8, 4]

def k_spec_l1Below_ic : IC :=
 .seq (.reg [⟨(some (.V 4)), .mv (ki 0), none⟩])
 (.seq (.seq (.reg [⟨(some (.E 9)), .mv (.V 1), none⟩,
   ⟨(some (.E 10)), .bin .leq (.E 9) (ki 0), none⟩])
 (.cond (.E 10)
  (.seq (.reg [⟨(some (.V 4)), .mv (ki 0), none⟩])
  (.ret))
  (.skip)))
 (.seq (.seq (.reg [⟨(some (.E 11)), .mv (.V 1), none⟩,
   ⟨(some (.E 12)), .bin .leq (.E 11) (ki 256), none⟩])
 (.cond (.E 12)
  (.seq (.reg [⟨(some (.E 13)), .mv (.V 0), none⟩,
    ⟨(some (.E 14)), .call k_spec_l1Byte [([0], (.E 13))], none⟩,
    ⟨(some (.E 15)), .mv (.V 1), none⟩,
    ⟨(some (.E 16)), .bin .rem (.E 14) (.E 15), none⟩,
    ⟨(some (.V 4)), .mv (.E 16), none⟩])
  (.ret))
  (.skip)))
 (.seq (.reg [⟨(some (.E 17)), .mv (.V 0), none⟩,
   ⟨(some (.E 18)), .call k_spec_l1Byte [([0], (.E 17))], none⟩,
   ⟨(some (.V 5)), .mv (.E 18), none⟩])
 (.seq (.reg [⟨(some (.E 19)), .mv (.V 0), none⟩,
   ⟨(some (.E 20)), .call k_spec_l1Byte [([0], (.E 19))], none⟩,
   ⟨(some (.V 6)), .mv (.E 20), none⟩])
 (.seq (.reg [⟨(some (.E 21)), .mv (.V 0), none⟩,
   ⟨(some (.E 22)), .call k_spec_l1Byte [([0], (.E 21))], none⟩,
   ⟨(some (.V 7)), .mv (.E 22), none⟩])
 (.seq (.reg [⟨(some (.E 23)), .mv (.V 0), none⟩,
   ⟨(some (.E 24)), .call k_spec_l1Byte [([0], (.E 23))], none⟩,
   ⟨(some (.V 8)), .mv (.E 24), none⟩])
 (.seq (.reg [⟨(some (.E 25)), .mv (.V 5), none⟩,
   ⟨(some (.E 26)), .bin .mul (.E 25) (ki 16777216), none⟩,
   ⟨(some (.E 27)), .mv (.V 6), none⟩,
   ⟨(some (.E 28)), .bin .mul (.E 27) (ki 65536), none⟩,
   ⟨(some (.E 29)), .bin .add (.E 26) (.E 28), none⟩,
   ⟨(some (.E 30)), .mv (.V 7), none⟩,
   ⟨(some (.E 31)), .bin .mul (.E 30) (ki 256), none⟩,
   ⟨(some (.E 32)), .bin .add (.E 29) (.E 31), none⟩,
   ⟨(some (.E 33)), .mv (.V 8), none⟩,
   ⟨(some (.E 34)), .bin .add (.E 32) (.E 33), none⟩,
   ⟨(some (.E 35)), .mv (.V 1), none⟩,
   ⟨(some (.E 36)), .bin .rem (.E 34) (.E 35), none⟩,
   ⟨(some (.V 4)), .mv (.E 36), none⟩])
 (.ret))))))))

def k_spec_l1Below_rv : List RV := [.tmp [0] 4]

def k_spec_l18Row_vars : List Nat := [0, 1, 6, 5, 4]

def k_spec_l18Row_b0 : IC :=
 .seq (.seq (.reg [⟨(some (.E 8)), .mv (.V 6), none⟩,
   ⟨(some (.E 9)), .mv (.V 1), none⟩,
   ⟨(some (.E 10)), .bin .lss (.E 8) (.E 9), none⟩])
 (.cond (.E 10)
  (.skip)
  (.exit 0)))
 (.seq (.block 1 (.seq (.reg [⟨(some (.E 13)), .mv (.V 0), none⟩,
    ⟨(some (.E 14)), .call k_spec_l1Once [([0], (.E 13)), ([0], (ki 12))], none⟩])
  (.cond (.E 14)
   (.reg [⟨(some (.E 15)), .mv (.V 5), none⟩,
     ⟨(some (.E 16)), .mv (.V 0), none⟩,
     ⟨(some (.E 17)), .call k_spec_l1Whole [([0], (.E 16))], none⟩,
     ⟨(some (.E 18)), .bslice 1 1 [(.v (.int .i64 0))] [(0, (.E 17))], none⟩,
     ⟨(some (.E 19)), .app 8 1 (.E 15) (.E 18), none⟩,
     ⟨(some (.V 5)), .mv (.E 19), none⟩])
   (.reg [⟨(some (.E 20)), .mv (.V 5), none⟩,
     ⟨(some (.E 21)), .mv (.V 0), none⟩,
     ⟨(some (.E 22)), .call k_spec_l1Below [([0], (.E 21)), ([0], (ki 11))], none⟩,
     ⟨(some (.E 23)), .bin .sub (.E 22) (ki 5), none⟩,
     ⟨(some (.E 24)), .bin .mul (ki 500) (.E 23), none⟩,
     ⟨(some (.E 25)), .mv (.V 0), none⟩,
     ⟨(some (.E 26)), .call k_spec_l1Below [([0], (.E 25)), ([0], (ki 2))], none⟩,
     ⟨(some (.E 27)), .bin .add (.E 24) (.E 26), none⟩,
     ⟨(some (.E 28)), .bslice 1 1 [(.v (.int .i64 0))] [(0, (.E 27))], none⟩,
     ⟨(some (.E 29)), .app 8 1 (.E 20) (.E 28), none⟩,
     ⟨(some (.V 5)), .mv (.E 29), none⟩]))))
 (.reg [⟨(some (.E 11)), .mv (.V 6), none⟩,
   ⟨(some (.E 12)), .bin .add (.E 11) (ki 1), none⟩,
   ⟨(some (.V 6)), .mv (.E 12), none⟩]))

def k_spec_l18Row_ic : IC :=
 .seq (.reg [⟨(some (.V 4)), .mv (.C .e0), none⟩])
 (.seq (.reg [⟨(some (.E 7)), .bslice 0 1 [(.v (.int .i64 0))] [], none⟩,
   ⟨(some (.V 5)), .mv (.E 7), none⟩])
 (.seq (.seq (.reg [⟨(some (.V 6)), .mv (ki 0), none⟩])
 (.block 0 (.loop k_spec_l18Row_b0)))
 (.seq (.reg [⟨(some (.E 30)), .mv (.V 5), none⟩,
   ⟨(some (.V 4)), .mv (.E 30), none⟩])
 (.ret))))

def k_spec_l18Row_rv : List RV := [.tmp [1] 4]

def k_impl_route_vars : List Nat := [0, 1, 2, 13, 12, 6, 5, 7, 4]

def k_impl_route_b0 : IC :=
 .seq (.reg [⟨(some (.E 14)), .bin .lss (.V 13) (.V 12), none⟩])
 (.seq (.cond (.E 14)
  (.skip)
  (.exit 0))
 (.seq (.block 1 (.seq (.seq (.reg [⟨(some (.E 15)), .mv (.V 6), none⟩,
    ⟨(some (.E 16)), .faddr 0 (.V 2), none⟩,
    ⟨(some (.E 17)), .load false 1 (.E 16), none⟩,
    ⟨(some (.E 18)), .len (.E 17), none⟩,
    ⟨(some (.E 19)), .bin .sub (.E 18) (ki 1), none⟩,
    ⟨(some (.E 20)), .call k_impl_within [([0], (.E 15)), ([0], (ki 0)), ([0], (.E 19))], none⟩,
    ⟨(some (.E 21)), .un .not (.E 20), none⟩])
  (.cond (.E 21)
   (.seq (.reg [⟨(some (.V 4)), .mv (.C .e0), none⟩])
   (.ret))
   (.skip)))
  (.seq (.reg [⟨(some (.E 22)), .faddr 0 (.V 2), none⟩,
    ⟨(some (.E 23)), .load false 1 (.E 22), none⟩,
    ⟨(some (.E 24)), .mv (.V 6), none⟩,
    ⟨(some (.E 25)), .iaddr 5 (.E 23) (.E 24), none⟩,
    ⟨(some (.E 26)), .load true 5 (.E 25), none⟩,
    ⟨(some (.V 7)), .alloc [(.v (.int .i64 0)), (.v (.int .i64 0)), (.v (.int .i64 0)), (.v (.int .i64 0)), (.v (.int .i64 0))], none⟩,
    ⟨none, .store [0, 0, 0, 0, 0] (.V 7) (.E 26), none⟩])
  (.seq (.reg [⟨(some (.E 27)), .mv (.V 5), none⟩,
    ⟨(some (.E 28)), .mv (.V 6), none⟩,
    ⟨(some (.E 29)), .bslice 1 1 [(.v (.int .i64 0))] [(0, (.E 28))], none⟩,
    ⟨(some (.E 30)), .app 8 1 (.E 27) (.E 29), none⟩,
    ⟨(some (.V 5)), .mv (.E 30), none⟩])
  (.block 2 (.seq (.reg [⟨(some (.E 34)), .load true 5 (.V 7), none⟩,
     ⟨(some (.E 35)), .call k_impl_isLeaf [([0, 0, 0, 0, 0], (.E 34))], none⟩,
     ⟨(some (.E 33)), .mv (.E 35), none⟩])
   (.cond (.E 33)
    (.seq (.reg [⟨(some (.E 36)), .mv (.V 5), none⟩,
      ⟨(some (.V 4)), .mv (.E 36), none⟩])
    (.ret))
    (.seq (.reg [⟨(some (.E 38)), .faddr 0 (.V 7), none⟩,
      ⟨(some (.E 39)), .load false 1 (.E 38), none⟩,
      ⟨(some (.E 40)), .mv (.V 1), none⟩,
      ⟨(some (.E 41)), .len (.E 40), none⟩,
      ⟨(some (.E 42)), .bin .sub (.E 41) (ki 1), none⟩,
      ⟨(some (.E 43)), .call k_impl_within [([0], (.E 39)), ([0], (ki 0)), ([0], (.E 42))], none⟩,
      ⟨(some (.E 44)), .un .not (.E 43), none⟩,
      ⟨(some (.E 37)), .mv (.E 44), none⟩])
    (.cond (.E 37)
     (.seq (.reg [⟨(some (.V 4)), .mv (.C .e0), none⟩])
     (.ret))
     (.seq (.regD [(⟨(some (.E 46)), .mv (.V 1), none⟩, 0, 0),
       (⟨(some (.E 47)), .faddr 0 (.V 7), none⟩, 0, 0),
       (⟨(some (.E 48)), .load false 1 (.E 47), none⟩, 0, 0),
       (⟨(some (.E 49)), .iaddr 1 (.E 46) (.E 48), none⟩, 0, 0),
       (⟨(some (.E 50)), .load false 1 (.E 49), none⟩, 0, 0),
       (⟨(some (.E 51)), .faddr 1 (.V 7), none⟩, 0, 0),
       (⟨(some (.E 52)), .load false 1 (.E 51), none⟩, 0, 0),
       (⟨(some (.E 53)), .bin .leq (.E 50) (.E 52), none⟩, 0, 0),
       (⟨(some (.E 45)), .mv (.E 53), none⟩, 0, 0)])
     (.cond (.E 45)
      (.reg [⟨(some (.E 54)), .faddr 2 (.V 7), none⟩,
        ⟨(some (.E 55)), .load false 1 (.E 54), none⟩,
        ⟨(some (.V 6)), .mv (.E 55), none⟩])
      (.reg [⟨(some (.E 31)), .faddr 3 (.V 7), none⟩,
        ⟨(some (.E 32)), .load false 1 (.E 31), none⟩,
        ⟨(some (.V 6)), .mv (.E 32), none⟩]))))))))))))
 (.reg [⟨(some (.E 56)), .bin .add (.V 13) (ki 1), none⟩,
   ⟨(some (.V 13)), .mv (.E 56), none⟩])))

def k_impl_route_ic : IC :=
 .seq (.reg [⟨(some (.V 2)), .box (.V 0), none⟩,
   ⟨(some (.V 4)), .mv (.C .e0), none⟩])
 (.seq (.reg [⟨(some (.E 8)), .bslice 0 1 [(.v (.int .i64 0))] [], none⟩,
   ⟨(some (.V 5)), .mv (.E 8), none⟩,
   ⟨(some (.V 6)), .mv (ki 0), none⟩])
 (.seq (.seq (.reg [⟨(some (.E 9)), .faddr 0 (.V 2), none⟩,
   ⟨(some (.E 10)), .load false 1 (.E 9), none⟩,
   ⟨(some (.E 11)), .len (.E 10), none⟩,
   ⟨(some (.V 12)), .bin .add (.E 11) (ki 1), none⟩,
   ⟨(some (.V 13)), .mv (ki 0), none⟩])
 (.block 0 (.loop k_impl_route_b0)))
 (.seq (.reg [⟨(some (.V 4)), .mv (.C .e0), none⟩])
 (.ret))))

def k_impl_route_rv : List RV := [.tmp [1] 4]

def k_spec_l18Way_vars : List Nat := [0, 1, 7, 2, 6, 5, 8, 4]

def k_spec_l18Way_b0 : IC :=
 .seq (.seq (.reg [⟨(some (.E 10)), .mv (.V 7), none⟩,
   ⟨(some (.E 11)), .faddr 0 (.V 2), none⟩,
   ⟨(some (.E 12)), .load false 1 (.E 11), none⟩,
   ⟨(some (.E 13)), .len (.E 12), none⟩,
   ⟨(some (.E 14)), .bin .leq (.E 10) (.E 13), none⟩])
 (.cond (.E 14)
  (.skip)
  (.exit 0)))
 (.seq (.block 1 (.seq (.seq (.reg [⟨(some (.E 17)), .mv (.V 6), none⟩,
    ⟨(some (.E 18)), .faddr 0 (.V 2), none⟩,
    ⟨(some (.E 19)), .load false 1 (.E 18), none⟩,
    ⟨(some (.E 20)), .len (.E 19), none⟩,
    ⟨(some (.E 21)), .bin .sub (.E 20) (ki 1), none⟩,
    ⟨(some (.E 22)), .call k_spec_l1In [([0], (.E 17)), ([0], (ki 0)), ([0], (.E 21))], none⟩,
    ⟨(some (.E 23)), .un .not (.E 22), none⟩])
  (.cond (.E 23)
   (.seq (.reg [⟨(some (.E 24)), .bslice 0 1 [(.v (.int .i64 0))] [], none⟩,
     ⟨(some (.V 4)), .mv (.E 24), none⟩])
   (.ret))
   (.skip)))
  (.seq (.reg [⟨(some (.E 25)), .faddr 0 (.V 2), none⟩,
    ⟨(some (.E 26)), .load false 1 (.E 25), none⟩,
    ⟨(some (.E 27)), .mv (.V 6), none⟩,
    ⟨(some (.E 28)), .iaddr 5 (.E 26) (.E 27), none⟩,
    ⟨(some (.E 29)), .load true 5 (.E 28), none⟩,
    ⟨(some (.V 8)), .alloc [(.v (.int .i64 0)), (.v (.int .i64 0)), (.v (.int .i64 0)), (.v (.int .i64 0)), (.v (.int .i64 0))], none⟩,
    ⟨none, .store [0, 0, 0, 0, 0] (.V 8) (.E 29), none⟩])
  (.seq (.reg [⟨(some (.E 30)), .mv (.V 5), none⟩,
    ⟨(some (.E 31)), .mv (.V 6), none⟩,
    ⟨(some (.E 32)), .bslice 1 1 [(.v (.int .i64 0))] [(0, (.E 31))], none⟩,
    ⟨(some (.E 33)), .app 8 1 (.E 30) (.E 32), none⟩,
    ⟨(some (.V 5)), .mv (.E 33), none⟩])
  (.seq (.seq (.reg [⟨(some (.E 34)), .load true 5 (.V 8), none⟩,
    ⟨(some (.E 35)), .call k_spec_l17Inner [([0, 0, 0, 0, 0], (.E 34))], none⟩,
    ⟨(some (.E 36)), .un .not (.E 35), none⟩])
  (.cond (.E 36)
   (.seq (.reg [⟨(some (.E 37)), .mv (.V 5), none⟩,
     ⟨(some (.V 4)), .mv (.E 37), none⟩])
   (.ret))
   (.skip)))
  (.seq (.seq (.reg [⟨(some (.E 38)), .faddr 0 (.V 8), none⟩,
    ⟨(some (.E 39)), .load false 1 (.E 38), none⟩,
    ⟨(some (.E 40)), .mv (.V 1), none⟩,
    ⟨(some (.E 41)), .len (.E 40), none⟩,
    ⟨(some (.E 42)), .bin .sub (.E 41) (ki 1), none⟩,
    ⟨(some (.E 43)), .call k_spec_l1In [([0], (.E 39)), ([0], (ki 0)), ([0], (.E 42))], none⟩,
    ⟨(some (.E 44)), .un .not (.E 43), none⟩])
  (.cond (.E 44)
   (.seq (.reg [⟨(some (.E 45)), .bslice 0 1 [(.v (.int .i64 0))] [], none⟩,
     ⟨(some (.V 4)), .mv (.E 45), none⟩])
   (.ret))
   (.skip)))
  (.seq (.regD [(⟨(some (.E 46)), .mv (.V 1), none⟩, 0, 0),
    (⟨(some (.E 47)), .faddr 0 (.V 8), none⟩, 0, 0),
    (⟨(some (.E 48)), .load false 1 (.E 47), none⟩, 0, 0),
    (⟨(some (.E 49)), .iaddr 1 (.E 46) (.E 48), none⟩, 0, 0),
    (⟨(some (.E 50)), .load false 1 (.E 49), none⟩, 0, 0),
    (⟨(some (.E 51)), .faddr 1 (.V 8), none⟩, 0, 0),
    (⟨(some (.E 52)), .load false 1 (.E 51), none⟩, 0, 0),
    (⟨(some (.E 53)), .bin .leq (.E 50) (.E 52), none⟩, 0, 0)])
  (.cond (.E 53)
   (.reg [⟨(some (.E 54)), .faddr 2 (.V 8), none⟩,
     ⟨(some (.E 55)), .load false 1 (.E 54), none⟩,
     ⟨(some (.V 6)), .mv (.E 55), none⟩])
   (.reg [⟨(some (.E 56)), .faddr 3 (.V 8), none⟩,
     ⟨(some (.E 57)), .load false 1 (.E 56), none⟩,
     ⟨(some (.V 6)), .mv (.E 57), none⟩])))))))))
 (.reg [⟨(some (.E 15)), .mv (.V 7), none⟩,
   ⟨(some (.E 16)), .bin .add (.E 15) (ki 1), none⟩,
   ⟨(some (.V 7)), .mv (.E 16), none⟩]))

def k_spec_l18Way_ic : IC :=
 .seq (.reg [⟨(some (.V 2)), .box (.V 0), none⟩,
   ⟨(some (.V 4)), .mv (.C .e0), none⟩])
 (.seq (.reg [⟨(some (.E 9)), .bslice 0 1 [(.v (.int .i64 0))] [], none⟩,
   ⟨(some (.V 5)), .mv (.E 9), none⟩])
 (.seq (.reg [⟨(some (.V 6)), .mv (ki 0), none⟩])
 (.seq (.seq (.reg [⟨(some (.V 7)), .mv (ki 0), none⟩])
 (.block 0 (.loop k_spec_l18Way_b0)))
 (.seq (.reg [⟨(some (.E 58)), .bslice 0 1 [(.v (.int .i64 0))] [], none⟩,
   ⟨(some (.V 4)), .mv (.E 58), none⟩])
 (.ret)))))

def k_spec_l18Way_rv : List RV := [.tmp [1] 4]

def k_spec_l17Inner_vars : List Nat := [0, 1, 2]

def k_spec_l17Inner_ic : IC :=
 .seq (.reg [⟨(some (.V 1)), .box (.V 0), none⟩,
   ⟨(some (.V 2)), .mv (kb false), none⟩])
 (.seq (.reg [⟨(some (.E 3)), .faddr 0 (.V 1), none⟩,
   ⟨(some (.E 4)), .load false 1 (.E 3), none⟩,
   ⟨(some (.E 5)), .bin .neq (.E 4) (ki (-1)), none⟩,
   ⟨(some (.V 2)), .mv (.E 5), none⟩])
 (.ret))

def k_spec_l17Inner_rv : List RV := [.tmp [0] 2]

def k_spec_l1Min_vars : List Nat := [0, 1, 4]

def k_spec_l1Min_ic : IC :=
 .seq (.reg [⟨(some (.V 4)), .mv (ki 0), none⟩])
 (.seq (.seq (.reg [⟨(some (.E 5)), .mv (.V 0), none⟩,
   ⟨(some (.E 6)), .mv (.V 1), none⟩,
   ⟨(some (.E 7)), .bin .lss (.E 5) (.E 6), none⟩])
 (.cond (.E 7)
  (.seq (.reg [⟨(some (.E 8)), .mv (.V 0), none⟩,
    ⟨(some (.V 4)), .mv (.E 8), none⟩])
  (.ret))
  (.skip)))
 (.seq (.reg [⟨(some (.E 9)), .mv (.V 1), none⟩,
   ⟨(some (.V 4)), .mv (.E 9), none⟩])
 (.ret)))

def k_spec_l1Min_rv : List RV := [.tmp [0] 4]

def k_laws_times_vars : List Nat := [0, 1, 6, 5, 4]

def k_laws_times_b0 : IC :=
 .seq (.seq (.reg [⟨(some (.E 7)), .mv (.V 6), none⟩,
   ⟨(some (.E 8)), .mv (.V 0), none⟩,
   ⟨(some (.E 9)), .len (.E 8), none⟩,
   ⟨(some (.E 10)), .bin .lss (.E 7) (.E 9), none⟩])
 (.cond (.E 10)
  (.skip)
  (.exit 0)))
 (.seq (.block 1 (.seq (.reg [⟨(some (.E 13)), .mv (.V 0), none⟩,
    ⟨(some (.E 14)), .mv (.V 6), none⟩,
    ⟨(some (.E 15)), .iaddr 1 (.E 13) (.E 14), none⟩,
    ⟨(some (.E 16)), .load false 1 (.E 15), none⟩,
    ⟨(some (.E 17)), .mv (.V 1), none⟩,
    ⟨(some (.E 18)), .bin .eql (.E 16) (.E 17), none⟩])
  (.cond (.E 18)
   (.reg [⟨(some (.E 19)), .mv (.V 5), none⟩,
     ⟨(some (.E 20)), .bin .add (.E 19) (ki 1), none⟩,
     ⟨(some (.V 5)), .mv (.E 20), none⟩])
   (.skip))))
 (.reg [⟨(some (.E 11)), .mv (.V 6), none⟩,
   ⟨(some (.E 12)), .bin .add (.E 11) (ki 1), none⟩,
   ⟨(some (.V 6)), .mv (.E 12), none⟩]))

def k_laws_times_ic : IC :=
 .seq (.reg [⟨(some (.V 4)), .mv (ki 0), none⟩])
 (.seq (.reg [⟨(some (.V 5)), .mv (ki 0), none⟩])
 (.seq (.seq (.reg [⟨(some (.V 6)), .mv (ki 0), none⟩])
 (.block 0 (.loop k_laws_times_b0)))
 (.seq (.reg [⟨(some (.E 21)), .mv (.V 5), none⟩,
   ⟨(some (.V 4)), .mv (.E 21), none⟩])
 (.ret))))

def k_laws_times_rv : List RV := [.tmp [0] 4]

def k_spec_l1Byte_vars : List Nat := [0, 3, 2]

def k_spec_l1Byte_ic : IC :=
 .seq (.reg [⟨(some (.V 2)), .mv (ki 0), none⟩])
 (.seq (.reg [⟨(some (.E 4)), .mv (.V 0), none⟩,
   ⟨(some (.E 5)), .mv (.V 0), none⟩,
   ⟨(some (.E 6)), .nilc (.E 5), none⟩,
   ⟨(some (.E 7)), .faddr 2 (.E 6), none⟩,
   ⟨(some (.E 8)), .load false 1 (.E 7), none⟩,
   ⟨(some (.E 9)), .bin .mul (.E 8) (ki 6364136223846793005), none⟩,
   ⟨(some (.E 10)), .bin .add (.E 9) (ki 1442695040888963407), none⟩,
   ⟨(some (.E 11)), .nilc (.E 4), none⟩,
   ⟨(some (.E 12)), .faddr 2 (.E 11), none⟩,
   ⟨none, .store [0] (.E 12) (.E 10), none⟩])
 (.seq (.regD [(⟨(some (.E 13)), .mv (.V 0), none⟩, 0, 0),
   (⟨(some (.E 14)), .nilc (.E 13), none⟩, 0, 0),
   (⟨(some (.E 15)), .faddr 2 (.E 14), none⟩, 0, 0),
   (⟨(some (.E 16)), .load false 1 (.E 15), none⟩, 0, 0),
   (⟨(some (.E 17)), .bin .shr (.E 16) (.C (.v (.int .u64 33))), none⟩, 0, 0),
   (⟨(some (.E 18)), .mv (.V 0), none⟩, 0, 0),
   (⟨(some (.E 19)), .nilc (.E 18), none⟩, 0, 0),
   (⟨(some (.E 20)), .faddr 2 (.E 19), none⟩, 0, 0),
   (⟨(some (.E 21)), .load false 1 (.E 20), none⟩, 0, 0),
   (⟨(some (.E 22)), .bin .shr (.E 21) (.C (.v (.int .u64 45))), none⟩, 0, 0),
   (⟨(some (.E 23)), .bin .xor (.E 17) (.E 22), none⟩, 0, 0),
   (⟨(some (.E 24)), .bin .and (.E 23) (ki 255), none⟩, 0, 0),
   (⟨(some (.V 3)), .mv (.E 24), none⟩, 0, 0)])
 (.seq (.seq (.regD [(⟨(some (.E 25)), .mv (.V 0), none⟩, 0, 0),
   (⟨(some (.E 26)), .nilc (.E 25), none⟩, 0, 0),
   (⟨(some (.E 27)), .faddr 1 (.E 26), none⟩, 0, 0),
   (⟨(some (.E 28)), .load false 1 (.E 27), none⟩, 0, 0),
   (⟨(some (.E 29)), .mv (.V 0), none⟩, 0, 0),
   (⟨(some (.E 30)), .nilc (.E 29), none⟩, 0, 0),
   (⟨(some (.E 31)), .faddr 0 (.E 30), none⟩, 0, 0),
   (⟨(some (.E 32)), .load false 1 (.E 31), none⟩, 0, 0),
   (⟨(some (.E 33)), .len (.E 32), none⟩, 0, 0),
   (⟨(some (.E 34)), .bin .lss (.E 28) (.E 33), none⟩, 0, 0)])
 (.cond (.E 34)
  (.seq (.regD [(⟨(some (.E 35)), .mv (.V 3), none⟩, 0, 0),
    (⟨(some (.E 36)), .mv (.V 0), none⟩, 0, 0),
    (⟨(some (.E 37)), .nilc (.E 36), none⟩, 0, 0),
    (⟨(some (.E 38)), .faddr 0 (.E 37), none⟩, 0, 0),
    (⟨(some (.E 39)), .load false 1 (.E 38), none⟩, 0, 0),
    (⟨(some (.E 40)), .mv (.V 0), none⟩, 0, 0),
    (⟨(some (.E 41)), .nilc (.E 40), none⟩, 0, 0),
    (⟨(some (.E 42)), .faddr 1 (.E 41), none⟩, 0, 0),
    (⟨(some (.E 43)), .load false 1 (.E 42), none⟩, 0, 0),
    (⟨(some (.E 44)), .iaddr 1 (.E 39) (.E 43), none⟩, 0, 0),
    (⟨(some (.E 45)), .load false 1 (.E 44), none⟩, 0, 0),
    (⟨(some (.E 46)), .convI .i64 (.E 45), none⟩, 0, 0),
    (⟨(some (.E 47)), .bin .add (.E 35) (.E 46), none⟩, 0, 0),
    (⟨(some (.E 48)), .bin .and (.E 47) (ki 255), none⟩, 0, 0),
    (⟨(some (.V 3)), .mv (.E 48), none⟩, 0, 0)])
  (.reg [⟨(some (.E 49)), .mv (.V 0), none⟩,
    ⟨(some (.E 50)), .mv (.V 0), none⟩,
    ⟨(some (.E 51)), .nilc (.E 50), none⟩,
    ⟨(some (.E 52)), .faddr 1 (.E 51), none⟩,
    ⟨(some (.E 53)), .load false 1 (.E 52), none⟩,
    ⟨(some (.E 54)), .bin .add (.E 53) (ki 1), none⟩,
    ⟨(some (.E 55)), .nilc (.E 49), none⟩,
    ⟨(some (.E 56)), .faddr 1 (.E 55), none⟩,
    ⟨none, .store [0] (.E 56) (.E 54), none⟩]))
  (.skip)))
 (.seq (.reg [⟨(some (.E 57)), .mv (.V 3), none⟩,
   ⟨(some (.V 2)), .mv (.E 57), none⟩])
 (.ret)))))

def k_spec_l1Byte_rv : List RV := [.tmp [0] 2]

def k_impl_parent_vars : List Nat := [0, 1, 2, 3, 4]

def k_impl_parent_ic : IC :=
 .seq (.reg [⟨(some (.V 2)), .box (.V 0), none⟩,
   ⟨(some (.V 3)), .box (.V 1), none⟩,
   ⟨(some (.V 4)), .mv (ki 0), none⟩])
 (.seq (.reg [⟨(some (.E 5)), .faddr 0 (.V 2), none⟩,
   ⟨(some (.E 6)), .load false 1 (.E 5), none⟩,
   ⟨(some (.E 7)), .mkfn k_impl_parent_1 [(.V 3)], none⟩,
   ⟨(some (.E 8)), .call k_slices_IndexFunc___impl_Node_impl_Node_ [([5], (.E 6)), ([0], (.E 7))], none⟩,
   ⟨(some (.V 4)), .mv (.E 8), none⟩])
 (.ret))

def k_impl_parent_rv : List RV := [.tmp [0] 4]

def k_slices_Reverse___int_int__vars : List Nat := [0, 2, 3]

def k_slices_Reverse___int_int__b0 : IC :=
 .seq (.seq (.reg [⟨(some (.E 7)), .mv (.V 2), none⟩,
   ⟨(some (.E 8)), .mv (.V 3), none⟩,
   ⟨(some (.E 9)), .bin .lss (.E 7) (.E 8), none⟩])
 (.cond (.E 9)
  (.skip)
  (.exit 0)))
 (.seq (.block 1 (.regD [(⟨(some (.E 14)), .mv (.V 0), none⟩, 0, 0),
    (⟨(some (.E 15)), .mv (.V 2), none⟩, 0, 0),
    (⟨(some (.E 16)), .mv (.V 0), none⟩, 0, 0),
    (⟨(some (.E 17)), .mv (.V 3), none⟩, 0, 0),
    (⟨(some (.E 18)), .mv (.V 0), none⟩, 0, 0),
    (⟨(some (.E 19)), .mv (.V 3), none⟩, 0, 0),
    (⟨(some (.E 20)), .iaddr 1 (.E 18) (.E 19), none⟩, 0, 0),
    (⟨(some (.E 21)), .load false 1 (.E 20), none⟩, 0, 0),
    (⟨(some (.E 22)), .mv (.V 0), none⟩, 0, 0),
    (⟨(some (.E 23)), .mv (.V 2), none⟩, 0, 0),
    (⟨(some (.E 24)), .iaddr 1 (.E 22) (.E 23), none⟩, 0, 0),
    (⟨(some (.E 25)), .load false 1 (.E 24), none⟩, 0, 0),
    (⟨(some (.E 26)), .iaddr 1 (.E 14) (.E 15), none⟩, 0, 0),
    (⟨none, .store [0] (.E 26) (.E 21), none⟩, 0, 0),
    (⟨(some (.E 27)), .iaddr 1 (.E 16) (.E 17), none⟩, 0, 0),
    (⟨none, .store [0] (.E 27) (.E 25), none⟩, 0, 0)]))
 (.reg [⟨(some (.E 10)), .mv (.V 2), none⟩,
   ⟨(some (.E 11)), .bin .add (.E 10) (ki 1), none⟩,
   ⟨(some (.E 12)), .mv (.V 3), none⟩,
   ⟨(some (.E 13)), .bin .sub (.E 12) (ki 1), none⟩,
   ⟨(some (.V 2)), .mv (.E 11), none⟩,
   ⟨(some (.V 3)), .mv (.E 13), none⟩]))

def k_slices_Reverse___int_int__ic : IC :=
 .seq (.reg [⟨(some (.E 4)), .mv (.V 0), none⟩,
   ⟨(some (.E 5)), .len (.E 4), none⟩,
   ⟨(some (.E 6)), .bin .sub (.E 5) (ki 1), none⟩,
   ⟨(some (.V 2)), .mv (ki 0), none⟩,
   ⟨(some (.V 3)), .mv (.E 6), none⟩])
 (.block 0 (.loop k_slices_Reverse___int_int__b0))

def k_slices_Reverse___int_int__rv : List RV := []

def k_spec_l17Right_vars : List Nat := [0, 1, 7, 6, 5, 8, 9, 10, 4]

def k_spec_l17Right_b0 : IC :=
 .seq (.seq (.reg [⟨(some (.E 18)), .mv (.V 7), none⟩,
   ⟨(some (.E 19)), .mv (.V 6), none⟩,
   ⟨(some (.E 20)), .bin .lss (.E 18) (.E 19), none⟩])
 (.cond (.E 20)
  (.skip)
  (.exit 0)))
 (.seq (.block 1 (.seq (.reg [⟨(some (.E 23)), .load true 1 (.V 5), none⟩,
    ⟨(some (.E 24)), .call k_spec_LeavesOf [([5], (.E 23))], none⟩,
    ⟨(some (.V 8)), .mv (.E 24), none⟩])
  (.seq (.reg [⟨(some (.E 25)), .mv (.V 8), none⟩,
    ⟨(some (.E 26)), .mv (.V 0), none⟩,
    ⟨(some (.E 27)), .mv (.V 8), none⟩,
    ⟨(some (.E 28)), .len (.E 27), none⟩,
    ⟨(some (.E 29)), .call k_spec_l1Below [([0], (.E 26)), ([0], (.E 28))], none⟩,
    ⟨(some (.E 30)), .iaddr 1 (.E 25) (.E 29), none⟩,
    ⟨(some (.E 31)), .load false 1 (.E 30), none⟩,
    ⟨(some (.V 9)), .mv (.E 31), none⟩])
  (.seq (.regD [(⟨(some (.E 32)), .load true 1 (.V 5), none⟩, 0, 4),
    (⟨(some (.E 33)), .mv (.V 9), none⟩, 0, 0),
    (⟨(some (.E 34)), .mv (.V 0), none⟩, 0, 0),
    (⟨(some (.E 35)), .mv (.V 1), none⟩, 0, 0),
    (⟨(some (.E 36)), .call k_spec_l1Below [([0], (.E 34)), ([0], (.E 35))], none⟩, 0, 0),
    (⟨(some (.E 37)), .mv (.V 0), none⟩, 0, 0),
    (⟨(some (.E 38)), .call k_spec_l1Below [([0], (.E 37)), ([0], (ki 9))], none⟩, 0, 0),
    (⟨(some (.E 39)), .bin .sub (.E 38) (ki 4), none⟩, 0, 0),
    (⟨(some (.E 40)), .bin .mul (ki 500) (.E 39), none⟩, 0, 0),
    (⟨(some (.E 41)), .build [(.v (.int .i64 0)), (.v (.int .i64 0)), (.v (.int .i64 0)), (.v (.int .i64 0)), (.v (.int .i64 0))] [(0, 1, (.E 36)), (1, 1, (.E 40))], none⟩, 0, 0),
    (⟨(some (.E 42)), .mv (.V 0), none⟩, 0, 0),
    (⟨(some (.E 43)), .call k_spec_l1Below [([0], (.E 42)), ([0], (ki 2001))], none⟩, 0, 0),
    (⟨(some (.E 44)), .bin .sub (.E 43) (ki 1000), none⟩, 0, 0),
    (⟨(some (.E 45)), .mv (.V 0), none⟩, 0, 0),
    (⟨(some (.E 46)), .call k_spec_l1Below [([0], (.E 45)), ([0], (ki 2001))], none⟩, 0, 0),
    (⟨(some (.E 47)), .bin .sub (.E 46) (ki 1000), none⟩, 0, 0),
    (⟨(some (.E 48)), .call k_spec_l17Grown [([5], (.E 32)), ([0], (.E 33)), ([0, 0, 0, 0, 0], (.E 41)), ([0], (.E 44)), ([0], (.E 47))], none⟩, 0, 0),
    (⟨(some (.V 10)), .allocL [.e0], none⟩, 0, 0),
    (⟨none, .store [5] (.V 10) (.E 48), none⟩, 0, 0)])
  (.seq (.reg [⟨(some (.E 49)), .load true 1 (.V 10), none⟩,
    ⟨(some (.E 50)), .mv (.V 1), none⟩,
    ⟨(some (.E 51)), .call k_spec_TreeOk [([5], (.E 49)), ([0], (.E 50))], none⟩])
  (.cond (.E 51)
   (.reg [⟨(some (.E 52)), .load true 1 (.V 10), none⟩,
     ⟨none, .store [5] (.V 5) (.E 52), none⟩])
   (.skip)))))))
 (.reg [⟨(some (.E 21)), .mv (.V 7), none⟩,
   ⟨(some (.E 22)), .bin .add (.E 21) (ki 1), none⟩,
   ⟨(some (.V 7)), .mv (.E 22), none⟩]))

def k_spec_l17Right_ic : IC :=
 .seq (.reg [⟨(some (.V 4)), .alloc [.e0], none⟩])
 (.seq (.reg [⟨(some (.E 11)), .mv (.V 0), none⟩,
   ⟨(some (.E 12)), .call k_spec_l1Below [([0], (.E 11)), ([0], (ki 21))], none⟩,
   ⟨(some (.E 13)), .bin .sub (.E 12) (ki 10), none⟩,
   ⟨(some (.E 14)), .bin .mul (ki 50) (.E 13), none⟩,
   ⟨(some (.E 15)), .call k_spec_OneLeaf [([0], (.E 14))], none⟩,
   ⟨(some (.V 5)), .alloc [.e0], none⟩,
   ⟨none, .store [5] (.V 5) (.E 15), none⟩])
 (.seq (.reg [⟨(some (.E 16)), .mv (.V 0), none⟩,
   ⟨(some (.E 17)), .call k_spec_l1Below [([0], (.E 16)), ([0], (ki 6))], none⟩,
   ⟨(some (.V 6)), .mv (.E 17), none⟩])
 (.seq (.seq (.reg [⟨(some (.V 7)), .mv (ki 0), none⟩])
 (.block 0 (.loop k_spec_l17Right_b0)))
 (.seq (.reg [⟨(some (.E 53)), .load true 1 (.V 5), none⟩,
   ⟨none, .store [5] (.V 4) (.E 53), none⟩])
 (.ret)))))

def k_spec_l17Right_rv : List RV := [.cell [5] 4 true]

def k_spec_l6Value_vars : List Nat := [0, 2]

def k_spec_l6Value_ic : IC :=
 .seq (.reg [⟨(some (.V 2)), .mv (kb false), none⟩])
 (.seq (.reg [⟨(some (.E 3)), .mv (.V 0), none⟩,
   ⟨(some (.E 4)), .call k_spec_l1In [([0], (.E 3)), ([0], (ki (-2147483647))), ([0], (ki 2147483647))], none⟩,
   ⟨(some (.V 2)), .mv (.E 4), none⟩])
 (.ret))

def k_spec_l6Value_rv : List RV := [.tmp [0] 2]

def k_slices_IndexFunc___impl_Node_impl_Node__vars : List Nat := [0, 1, 8, 7, 5, 4]

def k_slices_IndexFunc___impl_Node_impl_Node__b0 : IC :=
 .seq (.reg [⟨(some (.E 9)), .bin .lss (.V 8) (.V 7), none⟩])
 (.seq (.cond (.E 9)
  (.skip)
  (.exit 0))
 (.seq (.block 1 (.seq (.reg [⟨(some (.E 10)), .mv (.V 8), none⟩,
    ⟨(some (.V 5)), .mv (.E 10), none⟩])
  (.seq (.reg [⟨(some (.E 11)), .mv (.V 1), none⟩,
    ⟨(some (.E 12)), .mv (.V 0), none⟩,
    ⟨(some (.E 13)), .mv (.V 5), none⟩,
    ⟨(some (.E 14)), .iaddr 5 (.E 12) (.E 13), none⟩,
    ⟨(some (.E 15)), .load true 5 (.E 14), none⟩,
    ⟨(some (.E 16)), .callv (.E 11) [([0, 0, 0, 0, 0], (.E 15))], none⟩])
  (.cond (.E 16)
   (.seq (.reg [⟨(some (.E 17)), .mv (.V 5), none⟩,
     ⟨(some (.V 4)), .mv (.E 17), none⟩])
   (.ret))
   (.skip)))))
 (.reg [⟨(some (.E 18)), .bin .add (.V 8) (ki 1), none⟩,
   ⟨(some (.V 8)), .mv (.E 18), none⟩])))

def k_slices_IndexFunc___impl_Node_impl_Node__ic : IC :=
 .seq (.reg [⟨(some (.V 4)), .mv (ki 0), none⟩])
 (.seq (.seq (.reg [⟨(some (.E 6)), .mv (.V 0), none⟩,
   ⟨(some (.V 7)), .len (.E 6), none⟩,
   ⟨(some (.V 8)), .mv (ki 0), none⟩])
 (.block 0 (.loop k_slices_IndexFunc___impl_Node_impl_Node__b0)))
 (.seq (.reg [⟨(some (.V 4)), .mv (ki (-1)), none⟩])
 (.ret)))

def k_slices_IndexFunc___impl_Node_impl_Node__rv : List RV := [.tmp [0] 4]

def k_impl_parent_1_vars : List Nat := [0, 1, 2, 3]

def k_impl_parent_1_ic : IC :=
 .seq (.reg [⟨(some (.V 2)), .box (.V 0), none⟩,
   ⟨(some (.V 3)), .mv (kb false), none⟩])
 (.seq (.reg [⟨(some (.E 4)), .load true 5 (.V 2), none⟩,
   ⟨(some (.E 5)), .call k_impl_isLeaf [([0, 0, 0, 0, 0], (.E 4))], none⟩,
   ⟨(some (.E 6)), .un .not (.E 5), none⟩,
   ⟨(some (.E 7)), .mv (.E 6), none⟩,
   ⟨(some (.E 8)), .faddr 2 (.V 2), some ((.E 7), true)⟩,
   ⟨(some (.E 9)), .load false 1 (.E 8), some ((.E 7), true)⟩,
   ⟨(some (.E 10)), .load false 1 (.V 1), some ((.E 7), true)⟩,
   ⟨(some (.E 11)), .bin .eql (.E 9) (.E 10), some ((.E 7), true)⟩,
   ⟨(some (.E 12)), .mv (.E 11), some ((.E 7), true)⟩,
   ⟨(some (.E 13)), .faddr 3 (.V 2), some ((.E 12), false)⟩,
   ⟨(some (.E 14)), .load false 1 (.E 13), some ((.E 12), false)⟩,
   ⟨(some (.E 15)), .load false 1 (.V 1), some ((.E 12), false)⟩,
   ⟨(some (.E 16)), .bin .eql (.E 14) (.E 15), some ((.E 12), false)⟩,
   ⟨(some (.E 17)), .pick (.E 12) (kb true) (.E 16), some ((.E 7), true)⟩,
   ⟨(some (.E 18)), .pick (.E 7) (.E 17) (kb false), none⟩,
   ⟨(some (.V 3)), .mv (.E 18), none⟩])
 (.ret))

def k_impl_parent_1_rv : List RV := [.tmp [0] 3]

def k_spec_l17Grown_vars : List Nat := [0, 1, 2, 3, 4, 5, 7, 11, 10]

def k_spec_l17Grown_ic : IC :=
 .seq (.reg [⟨(some (.V 5)), .box (.V 0), none⟩,
   ⟨(some (.V 7)), .box (.V 2), none⟩,
   ⟨(some (.V 10)), .alloc [.e0], none⟩])
 (.seq (.reg [⟨(some (.E 12)), .bslice 0 5 [(.v (.int .i64 0)), (.v (.int .i64 0)), (.v (.int .i64 0)), (.v (.int .i64 0)), (.v (.int .i64 0))] [], none⟩,
   ⟨(some (.E 13)), .faddr 0 (.V 5), none⟩,
   ⟨(some (.E 14)), .load false 1 (.E 13), none⟩,
   ⟨(some (.E 15)), .app 40 5 (.E 12) (.E 14), none⟩,
   ⟨(some (.V 11)), .mv (.E 15), none⟩])
 (.seq (.reg [⟨(some (.E 16)), .faddr 4 (.V 7), none⟩,
   ⟨none, .store [0] (.E 16) (ki 0), none⟩])
 (.seq (.reg [⟨(some (.E 17)), .mv (.V 11), none⟩,
   ⟨(some (.E 18)), .len (.E 17), none⟩,
   ⟨(some (.E 19)), .faddr 2 (.V 7), none⟩,
   ⟨none, .store [0] (.E 19) (.E 18), none⟩])
 (.seq (.reg [⟨(some (.E 20)), .mv (.V 11), none⟩,
   ⟨(some (.E 21)), .len (.E 20), none⟩,
   ⟨(some (.E 22)), .bin .add (.E 21) (ki 1), none⟩,
   ⟨(some (.E 23)), .faddr 3 (.V 7), none⟩,
   ⟨none, .store [0] (.E 23) (.E 22), none⟩])
 (.seq (.reg [⟨(some (.E 24)), .mv (.V 11), none⟩,
   ⟨(some (.E 25)), .mv (.V 1), none⟩,
   ⟨(some (.E 26)), .load true 5 (.V 7), none⟩,
   ⟨(some (.E 27)), .iaddr 5 (.E 24) (.E 25), none⟩,
   ⟨none, .store [0, 0, 0, 0, 0] (.E 27) (.E 26), none⟩])
 (.seq (.reg [⟨(some (.E 28)), .mv (.V 11), none⟩,
   ⟨(some (.E 29)), .mv (.V 3), none⟩,
   ⟨(some (.E 30)), .build [(.v (.int .i64 0)), (.v (.int .i64 0)), (.v (.int .i64 0)), (.v (.int .i64 0)), (.v (.int .i64 0))] [(0, 1, (ki (-1))), (4, 1, (.E 29))], none⟩,
   ⟨(some (.E 31)), .mv (.V 4), none⟩,
   ⟨(some (.E 32)), .build [(.v (.int .i64 0)), (.v (.int .i64 0)), (.v (.int .i64 0)), (.v (.int .i64 0)), (.v (.int .i64 0))] [(0, 1, (ki (-1))), (4, 1, (.E 31))], none⟩,
   ⟨(some (.E 33)), .bslice 2 5 [(.v (.int .i64 0)), (.v (.int .i64 0)), (.v (.int .i64 0)), (.v (.int .i64 0)), (.v (.int .i64 0))] [(0, (.E 30)), (1, (.E 32))], none⟩,
   ⟨(some (.E 34)), .app 40 5 (.E 28) (.E 33), none⟩,
   ⟨(some (.V 11)), .mv (.E 34), none⟩])
 (.seq (.reg [⟨(some (.E 35)), .mv (.V 11), none⟩,
   ⟨(some (.E 36)), .call k_spec_l17Levels [([5], (.E 35))], none⟩,
   ⟨none, .store [5] (.V 10) (.E 36), none⟩])
 (.ret))))))))

def k_spec_l17Grown_rv : List RV := [.cell [5] 10 true]

def k_spec_l17Levels_vars : List Nat := [0, 6, 4, 7, 5, 3, 2]

def k_spec_l17Levels_b0 : IC :=
 .seq (.seq (.reg [⟨(some (.E 10)), .mv (.V 6), none⟩,
   ⟨(some (.E 11)), .mv (.V 4), none⟩,
   ⟨(some (.E 12)), .len (.E 11), none⟩,
   ⟨(some (.E 13)), .bin .lss (.E 10) (.E 12), none⟩])
 (.cond (.E 13)
  (.skip)
  (.exit 0)))
 (.seq (.block 1 (.seq (.reg [⟨(some (.E 16)), .mv (.V 0), none⟩,
    ⟨(some (.E 17)), .mv (.V 4), none⟩,
    ⟨(some (.E 18)), .mv (.V 6), none⟩,
    ⟨(some (.E 19)), .iaddr 1 (.E 17) (.E 18), none⟩,
    ⟨(some (.E 20)), .load false 1 (.E 19), none⟩,
    ⟨(some (.E 21)), .iaddr 5 (.E 16) (.E 20), none⟩,
    ⟨(some (.E 22)), .load true 5 (.E 21), none⟩,
    ⟨(some (.V 7)), .alloc [(.v (.int .i64 0)), (.v (.int .i64 0)), (.v (.int .i64 0)), (.v (.int .i64 0)), (.v (.int .i64 0))], none⟩,
    ⟨none, .store [0, 0, 0, 0, 0] (.V 7) (.E 22), none⟩])
  (.seq (.seq (.reg [⟨(some (.E 23)), .load true 5 (.V 7), none⟩,
    ⟨(some (.E 24)), .call k_spec_l17Inner [([0, 0, 0, 0, 0], (.E 23))], none⟩])
  (.cond (.E 24)
   (.seq (.reg [⟨(some (.E 25)), .mv (.V 4), none⟩,
     ⟨(some (.E 26)), .faddr 2 (.V 7), none⟩,
     ⟨(some (.E 27)), .load false 1 (.E 26), none⟩,
     ⟨(some (.E 28)), .faddr 3 (.V 7), none⟩,
     ⟨(some (.E 29)), .load false 1 (.E 28), none⟩,
     ⟨(some (.E 30)), .bslice 2 1 [(.v (.int .i64 0))] [(0, (.E 27)), (1, (.E 29))], none⟩,
     ⟨(some (.E 31)), .app 8 1 (.E 25) (.E 30), none⟩,
     ⟨(some (.V 4)), .mv (.E 31), none⟩])
   (.seq (.reg [⟨(some (.E 32)), .mv (.V 5), none⟩,
     ⟨(some (.E 33)), .faddr 2 (.V 7), none⟩,
     ⟨none, .store [0] (.E 33) (.E 32), none⟩])
   (.seq (.reg [⟨(some (.E 34)), .mv (.V 5), none⟩,
     ⟨(some (.E 35)), .bin .add (.E 34) (ki 1), none⟩,
     ⟨(some (.E 36)), .faddr 3 (.V 7), none⟩,
     ⟨none, .store [0] (.E 36) (.E 35), none⟩])
   (.reg [⟨(some (.E 37)), .mv (.V 5), none⟩,
     ⟨(some (.E 38)), .bin .add (.E 37) (ki 2), none⟩,
     ⟨(some (.V 5)), .mv (.E 38), none⟩]))))
   (.skip)))
  (.reg [⟨(some (.E 39)), .faddr 0 (.V 3), none⟩,
    ⟨(some (.E 40)), .load false 1 (.E 39), none⟩,
    ⟨(some (.E 41)), .load true 5 (.V 7), none⟩,
    ⟨(some (.E 42)), .bslice 1 5 [(.v (.int .i64 0)), (.v (.int .i64 0)), (.v (.int .i64 0)), (.v (.int .i64 0)), (.v (.int .i64 0))] [(0, (.E 41))], none⟩,
    ⟨(some (.E 43)), .app 40 5 (.E 40) (.E 42), none⟩,
    ⟨(some (.E 44)), .faddr 0 (.V 3), none⟩,
    ⟨none, .store [5] (.E 44) (.E 43), none⟩]))))
 (.reg [⟨(some (.E 14)), .mv (.V 6), none⟩,
   ⟨(some (.E 15)), .bin .add (.E 14) (ki 1), none⟩,
   ⟨(some (.V 6)), .mv (.E 15), none⟩]))

def k_spec_l17Levels_ic : IC :=
 .seq (.reg [⟨(some (.V 2)), .alloc [.e0], none⟩])
 (.seq (.reg [⟨(some (.E 8)), .build [.e0] [], none⟩,
   ⟨(some (.V 3)), .alloc [.e0], none⟩,
   ⟨none, .store [5] (.V 3) (.E 8), none⟩])
 (.seq (.reg [⟨(some (.E 9)), .bslice 1 1 [(.v (.int .i64 0))] [(0, (ki 0))], none⟩,
   ⟨(some (.V 4)), .mv (.E 9), none⟩])
 (.seq (.reg [⟨(some (.V 5)), .mv (ki 1), none⟩])
 (.seq (.seq (.reg [⟨(some (.V 6)), .mv (ki 0), none⟩])
 (.block 0 (.loop k_spec_l17Levels_b0)))
 (.seq (.reg [⟨(some (.E 45)), .load true 1 (.V 3), none⟩,
   ⟨none, .store [5] (.V 2) (.E 45), none⟩])
 (.ret))))))

def k_spec_l17Levels_rv : List RV := [.cell [5] 2 true]

def tbl : List (Nat × Fun) := [
  (k_laws_FnRoute, fnOf k_laws_FnRoute_ic k_laws_FnRoute_rv []),
  (k_laws_big, fnOf k_laws_big_ic k_laws_big_rv []),
  (k_spec_OneLeaf, fnOf k_spec_OneLeaf_ic k_spec_OneLeaf_rv []),
  (k_impl_EvalTree, fnOf k_impl_EvalTree_ic k_impl_EvalTree_rv []),
  (k_spec_WayTo, fnOf k_spec_WayTo_ic k_spec_WayTo_rv []),
  (k_spec_TreeOk, fnOf k_spec_TreeOk_ic k_spec_TreeOk_rv []),
  (k_spec_DepthOf, fnOf k_spec_DepthOf_ic k_spec_DepthOf_rv []),
  (k_spec_DrawRouteTo, fnOf k_spec_DrawRouteTo_ic k_spec_DrawRouteTo_rv []),
  (k_impl_RouteTo, fnOf k_impl_RouteTo_ic k_impl_RouteTo_rv []),
  (k_spec_RouteTo, fnOf k_spec_RouteTo_ic k_spec_RouteTo_rv []),
  (k_spec_LeavesOf, fnOf k_spec_LeavesOf_ic k_spec_LeavesOf_rv []),
  (k_impl_BoxOf, fnOf k_impl_BoxOf_ic k_impl_BoxOf_rv []),
  (k_spec_BoxOf, fnOf k_spec_BoxOf_ic k_spec_BoxOf_rv []),
  (k_laws_has, fnOf k_laws_has_ic k_laws_has_rv []),
  (k_spec_l1New, fnOf k_spec_l1New_ic k_spec_l1New_rv []),
  (k_spec_l1PickInt, fnOf k_spec_l1PickInt_ic k_spec_l1PickInt_rv [true, true]),
  (k_spec_l1Whole, fnOf k_spec_l1Whole_ic k_spec_l1Whole_rv [true]),
  (k_spec_l1Once, fnOf k_spec_l1Once_ic k_spec_l1Once_rv [true]),
  (k_spec_l14Leaf, fnOf k_spec_l14Leaf_ic k_spec_l14Leaf_rv []),
  (k_impl_within, fnOf k_impl_within_ic k_impl_within_rv []),
  (k_impl_isLeaf, fnOf k_impl_isLeaf_ic k_impl_isLeaf_rv []),
  (k_impl_wayTo, fnOf k_impl_wayTo_ic k_impl_wayTo_rv []),
  (k_spec_l1Max, fnOf k_spec_l1Max_ic k_spec_l1Max_rv []),
  (k_spec_LevelOf, fnOf k_spec_LevelOf_ic k_spec_LevelOf_rv []),
  (k_spec_l17Up, fnOf k_spec_l17Up_ic k_spec_l17Up_rv []),
  (k_spec_l17Bent, fnOf k_spec_l17Bent_ic k_spec_l17Bent_rv [true]),
  (k_spec_l1In, fnOf k_spec_l1In_ic k_spec_l1In_rv []),
  (k_spec_l17Shape, fnOf k_spec_l17Shape_ic k_spec_l17Shape_rv []),
  (k_spec_l17Ways, fnOf k_spec_l17Ways_ic k_spec_l17Ways_rv []),
  (k_spec_l1Below, fnOf k_spec_l1Below_ic k_spec_l1Below_rv [true]),
  (k_spec_l18Row, fnOf k_spec_l18Row_ic k_spec_l18Row_rv [true]),
  (k_impl_route, fnOf k_impl_route_ic k_impl_route_rv []),
  (k_spec_l18Way, fnOf k_spec_l18Way_ic k_spec_l18Way_rv []),
  (k_spec_l17Inner, fnOf k_spec_l17Inner_ic k_spec_l17Inner_rv []),
  (k_spec_l1Min, fnOf k_spec_l1Min_ic k_spec_l1Min_rv []),
  (k_laws_times, fnOf k_laws_times_ic k_laws_times_rv []),
  (k_spec_l1Byte, fnOf k_spec_l1Byte_ic k_spec_l1Byte_rv [true]),
  (k_impl_parent, fnOf k_impl_parent_ic k_impl_parent_rv []),
  (k_slices_Reverse___int_int_, fnOf k_slices_Reverse___int_int__ic k_slices_Reverse___int_int__rv [true]),
  (k_spec_l17Right, fnOf k_spec_l17Right_ic k_spec_l17Right_rv [true]),
  (k_spec_l6Value, fnOf k_spec_l6Value_ic k_spec_l6Value_rv []),
  (k_slices_IndexFunc___impl_Node_impl_Node_, fnOf k_slices_IndexFunc___impl_Node_impl_Node__ic k_slices_IndexFunc___impl_Node_impl_Node__rv []),
  (k_impl_parent_1, fnOf k_impl_parent_1_ic k_impl_parent_1_rv []),
  (k_spec_l17Grown, fnOf k_spec_l17Grown_ic k_spec_l17Grown_rv []),
  (k_spec_l17Levels, fnOf k_spec_l17Levels_ic k_spec_l17Levels_rv [])]

def T : Table := fun f => (tbl.find? fun q => q.1 == f).map fun q => q.2

theorem T_laws_FnRoute : T k_laws_FnRoute = some (fnOf k_laws_FnRoute_ic k_laws_FnRoute_rv []) := rfl

@[simp] theorem M_laws_FnRoute : modesOf T k_laws_FnRoute = [] := modesOf_code T_laws_FnRoute

theorem T_laws_big : T k_laws_big = some (fnOf k_laws_big_ic k_laws_big_rv []) := rfl

@[simp] theorem M_laws_big : modesOf T k_laws_big = [] := modesOf_code T_laws_big

theorem T_spec_OneLeaf : T k_spec_OneLeaf = some (fnOf k_spec_OneLeaf_ic k_spec_OneLeaf_rv []) := rfl

@[simp] theorem M_spec_OneLeaf : modesOf T k_spec_OneLeaf = [] := modesOf_code T_spec_OneLeaf

theorem T_impl_EvalTree : T k_impl_EvalTree = some (fnOf k_impl_EvalTree_ic k_impl_EvalTree_rv []) := rfl

@[simp] theorem M_impl_EvalTree : modesOf T k_impl_EvalTree = [] := modesOf_code T_impl_EvalTree

theorem T_spec_WayTo : T k_spec_WayTo = some (fnOf k_spec_WayTo_ic k_spec_WayTo_rv []) := rfl

@[simp] theorem M_spec_WayTo : modesOf T k_spec_WayTo = [] := modesOf_code T_spec_WayTo

theorem T_spec_TreeOk : T k_spec_TreeOk = some (fnOf k_spec_TreeOk_ic k_spec_TreeOk_rv []) := rfl

@[simp] theorem M_spec_TreeOk : modesOf T k_spec_TreeOk = [] := modesOf_code T_spec_TreeOk

theorem T_spec_DepthOf : T k_spec_DepthOf = some (fnOf k_spec_DepthOf_ic k_spec_DepthOf_rv []) := rfl

@[simp] theorem M_spec_DepthOf : modesOf T k_spec_DepthOf = [] := modesOf_code T_spec_DepthOf

theorem T_spec_DrawRouteTo : T k_spec_DrawRouteTo = some (fnOf k_spec_DrawRouteTo_ic k_spec_DrawRouteTo_rv []) := rfl

@[simp] theorem M_spec_DrawRouteTo : modesOf T k_spec_DrawRouteTo = [] := modesOf_code T_spec_DrawRouteTo

theorem T_impl_RouteTo : T k_impl_RouteTo = some (fnOf k_impl_RouteTo_ic k_impl_RouteTo_rv []) := rfl

@[simp] theorem M_impl_RouteTo : modesOf T k_impl_RouteTo = [] := modesOf_code T_impl_RouteTo

theorem T_spec_RouteTo : T k_spec_RouteTo = some (fnOf k_spec_RouteTo_ic k_spec_RouteTo_rv []) := rfl

@[simp] theorem M_spec_RouteTo : modesOf T k_spec_RouteTo = [] := modesOf_code T_spec_RouteTo

theorem T_spec_LeavesOf : T k_spec_LeavesOf = some (fnOf k_spec_LeavesOf_ic k_spec_LeavesOf_rv []) := rfl

@[simp] theorem M_spec_LeavesOf : modesOf T k_spec_LeavesOf = [] := modesOf_code T_spec_LeavesOf

theorem T_impl_BoxOf : T k_impl_BoxOf = some (fnOf k_impl_BoxOf_ic k_impl_BoxOf_rv []) := rfl

@[simp] theorem M_impl_BoxOf : modesOf T k_impl_BoxOf = [] := modesOf_code T_impl_BoxOf

theorem T_spec_BoxOf : T k_spec_BoxOf = some (fnOf k_spec_BoxOf_ic k_spec_BoxOf_rv []) := rfl

@[simp] theorem M_spec_BoxOf : modesOf T k_spec_BoxOf = [] := modesOf_code T_spec_BoxOf

theorem T_laws_has : T k_laws_has = some (fnOf k_laws_has_ic k_laws_has_rv []) := rfl

@[simp] theorem M_laws_has : modesOf T k_laws_has = [] := modesOf_code T_laws_has

theorem T_spec_l1New : T k_spec_l1New = some (fnOf k_spec_l1New_ic k_spec_l1New_rv []) := rfl

@[simp] theorem M_spec_l1New : modesOf T k_spec_l1New = [] := modesOf_code T_spec_l1New

theorem T_spec_l1PickInt : T k_spec_l1PickInt = some (fnOf k_spec_l1PickInt_ic k_spec_l1PickInt_rv [true, true]) := rfl

@[simp] theorem M_spec_l1PickInt : modesOf T k_spec_l1PickInt = [true, true] := modesOf_code T_spec_l1PickInt

theorem T_spec_l1Whole : T k_spec_l1Whole = some (fnOf k_spec_l1Whole_ic k_spec_l1Whole_rv [true]) := rfl

@[simp] theorem M_spec_l1Whole : modesOf T k_spec_l1Whole = [true] := modesOf_code T_spec_l1Whole

theorem T_spec_l1Once : T k_spec_l1Once = some (fnOf k_spec_l1Once_ic k_spec_l1Once_rv [true]) := rfl

@[simp] theorem M_spec_l1Once : modesOf T k_spec_l1Once = [true] := modesOf_code T_spec_l1Once

theorem T_spec_l14Leaf : T k_spec_l14Leaf = some (fnOf k_spec_l14Leaf_ic k_spec_l14Leaf_rv []) := rfl

@[simp] theorem M_spec_l14Leaf : modesOf T k_spec_l14Leaf = [] := modesOf_code T_spec_l14Leaf

theorem T_impl_within : T k_impl_within = some (fnOf k_impl_within_ic k_impl_within_rv []) := rfl

@[simp] theorem M_impl_within : modesOf T k_impl_within = [] := modesOf_code T_impl_within

theorem T_impl_isLeaf : T k_impl_isLeaf = some (fnOf k_impl_isLeaf_ic k_impl_isLeaf_rv []) := rfl

@[simp] theorem M_impl_isLeaf : modesOf T k_impl_isLeaf = [] := modesOf_code T_impl_isLeaf

theorem T_impl_wayTo : T k_impl_wayTo = some (fnOf k_impl_wayTo_ic k_impl_wayTo_rv []) := rfl

@[simp] theorem M_impl_wayTo : modesOf T k_impl_wayTo = [] := modesOf_code T_impl_wayTo

theorem T_spec_l1Max : T k_spec_l1Max = some (fnOf k_spec_l1Max_ic k_spec_l1Max_rv []) := rfl

@[simp] theorem M_spec_l1Max : modesOf T k_spec_l1Max = [] := modesOf_code T_spec_l1Max

theorem T_spec_LevelOf : T k_spec_LevelOf = some (fnOf k_spec_LevelOf_ic k_spec_LevelOf_rv []) := rfl

@[simp] theorem M_spec_LevelOf : modesOf T k_spec_LevelOf = [] := modesOf_code T_spec_LevelOf

theorem T_spec_l17Up : T k_spec_l17Up = some (fnOf k_spec_l17Up_ic k_spec_l17Up_rv []) := rfl

@[simp] theorem M_spec_l17Up : modesOf T k_spec_l17Up = [] := modesOf_code T_spec_l17Up

theorem T_spec_l17Bent : T k_spec_l17Bent = some (fnOf k_spec_l17Bent_ic k_spec_l17Bent_rv [true]) := rfl

@[simp] theorem M_spec_l17Bent : modesOf T k_spec_l17Bent = [true] := modesOf_code T_spec_l17Bent

theorem T_spec_l1In : T k_spec_l1In = some (fnOf k_spec_l1In_ic k_spec_l1In_rv []) := rfl

@[simp] theorem M_spec_l1In : modesOf T k_spec_l1In = [] := modesOf_code T_spec_l1In

theorem T_spec_l17Shape : T k_spec_l17Shape = some (fnOf k_spec_l17Shape_ic k_spec_l17Shape_rv []) := rfl

@[simp] theorem M_spec_l17Shape : modesOf T k_spec_l17Shape = [] := modesOf_code T_spec_l17Shape

theorem T_spec_l17Ways : T k_spec_l17Ways = some (fnOf k_spec_l17Ways_ic k_spec_l17Ways_rv []) := rfl

@[simp] theorem M_spec_l17Ways : modesOf T k_spec_l17Ways = [] := modesOf_code T_spec_l17Ways

theorem T_spec_l1Below : T k_spec_l1Below = some (fnOf k_spec_l1Below_ic k_spec_l1Below_rv [true]) := rfl

@[simp] theorem M_spec_l1Below : modesOf T k_spec_l1Below = [true] := modesOf_code T_spec_l1Below

theorem T_spec_l18Row : T k_spec_l18Row = some (fnOf k_spec_l18Row_ic k_spec_l18Row_rv [true]) := rfl

@[simp] theorem M_spec_l18Row : modesOf T k_spec_l18Row = [true] := modesOf_code T_spec_l18Row

theorem T_impl_route : T k_impl_route = some (fnOf k_impl_route_ic k_impl_route_rv []) := rfl

@[simp] theorem M_impl_route : modesOf T k_impl_route = [] := modesOf_code T_impl_route

theorem T_spec_l18Way : T k_spec_l18Way = some (fnOf k_spec_l18Way_ic k_spec_l18Way_rv []) := rfl

@[simp] theorem M_spec_l18Way : modesOf T k_spec_l18Way = [] := modesOf_code T_spec_l18Way

theorem T_spec_l17Inner : T k_spec_l17Inner = some (fnOf k_spec_l17Inner_ic k_spec_l17Inner_rv []) := rfl

@[simp] theorem M_spec_l17Inner : modesOf T k_spec_l17Inner = [] := modesOf_code T_spec_l17Inner

theorem T_spec_l1Min : T k_spec_l1Min = some (fnOf k_spec_l1Min_ic k_spec_l1Min_rv []) := rfl

@[simp] theorem M_spec_l1Min : modesOf T k_spec_l1Min = [] := modesOf_code T_spec_l1Min

theorem T_laws_times : T k_laws_times = some (fnOf k_laws_times_ic k_laws_times_rv []) := rfl

@[simp] theorem M_laws_times : modesOf T k_laws_times = [] := modesOf_code T_laws_times

theorem T_spec_l1Byte : T k_spec_l1Byte = some (fnOf k_spec_l1Byte_ic k_spec_l1Byte_rv [true]) := rfl

@[simp] theorem M_spec_l1Byte : modesOf T k_spec_l1Byte = [true] := modesOf_code T_spec_l1Byte

theorem T_impl_parent : T k_impl_parent = some (fnOf k_impl_parent_ic k_impl_parent_rv []) := rfl

@[simp] theorem M_impl_parent : modesOf T k_impl_parent = [] := modesOf_code T_impl_parent

theorem T_slices_Reverse___int_int_ : T k_slices_Reverse___int_int_ = some (fnOf k_slices_Reverse___int_int__ic k_slices_Reverse___int_int__rv [true]) := rfl

@[simp] theorem M_slices_Reverse___int_int_ : modesOf T k_slices_Reverse___int_int_ = [true] := modesOf_code T_slices_Reverse___int_int_

theorem T_spec_l17Right : T k_spec_l17Right = some (fnOf k_spec_l17Right_ic k_spec_l17Right_rv [true]) := rfl

@[simp] theorem M_spec_l17Right : modesOf T k_spec_l17Right = [true] := modesOf_code T_spec_l17Right

theorem T_spec_l6Value : T k_spec_l6Value = some (fnOf k_spec_l6Value_ic k_spec_l6Value_rv []) := rfl

@[simp] theorem M_spec_l6Value : modesOf T k_spec_l6Value = [] := modesOf_code T_spec_l6Value

theorem T_slices_IndexFunc___impl_Node_impl_Node_ : T k_slices_IndexFunc___impl_Node_impl_Node_ = some (fnOf k_slices_IndexFunc___impl_Node_impl_Node__ic k_slices_IndexFunc___impl_Node_impl_Node__rv []) := rfl

@[simp] theorem M_slices_IndexFunc___impl_Node_impl_Node_ : modesOf T k_slices_IndexFunc___impl_Node_impl_Node_ = [] := modesOf_code T_slices_IndexFunc___impl_Node_impl_Node_

theorem T_impl_parent_1 : T k_impl_parent_1 = some (fnOf k_impl_parent_1_ic k_impl_parent_1_rv []) := rfl

@[simp] theorem M_impl_parent_1 : modesOf T k_impl_parent_1 = [] := modesOf_code T_impl_parent_1

theorem T_spec_l17Grown : T k_spec_l17Grown = some (fnOf k_spec_l17Grown_ic k_spec_l17Grown_rv []) := rfl

@[simp] theorem M_spec_l17Grown : modesOf T k_spec_l17Grown = [] := modesOf_code T_spec_l17Grown

theorem T_spec_l17Levels : T k_spec_l17Levels = some (fnOf k_spec_l17Levels_ic k_spec_l17Levels_rv []) := rfl

@[simp] theorem M_spec_l17Levels : modesOf T k_spec_l17Levels = [] := modesOf_code T_spec_l17Levels

end Go.Pe
