/- The compact texts of the functions that the law reaches; no condition. -/
import Derived.Test.YtoilifakgbifmaaEvA0
set_option linter.all false
namespace Go.Pe
open Go
def bs (l : List UInt8) : ByteArray := ⟨l.toArray⟩

def k_laws_FnExactPredictAll : Nat := 11

def k_laws_szModel : Nat := 14

def k_laws_toModel : Nat := 16

def k_laws_eqModel : Nat := 18

def k_laws_szTree : Nat := 19

def k_laws_toTree : Nat := 22

def k_laws_eqTree : Nat := 25

def k_laws_toIntS : Nat := 33

def k_laws_eqIntS : Nat := 37

def k_laws_markIntS : Nat := 39

def k_spec_ModelOk : Nat := 42

def k_impl_ModelOk : Nat := 43

def k_spec_Predict : Nat := 58

def k_impl_Predict : Nat := 59

def k_laws_heldIntS : Nat := 62

def k_laws_szIntSS : Nat := 63

def k_spec_PredictAll : Nat := 64

def k_laws_toIntSS : Nat := 65

def k_impl_PredictAll : Nat := 66

def k_laws_eqIntSS : Nat := 67

def k_laws_markModel : Nat := 68

def k_laws_markIntSS : Nat := 69

def k_laws_szStringS : Nat := 74

def k_laws_szIntS : Nat := 75

def k_laws_szTreeS : Nat := 76

def k_laws_toStringS : Nat := 80

def k_laws_toTreeS : Nat := 81

def k_laws_eqStringS : Nat := 86

def k_laws_eqTreeS : Nat := 87

def k_laws_szNodeS : Nat := 88

def k_spec_l17Inner : Nat := 90

def k_laws_toNodeS : Nat := 92

def k_laws_eqNodeS : Nat := 96

def k_laws_markNodeS : Nat := 97

def k_spec_l1In : Nat := 106

def k_spec_l6Value : Nat := 107

def k_spec_NameOk : Nat := 108

def k_spec_l9Has : Nat := 109

def k_spec_TreeOk : Nat := 110

def k_impl_within : Nat := 111

def k_impl_areNames : Nat := 112

def k_slices_ContainsFunc___int_int_ : Nat := 113

def k_impl_ModelOk_1 : Nat := 114

def k_impl_isSign : Nat := 115

def k_impl_isDecimal : Nat := 116

def k_slices_ContainsFunc___impl_Tree_impl_Tree_ : Nat := 117

def k_impl_ModelOk_2 : Nat := 118

def k_impl_TreeOk : Nat := 119

def k_laws_markStringS : Nat := 124

def k_laws_markTreeS : Nat := 125

def k_spec_EvalTree : Nat := 131

def k_impl_EvalTree : Nat := 132

def k_spec_l14Leaf : Nat := 147

def k_laws_toNode : Nat := 149

def k_impl_isLeaf : Nat := 151

def k_impl_isLeafValue : Nat := 153

def k_laws_eqNode : Nat := 155

def k_spec_l17Shape : Nat := 164

def k_spec_DepthOf : Nat := 165

def k_spec_l17Ways : Nat := 166

def k_impl_NameOk : Nat := 167

def k_slices_Contains___string_string_ : Nat := 168

def k_slices_IndexFunc___int_int_ : Nat := 169

def k_slices_IndexFunc___impl_Tree_impl_Tree_ : Nat := 170

def k_impl_shapeOk : Nat := 171

def k_impl_LevelOf : Nat := 172

def k_impl_wayTo : Nat := 173

def k_laws_markText : Nat := 180

def k_spec_RouteTo : Nat := 187

def k_impl_RouteTo : Nat := 188

def k_spec_l1Max : Nat := 208

def k_spec_LevelOf : Nat := 209

def k_spec_l17Up : Nat := 210

def k_slices_Index___string_string_ : Nat := 211

def k_impl_parent : Nat := 212

def k_slices_Reverse___int_int_ : Nat := 213

def k_spec_l18Way : Nat := 228

def k_impl_route : Nat := 229

def k_slices_IndexFunc___impl_Node_impl_Node_ : Nat := 236

def k_impl_parent_1 : Nat := 237

def k_laws_FnExactPredictAll_vars : List Nat := [0, 1, 2, 5, 8, 9, 10, 6, 11, 7, 12, 13, 14, 15, 16, 4]

def k_laws_FnExactPredictAll_ic : IC :=
 .seq (.reg [⟨(some (.V 2)), .box (.V 0), none⟩,
   ⟨(some (.V 4)), .mv (kb false), none⟩])
 (.seq (.reg [⟨(some (.V 5)), .mv (ki 1048576), none⟩])
 (.seq (.reg [⟨(some (.E 17)), .load true 4 (.V 2), none⟩,
   ⟨(some (.E 18)), .mv (.V 5), none⟩,
   ⟨(some (.E 19)), .call k_laws_szModel [([1, 1, 0, 1], (.E 17)), ([0], (.E 18))], none⟩,
   ⟨(some (.V 5)), .mv (.E 19), none⟩])
 (.seq (.seq (.reg [⟨(some (.E 20)), .mv (.V 5), none⟩,
   ⟨(some (.E 21)), .bin .lss (.E 20) (ki 0), none⟩])
 (.cond (.E 21)
  (.seq (.reg [⟨(some (.V 4)), .mv (kb true), none⟩])
  (.ret))
  (.skip)))
 (.seq (.reg [⟨(some (.E 22)), .mv (.V 1), none⟩,
   ⟨(some (.E 23)), .mv (.V 5), none⟩,
   ⟨(some (.E 24)), .call k_laws_szIntSS [([1], (.E 22)), ([0], (.E 23))], none⟩,
   ⟨(some (.V 5)), .mv (.E 24), none⟩])
 (.seq (.seq (.reg [⟨(some (.E 25)), .mv (.V 5), none⟩,
   ⟨(some (.E 26)), .bin .lss (.E 25) (ki 0), none⟩])
 (.cond (.E 26)
  (.seq (.reg [⟨(some (.V 4)), .mv (kb true), none⟩])
  (.ret))
  (.skip)))
 (.seq (.reg [⟨(some (.E 28)), .load true 4 (.V 2), none⟩,
   ⟨(some (.E 29)), .call k_laws_toModel [([1, 1, 0, 1], (.E 28))], none⟩,
   ⟨(some (.E 30)), .mv (.V 1), none⟩,
   ⟨(some (.E 31)), .call k_laws_toIntSS [([1], (.E 30))], none⟩,
   ⟨(some (.E 32)), .call k_spec_PredictAll [([1, 1, 0, 1], (.E 29)), ([1], (.E 31))], none⟩,
   ⟨(some (.E 27)), .mv (.E 32), none⟩,
   ⟨(some (.E 33)), .ext 0 (.E 27), none⟩,
   ⟨(some (.E 34)), .ext 1 (.E 27), none⟩,
   ⟨(some (.V 6)), .mv (.E 33), none⟩,
   ⟨(some (.V 7)), .mv (.E 34), none⟩])
 (.seq (.reg [⟨(some (.E 35)), .load true 4 (.V 2), none⟩,
   ⟨(some (.E 36)), .call k_laws_toModel [([1, 1, 0, 1], (.E 35))], none⟩,
   ⟨(some (.V 8)), .alloc [.e0, .e0, (.v (.int .i64 0)), .e0], none⟩,
   ⟨none, .store [1, 1, 0, 1] (.V 8) (.E 36), none⟩])
 (.seq (.reg [⟨(some (.E 37)), .mv (.V 1), none⟩,
   ⟨(some (.E 38)), .call k_laws_toIntSS [([1], (.E 37))], none⟩,
   ⟨(some (.V 9)), .mv (.E 38), none⟩])
 (.seq (.reg [⟨(some (.E 40)), .load true 4 (.V 8), none⟩,
   ⟨(some (.E 41)), .mv (.V 9), none⟩,
   ⟨(some (.E 42)), .call k_impl_PredictAll [([1, 1, 0, 1], (.E 40)), ([1], (.E 41))], none⟩,
   ⟨(some (.E 39)), .mv (.E 42), none⟩,
   ⟨(some (.E 43)), .ext 0 (.E 39), none⟩,
   ⟨(some (.E 44)), .ext 1 (.E 39), none⟩,
   ⟨(some (.V 10)), .mv (.E 43), none⟩,
   ⟨(some (.V 11)), .mv (.E 44), none⟩])
 (.seq (.seq (.reg [⟨(some (.E 45)), .mv (.V 10), none⟩,
   ⟨(some (.E 46)), .mv (.V 6), none⟩,
   ⟨(some (.E 47)), .call k_laws_eqIntS [([1], (.E 45)), ([1], (.E 46))], none⟩,
   ⟨(some (.E 48)), .un .not (.E 47), none⟩,
   ⟨(some (.E 49)), .mv (.E 48), none⟩,
   ⟨(some (.E 50)), .mv (.V 11), some ((.E 49), false)⟩,
   ⟨(some (.E 51)), .mv (.V 7), some ((.E 49), false)⟩,
   ⟨(some (.E 52)), .eqb true [.b] (.E 50) (.E 51), some ((.E 49), false)⟩,
   ⟨(some (.E 53)), .pick (.E 49) (kb true) (.E 52), none⟩])
 (.cond (.E 53)
  (.seq (.reg [⟨(some (.V 4)), .mv (kb false), none⟩])
  (.ret))
  (.skip)))
 (.seq (.seq (.regD [(⟨(some (.E 54)), .load true 4 (.V 8), none⟩, 0, 1),
   (⟨(some (.E 55)), .load true 4 (.V 2), none⟩, 0, 0),
   (⟨(some (.E 56)), .call k_laws_toModel [([1, 1, 0, 1], (.E 55))], none⟩, 0, 0),
   (⟨(some (.E 57)), .call k_laws_eqModel [([1, 1, 0, 1], (.E 54)), ([1, 1, 0, 1], (.E 56))], none⟩, 0, 0),
   (⟨(some (.E 58)), .un .not (.E 57), none⟩, 0, 0)])
 (.cond (.E 58)
  (.seq (.reg [⟨(some (.V 4)), .mv (kb false), none⟩])
  (.ret))
  (.skip)))
 (.seq (.seq (.reg [⟨(some (.E 59)), .mv (.V 9), none⟩,
   ⟨(some (.E 60)), .mv (.V 1), none⟩,
   ⟨(some (.E 61)), .call k_laws_toIntSS [([1], (.E 60))], none⟩,
   ⟨(some (.E 62)), .call k_laws_eqIntSS [([1], (.E 59)), ([1], (.E 61))], none⟩,
   ⟨(some (.E 63)), .un .not (.E 62), none⟩])
 (.cond (.E 63)
  (.seq (.reg [⟨(some (.V 4)), .mv (kb false), none⟩])
  (.ret))
  (.skip)))
 (.seq (.reg [⟨(some (.V 12)), .mv (ki 1), none⟩])
 (.seq (.reg [⟨(some (.E 64)), .load true 4 (.V 8), none⟩,
   ⟨(some (.E 65)), .mv (.V 12), none⟩,
   ⟨(some (.E 66)), .call k_laws_markModel [([1, 1, 0, 1], (.E 64)), ([0], (.E 65))], none⟩,
   ⟨(some (.V 12)), .mv (.E 66), none⟩])
 (.seq (.reg [⟨(some (.E 67)), .mv (.V 9), none⟩,
   ⟨(some (.E 68)), .mv (.V 12), none⟩,
   ⟨(some (.E 69)), .call k_laws_markIntSS [([1], (.E 67)), ([0], (.E 68))], none⟩,
   ⟨(some (.V 12)), .mv (.E 69), none⟩])
 (.seq (.seq (.reg [⟨(some (.E 70)), .mv (.V 12), none⟩,
   ⟨(some (.E 71)), .bin .lss (.E 70) (ki 0), none⟩,
   ⟨(some (.E 72)), .mv (.E 71), none⟩,
   ⟨(some (.E 73)), .mv (.V 10), some ((.E 72), false)⟩,
   ⟨(some (.E 74)), .mv (.V 6), some ((.E 72), false)⟩,
   ⟨(some (.E 75)), .call k_laws_eqIntS [([1], (.E 73)), ([1], (.E 74))], some ((.E 72), false)⟩,
   ⟨(some (.E 76)), .un .not (.E 75), some ((.E 72), false)⟩,
   ⟨(some (.E 77)), .pick (.E 72) (kb true) (.E 76), none⟩,
   ⟨(some (.E 78)), .mv (.E 77), none⟩,
   ⟨(some (.E 79)), .mv (.V 11), some ((.E 78), false)⟩,
   ⟨(some (.E 80)), .mv (.V 7), some ((.E 78), false)⟩,
   ⟨(some (.E 81)), .eqb true [.b] (.E 79) (.E 80), some ((.E 78), false)⟩,
   ⟨(some (.E 82)), .pick (.E 78) (kb true) (.E 81), none⟩])
 (.cond (.E 82)
  (.seq (.reg [⟨(some (.V 4)), .mv (kb false), none⟩])
  (.ret))
  (.skip)))
 (.seq (.reg [⟨(some (.V 13)), .mv (ki 1), none⟩])
 (.seq (.reg [⟨(some (.E 83)), .mv (.V 10), none⟩,
   ⟨(some (.E 84)), .mv (.V 13), none⟩,
   ⟨(some (.E 85)), .call k_laws_markIntS [([1], (.E 83)), ([0], (.E 84))], none⟩,
   ⟨(some (.V 13)), .mv (.E 85), none⟩])
 (.seq (.reg [⟨(some (.V 14)), .mv (ki 1), none⟩])
 (.seq (.reg [⟨(some (.E 86)), .mv (.V 10), none⟩,
   ⟨(some (.E 87)), .mv (.V 14), none⟩,
   ⟨(some (.E 88)), .call k_laws_heldIntS [([1], (.E 86)), ([0], (.E 87))], none⟩,
   ⟨(some (.V 14)), .mv (.E 88), none⟩])
 (.seq (.seq (.reg [⟨(some (.E 89)), .mv (.V 14), none⟩,
   ⟨(some (.E 90)), .bin .lss (.E 89) (ki 0), none⟩])
 (.cond (.E 90)
  (.seq (.reg [⟨(some (.V 4)), .mv (kb false), none⟩])
  (.ret))
  (.skip)))
 (.seq (.seq (.reg [⟨(some (.E 91)), .mv (.V 14), none⟩,
   ⟨(some (.E 92)), .mv (.V 13), none⟩,
   ⟨(some (.E 93)), .bin .neq (.E 91) (.E 92), none⟩])
 (.cond (.E 93)
  (.seq (.reg [⟨(some (.V 4)), .mv (kb false), none⟩])
  (.ret))
  (.skip)))
 (.seq (.reg [⟨(some (.E 95)), .load true 4 (.V 2), none⟩,
   ⟨(some (.E 96)), .call k_laws_toModel [([1, 1, 0, 1], (.E 95))], none⟩,
   ⟨(some (.E 97)), .mv (.V 1), none⟩,
   ⟨(some (.E 98)), .call k_laws_toIntSS [([1], (.E 97))], none⟩,
   ⟨(some (.E 99)), .call k_impl_PredictAll [([1, 1, 0, 1], (.E 96)), ([1], (.E 98))], none⟩,
   ⟨(some (.E 94)), .mv (.E 99), none⟩,
   ⟨(some (.E 100)), .ext 0 (.E 94), none⟩,
   ⟨(some (.E 101)), .ext 1 (.E 94), none⟩,
   ⟨(some (.V 15)), .mv (.E 100), none⟩,
   ⟨(some (.V 16)), .mv (.E 101), none⟩])
 (.seq (.seq (.reg [⟨(some (.E 102)), .mv (.V 15), none⟩,
   ⟨(some (.E 103)), .mv (.V 6), none⟩,
   ⟨(some (.E 104)), .call k_laws_eqIntS [([1], (.E 102)), ([1], (.E 103))], none⟩,
   ⟨(some (.E 105)), .un .not (.E 104), none⟩,
   ⟨(some (.E 106)), .mv (.E 105), none⟩,
   ⟨(some (.E 107)), .mv (.V 16), some ((.E 106), false)⟩,
   ⟨(some (.E 108)), .mv (.V 7), some ((.E 106), false)⟩,
   ⟨(some (.E 109)), .eqb true [.b] (.E 107) (.E 108), some ((.E 106), false)⟩,
   ⟨(some (.E 110)), .pick (.E 106) (kb true) (.E 109), none⟩])
 (.cond (.E 110)
  (.seq (.reg [⟨(some (.V 4)), .mv (kb false), none⟩])
  (.ret))
  (.skip)))
 (.seq (.reg [⟨(some (.V 14)), .mv (ki 1), none⟩])
 (.seq (.reg [⟨(some (.E 111)), .mv (.V 10), none⟩,
   ⟨(some (.E 112)), .mv (.V 14), none⟩,
   ⟨(some (.E 113)), .call k_laws_heldIntS [([1], (.E 111)), ([0], (.E 112))], none⟩,
   ⟨(some (.V 14)), .mv (.E 113), none⟩])
 (.seq (.seq (.reg [⟨(some (.E 114)), .mv (.V 14), none⟩,
   ⟨(some (.E 115)), .bin .lss (.E 114) (ki 0), none⟩])
 (.cond (.E 115)
  (.seq (.reg [⟨(some (.V 4)), .mv (kb false), none⟩])
  (.ret))
  (.skip)))
 (.seq (.seq (.reg [⟨(some (.E 116)), .mv (.V 14), none⟩,
   ⟨(some (.E 117)), .mv (.V 13), none⟩,
   ⟨(some (.E 118)), .bin .neq (.E 116) (.E 117), none⟩])
 (.cond (.E 118)
  (.seq (.reg [⟨(some (.V 4)), .mv (kb false), none⟩])
  (.ret))
  (.skip)))
 (.seq (.reg [⟨(some (.V 4)), .mv (kb true), none⟩])
 (.ret))))))))))))))))))))))))))))))

def k_laws_FnExactPredictAll_rv : List RV := [.tmp [0] 4]

def k_laws_szModel_vars : List Nat := [0, 1, 2, 4]

def k_laws_szModel_ic : IC :=
 .seq (.reg [⟨(some (.V 2)), .box (.V 0), none⟩,
   ⟨(some (.V 4)), .mv (ki 0), none⟩])
 (.seq (.reg [⟨(some (.E 5)), .faddr 0 (.V 2), none⟩,
   ⟨(some (.E 6)), .load false 1 (.E 5), none⟩,
   ⟨(some (.E 7)), .mv (.V 1), none⟩,
   ⟨(some (.E 8)), .call k_laws_szStringS [([1], (.E 6)), ([0], (.E 7))], none⟩,
   ⟨(some (.V 1)), .mv (.E 8), none⟩])
 (.seq (.seq (.reg [⟨(some (.E 9)), .mv (.V 1), none⟩,
   ⟨(some (.E 10)), .bin .lss (.E 9) (ki 0), none⟩])
 (.cond (.E 10)
  (.seq (.reg [⟨(some (.V 4)), .mv (ki (-1)), none⟩])
  (.ret))
  (.skip)))
 (.seq (.reg [⟨(some (.E 11)), .faddr 1 (.V 2), none⟩,
   ⟨(some (.E 12)), .load false 1 (.E 11), none⟩,
   ⟨(some (.E 13)), .mv (.V 1), none⟩,
   ⟨(some (.E 14)), .call k_laws_szIntS [([1], (.E 12)), ([0], (.E 13))], none⟩,
   ⟨(some (.V 1)), .mv (.E 14), none⟩])
 (.seq (.seq (.reg [⟨(some (.E 15)), .mv (.V 1), none⟩,
   ⟨(some (.E 16)), .bin .lss (.E 15) (ki 0), none⟩])
 (.cond (.E 16)
  (.seq (.reg [⟨(some (.V 4)), .mv (ki (-1)), none⟩])
  (.ret))
  (.skip)))
 (.seq (.reg [⟨(some (.E 17)), .faddr 3 (.V 2), none⟩,
   ⟨(some (.E 18)), .load false 1 (.E 17), none⟩,
   ⟨(some (.E 19)), .mv (.V 1), none⟩,
   ⟨(some (.E 20)), .call k_laws_szTreeS [([1], (.E 18)), ([0], (.E 19))], none⟩,
   ⟨(some (.V 1)), .mv (.E 20), none⟩])
 (.seq (.seq (.reg [⟨(some (.E 21)), .mv (.V 1), none⟩,
   ⟨(some (.E 22)), .bin .lss (.E 21) (ki 0), none⟩])
 (.cond (.E 22)
  (.seq (.reg [⟨(some (.V 4)), .mv (ki (-1)), none⟩])
  (.ret))
  (.skip)))
 (.seq (.reg [⟨(some (.E 23)), .mv (.V 1), none⟩,
   ⟨(some (.V 4)), .mv (.E 23), none⟩])
 (.ret))))))))

def k_laws_szModel_rv : List RV := [.tmp [0] 4]

def k_laws_toModel_vars : List Nat := [0, 1, 3, 2]

def k_laws_toModel_ic : IC :=
 .seq (.reg [⟨(some (.V 1)), .box (.V 0), none⟩,
   ⟨(some (.V 2)), .alloc [.e0, .e0, (.v (.int .i64 0)), .e0], none⟩])
 (.seq (.reg [⟨(some (.V 3)), .alloc [.e0, .e0, (.v (.int .i64 0)), .e0], none⟩])
 (.seq (.reg [⟨(some (.E 4)), .faddr 0 (.V 1), none⟩,
   ⟨(some (.E 5)), .load false 1 (.E 4), none⟩,
   ⟨(some (.E 6)), .call k_laws_toStringS [([1], (.E 5))], none⟩,
   ⟨(some (.E 7)), .faddr 0 (.V 3), none⟩,
   ⟨none, .store [1] (.E 7) (.E 6), none⟩])
 (.seq (.reg [⟨(some (.E 8)), .faddr 1 (.V 1), none⟩,
   ⟨(some (.E 9)), .load false 1 (.E 8), none⟩,
   ⟨(some (.E 10)), .call k_laws_toIntS [([1], (.E 9))], none⟩,
   ⟨(some (.E 11)), .faddr 1 (.V 3), none⟩,
   ⟨none, .store [1] (.E 11) (.E 10), none⟩])
 (.seq (.reg [⟨(some (.E 12)), .faddr 2 (.V 1), none⟩,
   ⟨(some (.E 13)), .load false 1 (.E 12), none⟩,
   ⟨(some (.E 14)), .faddr 2 (.V 3), none⟩,
   ⟨none, .store [0] (.E 14) (.E 13), none⟩])
 (.seq (.reg [⟨(some (.E 15)), .faddr 3 (.V 1), none⟩,
   ⟨(some (.E 16)), .load false 1 (.E 15), none⟩,
   ⟨(some (.E 17)), .call k_laws_toTreeS [([1], (.E 16))], none⟩,
   ⟨(some (.E 18)), .faddr 3 (.V 3), none⟩,
   ⟨none, .store [1] (.E 18) (.E 17), none⟩])
 (.seq (.reg [⟨(some (.E 19)), .load true 4 (.V 3), none⟩,
   ⟨none, .store [1, 1, 0, 1] (.V 2) (.E 19), none⟩])
 (.ret)))))))

def k_laws_toModel_rv : List RV := [.cell [1, 1, 0, 1] 2 true]

def k_laws_eqModel_vars : List Nat := [0, 1, 2, 3, 4]

def k_laws_eqModel_ic : IC :=
 .seq (.reg [⟨(some (.V 2)), .box (.V 0), none⟩,
   ⟨(some (.V 3)), .box (.V 1), none⟩,
   ⟨(some (.V 4)), .mv (kb false), none⟩])
 (.seq (.seq (.reg [⟨(some (.E 5)), .faddr 0 (.V 2), none⟩,
   ⟨(some (.E 6)), .load false 1 (.E 5), none⟩,
   ⟨(some (.E 7)), .faddr 0 (.V 3), none⟩,
   ⟨(some (.E 8)), .load false 1 (.E 7), none⟩,
   ⟨(some (.E 9)), .call k_laws_eqStringS [([1], (.E 6)), ([1], (.E 8))], none⟩,
   ⟨(some (.E 10)), .un .not (.E 9), none⟩])
 (.cond (.E 10)
  (.seq (.reg [⟨(some (.V 4)), .mv (kb false), none⟩])
  (.ret))
  (.skip)))
 (.seq (.seq (.reg [⟨(some (.E 11)), .faddr 1 (.V 2), none⟩,
   ⟨(some (.E 12)), .load false 1 (.E 11), none⟩,
   ⟨(some (.E 13)), .faddr 1 (.V 3), none⟩,
   ⟨(some (.E 14)), .load false 1 (.E 13), none⟩,
   ⟨(some (.E 15)), .call k_laws_eqIntS [([1], (.E 12)), ([1], (.E 14))], none⟩,
   ⟨(some (.E 16)), .un .not (.E 15), none⟩])
 (.cond (.E 16)
  (.seq (.reg [⟨(some (.V 4)), .mv (kb false), none⟩])
  (.ret))
  (.skip)))
 (.seq (.seq (.reg [⟨(some (.E 17)), .faddr 2 (.V 2), none⟩,
   ⟨(some (.E 18)), .load false 1 (.E 17), none⟩,
   ⟨(some (.E 19)), .faddr 2 (.V 3), none⟩,
   ⟨(some (.E 20)), .load false 1 (.E 19), none⟩,
   ⟨(some (.E 21)), .bin .neq (.E 18) (.E 20), none⟩])
 (.cond (.E 21)
  (.seq (.reg [⟨(some (.V 4)), .mv (kb false), none⟩])
  (.ret))
  (.skip)))
 (.seq (.seq (.reg [⟨(some (.E 22)), .faddr 3 (.V 2), none⟩,
   ⟨(some (.E 23)), .load false 1 (.E 22), none⟩,
   ⟨(some (.E 24)), .faddr 3 (.V 3), none⟩,
   ⟨(some (.E 25)), .load false 1 (.E 24), none⟩,
   ⟨(some (.E 26)), .call k_laws_eqTreeS [([1], (.E 23)), ([1], (.E 25))], none⟩,
   ⟨(some (.E 27)), .un .not (.E 26), none⟩])
 (.cond (.E 27)
  (.seq (.reg [⟨(some (.V 4)), .mv (kb false), none⟩])
  (.ret))
  (.skip)))
 (.seq (.reg [⟨(some (.V 4)), .mv (kb true), none⟩])
 (.ret))))))

def k_laws_eqModel_rv : List RV := [.tmp [0] 4]

def k_laws_szTree_vars : List Nat := [0, 1, 2, 4]

def k_laws_szTree_ic : IC :=
 .seq (.reg [⟨(some (.V 2)), .box (.V 0), none⟩,
   ⟨(some (.V 4)), .mv (ki 0), none⟩])
 (.seq (.reg [⟨(some (.E 5)), .faddr 0 (.V 2), none⟩,
   ⟨(some (.E 6)), .load false 1 (.E 5), none⟩,
   ⟨(some (.E 7)), .mv (.V 1), none⟩,
   ⟨(some (.E 8)), .call k_laws_szNodeS [([5], (.E 6)), ([0], (.E 7))], none⟩,
   ⟨(some (.V 1)), .mv (.E 8), none⟩])
 (.seq (.seq (.reg [⟨(some (.E 9)), .mv (.V 1), none⟩,
   ⟨(some (.E 10)), .bin .lss (.E 9) (ki 0), none⟩])
 (.cond (.E 10)
  (.seq (.reg [⟨(some (.V 4)), .mv (ki (-1)), none⟩])
  (.ret))
  (.skip)))
 (.seq (.reg [⟨(some (.E 11)), .mv (.V 1), none⟩,
   ⟨(some (.V 4)), .mv (.E 11), none⟩])
 (.ret))))

def k_laws_szTree_rv : List RV := [.tmp [0] 4]

def k_laws_toTree_vars : List Nat := [0, 1, 3, 2]

def k_laws_toTree_ic : IC :=
 .seq (.reg [⟨(some (.V 1)), .box (.V 0), none⟩,
   ⟨(some (.V 2)), .alloc [.e0], none⟩])
 (.seq (.reg [⟨(some (.V 3)), .alloc [.e0], none⟩])
 (.seq (.reg [⟨(some (.E 4)), .faddr 0 (.V 1), none⟩,
   ⟨(some (.E 5)), .load false 1 (.E 4), none⟩,
   ⟨(some (.E 6)), .call k_laws_toNodeS [([5], (.E 5))], none⟩,
   ⟨(some (.E 7)), .faddr 0 (.V 3), none⟩,
   ⟨none, .store [5] (.E 7) (.E 6), none⟩])
 (.seq (.reg [⟨(some (.E 8)), .load true 1 (.V 3), none⟩,
   ⟨none, .store [5] (.V 2) (.E 8), none⟩])
 (.ret))))

def k_laws_toTree_rv : List RV := [.cell [5] 2 true]

def k_laws_eqTree_vars : List Nat := [0, 1, 2, 3, 4]

def k_laws_eqTree_ic : IC :=
 .seq (.reg [⟨(some (.V 2)), .box (.V 0), none⟩,
   ⟨(some (.V 3)), .box (.V 1), none⟩,
   ⟨(some (.V 4)), .mv (kb false), none⟩])
 (.seq (.seq (.reg [⟨(some (.E 5)), .faddr 0 (.V 2), none⟩,
   ⟨(some (.E 6)), .load false 1 (.E 5), none⟩,
   ⟨(some (.E 7)), .faddr 0 (.V 3), none⟩,
   ⟨(some (.E 8)), .load false 1 (.E 7), none⟩,
   ⟨(some (.E 9)), .call k_laws_eqNodeS [([5], (.E 6)), ([5], (.E 8))], none⟩,
   ⟨(some (.E 10)), .un .not (.E 9), none⟩])
 (.cond (.E 10)
  (.seq (.reg [⟨(some (.V 4)), .mv (kb false), none⟩])
  (.ret))
  (.skip)))
 (.seq (.reg [⟨(some (.V 4)), .mv (kb true), none⟩])
 (.ret)))

def k_laws_eqTree_rv : List RV := [.tmp [0] 4]

def k_laws_toIntS_vars : List Nat := [0, 4, 3, 2]

def k_laws_toIntS_b0 : IC :=
 .seq (.seq (.reg [⟨(some (.E 8)), .mv (.V 4), none⟩,
   ⟨(some (.E 9)), .mv (.V 0), none⟩,
   ⟨(some (.E 10)), .len (.E 9), none⟩,
   ⟨(some (.E 11)), .bin .lss (.E 8) (.E 10), none⟩])
 (.cond (.E 11)
  (.skip)
  (.exit 0)))
 (.seq (.block 1 (.reg [⟨(some (.E 14)), .mv (.V 3), none⟩,
    ⟨(some (.E 15)), .mv (.V 4), none⟩,
    ⟨(some (.E 16)), .mv (.V 0), none⟩,
    ⟨(some (.E 17)), .mv (.V 4), none⟩,
    ⟨(some (.E 18)), .iaddr 1 (.E 16) (.E 17), none⟩,
    ⟨(some (.E 19)), .load false 1 (.E 18), none⟩,
    ⟨(some (.E 20)), .iaddr 1 (.E 14) (.E 15), none⟩,
    ⟨none, .store [0] (.E 20) (.E 19), none⟩]))
 (.reg [⟨(some (.E 12)), .mv (.V 4), none⟩,
   ⟨(some (.E 13)), .bin .add (.E 12) (ki 1), none⟩,
   ⟨(some (.V 4)), .mv (.E 13), none⟩]))

def k_laws_toIntS_ic : IC :=
 .seq (.reg [⟨(some (.V 2)), .mv (.C .e0), none⟩])
 (.seq (.reg [⟨(some (.E 5)), .mv (.V 0), none⟩,
   ⟨(some (.E 6)), .len (.E 5), none⟩,
   ⟨(some (.E 7)), .mksl 8 1 [(.v (.int .i64 0))] (.E 6) (.E 6), none⟩,
   ⟨(some (.V 3)), .mv (.E 7), none⟩])
 (.seq (.seq (.reg [⟨(some (.V 4)), .mv (ki 0), none⟩])
 (.block 0 (.loop k_laws_toIntS_b0)))
 (.seq (.reg [⟨(some (.E 21)), .mv (.V 3), none⟩,
   ⟨(some (.V 2)), .mv (.E 21), none⟩])
 (.ret))))

def k_laws_toIntS_rv : List RV := [.tmp [1] 2]

def k_laws_eqIntS_vars : List Nat := [0, 1, 5, 4]

def k_laws_eqIntS_b0 : IC :=
 .seq (.seq (.reg [⟨(some (.E 11)), .mv (.V 5), none⟩,
   ⟨(some (.E 12)), .mv (.V 0), none⟩,
   ⟨(some (.E 13)), .len (.E 12), none⟩,
   ⟨(some (.E 14)), .bin .lss (.E 11) (.E 13), none⟩])
 (.cond (.E 14)
  (.skip)
  (.exit 0)))
 (.seq (.block 1 (.seq (.regD [(⟨(some (.E 17)), .mv (.V 0), none⟩, 0, 0),
    (⟨(some (.E 18)), .mv (.V 5), none⟩, 0, 0),
    (⟨(some (.E 19)), .iaddr 1 (.E 17) (.E 18), none⟩, 0, 0),
    (⟨(some (.E 20)), .load false 1 (.E 19), none⟩, 0, 0),
    (⟨(some (.E 21)), .mv (.V 1), none⟩, 0, 0),
    (⟨(some (.E 22)), .mv (.V 5), none⟩, 0, 0),
    (⟨(some (.E 23)), .iaddr 1 (.E 21) (.E 22), none⟩, 0, 0),
    (⟨(some (.E 24)), .load false 1 (.E 23), none⟩, 0, 0),
    (⟨(some (.E 25)), .bin .neq (.E 20) (.E 24), none⟩, 0, 0)])
  (.cond (.E 25)
   (.seq (.reg [⟨(some (.V 4)), .mv (kb false), none⟩])
   (.ret))
   (.skip))))
 (.reg [⟨(some (.E 15)), .mv (.V 5), none⟩,
   ⟨(some (.E 16)), .bin .add (.E 15) (ki 1), none⟩,
   ⟨(some (.V 5)), .mv (.E 16), none⟩]))

def k_laws_eqIntS_ic : IC :=
 .seq (.reg [⟨(some (.V 4)), .mv (kb false), none⟩])
 (.seq (.seq (.reg [⟨(some (.E 6)), .mv (.V 0), none⟩,
   ⟨(some (.E 7)), .len (.E 6), none⟩,
   ⟨(some (.E 8)), .mv (.V 1), none⟩,
   ⟨(some (.E 9)), .len (.E 8), none⟩,
   ⟨(some (.E 10)), .bin .neq (.E 7) (.E 9), none⟩])
 (.cond (.E 10)
  (.seq (.reg [⟨(some (.V 4)), .mv (kb false), none⟩])
  (.ret))
  (.skip)))
 (.seq (.seq (.reg [⟨(some (.V 5)), .mv (ki 0), none⟩])
 (.block 0 (.loop k_laws_eqIntS_b0)))
 (.seq (.reg [⟨(some (.V 4)), .mv (kb true), none⟩])
 (.ret))))

def k_laws_eqIntS_rv : List RV := [.tmp [0] 4]

def k_laws_markIntS_vars : List Nat := [0, 1, 5, 4]

def k_laws_markIntS_b0 : IC :=
 .seq (.seq (.reg [⟨(some (.E 6)), .mv (.V 5), none⟩,
   ⟨(some (.E 7)), .mv (.V 0), none⟩,
   ⟨(some (.E 8)), .len (.E 7), none⟩,
   ⟨(some (.E 9)), .bin .lss (.E 6) (.E 8), none⟩])
 (.cond (.E 9)
  (.skip)
  (.exit 0)))
 (.seq (.block 1 (.seq (.reg [⟨(some (.E 12)), .mv (.V 0), none⟩,
    ⟨(some (.E 13)), .mv (.V 5), none⟩,
    ⟨(some (.E 14)), .mv (.V 1), none⟩,
    ⟨(some (.E 15)), .iaddr 1 (.E 12) (.E 13), none⟩,
    ⟨none, .store [0] (.E 15) (.E 14), none⟩])
  (.reg [⟨(some (.E 16)), .mv (.V 1), none⟩,
    ⟨(some (.E 17)), .bin .add (.E 16) (ki 1), none⟩,
    ⟨(some (.V 1)), .mv (.E 17), none⟩])))
 (.reg [⟨(some (.E 10)), .mv (.V 5), none⟩,
   ⟨(some (.E 11)), .bin .add (.E 10) (ki 1), none⟩,
   ⟨(some (.V 5)), .mv (.E 11), none⟩]))

def k_laws_markIntS_ic : IC :=
 .seq (.reg [⟨(some (.V 4)), .mv (ki 0), none⟩])
 (.seq (.seq (.reg [⟨(some (.V 5)), .mv (ki 0), none⟩])
 (.block 0 (.loop k_laws_markIntS_b0)))
 (.seq (.reg [⟨(some (.E 18)), .mv (.V 1), none⟩,
   ⟨(some (.V 4)), .mv (.E 18), none⟩])
 (.ret)))

def k_laws_markIntS_rv : List RV := [.tmp [0] 4]

def k_spec_ModelOk_vars : List Nat := [0, 1, 3, 4, 5, 6, 2]

def k_spec_ModelOk_b0 : IC :=
 .seq (.seq (.reg [⟨(some (.E 38)), .mv (.V 4), none⟩,
   ⟨(some (.E 39)), .mv (.V 3), none⟩,
   ⟨(some (.E 40)), .bin .lss (.E 38) (.E 39), none⟩])
 (.cond (.E 40)
  (.skip)
  (.exit 0)))
 (.seq (.block 1 (.seq (.regD [(⟨(some (.E 43)), .faddr 0 (.V 1), none⟩, 0, 0),
    (⟨(some (.E 44)), .load false 1 (.E 43), none⟩, 0, 0),
    (⟨(some (.E 45)), .mv (.V 4), none⟩, 0, 0),
    (⟨(some (.E 46)), .iaddr 1 (.E 44) (.E 45), none⟩, 0, 0),
    (⟨(some (.E 47)), .load false 1 (.E 46), none⟩, 0, 0),
    (⟨(some (.E 48)), .call k_spec_NameOk [([0], (.E 47))], none⟩, 0, 0),
    (⟨(some (.E 49)), .un .not (.E 48), none⟩, 0, 0),
    (⟨(some (.E 50)), .mv (.E 49), none⟩, 0, 0),
    (⟨(some (.E 51)), .faddr 0 (.V 1), some ((.E 50), false)⟩, 0, 0),
    (⟨(some (.E 52)), .load false 1 (.E 51), some ((.E 50), false)⟩, 0, 0),
    (⟨(some (.E 53)), .mv (.V 4), some ((.E 50), false)⟩, 0, 0),
    (⟨(some (.E 54)), .slice 1 (.E 52) none (some (.E 53)) none, some ((.E 50), false)⟩, 0, 0),
    (⟨(some (.E 55)), .faddr 0 (.V 1), some ((.E 50), false)⟩, 0, 0),
    (⟨(some (.E 56)), .load false 1 (.E 55), some ((.E 50), false)⟩, 0, 0),
    (⟨(some (.E 57)), .mv (.V 4), some ((.E 50), false)⟩, 0, 0),
    (⟨(some (.E 58)), .iaddr 1 (.E 56) (.E 57), some ((.E 50), false)⟩, 0, 0),
    (⟨(some (.E 59)), .load false 1 (.E 58), some ((.E 50), false)⟩, 0, 0),
    (⟨(some (.E 60)), .call k_spec_l9Has [([1], (.E 54)), ([0], (.E 59))], some ((.E 50), false)⟩, 0, 0),
    (⟨(some (.E 61)), .pick (.E 50) (kb true) (.E 60), none⟩, 0, 0)])
  (.cond (.E 61)
   (.seq (.reg [⟨(some (.V 2)), .mv (kb false), none⟩])
   (.ret))
   (.skip))))
 (.reg [⟨(some (.E 41)), .mv (.V 4), none⟩,
   ⟨(some (.E 42)), .bin .add (.E 41) (ki 1), none⟩,
   ⟨(some (.V 4)), .mv (.E 42), none⟩]))

def k_spec_ModelOk_b1 : IC :=
 .seq (.seq (.reg [⟨(some (.E 62)), .mv (.V 5), none⟩,
   ⟨(some (.E 63)), .faddr 1 (.V 1), none⟩,
   ⟨(some (.E 64)), .load false 1 (.E 63), none⟩,
   ⟨(some (.E 65)), .len (.E 64), none⟩,
   ⟨(some (.E 66)), .bin .lss (.E 62) (.E 65), none⟩])
 (.cond (.E 66)
  (.skip)
  (.exit 2)))
 (.seq (.block 3 (.seq (.reg [⟨(some (.E 69)), .faddr 1 (.V 1), none⟩,
    ⟨(some (.E 70)), .load false 1 (.E 69), none⟩,
    ⟨(some (.E 71)), .mv (.V 5), none⟩,
    ⟨(some (.E 72)), .iaddr 1 (.E 70) (.E 71), none⟩,
    ⟨(some (.E 73)), .load false 1 (.E 72), none⟩,
    ⟨(some (.E 74)), .call k_spec_l1In [([0], (.E 73)), ([0], (ki (-1))), ([0], (ki 1))], none⟩,
    ⟨(some (.E 75)), .un .not (.E 74), none⟩])
  (.cond (.E 75)
   (.seq (.reg [⟨(some (.V 2)), .mv (kb false), none⟩])
   (.ret))
   (.skip))))
 (.reg [⟨(some (.E 67)), .mv (.V 5), none⟩,
   ⟨(some (.E 68)), .bin .add (.E 67) (ki 1), none⟩,
   ⟨(some (.V 5)), .mv (.E 68), none⟩]))

def k_spec_ModelOk_b2 : IC :=
 .seq (.seq (.reg [⟨(some (.E 76)), .mv (.V 6), none⟩,
   ⟨(some (.E 77)), .faddr 3 (.V 1), none⟩,
   ⟨(some (.E 78)), .load false 1 (.E 77), none⟩,
   ⟨(some (.E 79)), .len (.E 78), none⟩,
   ⟨(some (.E 80)), .bin .lss (.E 76) (.E 79), none⟩])
 (.cond (.E 80)
  (.skip)
  (.exit 4)))
 (.seq (.block 5 (.seq (.reg [⟨(some (.E 83)), .faddr 3 (.V 1), none⟩,
    ⟨(some (.E 84)), .load false 1 (.E 83), none⟩,
    ⟨(some (.E 85)), .mv (.V 6), none⟩,
    ⟨(some (.E 86)), .iaddr 1 (.E 84) (.E 85), none⟩,
    ⟨(some (.E 87)), .load true 1 (.E 86), none⟩,
    ⟨(some (.E 88)), .mv (.V 3), none⟩,
    ⟨(some (.E 89)), .call k_spec_TreeOk [([5], (.E 87)), ([0], (.E 88))], none⟩,
    ⟨(some (.E 90)), .un .not (.E 89), none⟩])
  (.cond (.E 90)
   (.seq (.reg [⟨(some (.V 2)), .mv (kb false), none⟩])
   (.ret))
   (.skip))))
 (.reg [⟨(some (.E 81)), .mv (.V 6), none⟩,
   ⟨(some (.E 82)), .bin .add (.E 81) (ki 1), none⟩,
   ⟨(some (.V 6)), .mv (.E 82), none⟩]))

def k_spec_ModelOk_ic : IC :=
 .seq (.reg [⟨(some (.V 1)), .box (.V 0), none⟩,
   ⟨(some (.V 2)), .mv (kb false), none⟩])
 (.seq (.reg [⟨(some (.E 7)), .faddr 0 (.V 1), none⟩,
   ⟨(some (.E 8)), .load false 1 (.E 7), none⟩,
   ⟨(some (.E 9)), .len (.E 8), none⟩,
   ⟨(some (.V 3)), .mv (.E 9), none⟩])
 (.seq (.seq (.reg [⟨(some (.E 10)), .mv (.V 3), none⟩,
   ⟨(some (.E 11)), .call k_spec_l1In [([0], (.E 10)), ([0], (ki 1)), ([0], (ki 4))], none⟩,
   ⟨(some (.E 12)), .un .not (.E 11), none⟩,
   ⟨(some (.E 13)), .mv (.E 12), none⟩,
   ⟨(some (.E 14)), .faddr 1 (.V 1), some ((.E 13), false)⟩,
   ⟨(some (.E 15)), .load false 1 (.E 14), some ((.E 13), false)⟩,
   ⟨(some (.E 16)), .len (.E 15), some ((.E 13), false)⟩,
   ⟨(some (.E 17)), .bin .neq (.E 16) (ki 0), some ((.E 13), false)⟩,
   ⟨(some (.E 18)), .mv (.E 17), some ((.E 13), false)⟩,
   ⟨(some (.E 19)), .faddr 1 (.V 1), some ((.E 18), true)⟩,
   ⟨(some (.E 20)), .load false 1 (.E 19), some ((.E 18), true)⟩,
   ⟨(some (.E 21)), .len (.E 20), some ((.E 18), true)⟩,
   ⟨(some (.E 22)), .mv (.V 3), some ((.E 18), true)⟩,
   ⟨(some (.E 23)), .bin .neq (.E 21) (.E 22), some ((.E 18), true)⟩,
   ⟨(some (.E 24)), .pick (.E 18) (.E 23) (kb false), some ((.E 13), false)⟩,
   ⟨(some (.E 25)), .pick (.E 13) (kb true) (.E 24), none⟩,
   ⟨(some (.E 26)), .mv (.E 25), none⟩,
   ⟨(some (.E 27)), .faddr 2 (.V 1), some ((.E 26), false)⟩,
   ⟨(some (.E 28)), .load false 1 (.E 27), some ((.E 26), false)⟩,
   ⟨(some (.E 29)), .call k_spec_l6Value [([0], (.E 28))], some ((.E 26), false)⟩,
   ⟨(some (.E 30)), .un .not (.E 29), some ((.E 26), false)⟩,
   ⟨(some (.E 31)), .pick (.E 26) (kb true) (.E 30), none⟩,
   ⟨(some (.E 32)), .mv (.E 31), none⟩,
   ⟨(some (.E 33)), .faddr 3 (.V 1), some ((.E 32), false)⟩,
   ⟨(some (.E 34)), .load false 1 (.E 33), some ((.E 32), false)⟩,
   ⟨(some (.E 35)), .len (.E 34), some ((.E 32), false)⟩,
   ⟨(some (.E 36)), .bin .gtr (.E 35) (ki 8), some ((.E 32), false)⟩,
   ⟨(some (.E 37)), .pick (.E 32) (kb true) (.E 36), none⟩])
 (.cond (.E 37)
  (.seq (.reg [⟨(some (.V 2)), .mv (kb false), none⟩])
  (.ret))
  (.skip)))
 (.seq (.seq (.reg [⟨(some (.V 4)), .mv (ki 0), none⟩])
 (.block 0 (.loop k_spec_ModelOk_b0)))
 (.seq (.seq (.reg [⟨(some (.V 5)), .mv (ki 0), none⟩])
 (.block 2 (.loop k_spec_ModelOk_b1)))
 (.seq (.seq (.reg [⟨(some (.V 6)), .mv (ki 0), none⟩])
 (.block 4 (.loop k_spec_ModelOk_b2)))
 (.seq (.reg [⟨(some (.V 2)), .mv (kb true), none⟩])
 (.ret)))))))

def k_spec_ModelOk_rv : List RV := [.tmp [0] 2]

def k_impl_ModelOk_vars : List Nat := [0, 1, 3, 2]

def k_impl_ModelOk_ic : IC :=
 .seq (.reg [⟨(some (.V 1)), .box (.V 0), none⟩,
   ⟨(some (.V 2)), .mv (kb false), none⟩])
 (.seq (.reg [⟨(some (.E 4)), .faddr 0 (.V 1), none⟩,
   ⟨(some (.E 5)), .load false 1 (.E 4), none⟩,
   ⟨(some (.E 6)), .len (.E 5), none⟩,
   ⟨(some (.V 3)), .alloc [(.v (.int .i64 0))], none⟩,
   ⟨none, .store [0] (.V 3) (.E 6), none⟩])
 (.seq (.seq (.reg [⟨(some (.E 7)), .load false 1 (.V 3), none⟩,
   ⟨(some (.E 8)), .call k_impl_within [([0], (.E 7)), ([0], (ki 1)), ([0], (ki 4))], none⟩,
   ⟨(some (.E 9)), .un .not (.E 8), none⟩,
   ⟨(some (.E 10)), .mv (.E 9), none⟩,
   ⟨(some (.E 11)), .faddr 0 (.V 1), some ((.E 10), false)⟩,
   ⟨(some (.E 12)), .load false 1 (.E 11), some ((.E 10), false)⟩,
   ⟨(some (.E 13)), .call k_impl_areNames [([1], (.E 12))], some ((.E 10), false)⟩,
   ⟨(some (.E 14)), .un .not (.E 13), some ((.E 10), false)⟩,
   ⟨(some (.E 15)), .pick (.E 10) (kb true) (.E 14), none⟩,
   ⟨(some (.E 16)), .mv (.E 15), none⟩,
   ⟨(some (.E 17)), .faddr 1 (.V 1), some ((.E 16), false)⟩,
   ⟨(some (.E 18)), .load false 1 (.E 17), some ((.E 16), false)⟩,
   ⟨(some (.E 19)), .len (.E 18), some ((.E 16), false)⟩,
   ⟨(some (.E 20)), .bin .neq (.E 19) (ki 0), some ((.E 16), false)⟩,
   ⟨(some (.E 21)), .mv (.E 20), some ((.E 16), false)⟩,
   ⟨(some (.E 22)), .faddr 1 (.V 1), some ((.E 21), true)⟩,
   ⟨(some (.E 23)), .load false 1 (.E 22), some ((.E 21), true)⟩,
   ⟨(some (.E 24)), .len (.E 23), some ((.E 21), true)⟩,
   ⟨(some (.E 25)), .load false 1 (.V 3), some ((.E 21), true)⟩,
   ⟨(some (.E 26)), .bin .neq (.E 24) (.E 25), some ((.E 21), true)⟩,
   ⟨(some (.E 27)), .pick (.E 21) (.E 26) (kb false), some ((.E 16), false)⟩,
   ⟨(some (.E 28)), .pick (.E 16) (kb true) (.E 27), none⟩,
   ⟨(some (.E 29)), .mv (.E 28), none⟩,
   ⟨(some (.E 30)), .faddr 1 (.V 1), some ((.E 29), false)⟩,
   ⟨(some (.E 31)), .load false 1 (.E 30), some ((.E 29), false)⟩,
   ⟨(some (.E 32)), .call k_slices_ContainsFunc___int_int_ [([1], (.E 31)), ([0], (.C (.fn k_impl_ModelOk_1 [])))], some ((.E 29), false)⟩,
   ⟨(some (.E 33)), .pick (.E 29) (kb true) (.E 32), none⟩])
 (.cond (.E 33)
  (.seq (.reg [⟨(some (.V 2)), .mv (kb false), none⟩])
  (.ret))
  (.skip)))
 (.seq (.reg [⟨(some (.E 34)), .faddr 2 (.V 1), none⟩,
   ⟨(some (.E 35)), .load false 1 (.E 34), none⟩,
   ⟨(some (.E 36)), .call k_impl_isDecimal [([0], (.E 35))], none⟩,
   ⟨(some (.E 37)), .mv (.E 36), none⟩,
   ⟨(some (.E 38)), .faddr 3 (.V 1), some ((.E 37), true)⟩,
   ⟨(some (.E 39)), .load false 1 (.E 38), some ((.E 37), true)⟩,
   ⟨(some (.E 40)), .len (.E 39), some ((.E 37), true)⟩,
   ⟨(some (.E 41)), .bin .leq (.E 40) (ki 8), some ((.E 37), true)⟩,
   ⟨(some (.E 42)), .pick (.E 37) (.E 41) (kb false), none⟩,
   ⟨(some (.E 43)), .mv (.E 42), none⟩,
   ⟨(some (.E 44)), .faddr 3 (.V 1), some ((.E 43), true)⟩,
   ⟨(some (.E 45)), .load false 1 (.E 44), some ((.E 43), true)⟩,
   ⟨(some (.E 46)), .mkfn k_impl_ModelOk_2 [(.V 3)], some ((.E 43), true)⟩,
   ⟨(some (.E 47)), .call k_slices_ContainsFunc___impl_Tree_impl_Tree_ [([1], (.E 45)), ([0], (.E 46))], some ((.E 43), true)⟩,
   ⟨(some (.E 48)), .un .not (.E 47), some ((.E 43), true)⟩,
   ⟨(some (.E 49)), .pick (.E 43) (.E 48) (kb false), none⟩,
   ⟨(some (.V 2)), .mv (.E 49), none⟩])
 (.ret))))

def k_impl_ModelOk_rv : List RV := [.tmp [0] 2]

def k_spec_Predict_vars : List Nat := [0, 1, 2, 7, 6, 4, 5]

def k_spec_Predict_b0 : IC :=
 .seq (.seq (.reg [⟨(some (.E 21)), .mv (.V 7), none⟩,
   ⟨(some (.E 22)), .faddr 3 (.V 2), none⟩,
   ⟨(some (.E 23)), .load false 1 (.E 22), none⟩,
   ⟨(some (.E 24)), .len (.E 23), none⟩,
   ⟨(some (.E 25)), .bin .lss (.E 21) (.E 24), none⟩])
 (.cond (.E 25)
  (.skip)
  (.exit 0)))
 (.seq (.block 1 (.reg [⟨(some (.E 28)), .mv (.V 6), none⟩,
    ⟨(some (.E 29)), .faddr 3 (.V 2), none⟩,
    ⟨(some (.E 30)), .load false 1 (.E 29), none⟩,
    ⟨(some (.E 31)), .mv (.V 7), none⟩,
    ⟨(some (.E 32)), .iaddr 1 (.E 30) (.E 31), none⟩,
    ⟨(some (.E 33)), .load true 1 (.E 32), none⟩,
    ⟨(some (.E 34)), .mv (.V 1), none⟩,
    ⟨(some (.E 35)), .call k_spec_EvalTree [([5], (.E 33)), ([1], (.E 34))], none⟩,
    ⟨(some (.E 36)), .bin .add (.E 28) (.E 35), none⟩,
    ⟨(some (.V 6)), .mv (.E 36), none⟩]))
 (.reg [⟨(some (.E 26)), .mv (.V 7), none⟩,
   ⟨(some (.E 27)), .bin .add (.E 26) (ki 1), none⟩,
   ⟨(some (.V 7)), .mv (.E 27), none⟩]))

def k_spec_Predict_ic : IC :=
 .seq (.reg [⟨(some (.V 2)), .box (.V 0), none⟩,
   ⟨(some (.V 4)), .mv (ki 0), none⟩,
   ⟨(some (.V 5)), .mv (kb false), none⟩])
 (.seq (.seq (.reg [⟨(some (.E 8)), .load true 4 (.V 2), none⟩,
   ⟨(some (.E 9)), .call k_spec_ModelOk [([1, 1, 0, 1], (.E 8))], none⟩,
   ⟨(some (.E 10)), .un .not (.E 9), none⟩,
   ⟨(some (.E 11)), .mv (.E 10), none⟩,
   ⟨(some (.E 12)), .mv (.V 1), some ((.E 11), false)⟩,
   ⟨(some (.E 13)), .len (.E 12), some ((.E 11), false)⟩,
   ⟨(some (.E 14)), .faddr 0 (.V 2), some ((.E 11), false)⟩,
   ⟨(some (.E 15)), .load false 1 (.E 14), some ((.E 11), false)⟩,
   ⟨(some (.E 16)), .len (.E 15), some ((.E 11), false)⟩,
   ⟨(some (.E 17)), .bin .neq (.E 13) (.E 16), some ((.E 11), false)⟩,
   ⟨(some (.E 18)), .pick (.E 11) (kb true) (.E 17), none⟩])
 (.cond (.E 18)
  (.seq (.reg [⟨(some (.V 4)), .mv (ki 0), none⟩,
    ⟨(some (.V 5)), .mv (kb false), none⟩])
  (.ret))
  (.skip)))
 (.seq (.reg [⟨(some (.E 19)), .faddr 2 (.V 2), none⟩,
   ⟨(some (.E 20)), .load false 1 (.E 19), none⟩,
   ⟨(some (.V 6)), .mv (.E 20), none⟩])
 (.seq (.seq (.reg [⟨(some (.V 7)), .mv (ki 0), none⟩])
 (.block 0 (.loop k_spec_Predict_b0)))
 (.seq (.reg [⟨(some (.E 37)), .mv (.V 6), none⟩,
   ⟨(some (.V 4)), .mv (.E 37), none⟩,
   ⟨(some (.V 5)), .mv (kb true), none⟩])
 (.ret)))))

def k_spec_Predict_rv : List RV := [.tmp [0] 4, .tmp [0] 5]

def k_impl_Predict_vars : List Nat := [0, 1, 2, 25, 24, 23, 6, 8, 4, 5]

def k_impl_Predict_b0 : IC :=
 .seq (.reg [⟨(some (.E 26)), .bin .lss (.V 25) (.V 24), none⟩])
 (.seq (.cond (.E 26)
  (.skip)
  (.exit 0))
 (.seq (.block 1 (.seq (.reg [⟨(some (.E 27)), .iaddr 1 (.V 23) (.V 25), none⟩,
    ⟨(some (.E 28)), .load true 1 (.E 27), none⟩,
    ⟨(some (.V 8)), .alloc [.e0], none⟩,
    ⟨none, .store [5] (.V 8) (.E 28), none⟩])
  (.reg [⟨(some (.E 29)), .mv (.V 6), none⟩,
    ⟨(some (.E 30)), .load true 1 (.V 8), none⟩,
    ⟨(some (.E 31)), .mv (.V 1), none⟩,
    ⟨(some (.E 32)), .call k_impl_EvalTree [([5], (.E 30)), ([1], (.E 31))], none⟩,
    ⟨(some (.E 33)), .bin .add (.E 29) (.E 32), none⟩,
    ⟨(some (.V 6)), .mv (.E 33), none⟩])))
 (.reg [⟨(some (.E 34)), .bin .add (.V 25) (ki 1), none⟩,
   ⟨(some (.V 25)), .mv (.E 34), none⟩])))

def k_impl_Predict_ic : IC :=
 .seq (.reg [⟨(some (.V 2)), .box (.V 0), none⟩,
   ⟨(some (.V 4)), .mv (ki 0), none⟩,
   ⟨(some (.V 5)), .mv (kb false), none⟩])
 (.seq (.seq (.reg [⟨(some (.E 9)), .load true 4 (.V 2), none⟩,
   ⟨(some (.E 10)), .call k_impl_ModelOk [([1, 1, 0, 1], (.E 9))], none⟩,
   ⟨(some (.E 11)), .un .not (.E 10), none⟩,
   ⟨(some (.E 12)), .mv (.E 11), none⟩,
   ⟨(some (.E 13)), .mv (.V 1), some ((.E 12), false)⟩,
   ⟨(some (.E 14)), .len (.E 13), some ((.E 12), false)⟩,
   ⟨(some (.E 15)), .faddr 0 (.V 2), some ((.E 12), false)⟩,
   ⟨(some (.E 16)), .load false 1 (.E 15), some ((.E 12), false)⟩,
   ⟨(some (.E 17)), .len (.E 16), some ((.E 12), false)⟩,
   ⟨(some (.E 18)), .bin .neq (.E 14) (.E 17), some ((.E 12), false)⟩,
   ⟨(some (.E 19)), .pick (.E 12) (kb true) (.E 18), none⟩])
 (.cond (.E 19)
  (.seq (.reg [⟨(some (.V 4)), .mv (ki 0), none⟩,
    ⟨(some (.V 5)), .mv (kb false), none⟩])
  (.ret))
  (.skip)))
 (.seq (.reg [⟨(some (.E 20)), .faddr 2 (.V 2), none⟩,
   ⟨(some (.E 21)), .load false 1 (.E 20), none⟩,
   ⟨(some (.V 6)), .mv (.E 21), none⟩])
 (.seq (.seq (.reg [⟨(some (.E 22)), .faddr 3 (.V 2), none⟩,
   ⟨(some (.V 23)), .load false 1 (.E 22), none⟩,
   ⟨(some (.V 24)), .len (.V 23), none⟩,
   ⟨(some (.V 25)), .mv (ki 0), none⟩])
 (.block 0 (.loop k_impl_Predict_b0)))
 (.seq (.reg [⟨(some (.E 35)), .mv (.V 6), none⟩,
   ⟨(some (.V 4)), .mv (.E 35), none⟩,
   ⟨(some (.V 5)), .mv (kb true), none⟩])
 (.ret)))))

def k_impl_Predict_rv : List RV := [.tmp [0] 4, .tmp [0] 5]

def k_laws_heldIntS_vars : List Nat := [0, 1, 5, 4]

def k_laws_heldIntS_b0 : IC :=
 .seq (.seq (.reg [⟨(some (.E 6)), .mv (.V 5), none⟩,
   ⟨(some (.E 7)), .mv (.V 0), none⟩,
   ⟨(some (.E 8)), .len (.E 7), none⟩,
   ⟨(some (.E 9)), .bin .lss (.E 6) (.E 8), none⟩])
 (.cond (.E 9)
  (.skip)
  (.exit 0)))
 (.seq (.block 1 (.seq (.seq (.reg [⟨(some (.E 12)), .mv (.V 0), none⟩,
    ⟨(some (.E 13)), .mv (.V 5), none⟩,
    ⟨(some (.E 14)), .iaddr 1 (.E 12) (.E 13), none⟩,
    ⟨(some (.E 15)), .load false 1 (.E 14), none⟩,
    ⟨(some (.E 16)), .mv (.V 1), none⟩,
    ⟨(some (.E 17)), .bin .neq (.E 15) (.E 16), none⟩])
  (.cond (.E 17)
   (.seq (.reg [⟨(some (.V 4)), .mv (ki (-1)), none⟩])
   (.ret))
   (.skip)))
  (.reg [⟨(some (.E 18)), .mv (.V 1), none⟩,
    ⟨(some (.E 19)), .bin .add (.E 18) (ki 1), none⟩,
    ⟨(some (.V 1)), .mv (.E 19), none⟩])))
 (.reg [⟨(some (.E 10)), .mv (.V 5), none⟩,
   ⟨(some (.E 11)), .bin .add (.E 10) (ki 1), none⟩,
   ⟨(some (.V 5)), .mv (.E 11), none⟩]))

def k_laws_heldIntS_ic : IC :=
 .seq (.reg [⟨(some (.V 4)), .mv (ki 0), none⟩])
 (.seq (.seq (.reg [⟨(some (.V 5)), .mv (ki 0), none⟩])
 (.block 0 (.loop k_laws_heldIntS_b0)))
 (.seq (.reg [⟨(some (.E 20)), .mv (.V 1), none⟩,
   ⟨(some (.V 4)), .mv (.E 20), none⟩])
 (.ret)))

def k_laws_heldIntS_rv : List RV := [.tmp [0] 4]

def k_laws_szIntSS_vars : List Nat := [0, 1, 5, 4]

def k_laws_szIntSS_b0 : IC :=
 .seq (.seq (.reg [⟨(some (.E 12)), .mv (.V 5), none⟩,
   ⟨(some (.E 13)), .mv (.V 0), none⟩,
   ⟨(some (.E 14)), .len (.E 13), none⟩,
   ⟨(some (.E 15)), .bin .lss (.E 12) (.E 14), none⟩])
 (.cond (.E 15)
  (.skip)
  (.exit 0)))
 (.seq (.block 1 (.seq (.reg [⟨(some (.E 18)), .mv (.V 0), none⟩,
    ⟨(some (.E 19)), .mv (.V 5), none⟩,
    ⟨(some (.E 20)), .iaddr 1 (.E 18) (.E 19), none⟩,
    ⟨(some (.E 21)), .load false 1 (.E 20), none⟩,
    ⟨(some (.E 22)), .mv (.V 1), none⟩,
    ⟨(some (.E 23)), .call k_laws_szIntS [([1], (.E 21)), ([0], (.E 22))], none⟩,
    ⟨(some (.V 1)), .mv (.E 23), none⟩])
  (.seq (.reg [⟨(some (.E 24)), .mv (.V 1), none⟩,
    ⟨(some (.E 25)), .bin .lss (.E 24) (ki 0), none⟩])
  (.cond (.E 25)
   (.seq (.reg [⟨(some (.V 4)), .mv (ki (-1)), none⟩])
   (.ret))
   (.skip)))))
 (.reg [⟨(some (.E 16)), .mv (.V 5), none⟩,
   ⟨(some (.E 17)), .bin .add (.E 16) (ki 1), none⟩,
   ⟨(some (.V 5)), .mv (.E 17), none⟩]))

def k_laws_szIntSS_ic : IC :=
 .seq (.reg [⟨(some (.V 4)), .mv (ki 0), none⟩])
 (.seq (.reg [⟨(some (.E 6)), .mv (.V 1), none⟩,
   ⟨(some (.E 7)), .mv (.V 0), none⟩,
   ⟨(some (.E 8)), .len (.E 7), none⟩,
   ⟨(some (.E 9)), .bin .sub (.E 6) (.E 8), none⟩,
   ⟨(some (.V 1)), .mv (.E 9), none⟩])
 (.seq (.seq (.reg [⟨(some (.E 10)), .mv (.V 1), none⟩,
   ⟨(some (.E 11)), .bin .lss (.E 10) (ki 0), none⟩])
 (.cond (.E 11)
  (.seq (.reg [⟨(some (.V 4)), .mv (ki (-1)), none⟩])
  (.ret))
  (.skip)))
 (.seq (.seq (.reg [⟨(some (.V 5)), .mv (ki 0), none⟩])
 (.block 0 (.loop k_laws_szIntSS_b0)))
 (.seq (.reg [⟨(some (.E 26)), .mv (.V 1), none⟩,
   ⟨(some (.V 4)), .mv (.E 26), none⟩])
 (.ret)))))

def k_laws_szIntSS_rv : List RV := [.tmp [0] 4]

def k_spec_PredictAll_vars : List Nat := [0, 1, 7, 2, 9, 6, 8, 4, 5]

def k_spec_PredictAll_b0 : IC :=
 .seq (.seq (.reg [⟨(some (.E 11)), .mv (.V 7), none⟩,
   ⟨(some (.E 12)), .mv (.V 1), none⟩,
   ⟨(some (.E 13)), .len (.E 12), none⟩,
   ⟨(some (.E 14)), .bin .lss (.E 11) (.E 13), none⟩])
 (.cond (.E 14)
  (.skip)
  (.exit 0)))
 (.seq (.block 1 (.seq (.regD [(⟨(some (.E 18)), .load true 4 (.V 2), none⟩, 0, 0),
    (⟨(some (.E 19)), .mv (.V 1), none⟩, 0, 0),
    (⟨(some (.E 20)), .mv (.V 7), none⟩, 0, 0),
    (⟨(some (.E 21)), .iaddr 1 (.E 19) (.E 20), none⟩, 0, 0),
    (⟨(some (.E 22)), .load false 1 (.E 21), none⟩, 0, 0),
    (⟨(some (.E 23)), .call k_spec_Predict [([1, 1, 0, 1], (.E 18)), ([1], (.E 22))], none⟩, 0, 0),
    (⟨(some (.E 17)), .mv (.E 23), none⟩, 0, 0),
    (⟨(some (.E 24)), .ext 0 (.E 17), none⟩, 0, 0),
    (⟨(some (.E 25)), .ext 1 (.E 17), none⟩, 0, 0),
    (⟨(some (.V 8)), .mv (.E 24), none⟩, 0, 0),
    (⟨(some (.V 9)), .mv (.E 25), none⟩, 0, 0)])
  (.seq (.seq (.reg [⟨(some (.E 26)), .mv (.V 9), none⟩,
    ⟨(some (.E 27)), .un .not (.E 26), none⟩])
  (.cond (.E 27)
   (.seq (.reg [⟨(some (.E 28)), .bslice 0 1 [(.v (.int .i64 0))] [], none⟩,
     ⟨(some (.V 4)), .mv (.E 28), none⟩,
     ⟨(some (.V 5)), .mv (kb false), none⟩])
   (.ret))
   (.skip)))
  (.reg [⟨(some (.E 29)), .mv (.V 6), none⟩,
    ⟨(some (.E 30)), .mv (.V 8), none⟩,
    ⟨(some (.E 31)), .bslice 1 1 [(.v (.int .i64 0))] [(0, (.E 30))], none⟩,
    ⟨(some (.E 32)), .app 8 1 (.E 29) (.E 31), none⟩,
    ⟨(some (.V 6)), .mv (.E 32), none⟩]))))
 (.reg [⟨(some (.E 15)), .mv (.V 7), none⟩,
   ⟨(some (.E 16)), .bin .add (.E 15) (ki 1), none⟩,
   ⟨(some (.V 7)), .mv (.E 16), none⟩]))

def k_spec_PredictAll_ic : IC :=
 .seq (.reg [⟨(some (.V 2)), .box (.V 0), none⟩,
   ⟨(some (.V 4)), .mv (.C .e0), none⟩,
   ⟨(some (.V 5)), .mv (kb false), none⟩])
 (.seq (.reg [⟨(some (.E 10)), .bslice 0 1 [(.v (.int .i64 0))] [], none⟩,
   ⟨(some (.V 6)), .mv (.E 10), none⟩])
 (.seq (.seq (.reg [⟨(some (.V 7)), .mv (ki 0), none⟩])
 (.block 0 (.loop k_spec_PredictAll_b0)))
 (.seq (.reg [⟨(some (.E 33)), .mv (.V 6), none⟩,
   ⟨(some (.V 4)), .mv (.E 33), none⟩,
   ⟨(some (.V 5)), .mv (kb true), none⟩])
 (.ret))))

def k_spec_PredictAll_rv : List RV := [.tmp [1] 4, .tmp [0] 5]

def k_laws_toIntSS_vars : List Nat := [0, 4, 3, 2]

def k_laws_toIntSS_b0 : IC :=
 .seq (.seq (.reg [⟨(some (.E 8)), .mv (.V 4), none⟩,
   ⟨(some (.E 9)), .mv (.V 0), none⟩,
   ⟨(some (.E 10)), .len (.E 9), none⟩,
   ⟨(some (.E 11)), .bin .lss (.E 8) (.E 10), none⟩])
 (.cond (.E 11)
  (.skip)
  (.exit 0)))
 (.seq (.block 1 (.reg [⟨(some (.E 14)), .mv (.V 3), none⟩,
    ⟨(some (.E 15)), .mv (.V 4), none⟩,
    ⟨(some (.E 16)), .mv (.V 0), none⟩,
    ⟨(some (.E 17)), .mv (.V 4), none⟩,
    ⟨(some (.E 18)), .iaddr 1 (.E 16) (.E 17), none⟩,
    ⟨(some (.E 19)), .load false 1 (.E 18), none⟩,
    ⟨(some (.E 20)), .call k_laws_toIntS [([1], (.E 19))], none⟩,
    ⟨(some (.E 21)), .iaddr 1 (.E 14) (.E 15), none⟩,
    ⟨none, .store [1] (.E 21) (.E 20), none⟩]))
 (.reg [⟨(some (.E 12)), .mv (.V 4), none⟩,
   ⟨(some (.E 13)), .bin .add (.E 12) (ki 1), none⟩,
   ⟨(some (.V 4)), .mv (.E 13), none⟩]))

def k_laws_toIntSS_ic : IC :=
 .seq (.reg [⟨(some (.V 2)), .mv (.C .e0), none⟩])
 (.seq (.reg [⟨(some (.E 5)), .mv (.V 0), none⟩,
   ⟨(some (.E 6)), .len (.E 5), none⟩,
   ⟨(some (.E 7)), .mksl 24 1 [(.own 1 [])] (.E 6) (.E 6), none⟩,
   ⟨(some (.V 3)), .mv (.E 7), none⟩])
 (.seq (.seq (.reg [⟨(some (.V 4)), .mv (ki 0), none⟩])
 (.block 0 (.loop k_laws_toIntSS_b0)))
 (.seq (.reg [⟨(some (.E 22)), .mv (.V 3), none⟩,
   ⟨(some (.V 2)), .mv (.E 22), none⟩])
 (.ret))))

def k_laws_toIntSS_rv : List RV := [.tmp [1] 2]

def k_impl_PredictAll_vars : List Nat := [0, 1, 14, 13, 12, 2, 8, 10, 6, 9, 4, 5]

def k_impl_PredictAll_b0 : IC :=
 .seq (.reg [⟨(some (.E 15)), .bin .lss (.V 14) (.V 13), none⟩])
 (.seq (.cond (.E 15)
  (.skip)
  (.exit 0))
 (.seq (.block 1 (.seq (.reg [⟨(some (.E 16)), .iaddr 1 (.V 12) (.V 14), none⟩,
    ⟨(some (.E 17)), .load false 1 (.E 16), none⟩,
    ⟨(some (.V 8)), .mv (.E 17), none⟩])
  (.seq (.reg [⟨(some (.E 19)), .load true 4 (.V 2), none⟩,
    ⟨(some (.E 20)), .mv (.V 8), none⟩,
    ⟨(some (.E 21)), .call k_impl_Predict [([1, 1, 0, 1], (.E 19)), ([1], (.E 20))], none⟩,
    ⟨(some (.E 18)), .mv (.E 21), none⟩,
    ⟨(some (.E 22)), .ext 0 (.E 18), none⟩,
    ⟨(some (.E 23)), .ext 1 (.E 18), none⟩,
    ⟨(some (.V 9)), .mv (.E 22), none⟩,
    ⟨(some (.V 10)), .mv (.E 23), none⟩])
  (.seq (.seq (.reg [⟨(some (.E 24)), .mv (.V 10), none⟩,
    ⟨(some (.E 25)), .un .not (.E 24), none⟩])
  (.cond (.E 25)
   (.seq (.reg [⟨(some (.V 4)), .mv (.C .e0), none⟩,
     ⟨(some (.V 5)), .mv (kb false), none⟩])
   (.ret))
   (.skip)))
  (.reg [⟨(some (.E 26)), .mv (.V 6), none⟩,
    ⟨(some (.E 27)), .mv (.V 9), none⟩,
    ⟨(some (.E 28)), .bslice 1 1 [(.v (.int .i64 0))] [(0, (.E 27))], none⟩,
    ⟨(some (.E 29)), .app 8 1 (.E 26) (.E 28), none⟩,
    ⟨(some (.V 6)), .mv (.E 29), none⟩])))))
 (.reg [⟨(some (.E 30)), .bin .add (.V 14) (ki 1), none⟩,
   ⟨(some (.V 14)), .mv (.E 30), none⟩])))

def k_impl_PredictAll_ic : IC :=
 .seq (.reg [⟨(some (.V 2)), .box (.V 0), none⟩,
   ⟨(some (.V 4)), .mv (.C .e0), none⟩,
   ⟨(some (.V 5)), .mv (kb false), none⟩])
 (.seq (.reg [⟨(some (.E 11)), .bslice 0 1 [(.v (.int .i64 0))] [], none⟩,
   ⟨(some (.V 6)), .mv (.E 11), none⟩])
 (.seq (.seq (.reg [⟨(some (.V 12)), .mv (.V 1), none⟩,
   ⟨(some (.V 13)), .len (.V 12), none⟩,
   ⟨(some (.V 14)), .mv (ki 0), none⟩])
 (.block 0 (.loop k_impl_PredictAll_b0)))
 (.seq (.reg [⟨(some (.E 31)), .mv (.V 6), none⟩,
   ⟨(some (.V 4)), .mv (.E 31), none⟩,
   ⟨(some (.V 5)), .mv (kb true), none⟩])
 (.ret))))

def k_impl_PredictAll_rv : List RV := [.tmp [1] 4, .tmp [0] 5]

def k_laws_eqIntSS_vars : List Nat := [0, 1, 5, 4]

def k_laws_eqIntSS_b0 : IC :=
 .seq (.seq (.reg [⟨(some (.E 11)), .mv (.V 5), none⟩,
   ⟨(some (.E 12)), .mv (.V 0), none⟩,
   ⟨(some (.E 13)), .len (.E 12), none⟩,
   ⟨(some (.E 14)), .bin .lss (.E 11) (.E 13), none⟩])
 (.cond (.E 14)
  (.skip)
  (.exit 0)))
 (.seq (.block 1 (.seq (.regD [(⟨(some (.E 17)), .mv (.V 0), none⟩, 0, 0),
    (⟨(some (.E 18)), .mv (.V 5), none⟩, 0, 0),
    (⟨(some (.E 19)), .iaddr 1 (.E 17) (.E 18), none⟩, 0, 0),
    (⟨(some (.E 20)), .load false 1 (.E 19), none⟩, 0, 0),
    (⟨(some (.E 21)), .mv (.V 1), none⟩, 0, 0),
    (⟨(some (.E 22)), .mv (.V 5), none⟩, 0, 0),
    (⟨(some (.E 23)), .iaddr 1 (.E 21) (.E 22), none⟩, 0, 0),
    (⟨(some (.E 24)), .load false 1 (.E 23), none⟩, 0, 0),
    (⟨(some (.E 25)), .call k_laws_eqIntS [([1], (.E 20)), ([1], (.E 24))], none⟩, 0, 0),
    (⟨(some (.E 26)), .un .not (.E 25), none⟩, 0, 0)])
  (.cond (.E 26)
   (.seq (.reg [⟨(some (.V 4)), .mv (kb false), none⟩])
   (.ret))
   (.skip))))
 (.reg [⟨(some (.E 15)), .mv (.V 5), none⟩,
   ⟨(some (.E 16)), .bin .add (.E 15) (ki 1), none⟩,
   ⟨(some (.V 5)), .mv (.E 16), none⟩]))

def k_laws_eqIntSS_ic : IC :=
 .seq (.reg [⟨(some (.V 4)), .mv (kb false), none⟩])
 (.seq (.seq (.reg [⟨(some (.E 6)), .mv (.V 0), none⟩,
   ⟨(some (.E 7)), .len (.E 6), none⟩,
   ⟨(some (.E 8)), .mv (.V 1), none⟩,
   ⟨(some (.E 9)), .len (.E 8), none⟩,
   ⟨(some (.E 10)), .bin .neq (.E 7) (.E 9), none⟩])
 (.cond (.E 10)
  (.seq (.reg [⟨(some (.V 4)), .mv (kb false), none⟩])
  (.ret))
  (.skip)))
 (.seq (.seq (.reg [⟨(some (.V 5)), .mv (ki 0), none⟩])
 (.block 0 (.loop k_laws_eqIntSS_b0)))
 (.seq (.reg [⟨(some (.V 4)), .mv (kb true), none⟩])
 (.ret))))

def k_laws_eqIntSS_rv : List RV := [.tmp [0] 4]

def k_laws_markModel_vars : List Nat := [0, 1, 2, 4]

def k_laws_markModel_ic : IC :=
 .seq (.reg [⟨(some (.V 2)), .box (.V 0), none⟩,
   ⟨(some (.V 4)), .mv (ki 0), none⟩])
 (.seq (.reg [⟨(some (.E 5)), .faddr 0 (.V 2), none⟩,
   ⟨(some (.E 6)), .load false 1 (.E 5), none⟩,
   ⟨(some (.E 7)), .mv (.V 1), none⟩,
   ⟨(some (.E 8)), .call k_laws_markStringS [([1], (.E 6)), ([0], (.E 7))], none⟩,
   ⟨(some (.V 1)), .mv (.E 8), none⟩])
 (.seq (.reg [⟨(some (.E 9)), .faddr 1 (.V 2), none⟩,
   ⟨(some (.E 10)), .load false 1 (.E 9), none⟩,
   ⟨(some (.E 11)), .mv (.V 1), none⟩,
   ⟨(some (.E 12)), .call k_laws_markIntS [([1], (.E 10)), ([0], (.E 11))], none⟩,
   ⟨(some (.V 1)), .mv (.E 12), none⟩])
 (.seq (.reg [⟨(some (.E 13)), .faddr 3 (.V 2), none⟩,
   ⟨(some (.E 14)), .load false 1 (.E 13), none⟩,
   ⟨(some (.E 15)), .mv (.V 1), none⟩,
   ⟨(some (.E 16)), .call k_laws_markTreeS [([1], (.E 14)), ([0], (.E 15))], none⟩,
   ⟨(some (.V 1)), .mv (.E 16), none⟩])
 (.seq (.reg [⟨(some (.E 17)), .mv (.V 1), none⟩,
   ⟨(some (.V 4)), .mv (.E 17), none⟩])
 (.ret)))))

def k_laws_markModel_rv : List RV := [.tmp [0] 4]

def k_laws_markIntSS_vars : List Nat := [0, 1, 5, 4]

def k_laws_markIntSS_b0 : IC :=
 .seq (.seq (.reg [⟨(some (.E 6)), .mv (.V 5), none⟩,
   ⟨(some (.E 7)), .mv (.V 0), none⟩,
   ⟨(some (.E 8)), .len (.E 7), none⟩,
   ⟨(some (.E 9)), .bin .lss (.E 6) (.E 8), none⟩])
 (.cond (.E 9)
  (.skip)
  (.exit 0)))
 (.seq (.block 1 (.reg [⟨(some (.E 12)), .mv (.V 0), none⟩,
    ⟨(some (.E 13)), .mv (.V 5), none⟩,
    ⟨(some (.E 14)), .iaddr 1 (.E 12) (.E 13), none⟩,
    ⟨(some (.E 15)), .load false 1 (.E 14), none⟩,
    ⟨(some (.E 16)), .mv (.V 1), none⟩,
    ⟨(some (.E 17)), .call k_laws_markIntS [([1], (.E 15)), ([0], (.E 16))], none⟩,
    ⟨(some (.V 1)), .mv (.E 17), none⟩]))
 (.reg [⟨(some (.E 10)), .mv (.V 5), none⟩,
   ⟨(some (.E 11)), .bin .add (.E 10) (ki 1), none⟩,
   ⟨(some (.V 5)), .mv (.E 11), none⟩]))

def k_laws_markIntSS_ic : IC :=
 .seq (.reg [⟨(some (.V 4)), .mv (ki 0), none⟩])
 (.seq (.seq (.reg [⟨(some (.V 5)), .mv (ki 0), none⟩])
 (.block 0 (.loop k_laws_markIntSS_b0)))
 (.seq (.reg [⟨(some (.E 18)), .mv (.V 1), none⟩,
   ⟨(some (.V 4)), .mv (.E 18), none⟩])
 (.ret)))

def k_laws_markIntSS_rv : List RV := [.tmp [0] 4]

def k_laws_szStringS_vars : List Nat := [0, 1, 5, 4]

def k_laws_szStringS_b0 : IC :=
 .seq (.seq (.reg [⟨(some (.E 12)), .mv (.V 5), none⟩,
   ⟨(some (.E 13)), .mv (.V 0), none⟩,
   ⟨(some (.E 14)), .len (.E 13), none⟩,
   ⟨(some (.E 15)), .bin .lss (.E 12) (.E 14), none⟩])
 (.cond (.E 15)
  (.skip)
  (.exit 0)))
 (.seq (.block 1 (.seq (.reg [⟨(some (.E 18)), .mv (.V 1), none⟩,
    ⟨(some (.E 19)), .mv (.V 0), none⟩,
    ⟨(some (.E 20)), .mv (.V 5), none⟩,
    ⟨(some (.E 21)), .iaddr 1 (.E 19) (.E 20), none⟩,
    ⟨(some (.E 22)), .load false 1 (.E 21), none⟩,
    ⟨(some (.E 23)), .lenS (.E 22), none⟩,
    ⟨(some (.E 24)), .bin .sub (.E 18) (.E 23), none⟩,
    ⟨(some (.V 1)), .mv (.E 24), none⟩])
  (.seq (.reg [⟨(some (.E 25)), .mv (.V 1), none⟩,
    ⟨(some (.E 26)), .bin .lss (.E 25) (ki 0), none⟩])
  (.cond (.E 26)
   (.seq (.reg [⟨(some (.V 4)), .mv (ki (-1)), none⟩])
   (.ret))
   (.skip)))))
 (.reg [⟨(some (.E 16)), .mv (.V 5), none⟩,
   ⟨(some (.E 17)), .bin .add (.E 16) (ki 1), none⟩,
   ⟨(some (.V 5)), .mv (.E 17), none⟩]))

def k_laws_szStringS_ic : IC :=
 .seq (.reg [⟨(some (.V 4)), .mv (ki 0), none⟩])
 (.seq (.reg [⟨(some (.E 6)), .mv (.V 1), none⟩,
   ⟨(some (.E 7)), .mv (.V 0), none⟩,
   ⟨(some (.E 8)), .len (.E 7), none⟩,
   ⟨(some (.E 9)), .bin .sub (.E 6) (.E 8), none⟩,
   ⟨(some (.V 1)), .mv (.E 9), none⟩])
 (.seq (.seq (.reg [⟨(some (.E 10)), .mv (.V 1), none⟩,
   ⟨(some (.E 11)), .bin .lss (.E 10) (ki 0), none⟩])
 (.cond (.E 11)
  (.seq (.reg [⟨(some (.V 4)), .mv (ki (-1)), none⟩])
  (.ret))
  (.skip)))
 (.seq (.seq (.reg [⟨(some (.V 5)), .mv (ki 0), none⟩])
 (.block 0 (.loop k_laws_szStringS_b0)))
 (.seq (.reg [⟨(some (.E 27)), .mv (.V 1), none⟩,
   ⟨(some (.V 4)), .mv (.E 27), none⟩])
 (.ret)))))

def k_laws_szStringS_rv : List RV := [.tmp [0] 4]

def k_laws_szIntS_vars : List Nat := [0, 1, 4]

def k_laws_szIntS_ic : IC :=
 .seq (.reg [⟨(some (.V 4)), .mv (ki 0), none⟩])
 (.seq (.reg [⟨(some (.E 5)), .mv (.V 1), none⟩,
   ⟨(some (.E 6)), .mv (.V 0), none⟩,
   ⟨(some (.E 7)), .len (.E 6), none⟩,
   ⟨(some (.E 8)), .bin .sub (.E 5) (.E 7), none⟩,
   ⟨(some (.V 1)), .mv (.E 8), none⟩])
 (.seq (.seq (.reg [⟨(some (.E 9)), .mv (.V 1), none⟩,
   ⟨(some (.E 10)), .bin .lss (.E 9) (ki 0), none⟩])
 (.cond (.E 10)
  (.seq (.reg [⟨(some (.V 4)), .mv (ki (-1)), none⟩])
  (.ret))
  (.skip)))
 (.seq (.reg [⟨(some (.E 11)), .mv (.V 1), none⟩,
   ⟨(some (.V 4)), .mv (.E 11), none⟩])
 (.ret))))

def k_laws_szIntS_rv : List RV := [.tmp [0] 4]

def k_laws_szTreeS_vars : List Nat := [0, 1, 5, 4]

def k_laws_szTreeS_b0 : IC :=
 .seq (.seq (.reg [⟨(some (.E 12)), .mv (.V 5), none⟩,
   ⟨(some (.E 13)), .mv (.V 0), none⟩,
   ⟨(some (.E 14)), .len (.E 13), none⟩,
   ⟨(some (.E 15)), .bin .lss (.E 12) (.E 14), none⟩])
 (.cond (.E 15)
  (.skip)
  (.exit 0)))
 (.seq (.block 1 (.seq (.reg [⟨(some (.E 18)), .mv (.V 0), none⟩,
    ⟨(some (.E 19)), .mv (.V 5), none⟩,
    ⟨(some (.E 20)), .iaddr 1 (.E 18) (.E 19), none⟩,
    ⟨(some (.E 21)), .load true 1 (.E 20), none⟩,
    ⟨(some (.E 22)), .mv (.V 1), none⟩,
    ⟨(some (.E 23)), .call k_laws_szTree [([5], (.E 21)), ([0], (.E 22))], none⟩,
    ⟨(some (.V 1)), .mv (.E 23), none⟩])
  (.seq (.reg [⟨(some (.E 24)), .mv (.V 1), none⟩,
    ⟨(some (.E 25)), .bin .lss (.E 24) (ki 0), none⟩])
  (.cond (.E 25)
   (.seq (.reg [⟨(some (.V 4)), .mv (ki (-1)), none⟩])
   (.ret))
   (.skip)))))
 (.reg [⟨(some (.E 16)), .mv (.V 5), none⟩,
   ⟨(some (.E 17)), .bin .add (.E 16) (ki 1), none⟩,
   ⟨(some (.V 5)), .mv (.E 17), none⟩]))

def k_laws_szTreeS_ic : IC :=
 .seq (.reg [⟨(some (.V 4)), .mv (ki 0), none⟩])
 (.seq (.reg [⟨(some (.E 6)), .mv (.V 1), none⟩,
   ⟨(some (.E 7)), .mv (.V 0), none⟩,
   ⟨(some (.E 8)), .len (.E 7), none⟩,
   ⟨(some (.E 9)), .bin .sub (.E 6) (.E 8), none⟩,
   ⟨(some (.V 1)), .mv (.E 9), none⟩])
 (.seq (.seq (.reg [⟨(some (.E 10)), .mv (.V 1), none⟩,
   ⟨(some (.E 11)), .bin .lss (.E 10) (ki 0), none⟩])
 (.cond (.E 11)
  (.seq (.reg [⟨(some (.V 4)), .mv (ki (-1)), none⟩])
  (.ret))
  (.skip)))
 (.seq (.seq (.reg [⟨(some (.V 5)), .mv (ki 0), none⟩])
 (.block 0 (.loop k_laws_szTreeS_b0)))
 (.seq (.reg [⟨(some (.E 26)), .mv (.V 1), none⟩,
   ⟨(some (.V 4)), .mv (.E 26), none⟩])
 (.ret)))))

def k_laws_szTreeS_rv : List RV := [.tmp [0] 4]

def k_laws_toStringS_vars : List Nat := [0, 4, 3, 2]

def k_laws_toStringS_b0 : IC :=
 .seq (.seq (.reg [⟨(some (.E 8)), .mv (.V 4), none⟩,
   ⟨(some (.E 9)), .mv (.V 0), none⟩,
   ⟨(some (.E 10)), .len (.E 9), none⟩,
   ⟨(some (.E 11)), .bin .lss (.E 8) (.E 10), none⟩])
 (.cond (.E 11)
  (.skip)
  (.exit 0)))
 (.seq (.block 1 (.reg [⟨(some (.E 14)), .mv (.V 3), none⟩,
    ⟨(some (.E 15)), .mv (.V 4), none⟩,
    ⟨(some (.E 16)), .mv (.V 0), none⟩,
    ⟨(some (.E 17)), .mv (.V 4), none⟩,
    ⟨(some (.E 18)), .iaddr 1 (.E 16) (.E 17), none⟩,
    ⟨(some (.E 19)), .load false 1 (.E 18), none⟩,
    ⟨(some (.E 20)), .iaddr 1 (.E 14) (.E 15), none⟩,
    ⟨none, .store [0] (.E 20) (.E 19), none⟩]))
 (.reg [⟨(some (.E 12)), .mv (.V 4), none⟩,
   ⟨(some (.E 13)), .bin .add (.E 12) (ki 1), none⟩,
   ⟨(some (.V 4)), .mv (.E 13), none⟩]))

def k_laws_toStringS_ic : IC :=
 .seq (.reg [⟨(some (.V 2)), .mv (.C .e0), none⟩])
 (.seq (.reg [⟨(some (.E 5)), .mv (.V 0), none⟩,
   ⟨(some (.E 6)), .len (.E 5), none⟩,
   ⟨(some (.E 7)), .mksl 16 1 [(.v (.string (bs [])))] (.E 6) (.E 6), none⟩,
   ⟨(some (.V 3)), .mv (.E 7), none⟩])
 (.seq (.seq (.reg [⟨(some (.V 4)), .mv (ki 0), none⟩])
 (.block 0 (.loop k_laws_toStringS_b0)))
 (.seq (.reg [⟨(some (.E 21)), .mv (.V 3), none⟩,
   ⟨(some (.V 2)), .mv (.E 21), none⟩])
 (.ret))))

def k_laws_toStringS_rv : List RV := [.tmp [1] 2]

def k_laws_toTreeS_vars : List Nat := [0, 4, 3, 2]

def k_laws_toTreeS_b0 : IC :=
 .seq (.seq (.reg [⟨(some (.E 8)), .mv (.V 4), none⟩,
   ⟨(some (.E 9)), .mv (.V 0), none⟩,
   ⟨(some (.E 10)), .len (.E 9), none⟩,
   ⟨(some (.E 11)), .bin .lss (.E 8) (.E 10), none⟩])
 (.cond (.E 11)
  (.skip)
  (.exit 0)))
 (.seq (.block 1 (.reg [⟨(some (.E 14)), .mv (.V 3), none⟩,
    ⟨(some (.E 15)), .mv (.V 4), none⟩,
    ⟨(some (.E 16)), .mv (.V 0), none⟩,
    ⟨(some (.E 17)), .mv (.V 4), none⟩,
    ⟨(some (.E 18)), .iaddr 1 (.E 16) (.E 17), none⟩,
    ⟨(some (.E 19)), .load true 1 (.E 18), none⟩,
    ⟨(some (.E 20)), .call k_laws_toTree [([5], (.E 19))], none⟩,
    ⟨(some (.E 21)), .iaddr 1 (.E 14) (.E 15), none⟩,
    ⟨none, .store [5] (.E 21) (.E 20), none⟩]))
 (.reg [⟨(some (.E 12)), .mv (.V 4), none⟩,
   ⟨(some (.E 13)), .bin .add (.E 12) (ki 1), none⟩,
   ⟨(some (.V 4)), .mv (.E 13), none⟩]))

def k_laws_toTreeS_ic : IC :=
 .seq (.reg [⟨(some (.V 2)), .mv (.C .e0), none⟩])
 (.seq (.reg [⟨(some (.E 5)), .mv (.V 0), none⟩,
   ⟨(some (.E 6)), .len (.E 5), none⟩,
   ⟨(some (.E 7)), .mksl 24 1 [(.own 5 [])] (.E 6) (.E 6), none⟩,
   ⟨(some (.V 3)), .mv (.E 7), none⟩])
 (.seq (.seq (.reg [⟨(some (.V 4)), .mv (ki 0), none⟩])
 (.block 0 (.loop k_laws_toTreeS_b0)))
 (.seq (.reg [⟨(some (.E 22)), .mv (.V 3), none⟩,
   ⟨(some (.V 2)), .mv (.E 22), none⟩])
 (.ret))))

def k_laws_toTreeS_rv : List RV := [.tmp [1] 2]

def k_laws_eqStringS_vars : List Nat := [0, 1, 5, 4]

def k_laws_eqStringS_b0 : IC :=
 .seq (.seq (.reg [⟨(some (.E 11)), .mv (.V 5), none⟩,
   ⟨(some (.E 12)), .mv (.V 0), none⟩,
   ⟨(some (.E 13)), .len (.E 12), none⟩,
   ⟨(some (.E 14)), .bin .lss (.E 11) (.E 13), none⟩])
 (.cond (.E 14)
  (.skip)
  (.exit 0)))
 (.seq (.block 1 (.seq (.regD [(⟨(some (.E 17)), .mv (.V 0), none⟩, 0, 0),
    (⟨(some (.E 18)), .mv (.V 5), none⟩, 0, 0),
    (⟨(some (.E 19)), .iaddr 1 (.E 17) (.E 18), none⟩, 0, 0),
    (⟨(some (.E 20)), .load false 1 (.E 19), none⟩, 0, 0),
    (⟨(some (.E 21)), .mv (.V 1), none⟩, 0, 0),
    (⟨(some (.E 22)), .mv (.V 5), none⟩, 0, 0),
    (⟨(some (.E 23)), .iaddr 1 (.E 21) (.E 22), none⟩, 0, 0),
    (⟨(some (.E 24)), .load false 1 (.E 23), none⟩, 0, 0),
    (⟨(some (.E 25)), .bin .neq (.E 20) (.E 24), none⟩, 0, 0)])
  (.cond (.E 25)
   (.seq (.reg [⟨(some (.V 4)), .mv (kb false), none⟩])
   (.ret))
   (.skip))))
 (.reg [⟨(some (.E 15)), .mv (.V 5), none⟩,
   ⟨(some (.E 16)), .bin .add (.E 15) (ki 1), none⟩,
   ⟨(some (.V 5)), .mv (.E 16), none⟩]))

def k_laws_eqStringS_ic : IC :=
 .seq (.reg [⟨(some (.V 4)), .mv (kb false), none⟩])
 (.seq (.seq (.reg [⟨(some (.E 6)), .mv (.V 0), none⟩,
   ⟨(some (.E 7)), .len (.E 6), none⟩,
   ⟨(some (.E 8)), .mv (.V 1), none⟩,
   ⟨(some (.E 9)), .len (.E 8), none⟩,
   ⟨(some (.E 10)), .bin .neq (.E 7) (.E 9), none⟩])
 (.cond (.E 10)
  (.seq (.reg [⟨(some (.V 4)), .mv (kb false), none⟩])
  (.ret))
  (.skip)))
 (.seq (.seq (.reg [⟨(some (.V 5)), .mv (ki 0), none⟩])
 (.block 0 (.loop k_laws_eqStringS_b0)))
 (.seq (.reg [⟨(some (.V 4)), .mv (kb true), none⟩])
 (.ret))))

def k_laws_eqStringS_rv : List RV := [.tmp [0] 4]

def k_laws_eqTreeS_vars : List Nat := [0, 1, 5, 4]

def k_laws_eqTreeS_b0 : IC :=
 .seq (.seq (.reg [⟨(some (.E 11)), .mv (.V 5), none⟩,
   ⟨(some (.E 12)), .mv (.V 0), none⟩,
   ⟨(some (.E 13)), .len (.E 12), none⟩,
   ⟨(some (.E 14)), .bin .lss (.E 11) (.E 13), none⟩])
 (.cond (.E 14)
  (.skip)
  (.exit 0)))
 (.seq (.block 1 (.seq (.regD [(⟨(some (.E 17)), .mv (.V 0), none⟩, 0, 0),
    (⟨(some (.E 18)), .mv (.V 5), none⟩, 0, 0),
    (⟨(some (.E 19)), .iaddr 1 (.E 17) (.E 18), none⟩, 0, 0),
    (⟨(some (.E 20)), .load true 1 (.E 19), none⟩, 0, 0),
    (⟨(some (.E 21)), .mv (.V 1), none⟩, 0, 0),
    (⟨(some (.E 22)), .mv (.V 5), none⟩, 0, 0),
    (⟨(some (.E 23)), .iaddr 1 (.E 21) (.E 22), none⟩, 0, 0),
    (⟨(some (.E 24)), .load true 1 (.E 23), none⟩, 0, 0),
    (⟨(some (.E 25)), .call k_laws_eqTree [([5], (.E 20)), ([5], (.E 24))], none⟩, 0, 0),
    (⟨(some (.E 26)), .un .not (.E 25), none⟩, 0, 0)])
  (.cond (.E 26)
   (.seq (.reg [⟨(some (.V 4)), .mv (kb false), none⟩])
   (.ret))
   (.skip))))
 (.reg [⟨(some (.E 15)), .mv (.V 5), none⟩,
   ⟨(some (.E 16)), .bin .add (.E 15) (ki 1), none⟩,
   ⟨(some (.V 5)), .mv (.E 16), none⟩]))

def k_laws_eqTreeS_ic : IC :=
 .seq (.reg [⟨(some (.V 4)), .mv (kb false), none⟩])
 (.seq (.seq (.reg [⟨(some (.E 6)), .mv (.V 0), none⟩,
   ⟨(some (.E 7)), .len (.E 6), none⟩,
   ⟨(some (.E 8)), .mv (.V 1), none⟩,
   ⟨(some (.E 9)), .len (.E 8), none⟩,
   ⟨(some (.E 10)), .bin .neq (.E 7) (.E 9), none⟩])
 (.cond (.E 10)
  (.seq (.reg [⟨(some (.V 4)), .mv (kb false), none⟩])
  (.ret))
  (.skip)))
 (.seq (.seq (.reg [⟨(some (.V 5)), .mv (ki 0), none⟩])
 (.block 0 (.loop k_laws_eqTreeS_b0)))
 (.seq (.reg [⟨(some (.V 4)), .mv (kb true), none⟩])
 (.ret))))

def k_laws_eqTreeS_rv : List RV := [.tmp [0] 4]

def k_laws_szNodeS_vars : List Nat := [0, 1, 4]

def k_laws_szNodeS_ic : IC :=
 .seq (.reg [⟨(some (.V 4)), .mv (ki 0), none⟩])
 (.seq (.reg [⟨(some (.E 5)), .mv (.V 1), none⟩,
   ⟨(some (.E 6)), .mv (.V 0), none⟩,
   ⟨(some (.E 7)), .len (.E 6), none⟩,
   ⟨(some (.E 8)), .bin .sub (.E 5) (.E 7), none⟩,
   ⟨(some (.V 1)), .mv (.E 8), none⟩])
 (.seq (.seq (.reg [⟨(some (.E 9)), .mv (.V 1), none⟩,
   ⟨(some (.E 10)), .bin .lss (.E 9) (ki 0), none⟩])
 (.cond (.E 10)
  (.seq (.reg [⟨(some (.V 4)), .mv (ki (-1)), none⟩])
  (.ret))
  (.skip)))
 (.seq (.reg [⟨(some (.E 11)), .mv (.V 1), none⟩,
   ⟨(some (.V 4)), .mv (.E 11), none⟩])
 (.ret))))

def k_laws_szNodeS_rv : List RV := [.tmp [0] 4]

def k_spec_l17Inner_vars : List Nat := [0, 1, 2]

def k_spec_l17Inner_ic : IC :=
 .seq (.reg [⟨(some (.V 1)), .box (.V 0), none⟩,
   ⟨(some (.V 2)), .mv (kb false), none⟩])
 (.seq (.reg [⟨(some (.E 3)), .faddr 0 (.V 1), none⟩,
   ⟨(some (.E 4)), .load false 1 (.E 3), none⟩,
   ⟨(some (.E 5)), .bin .neq (.E 4) (ki (-1)), none⟩,
   ⟨(some (.V 2)), .mv (.E 5), none⟩])
 (.ret))

def k_spec_l17Inner_rv : List RV := [.tmp [0] 2]

def k_laws_toNodeS_vars : List Nat := [0, 4, 3, 2]

def k_laws_toNodeS_b0 : IC :=
 .seq (.seq (.reg [⟨(some (.E 8)), .mv (.V 4), none⟩,
   ⟨(some (.E 9)), .mv (.V 0), none⟩,
   ⟨(some (.E 10)), .len (.E 9), none⟩,
   ⟨(some (.E 11)), .bin .lss (.E 8) (.E 10), none⟩])
 (.cond (.E 11)
  (.skip)
  (.exit 0)))
 (.seq (.block 1 (.reg [⟨(some (.E 14)), .mv (.V 3), none⟩,
    ⟨(some (.E 15)), .mv (.V 4), none⟩,
    ⟨(some (.E 16)), .mv (.V 0), none⟩,
    ⟨(some (.E 17)), .mv (.V 4), none⟩,
    ⟨(some (.E 18)), .iaddr 5 (.E 16) (.E 17), none⟩,
    ⟨(some (.E 19)), .load true 5 (.E 18), none⟩,
    ⟨(some (.E 20)), .call k_laws_toNode [([0, 0, 0, 0, 0], (.E 19))], none⟩,
    ⟨(some (.E 21)), .iaddr 5 (.E 14) (.E 15), none⟩,
    ⟨none, .store [0, 0, 0, 0, 0] (.E 21) (.E 20), none⟩]))
 (.reg [⟨(some (.E 12)), .mv (.V 4), none⟩,
   ⟨(some (.E 13)), .bin .add (.E 12) (ki 1), none⟩,
   ⟨(some (.V 4)), .mv (.E 13), none⟩]))

def k_laws_toNodeS_ic : IC :=
 .seq (.reg [⟨(some (.V 2)), .mv (.C .e0), none⟩])
 (.seq (.reg [⟨(some (.E 5)), .mv (.V 0), none⟩,
   ⟨(some (.E 6)), .len (.E 5), none⟩,
   ⟨(some (.E 7)), .mksl 40 5 [(.v (.int .i64 0)), (.v (.int .i64 0)), (.v (.int .i64 0)), (.v (.int .i64 0)), (.v (.int .i64 0))] (.E 6) (.E 6), none⟩,
   ⟨(some (.V 3)), .mv (.E 7), none⟩])
 (.seq (.seq (.reg [⟨(some (.V 4)), .mv (ki 0), none⟩])
 (.block 0 (.loop k_laws_toNodeS_b0)))
 (.seq (.reg [⟨(some (.E 22)), .mv (.V 3), none⟩,
   ⟨(some (.V 2)), .mv (.E 22), none⟩])
 (.ret))))

def k_laws_toNodeS_rv : List RV := [.tmp [5] 2]

def k_laws_eqNodeS_vars : List Nat := [0, 1, 5, 4]

def k_laws_eqNodeS_b0 : IC :=
 .seq (.seq (.reg [⟨(some (.E 11)), .mv (.V 5), none⟩,
   ⟨(some (.E 12)), .mv (.V 0), none⟩,
   ⟨(some (.E 13)), .len (.E 12), none⟩,
   ⟨(some (.E 14)), .bin .lss (.E 11) (.E 13), none⟩])
 (.cond (.E 14)
  (.skip)
  (.exit 0)))
 (.seq (.block 1 (.seq (.regD [(⟨(some (.E 17)), .mv (.V 0), none⟩, 0, 0),
    (⟨(some (.E 18)), .mv (.V 5), none⟩, 0, 0),
    (⟨(some (.E 19)), .iaddr 5 (.E 17) (.E 18), none⟩, 0, 0),
    (⟨(some (.E 20)), .load true 5 (.E 19), none⟩, 0, 0),
    (⟨(some (.E 21)), .mv (.V 1), none⟩, 0, 0),
    (⟨(some (.E 22)), .mv (.V 5), none⟩, 0, 0),
    (⟨(some (.E 23)), .iaddr 5 (.E 21) (.E 22), none⟩, 0, 0),
    (⟨(some (.E 24)), .load true 5 (.E 23), none⟩, 0, 0),
    (⟨(some (.E 25)), .call k_laws_eqNode [([0, 0, 0, 0, 0], (.E 20)), ([0, 0, 0, 0, 0], (.E 24))], none⟩, 0, 0),
    (⟨(some (.E 26)), .un .not (.E 25), none⟩, 0, 0)])
  (.cond (.E 26)
   (.seq (.reg [⟨(some (.V 4)), .mv (kb false), none⟩])
   (.ret))
   (.skip))))
 (.reg [⟨(some (.E 15)), .mv (.V 5), none⟩,
   ⟨(some (.E 16)), .bin .add (.E 15) (ki 1), none⟩,
   ⟨(some (.V 5)), .mv (.E 16), none⟩]))

def k_laws_eqNodeS_ic : IC :=
 .seq (.reg [⟨(some (.V 4)), .mv (kb false), none⟩])
 (.seq (.seq (.reg [⟨(some (.E 6)), .mv (.V 0), none⟩,
   ⟨(some (.E 7)), .len (.E 6), none⟩,
   ⟨(some (.E 8)), .mv (.V 1), none⟩,
   ⟨(some (.E 9)), .len (.E 8), none⟩,
   ⟨(some (.E 10)), .bin .neq (.E 7) (.E 9), none⟩])
 (.cond (.E 10)
  (.seq (.reg [⟨(some (.V 4)), .mv (kb false), none⟩])
  (.ret))
  (.skip)))
 (.seq (.seq (.reg [⟨(some (.V 5)), .mv (ki 0), none⟩])
 (.block 0 (.loop k_laws_eqNodeS_b0)))
 (.seq (.reg [⟨(some (.V 4)), .mv (kb true), none⟩])
 (.ret))))

def k_laws_eqNodeS_rv : List RV := [.tmp [0] 4]

def k_laws_markNodeS_vars : List Nat := [0, 1, 5, 4]

def k_laws_markNodeS_b0 : IC :=
 .seq (.seq (.reg [⟨(some (.E 6)), .mv (.V 5), none⟩,
   ⟨(some (.E 7)), .mv (.V 0), none⟩,
   ⟨(some (.E 8)), .len (.E 7), none⟩,
   ⟨(some (.E 9)), .bin .lss (.E 6) (.E 8), none⟩])
 (.cond (.E 9)
  (.skip)
  (.exit 0)))
 (.seq (.block 1 (.seq (.reg [⟨(some (.E 12)), .mv (.V 0), none⟩,
    ⟨(some (.E 13)), .mv (.V 5), none⟩,
    ⟨(some (.E 14)), .mv (.V 1), none⟩,
    ⟨(some (.E 15)), .iaddr 5 (.E 12) (.E 13), none⟩,
    ⟨(some (.E 16)), .faddr 0 (.E 15), none⟩,
    ⟨none, .store [0] (.E 16) (.E 14), none⟩])
  (.seq (.reg [⟨(some (.E 17)), .mv (.V 1), none⟩,
    ⟨(some (.E 18)), .bin .add (.E 17) (ki 1), none⟩,
    ⟨(some (.V 1)), .mv (.E 18), none⟩])
  (.seq (.reg [⟨(some (.E 19)), .mv (.V 0), none⟩,
    ⟨(some (.E 20)), .mv (.V 5), none⟩,
    ⟨(some (.E 21)), .mv (.V 1), none⟩,
    ⟨(some (.E 22)), .iaddr 5 (.E 19) (.E 20), none⟩,
    ⟨(some (.E 23)), .faddr 1 (.E 22), none⟩,
    ⟨none, .store [0] (.E 23) (.E 21), none⟩])
  (.seq (.reg [⟨(some (.E 24)), .mv (.V 1), none⟩,
    ⟨(some (.E 25)), .bin .add (.E 24) (ki 1), none⟩,
    ⟨(some (.V 1)), .mv (.E 25), none⟩])
  (.seq (.reg [⟨(some (.E 26)), .mv (.V 0), none⟩,
    ⟨(some (.E 27)), .mv (.V 5), none⟩,
    ⟨(some (.E 28)), .mv (.V 1), none⟩,
    ⟨(some (.E 29)), .iaddr 5 (.E 26) (.E 27), none⟩,
    ⟨(some (.E 30)), .faddr 2 (.E 29), none⟩,
    ⟨none, .store [0] (.E 30) (.E 28), none⟩])
  (.seq (.reg [⟨(some (.E 31)), .mv (.V 1), none⟩,
    ⟨(some (.E 32)), .bin .add (.E 31) (ki 1), none⟩,
    ⟨(some (.V 1)), .mv (.E 32), none⟩])
  (.seq (.reg [⟨(some (.E 33)), .mv (.V 0), none⟩,
    ⟨(some (.E 34)), .mv (.V 5), none⟩,
    ⟨(some (.E 35)), .mv (.V 1), none⟩,
    ⟨(some (.E 36)), .iaddr 5 (.E 33) (.E 34), none⟩,
    ⟨(some (.E 37)), .faddr 3 (.E 36), none⟩,
    ⟨none, .store [0] (.E 37) (.E 35), none⟩])
  (.seq (.reg [⟨(some (.E 38)), .mv (.V 1), none⟩,
    ⟨(some (.E 39)), .bin .add (.E 38) (ki 1), none⟩,
    ⟨(some (.V 1)), .mv (.E 39), none⟩])
  (.seq (.reg [⟨(some (.E 40)), .mv (.V 0), none⟩,
    ⟨(some (.E 41)), .mv (.V 5), none⟩,
    ⟨(some (.E 42)), .mv (.V 1), none⟩,
    ⟨(some (.E 43)), .iaddr 5 (.E 40) (.E 41), none⟩,
    ⟨(some (.E 44)), .faddr 4 (.E 43), none⟩,
    ⟨none, .store [0] (.E 44) (.E 42), none⟩])
  (.reg [⟨(some (.E 45)), .mv (.V 1), none⟩,
    ⟨(some (.E 46)), .bin .add (.E 45) (ki 1), none⟩,
    ⟨(some (.V 1)), .mv (.E 46), none⟩])))))))))))
 (.reg [⟨(some (.E 10)), .mv (.V 5), none⟩,
   ⟨(some (.E 11)), .bin .add (.E 10) (ki 1), none⟩,
   ⟨(some (.V 5)), .mv (.E 11), none⟩]))

def k_laws_markNodeS_ic : IC :=
 .seq (.reg [⟨(some (.V 4)), .mv (ki 0), none⟩])
 (.seq (.seq (.reg [⟨(some (.V 5)), .mv (ki 0), none⟩])
 (.block 0 (.loop k_laws_markNodeS_b0)))
 (.seq (.reg [⟨(some (.E 47)), .mv (.V 1), none⟩,
   ⟨(some (.V 4)), .mv (.E 47), none⟩])
 (.ret)))

def k_laws_markNodeS_rv : List RV := [.tmp [0] 4]

def k_spec_l1In_vars : List Nat := [0, 1, 2, 6]

def k_spec_l1In_ic : IC :=
 .seq (.reg [⟨(some (.V 6)), .mv (kb false), none⟩])
 (.seq (.reg [⟨(some (.E 7)), .mv (.V 0), none⟩,
   ⟨(some (.E 8)), .mv (.V 1), none⟩,
   ⟨(some (.E 9)), .bin .geq (.E 7) (.E 8), none⟩,
   ⟨(some (.E 10)), .mv (.E 9), none⟩,
   ⟨(some (.E 11)), .mv (.V 0), some ((.E 10), true)⟩,
   ⟨(some (.E 12)), .mv (.V 2), some ((.E 10), true)⟩,
   ⟨(some (.E 13)), .bin .leq (.E 11) (.E 12), some ((.E 10), true)⟩,
   ⟨(some (.E 14)), .pick (.E 10) (.E 13) (kb false), none⟩,
   ⟨(some (.V 6)), .mv (.E 14), none⟩])
 (.ret))

def k_spec_l1In_rv : List RV := [.tmp [0] 6]

def k_spec_l6Value_vars : List Nat := [0, 2]

def k_spec_l6Value_ic : IC :=
 .seq (.reg [⟨(some (.V 2)), .mv (kb false), none⟩])
 (.seq (.reg [⟨(some (.E 3)), .mv (.V 0), none⟩,
   ⟨(some (.E 4)), .call k_spec_l1In [([0], (.E 3)), ([0], (ki (-2147483647))), ([0], (ki 2147483647))], none⟩,
   ⟨(some (.V 2)), .mv (.E 4), none⟩])
 (.ret))

def k_spec_l6Value_rv : List RV := [.tmp [0] 2]

def k_spec_NameOk_vars : List Nat := [0, 3, 2]

def k_spec_NameOk_b0 : IC :=
 .seq (.seq (.reg [⟨(some (.E 13)), .mv (.V 3), none⟩,
   ⟨(some (.E 14)), .mv (.V 0), none⟩,
   ⟨(some (.E 15)), .lenS (.E 14), none⟩,
   ⟨(some (.E 16)), .bin .lss (.E 13) (.E 15), none⟩])
 (.cond (.E 16)
  (.skip)
  (.exit 0)))
 (.seq (.block 1 (.seq (.reg [⟨(some (.E 19)), .mv (.V 0), none⟩,
    ⟨(some (.E 20)), .mv (.V 3), none⟩,
    ⟨(some (.E 21)), .idx (.E 19) (.E 20), none⟩,
    ⟨(some (.E 22)), .convI .i64 (.E 21), none⟩,
    ⟨(some (.E 23)), .call k_spec_l1In [([0], (.E 22)), ([0], (ki 97)), ([0], (ki 122))], none⟩,
    ⟨(some (.E 24)), .un .not (.E 23), none⟩,
    ⟨(some (.E 25)), .mv (.E 24), none⟩,
    ⟨(some (.E 26)), .mv (.V 0), some ((.E 25), true)⟩,
    ⟨(some (.E 27)), .mv (.V 3), some ((.E 25), true)⟩,
    ⟨(some (.E 28)), .idx (.E 26) (.E 27), some ((.E 25), true)⟩,
    ⟨(some (.E 29)), .convI .i64 (.E 28), some ((.E 25), true)⟩,
    ⟨(some (.E 30)), .call k_spec_l1In [([0], (.E 29)), ([0], (ki 48)), ([0], (ki 57))], some ((.E 25), true)⟩,
    ⟨(some (.E 31)), .un .not (.E 30), some ((.E 25), true)⟩,
    ⟨(some (.E 32)), .pick (.E 25) (.E 31) (kb false), none⟩])
  (.cond (.E 32)
   (.seq (.reg [⟨(some (.V 2)), .mv (kb false), none⟩])
   (.ret))
   (.skip))))
 (.reg [⟨(some (.E 17)), .mv (.V 3), none⟩,
   ⟨(some (.E 18)), .bin .add (.E 17) (ki 1), none⟩,
   ⟨(some (.V 3)), .mv (.E 18), none⟩]))

def k_spec_NameOk_ic : IC :=
 .seq (.reg [⟨(some (.V 2)), .mv (kb false), none⟩])
 (.seq (.seq (.reg [⟨(some (.E 4)), .mv (.V 0), none⟩,
   ⟨(some (.E 5)), .lenS (.E 4), none⟩,
   ⟨(some (.E 6)), .call k_spec_l1In [([0], (.E 5)), ([0], (ki 1)), ([0], (ki 12))], none⟩,
   ⟨(some (.E 7)), .un .not (.E 6), none⟩,
   ⟨(some (.E 8)), .mv (.E 7), none⟩,
   ⟨(some (.E 9)), .mv (.V 0), some ((.E 8), false)⟩,
   ⟨(some (.E 10)), .idx (.E 9) (ki 0), some ((.E 8), false)⟩,
   ⟨(some (.E 11)), .bin .lss (.E 10) (.C (.v (.int .u8 97))), some ((.E 8), false)⟩,
   ⟨(some (.E 12)), .pick (.E 8) (kb true) (.E 11), none⟩])
 (.cond (.E 12)
  (.seq (.reg [⟨(some (.V 2)), .mv (kb false), none⟩])
  (.ret))
  (.skip)))
 (.seq (.seq (.reg [⟨(some (.V 3)), .mv (ki 0), none⟩])
 (.block 0 (.loop k_spec_NameOk_b0)))
 (.seq (.reg [⟨(some (.V 2)), .mv (kb true), none⟩])
 (.ret))))

def k_spec_NameOk_rv : List RV := [.tmp [0] 2]

def k_spec_l9Has_vars : List Nat := [0, 1, 5, 4]

def k_spec_l9Has_b0 : IC :=
 .seq (.seq (.reg [⟨(some (.E 6)), .mv (.V 5), none⟩,
   ⟨(some (.E 7)), .mv (.V 0), none⟩,
   ⟨(some (.E 8)), .len (.E 7), none⟩,
   ⟨(some (.E 9)), .bin .lss (.E 6) (.E 8), none⟩])
 (.cond (.E 9)
  (.skip)
  (.exit 0)))
 (.seq (.block 1 (.seq (.reg [⟨(some (.E 12)), .mv (.V 0), none⟩,
    ⟨(some (.E 13)), .mv (.V 5), none⟩,
    ⟨(some (.E 14)), .iaddr 1 (.E 12) (.E 13), none⟩,
    ⟨(some (.E 15)), .load false 1 (.E 14), none⟩,
    ⟨(some (.E 16)), .mv (.V 1), none⟩,
    ⟨(some (.E 17)), .bin .eql (.E 15) (.E 16), none⟩])
  (.cond (.E 17)
   (.seq (.reg [⟨(some (.V 4)), .mv (kb true), none⟩])
   (.ret))
   (.skip))))
 (.reg [⟨(some (.E 10)), .mv (.V 5), none⟩,
   ⟨(some (.E 11)), .bin .add (.E 10) (ki 1), none⟩,
   ⟨(some (.V 5)), .mv (.E 11), none⟩]))

def k_spec_l9Has_ic : IC :=
 .seq (.reg [⟨(some (.V 4)), .mv (kb false), none⟩])
 (.seq (.seq (.reg [⟨(some (.V 5)), .mv (ki 0), none⟩])
 (.block 0 (.loop k_spec_l9Has_b0)))
 (.seq (.reg [⟨(some (.V 4)), .mv (kb false), none⟩])
 (.ret)))

def k_spec_l9Has_rv : List RV := [.tmp [0] 4]

def k_spec_TreeOk_vars : List Nat := [0, 1, 2, 4]

def k_spec_TreeOk_ic : IC :=
 .seq (.reg [⟨(some (.V 2)), .box (.V 0), none⟩,
   ⟨(some (.V 4)), .mv (kb false), none⟩])
 (.seq (.reg [⟨(some (.E 5)), .faddr 0 (.V 2), none⟩,
   ⟨(some (.E 6)), .load false 1 (.E 5), none⟩,
   ⟨(some (.E 7)), .len (.E 6), none⟩,
   ⟨(some (.E 8)), .call k_spec_l1In [([0], (.E 7)), ([0], (ki 1)), ([0], (ki 31))], none⟩,
   ⟨(some (.E 9)), .mv (.E 8), none⟩,
   ⟨(some (.E 10)), .mv (.V 1), some ((.E 9), true)⟩,
   ⟨(some (.E 11)), .call k_spec_l1In [([0], (.E 10)), ([0], (ki 0)), ([0], (ki 4))], some ((.E 9), true)⟩,
   ⟨(some (.E 12)), .pick (.E 9) (.E 11) (kb false), none⟩,
   ⟨(some (.E 13)), .mv (.E 12), none⟩,
   ⟨(some (.E 14)), .load true 1 (.V 2), some ((.E 13), true)⟩,
   ⟨(some (.E 15)), .mv (.V 1), some ((.E 13), true)⟩,
   ⟨(some (.E 16)), .call k_spec_l17Shape [([5], (.E 14)), ([0], (.E 15))], some ((.E 13), true)⟩,
   ⟨(some (.E 17)), .pick (.E 13) (.E 16) (kb false), none⟩,
   ⟨(some (.E 18)), .mv (.E 17), none⟩,
   ⟨(some (.E 19)), .load true 1 (.V 2), some ((.E 18), true)⟩,
   ⟨(some (.E 20)), .call k_spec_DepthOf [([5], (.E 19))], some ((.E 18), true)⟩,
   ⟨(some (.E 21)), .bin .leq (.E 20) (ki 4), some ((.E 18), true)⟩,
   ⟨(some (.E 22)), .pick (.E 18) (.E 21) (kb false), none⟩,
   ⟨(some (.E 23)), .mv (.E 22), none⟩,
   ⟨(some (.E 24)), .load true 1 (.V 2), some ((.E 23), true)⟩,
   ⟨(some (.E 25)), .call k_spec_l17Ways [([5], (.E 24))], some ((.E 23), true)⟩,
   ⟨(some (.E 26)), .pick (.E 23) (.E 25) (kb false), none⟩,
   ⟨(some (.V 4)), .mv (.E 26), none⟩])
 (.ret))

def k_spec_TreeOk_rv : List RV := [.tmp [0] 4]

def k_impl_within_vars : List Nat := [0, 1, 2, 6]

def k_impl_within_ic : IC :=
 .seq (.reg [⟨(some (.V 6)), .mv (kb false), none⟩])
 (.seq (.reg [⟨(some (.E 7)), .mv (.V 0), none⟩,
   ⟨(some (.E 8)), .mv (.V 1), none⟩,
   ⟨(some (.E 9)), .bin .geq (.E 7) (.E 8), none⟩,
   ⟨(some (.E 10)), .mv (.E 9), none⟩,
   ⟨(some (.E 11)), .mv (.V 0), some ((.E 10), true)⟩,
   ⟨(some (.E 12)), .mv (.V 2), some ((.E 10), true)⟩,
   ⟨(some (.E 13)), .bin .leq (.E 11) (.E 12), some ((.E 10), true)⟩,
   ⟨(some (.E 14)), .pick (.E 10) (.E 13) (kb false), none⟩,
   ⟨(some (.V 6)), .mv (.E 14), none⟩])
 (.ret))

def k_impl_within_rv : List RV := [.tmp [0] 6]

def k_impl_areNames_vars : List Nat := [0, 7, 6, 5, 4, 3, 2]

def k_impl_areNames_b0 : IC :=
 .seq (.reg [⟨(some (.E 8)), .bin .lss (.V 7) (.V 6), none⟩])
 (.seq (.cond (.E 8)
  (.skip)
  (.exit 0))
 (.seq (.block 1 (.seq (.reg [⟨(some (.E 9)), .mv (.V 7), none⟩,
    ⟨(some (.E 10)), .iaddr 1 (.V 5) (.V 7), none⟩,
    ⟨(some (.E 11)), .load false 1 (.E 10), none⟩,
    ⟨(some (.V 3)), .mv (.E 9), none⟩,
    ⟨(some (.V 4)), .mv (.E 11), none⟩])
  (.seq (.reg [⟨(some (.E 12)), .mv (.V 4), none⟩,
    ⟨(some (.E 13)), .call k_impl_NameOk [([0], (.E 12))], none⟩,
    ⟨(some (.E 14)), .un .not (.E 13), none⟩,
    ⟨(some (.E 15)), .mv (.E 14), none⟩,
    ⟨(some (.E 16)), .mv (.V 0), some ((.E 15), false)⟩,
    ⟨(some (.E 17)), .mv (.V 3), some ((.E 15), false)⟩,
    ⟨(some (.E 18)), .slice 1 (.E 16) none (some (.E 17)) none, some ((.E 15), false)⟩,
    ⟨(some (.E 19)), .mv (.V 4), some ((.E 15), false)⟩,
    ⟨(some (.E 20)), .call k_slices_Contains___string_string_ [([1], (.E 18)), ([0], (.E 19))], some ((.E 15), false)⟩,
    ⟨(some (.E 21)), .pick (.E 15) (kb true) (.E 20), none⟩])
  (.cond (.E 21)
   (.seq (.reg [⟨(some (.V 2)), .mv (kb false), none⟩])
   (.ret))
   (.skip)))))
 (.reg [⟨(some (.E 22)), .bin .add (.V 7) (ki 1), none⟩,
   ⟨(some (.V 7)), .mv (.E 22), none⟩])))

def k_impl_areNames_ic : IC :=
 .seq (.reg [⟨(some (.V 2)), .mv (kb false), none⟩])
 (.seq (.seq (.reg [⟨(some (.V 5)), .mv (.V 0), none⟩,
   ⟨(some (.V 6)), .len (.V 5), none⟩,
   ⟨(some (.V 7)), .mv (ki 0), none⟩])
 (.block 0 (.loop k_impl_areNames_b0)))
 (.seq (.reg [⟨(some (.V 2)), .mv (kb true), none⟩])
 (.ret)))

def k_impl_areNames_rv : List RV := [.tmp [0] 2]

def k_slices_ContainsFunc___int_int__vars : List Nat := [0, 1, 4]

def k_slices_ContainsFunc___int_int__ic : IC :=
 .seq (.reg [⟨(some (.V 4)), .mv (kb false), none⟩])
 (.seq (.reg [⟨(some (.E 5)), .mv (.V 0), none⟩,
   ⟨(some (.E 6)), .mv (.V 1), none⟩,
   ⟨(some (.E 7)), .call k_slices_IndexFunc___int_int_ [([1], (.E 5)), ([0], (.E 6))], none⟩,
   ⟨(some (.E 8)), .bin .geq (.E 7) (ki 0), none⟩,
   ⟨(some (.V 4)), .mv (.E 8), none⟩])
 (.ret))

def k_slices_ContainsFunc___int_int__rv : List RV := [.tmp [0] 4]

def k_impl_ModelOk_1_vars : List Nat := [0, 2]

def k_impl_ModelOk_1_ic : IC :=
 .seq (.reg [⟨(some (.V 2)), .mv (kb false), none⟩])
 (.seq (.reg [⟨(some (.E 3)), .mv (.V 0), none⟩,
   ⟨(some (.E 4)), .call k_impl_isSign [([0], (.E 3))], none⟩,
   ⟨(some (.E 5)), .un .not (.E 4), none⟩,
   ⟨(some (.V 2)), .mv (.E 5), none⟩])
 (.ret))

def k_impl_ModelOk_1_rv : List RV := [.tmp [0] 2]

def k_impl_isSign_vars : List Nat := [0, 2]

def k_impl_isSign_ic : IC :=
 .seq (.reg [⟨(some (.V 2)), .mv (kb false), none⟩])
 (.seq (.reg [⟨(some (.E 3)), .mv (.V 0), none⟩,
   ⟨(some (.E 4)), .call k_impl_within [([0], (.E 3)), ([0], (ki (-1))), ([0], (ki 1))], none⟩,
   ⟨(some (.V 2)), .mv (.E 4), none⟩])
 (.ret))

def k_impl_isSign_rv : List RV := [.tmp [0] 2]

def k_impl_isDecimal_vars : List Nat := [0, 2]

def k_impl_isDecimal_ic : IC :=
 .seq (.reg [⟨(some (.V 2)), .mv (kb false), none⟩])
 (.seq (.reg [⟨(some (.E 3)), .mv (.V 0), none⟩,
   ⟨(some (.E 4)), .call k_impl_within [([0], (.E 3)), ([0], (ki (-2147483647))), ([0], (ki 2147483647))], none⟩,
   ⟨(some (.V 2)), .mv (.E 4), none⟩])
 (.ret))

def k_impl_isDecimal_rv : List RV := [.tmp [0] 2]

def k_slices_ContainsFunc___impl_Tree_impl_Tree__vars : List Nat := [0, 1, 4]

def k_slices_ContainsFunc___impl_Tree_impl_Tree__ic : IC :=
 .seq (.reg [⟨(some (.V 4)), .mv (kb false), none⟩])
 (.seq (.reg [⟨(some (.E 5)), .mv (.V 0), none⟩,
   ⟨(some (.E 6)), .mv (.V 1), none⟩,
   ⟨(some (.E 7)), .call k_slices_IndexFunc___impl_Tree_impl_Tree_ [([1], (.E 5)), ([0], (.E 6))], none⟩,
   ⟨(some (.E 8)), .bin .geq (.E 7) (ki 0), none⟩,
   ⟨(some (.V 4)), .mv (.E 8), none⟩])
 (.ret))

def k_slices_ContainsFunc___impl_Tree_impl_Tree__rv : List RV := [.tmp [0] 4]

def k_impl_ModelOk_2_vars : List Nat := [0, 1, 2, 3]

def k_impl_ModelOk_2_ic : IC :=
 .seq (.reg [⟨(some (.V 2)), .box (.V 0), none⟩,
   ⟨(some (.V 3)), .mv (kb false), none⟩])
 (.seq (.reg [⟨(some (.E 4)), .load true 1 (.V 2), none⟩,
   ⟨(some (.E 5)), .load false 1 (.V 1), none⟩,
   ⟨(some (.E 6)), .call k_impl_TreeOk [([5], (.E 4)), ([0], (.E 5))], none⟩,
   ⟨(some (.E 7)), .un .not (.E 6), none⟩,
   ⟨(some (.V 3)), .mv (.E 7), none⟩])
 (.ret))

def k_impl_ModelOk_2_rv : List RV := [.tmp [0] 3]

def k_impl_TreeOk_vars : List Nat := [0, 1, 2, 30, 29, 28, 6, 5, 7, 50, 49, 48, 9, 10, 8, 4]

def k_impl_TreeOk_b0 : IC :=
 .seq (.reg [⟨(some (.E 51)), .bin .lss (.V 50) (.V 49), none⟩])
 (.seq (.cond (.E 51)
  (.skip)
  (.exit 2))
 (.seq (.block 3 (.seq (.reg [⟨(some (.E 52)), .mv (.V 50), none⟩,
    ⟨(some (.E 53)), .iaddr 1 (.V 48) (.V 50), none⟩,
    ⟨(some (.E 54)), .load false 1 (.E 53), none⟩,
    ⟨(some (.V 8)), .mv (.E 52), none⟩,
    ⟨(some (.V 9)), .mv (.E 54), none⟩])
  (.seq (.reg [⟨(some (.E 55)), .faddr 0 (.V 2), none⟩,
    ⟨(some (.E 56)), .load false 1 (.E 55), none⟩,
    ⟨(some (.E 57)), .mv (.V 9), none⟩,
    ⟨(some (.E 58)), .iaddr 5 (.E 56) (.E 57), none⟩,
    ⟨(some (.E 59)), .load true 5 (.E 58), none⟩,
    ⟨(some (.V 10)), .alloc [(.v (.int .i64 0)), (.v (.int .i64 0)), (.v (.int .i64 0)), (.v (.int .i64 0)), (.v (.int .i64 0))], none⟩,
    ⟨none, .store [0, 0, 0, 0, 0] (.V 10) (.E 59), none⟩])
  (.seq (.seq (.reg [⟨(some (.E 60)), .faddr 0 (.V 10), none⟩,
    ⟨(some (.E 61)), .load false 1 (.E 60), none⟩,
    ⟨(some (.E 62)), .faddr 0 (.V 6), none⟩,
    ⟨(some (.E 63)), .load false 1 (.E 62), none⟩,
    ⟨(some (.E 64)), .bin .neq (.E 61) (.E 63), none⟩])
  (.cond (.E 64)
   (.exit 3)
   (.skip)))
  (.seq (.regD [(⟨(some (.E 65)), .mv (.V 7), none⟩, 0, 0),
    (⟨(some (.E 66)), .mv (.V 8), none⟩, 0, 0),
    (⟨(some (.E 67)), .bin .add (.E 66) (ki 1), none⟩, 0, 0),
    (⟨(some (.E 68)), .iaddr 1 (.E 65) (.E 67), none⟩, 0, 0),
    (⟨(some (.E 69)), .load false 1 (.E 68), none⟩, 0, 0),
    (⟨(some (.E 70)), .faddr 2 (.V 10), none⟩, 0, 0),
    (⟨(some (.E 71)), .load false 1 (.E 70), none⟩, 0, 0),
    (⟨(some (.E 72)), .bin .eql (.E 69) (.E 71), none⟩, 0, 0),
    (⟨(some (.E 73)), .mv (.E 72), none⟩, 0, 0),
    (⟨(some (.E 74)), .faddr 1 (.V 10), some ((.E 73), true)⟩, 0, 0),
    (⟨(some (.E 75)), .load false 1 (.E 74), some ((.E 73), true)⟩, 0, 0),
    (⟨(some (.E 76)), .faddr 1 (.V 6), some ((.E 73), true)⟩, 0, 0),
    (⟨(some (.E 77)), .load false 1 (.E 76), some ((.E 73), true)⟩, 0, 0),
    (⟨(some (.E 78)), .bin .leq (.E 75) (.E 77), some ((.E 73), true)⟩, 0, 0),
    (⟨(some (.E 79)), .pick (.E 73) (.E 78) (kb false), none⟩, 0, 0),
    (⟨(some (.E 80)), .mv (.E 79), none⟩, 0, 0),
    (⟨(some (.E 81)), .mv (.V 7), some ((.E 80), false)⟩, 0, 0),
    (⟨(some (.E 82)), .mv (.V 8), some ((.E 80), false)⟩, 0, 0),
    (⟨(some (.E 83)), .bin .add (.E 82) (ki 1), some ((.E 80), false)⟩, 0, 0),
    (⟨(some (.E 84)), .iaddr 1 (.E 81) (.E 83), some ((.E 80), false)⟩, 0, 0),
    (⟨(some (.E 85)), .load false 1 (.E 84), some ((.E 80), false)⟩, 0, 0),
    (⟨(some (.E 86)), .faddr 3 (.V 10), some ((.E 80), false)⟩, 0, 0),
    (⟨(some (.E 87)), .load false 1 (.E 86), some ((.E 80), false)⟩, 0, 0),
    (⟨(some (.E 88)), .bin .eql (.E 85) (.E 87), some ((.E 80), false)⟩, 0, 0),
    (⟨(some (.E 89)), .mv (.E 88), some ((.E 80), false)⟩, 0, 0),
    (⟨(some (.E 90)), .faddr 1 (.V 10), some ((.E 89), true)⟩, 0, 0),
    (⟨(some (.E 91)), .load false 1 (.E 90), some ((.E 89), true)⟩, 0, 0),
    (⟨(some (.E 92)), .faddr 1 (.V 6), some ((.E 89), true)⟩, 0, 0),
    (⟨(some (.E 93)), .load false 1 (.E 92), some ((.E 89), true)⟩, 0, 0),
    (⟨(some (.E 94)), .bin .geq (.E 91) (.E 93), some ((.E 89), true)⟩, 0, 0),
    (⟨(some (.E 95)), .pick (.E 89) (.E 94) (kb false), some ((.E 80), false)⟩, 0, 0),
    (⟨(some (.E 96)), .pick (.E 80) (kb true) (.E 95), none⟩, 0, 0)])
  (.cond (.E 96)
   (.seq (.reg [⟨(some (.V 4)), .mv (kb false), none⟩])
   (.ret))
   (.skip)))))))
 (.reg [⟨(some (.E 97)), .bin .add (.V 50) (ki 1), none⟩,
   ⟨(some (.V 50)), .mv (.E 97), none⟩])))

def k_impl_TreeOk_b1 : IC :=
 .seq (.reg [⟨(some (.E 31)), .bin .lss (.V 30) (.V 29), none⟩])
 (.seq (.cond (.E 31)
  (.skip)
  (.exit 0))
 (.seq (.block 1 (.seq (.reg [⟨(some (.E 32)), .mv (.V 30), none⟩,
    ⟨(some (.E 33)), .iaddr 5 (.V 28) (.V 30), none⟩,
    ⟨(some (.E 34)), .load true 5 (.E 33), none⟩,
    ⟨(some (.V 6)), .alloc [(.v (.int .i64 0)), (.v (.int .i64 0)), (.v (.int .i64 0)), (.v (.int .i64 0)), (.v (.int .i64 0))], none⟩,
    ⟨(some (.V 5)), .mv (.E 32), none⟩,
    ⟨none, .store [0, 0, 0, 0, 0] (.V 6) (.E 34), none⟩])
  (.seq (.seq (.reg [⟨(some (.E 35)), .load true 5 (.V 6), none⟩,
    ⟨(some (.E 36)), .call k_impl_isLeaf [([0, 0, 0, 0, 0], (.E 35))], none⟩])
  (.cond (.E 36)
   (.seq (.seq (.reg [⟨(some (.E 37)), .load true 1 (.V 2), none⟩,
     ⟨(some (.E 38)), .mv (.V 5), none⟩,
     ⟨(some (.E 39)), .call k_impl_LevelOf [([5], (.E 37)), ([0], (.E 38))], none⟩,
     ⟨(some (.E 40)), .bin .gtr (.E 39) (ki 4), none⟩])
   (.cond (.E 40)
    (.seq (.reg [⟨(some (.V 4)), .mv (kb false), none⟩])
    (.ret))
    (.skip)))
   (.exit 1))
   (.skip)))
  (.seq (.reg [⟨(some (.E 41)), .load true 1 (.V 2), none⟩,
    ⟨(some (.E 42)), .mv (.V 5), none⟩,
    ⟨(some (.E 43)), .call k_impl_wayTo [([5], (.E 41)), ([0], (.E 42))], none⟩,
    ⟨(some (.V 7)), .mv (.E 43), none⟩])
  (.seq (.reg [⟨(some (.E 44)), .mv (.V 7), none⟩,
    ⟨(some (.E 45)), .mv (.V 7), none⟩,
    ⟨(some (.E 46)), .len (.E 45), none⟩,
    ⟨(some (.E 47)), .bin .sub (.E 46) (ki 1), none⟩,
    ⟨(some (.V 48)), .slice 1 (.E 44) none (some (.E 47)) none, none⟩,
    ⟨(some (.V 49)), .len (.V 48), none⟩,
    ⟨(some (.V 50)), .mv (ki 0), none⟩])
  (.block 2 (.loop k_impl_TreeOk_b0)))))))
 (.reg [⟨(some (.E 98)), .bin .add (.V 30) (ki 1), none⟩,
   ⟨(some (.V 30)), .mv (.E 98), none⟩])))

def k_impl_TreeOk_ic : IC :=
 .seq (.reg [⟨(some (.V 2)), .box (.V 0), none⟩,
   ⟨(some (.V 4)), .mv (kb false), none⟩])
 (.seq (.seq (.reg [⟨(some (.E 11)), .mv (.V 1), none⟩,
   ⟨(some (.E 12)), .call k_impl_within [([0], (.E 11)), ([0], (ki 0)), ([0], (ki 4))], none⟩,
   ⟨(some (.E 13)), .un .not (.E 12), none⟩,
   ⟨(some (.E 14)), .mv (.E 13), none⟩,
   ⟨(some (.E 15)), .faddr 0 (.V 2), some ((.E 14), false)⟩,
   ⟨(some (.E 16)), .load false 1 (.E 15), some ((.E 14), false)⟩,
   ⟨(some (.E 17)), .len (.E 16), some ((.E 14), false)⟩,
   ⟨(some (.E 18)), .call k_impl_within [([0], (.E 17)), ([0], (ki 1)), ([0], (ki 31))], some ((.E 14), false)⟩,
   ⟨(some (.E 19)), .un .not (.E 18), some ((.E 14), false)⟩,
   ⟨(some (.E 20)), .pick (.E 14) (kb true) (.E 19), none⟩,
   ⟨(some (.E 21)), .mv (.E 20), none⟩,
   ⟨(some (.E 22)), .load true 1 (.V 2), some ((.E 21), false)⟩,
   ⟨(some (.E 23)), .mv (.V 1), some ((.E 21), false)⟩,
   ⟨(some (.E 24)), .call k_impl_shapeOk [([5], (.E 22)), ([0], (.E 23))], some ((.E 21), false)⟩,
   ⟨(some (.E 25)), .un .not (.E 24), some ((.E 21), false)⟩,
   ⟨(some (.E 26)), .pick (.E 21) (kb true) (.E 25), none⟩])
 (.cond (.E 26)
  (.seq (.reg [⟨(some (.V 4)), .mv (kb false), none⟩])
  (.ret))
  (.skip)))
 (.seq (.seq (.reg [⟨(some (.E 27)), .faddr 0 (.V 2), none⟩,
   ⟨(some (.V 28)), .load false 1 (.E 27), none⟩,
   ⟨(some (.V 29)), .len (.V 28), none⟩,
   ⟨(some (.V 30)), .mv (ki 0), none⟩])
 (.block 0 (.loop k_impl_TreeOk_b1)))
 (.seq (.reg [⟨(some (.V 4)), .mv (kb true), none⟩])
 (.ret))))

def k_impl_TreeOk_rv : List RV := [.tmp [0] 4]

def k_laws_markStringS_vars : List Nat := [0, 1, 5, 4]

def k_laws_markStringS_b0 : IC :=
 .seq (.seq (.reg [⟨(some (.E 6)), .mv (.V 5), none⟩,
   ⟨(some (.E 7)), .mv (.V 0), none⟩,
   ⟨(some (.E 8)), .len (.E 7), none⟩,
   ⟨(some (.E 9)), .bin .lss (.E 6) (.E 8), none⟩])
 (.cond (.E 9)
  (.skip)
  (.exit 0)))
 (.seq (.block 1 (.seq (.reg [⟨(some (.E 12)), .mv (.V 0), none⟩,
    ⟨(some (.E 13)), .mv (.V 5), none⟩,
    ⟨(some (.E 14)), .mv (.V 1), none⟩,
    ⟨(some (.E 15)), .call k_laws_markText [([0], (.E 14))], none⟩,
    ⟨(some (.E 16)), .iaddr 1 (.E 12) (.E 13), none⟩,
    ⟨none, .store [0] (.E 16) (.E 15), none⟩])
  (.reg [⟨(some (.E 17)), .mv (.V 1), none⟩,
    ⟨(some (.E 18)), .bin .add (.E 17) (ki 1), none⟩,
    ⟨(some (.V 1)), .mv (.E 18), none⟩])))
 (.reg [⟨(some (.E 10)), .mv (.V 5), none⟩,
   ⟨(some (.E 11)), .bin .add (.E 10) (ki 1), none⟩,
   ⟨(some (.V 5)), .mv (.E 11), none⟩]))

def k_laws_markStringS_ic : IC :=
 .seq (.reg [⟨(some (.V 4)), .mv (ki 0), none⟩])
 (.seq (.seq (.reg [⟨(some (.V 5)), .mv (ki 0), none⟩])
 (.block 0 (.loop k_laws_markStringS_b0)))
 (.seq (.reg [⟨(some (.E 19)), .mv (.V 1), none⟩,
   ⟨(some (.V 4)), .mv (.E 19), none⟩])
 (.ret)))

def k_laws_markStringS_rv : List RV := [.tmp [0] 4]

def k_laws_markTreeS_vars : List Nat := [0, 1, 5, 4]

def k_laws_markTreeS_b0 : IC :=
 .seq (.seq (.reg [⟨(some (.E 6)), .mv (.V 5), none⟩,
   ⟨(some (.E 7)), .mv (.V 0), none⟩,
   ⟨(some (.E 8)), .len (.E 7), none⟩,
   ⟨(some (.E 9)), .bin .lss (.E 6) (.E 8), none⟩])
 (.cond (.E 9)
  (.skip)
  (.exit 0)))
 (.seq (.block 1 (.reg [⟨(some (.E 12)), .mv (.V 0), none⟩,
    ⟨(some (.E 13)), .mv (.V 5), none⟩,
    ⟨(some (.E 14)), .iaddr 1 (.E 12) (.E 13), none⟩,
    ⟨(some (.E 15)), .faddr 0 (.E 14), none⟩,
    ⟨(some (.E 16)), .load false 1 (.E 15), none⟩,
    ⟨(some (.E 17)), .mv (.V 1), none⟩,
    ⟨(some (.E 18)), .call k_laws_markNodeS [([5], (.E 16)), ([0], (.E 17))], none⟩,
    ⟨(some (.V 1)), .mv (.E 18), none⟩]))
 (.reg [⟨(some (.E 10)), .mv (.V 5), none⟩,
   ⟨(some (.E 11)), .bin .add (.E 10) (ki 1), none⟩,
   ⟨(some (.V 5)), .mv (.E 11), none⟩]))

def k_laws_markTreeS_ic : IC :=
 .seq (.reg [⟨(some (.V 4)), .mv (ki 0), none⟩])
 (.seq (.seq (.reg [⟨(some (.V 5)), .mv (ki 0), none⟩])
 (.block 0 (.loop k_laws_markTreeS_b0)))
 (.seq (.reg [⟨(some (.E 19)), .mv (.V 1), none⟩,
   ⟨(some (.V 4)), .mv (.E 19), none⟩])
 (.ret)))

def k_laws_markTreeS_rv : List RV := [.tmp [0] 4]

def k_spec_EvalTree_vars : List Nat := [0, 1, 2, 5, 4]

def k_spec_EvalTree_ic : IC :=
 .seq (.reg [⟨(some (.V 2)), .box (.V 0), none⟩,
   ⟨(some (.V 4)), .mv (ki 0), none⟩])
 (.seq (.reg [⟨(some (.E 6)), .load true 1 (.V 2), none⟩,
   ⟨(some (.E 7)), .mv (.V 1), none⟩,
   ⟨(some (.E 8)), .call k_spec_RouteTo [([5], (.E 6)), ([1], (.E 7))], none⟩,
   ⟨(some (.V 5)), .mv (.E 8), none⟩])
 (.seq (.seq (.reg [⟨(some (.E 9)), .mv (.V 5), none⟩,
   ⟨(some (.E 10)), .bin .lss (.E 9) (ki 0), none⟩])
 (.cond (.E 10)
  (.seq (.reg [⟨(some (.V 4)), .mv (ki 0), none⟩])
  (.ret))
  (.skip)))
 (.seq (.reg [⟨(some (.E 11)), .faddr 0 (.V 2), none⟩,
   ⟨(some (.E 12)), .load false 1 (.E 11), none⟩,
   ⟨(some (.E 13)), .mv (.V 5), none⟩,
   ⟨(some (.E 14)), .iaddr 5 (.E 12) (.E 13), none⟩,
   ⟨(some (.E 15)), .faddr 4 (.E 14), none⟩,
   ⟨(some (.E 16)), .load false 1 (.E 15), none⟩,
   ⟨(some (.V 4)), .mv (.E 16), none⟩])
 (.ret))))

def k_spec_EvalTree_rv : List RV := [.tmp [0] 4]

def k_impl_EvalTree_vars : List Nat := [0, 1, 2, 5, 4]

def k_impl_EvalTree_ic : IC :=
 .seq (.reg [⟨(some (.V 2)), .box (.V 0), none⟩,
   ⟨(some (.V 4)), .mv (ki 0), none⟩])
 (.seq (.reg [⟨(some (.E 6)), .load true 1 (.V 2), none⟩,
   ⟨(some (.E 7)), .mv (.V 1), none⟩,
   ⟨(some (.E 8)), .call k_impl_RouteTo [([5], (.E 6)), ([1], (.E 7))], none⟩,
   ⟨(some (.V 5)), .mv (.E 8), none⟩])
 (.seq (.seq (.reg [⟨(some (.E 9)), .mv (.V 5), none⟩,
   ⟨(some (.E 10)), .bin .lss (.E 9) (ki 0), none⟩])
 (.cond (.E 10)
  (.seq (.reg [⟨(some (.V 4)), .mv (ki 0), none⟩])
  (.ret))
  (.skip)))
 (.seq (.reg [⟨(some (.E 11)), .faddr 0 (.V 2), none⟩,
   ⟨(some (.E 12)), .load false 1 (.E 11), none⟩,
   ⟨(some (.E 13)), .mv (.V 5), none⟩,
   ⟨(some (.E 14)), .iaddr 5 (.E 12) (.E 13), none⟩,
   ⟨(some (.E 15)), .faddr 4 (.E 14), none⟩,
   ⟨(some (.E 16)), .load false 1 (.E 15), none⟩,
   ⟨(some (.V 4)), .mv (.E 16), none⟩])
 (.ret))))

def k_impl_EvalTree_rv : List RV := [.tmp [0] 4]

def k_spec_l14Leaf_vars : List Nat := [0, 2]

def k_spec_l14Leaf_ic : IC :=
 .seq (.reg [⟨(some (.V 2)), .mv (kb false), none⟩])
 (.seq (.reg [⟨(some (.E 3)), .mv (.V 0), none⟩,
   ⟨(some (.E 4)), .call k_spec_l1In [([0], (.E 3)), ([0], (ki (-1099511627776))), ([0], (ki 1099511627776))], none⟩,
   ⟨(some (.V 2)), .mv (.E 4), none⟩])
 (.ret))

def k_spec_l14Leaf_rv : List RV := [.tmp [0] 2]

def k_laws_toNode_vars : List Nat := [0, 1, 3, 2]

def k_laws_toNode_ic : IC :=
 .seq (.reg [⟨(some (.V 1)), .box (.V 0), none⟩,
   ⟨(some (.V 2)), .alloc [(.v (.int .i64 0)), (.v (.int .i64 0)), (.v (.int .i64 0)), (.v (.int .i64 0)), (.v (.int .i64 0))], none⟩])
 (.seq (.reg [⟨(some (.V 3)), .alloc [(.v (.int .i64 0)), (.v (.int .i64 0)), (.v (.int .i64 0)), (.v (.int .i64 0)), (.v (.int .i64 0))], none⟩])
 (.seq (.reg [⟨(some (.E 4)), .faddr 0 (.V 1), none⟩,
   ⟨(some (.E 5)), .load false 1 (.E 4), none⟩,
   ⟨(some (.E 6)), .faddr 0 (.V 3), none⟩,
   ⟨none, .store [0] (.E 6) (.E 5), none⟩])
 (.seq (.reg [⟨(some (.E 7)), .faddr 1 (.V 1), none⟩,
   ⟨(some (.E 8)), .load false 1 (.E 7), none⟩,
   ⟨(some (.E 9)), .faddr 1 (.V 3), none⟩,
   ⟨none, .store [0] (.E 9) (.E 8), none⟩])
 (.seq (.reg [⟨(some (.E 10)), .faddr 2 (.V 1), none⟩,
   ⟨(some (.E 11)), .load false 1 (.E 10), none⟩,
   ⟨(some (.E 12)), .faddr 2 (.V 3), none⟩,
   ⟨none, .store [0] (.E 12) (.E 11), none⟩])
 (.seq (.reg [⟨(some (.E 13)), .faddr 3 (.V 1), none⟩,
   ⟨(some (.E 14)), .load false 1 (.E 13), none⟩,
   ⟨(some (.E 15)), .faddr 3 (.V 3), none⟩,
   ⟨none, .store [0] (.E 15) (.E 14), none⟩])
 (.seq (.reg [⟨(some (.E 16)), .faddr 4 (.V 1), none⟩,
   ⟨(some (.E 17)), .load false 1 (.E 16), none⟩,
   ⟨(some (.E 18)), .faddr 4 (.V 3), none⟩,
   ⟨none, .store [0] (.E 18) (.E 17), none⟩])
 (.seq (.reg [⟨(some (.E 19)), .load true 5 (.V 3), none⟩,
   ⟨none, .store [0, 0, 0, 0, 0] (.V 2) (.E 19), none⟩])
 (.ret))))))))

def k_laws_toNode_rv : List RV := [.cell [0, 0, 0, 0, 0] 2 true]

def k_impl_isLeaf_vars : List Nat := [0, 1, 2]

def k_impl_isLeaf_ic : IC :=
 .seq (.reg [⟨(some (.V 1)), .box (.V 0), none⟩,
   ⟨(some (.V 2)), .mv (kb false), none⟩])
 (.seq (.reg [⟨(some (.E 3)), .faddr 0 (.V 1), none⟩,
   ⟨(some (.E 4)), .load false 1 (.E 3), none⟩,
   ⟨(some (.E 5)), .bin .eql (.E 4) (ki (-1)), none⟩,
   ⟨(some (.V 2)), .mv (.E 5), none⟩])
 (.ret))

def k_impl_isLeaf_rv : List RV := [.tmp [0] 2]

def k_impl_isLeafValue_vars : List Nat := [0, 2]

def k_impl_isLeafValue_ic : IC :=
 .seq (.reg [⟨(some (.V 2)), .mv (kb false), none⟩])
 (.seq (.reg [⟨(some (.E 3)), .mv (.V 0), none⟩,
   ⟨(some (.E 4)), .call k_impl_within [([0], (.E 3)), ([0], (ki (-1099511627776))), ([0], (ki 1099511627776))], none⟩,
   ⟨(some (.V 2)), .mv (.E 4), none⟩])
 (.ret))

def k_impl_isLeafValue_rv : List RV := [.tmp [0] 2]

def k_laws_eqNode_vars : List Nat := [0, 1, 2, 3, 4]

def k_laws_eqNode_ic : IC :=
 .seq (.reg [⟨(some (.V 2)), .box (.V 0), none⟩,
   ⟨(some (.V 3)), .box (.V 1), none⟩,
   ⟨(some (.V 4)), .mv (kb false), none⟩])
 (.seq (.seq (.reg [⟨(some (.E 5)), .faddr 0 (.V 2), none⟩,
   ⟨(some (.E 6)), .load false 1 (.E 5), none⟩,
   ⟨(some (.E 7)), .faddr 0 (.V 3), none⟩,
   ⟨(some (.E 8)), .load false 1 (.E 7), none⟩,
   ⟨(some (.E 9)), .bin .neq (.E 6) (.E 8), none⟩])
 (.cond (.E 9)
  (.seq (.reg [⟨(some (.V 4)), .mv (kb false), none⟩])
  (.ret))
  (.skip)))
 (.seq (.seq (.reg [⟨(some (.E 10)), .faddr 1 (.V 2), none⟩,
   ⟨(some (.E 11)), .load false 1 (.E 10), none⟩,
   ⟨(some (.E 12)), .faddr 1 (.V 3), none⟩,
   ⟨(some (.E 13)), .load false 1 (.E 12), none⟩,
   ⟨(some (.E 14)), .bin .neq (.E 11) (.E 13), none⟩])
 (.cond (.E 14)
  (.seq (.reg [⟨(some (.V 4)), .mv (kb false), none⟩])
  (.ret))
  (.skip)))
 (.seq (.seq (.reg [⟨(some (.E 15)), .faddr 2 (.V 2), none⟩,
   ⟨(some (.E 16)), .load false 1 (.E 15), none⟩,
   ⟨(some (.E 17)), .faddr 2 (.V 3), none⟩,
   ⟨(some (.E 18)), .load false 1 (.E 17), none⟩,
   ⟨(some (.E 19)), .bin .neq (.E 16) (.E 18), none⟩])
 (.cond (.E 19)
  (.seq (.reg [⟨(some (.V 4)), .mv (kb false), none⟩])
  (.ret))
  (.skip)))
 (.seq (.seq (.reg [⟨(some (.E 20)), .faddr 3 (.V 2), none⟩,
   ⟨(some (.E 21)), .load false 1 (.E 20), none⟩,
   ⟨(some (.E 22)), .faddr 3 (.V 3), none⟩,
   ⟨(some (.E 23)), .load false 1 (.E 22), none⟩,
   ⟨(some (.E 24)), .bin .neq (.E 21) (.E 23), none⟩])
 (.cond (.E 24)
  (.seq (.reg [⟨(some (.V 4)), .mv (kb false), none⟩])
  (.ret))
  (.skip)))
 (.seq (.seq (.reg [⟨(some (.E 25)), .faddr 4 (.V 2), none⟩,
   ⟨(some (.E 26)), .load false 1 (.E 25), none⟩,
   ⟨(some (.E 27)), .faddr 4 (.V 3), none⟩,
   ⟨(some (.E 28)), .load false 1 (.E 27), none⟩,
   ⟨(some (.E 29)), .bin .neq (.E 26) (.E 28), none⟩])
 (.cond (.E 29)
  (.seq (.reg [⟨(some (.V 4)), .mv (kb false), none⟩])
  (.ret))
  (.skip)))
 (.seq (.reg [⟨(some (.V 4)), .mv (kb true), none⟩])
 (.ret)))))))

def k_laws_eqNode_rv : List RV := [.tmp [0] 4]

def k_spec_l17Shape_vars : List Nat := [0, 1, 6, 2, 7, 5, 4]

def k_spec_l17Shape_b0 : IC :=
 .seq (.seq (.reg [⟨(some (.E 8)), .mv (.V 6), none⟩,
   ⟨(some (.E 9)), .faddr 0 (.V 2), none⟩,
   ⟨(some (.E 10)), .load false 1 (.E 9), none⟩,
   ⟨(some (.E 11)), .len (.E 10), none⟩,
   ⟨(some (.E 12)), .bin .lss (.E 8) (.E 11), none⟩])
 (.cond (.E 12)
  (.skip)
  (.exit 0)))
 (.seq (.block 1 (.seq (.reg [⟨(some (.E 15)), .faddr 0 (.V 2), none⟩,
    ⟨(some (.E 16)), .load false 1 (.E 15), none⟩,
    ⟨(some (.E 17)), .mv (.V 6), none⟩,
    ⟨(some (.E 18)), .iaddr 5 (.E 16) (.E 17), none⟩,
    ⟨(some (.E 19)), .load true 5 (.E 18), none⟩,
    ⟨(some (.V 7)), .alloc [(.v (.int .i64 0)), (.v (.int .i64 0)), (.v (.int .i64 0)), (.v (.int .i64 0)), (.v (.int .i64 0))], none⟩,
    ⟨none, .store [0, 0, 0, 0, 0] (.V 7) (.E 19), none⟩])
  (.seq (.seq (.reg [⟨(some (.E 20)), .load true 5 (.V 7), none⟩,
    ⟨(some (.E 21)), .call k_spec_l17Inner [([0, 0, 0, 0, 0], (.E 20))], none⟩,
    ⟨(some (.E 22)), .un .not (.E 21), none⟩])
  (.cond (.E 22)
   (.seq (.seq (.reg [⟨(some (.E 23)), .load true 5 (.V 7), none⟩,
     ⟨(some (.E 24)), .faddr 4 (.V 7), none⟩,
     ⟨(some (.E 25)), .load false 1 (.E 24), none⟩,
     ⟨(some (.E 26)), .build [(.v (.int .i64 0)), (.v (.int .i64 0)), (.v (.int .i64 0)), (.v (.int .i64 0)), (.v (.int .i64 0))] [(0, 1, (ki (-1))), (4, 1, (.E 25))], none⟩,
     ⟨(some (.E 27)), .eqb true [.i .i64, .i .i64, .i .i64, .i .i64, .i .i64] (.E 23) (.E 26), none⟩,
     ⟨(some (.E 28)), .mv (.E 27), none⟩,
     ⟨(some (.E 29)), .faddr 4 (.V 7), some ((.E 28), false)⟩,
     ⟨(some (.E 30)), .load false 1 (.E 29), some ((.E 28), false)⟩,
     ⟨(some (.E 31)), .call k_spec_l14Leaf [([0], (.E 30))], some ((.E 28), false)⟩,
     ⟨(some (.E 32)), .un .not (.E 31), some ((.E 28), false)⟩,
     ⟨(some (.E 33)), .pick (.E 28) (kb true) (.E 32), none⟩])
   (.cond (.E 33)
    (.seq (.reg [⟨(some (.V 4)), .mv (kb false), none⟩])
    (.ret))
    (.skip)))
   (.exit 1))
   (.skip)))
  (.seq (.seq (.reg [⟨(some (.E 34)), .faddr 0 (.V 7), none⟩,
    ⟨(some (.E 35)), .load false 1 (.E 34), none⟩,
    ⟨(some (.E 36)), .mv (.V 1), none⟩,
    ⟨(some (.E 37)), .bin .sub (.E 36) (ki 1), none⟩,
    ⟨(some (.E 38)), .call k_spec_l1In [([0], (.E 35)), ([0], (ki 0)), ([0], (.E 37))], none⟩,
    ⟨(some (.E 39)), .un .not (.E 38), none⟩,
    ⟨(some (.E 40)), .mv (.E 39), none⟩,
    ⟨(some (.E 41)), .faddr 1 (.V 7), some ((.E 40), false)⟩,
    ⟨(some (.E 42)), .load false 1 (.E 41), some ((.E 40), false)⟩,
    ⟨(some (.E 43)), .call k_spec_l6Value [([0], (.E 42))], some ((.E 40), false)⟩,
    ⟨(some (.E 44)), .un .not (.E 43), some ((.E 40), false)⟩,
    ⟨(some (.E 45)), .pick (.E 40) (kb true) (.E 44), none⟩,
    ⟨(some (.E 46)), .mv (.E 45), none⟩,
    ⟨(some (.E 47)), .faddr 4 (.V 7), some ((.E 46), false)⟩,
    ⟨(some (.E 48)), .load false 1 (.E 47), some ((.E 46), false)⟩,
    ⟨(some (.E 49)), .bin .neq (.E 48) (ki 0), some ((.E 46), false)⟩,
    ⟨(some (.E 50)), .pick (.E 46) (kb true) (.E 49), none⟩,
    ⟨(some (.E 51)), .mv (.E 50), none⟩,
    ⟨(some (.E 52)), .faddr 2 (.V 7), some ((.E 51), false)⟩,
    ⟨(some (.E 53)), .load false 1 (.E 52), some ((.E 51), false)⟩,
    ⟨(some (.E 54)), .mv (.V 5), some ((.E 51), false)⟩,
    ⟨(some (.E 55)), .bin .neq (.E 53) (.E 54), some ((.E 51), false)⟩,
    ⟨(some (.E 56)), .pick (.E 51) (kb true) (.E 55), none⟩,
    ⟨(some (.E 57)), .mv (.E 56), none⟩,
    ⟨(some (.E 58)), .faddr 3 (.V 7), some ((.E 57), false)⟩,
    ⟨(some (.E 59)), .load false 1 (.E 58), some ((.E 57), false)⟩,
    ⟨(some (.E 60)), .mv (.V 5), some ((.E 57), false)⟩,
    ⟨(some (.E 61)), .bin .add (.E 60) (ki 1), some ((.E 57), false)⟩,
    ⟨(some (.E 62)), .bin .neq (.E 59) (.E 61), some ((.E 57), false)⟩,
    ⟨(some (.E 63)), .pick (.E 57) (kb true) (.E 62), none⟩,
    ⟨(some (.E 64)), .mv (.E 63), none⟩,
    ⟨(some (.E 65)), .faddr 2 (.V 7), some ((.E 64), false)⟩,
    ⟨(some (.E 66)), .load false 1 (.E 65), some ((.E 64), false)⟩,
    ⟨(some (.E 67)), .mv (.V 6), some ((.E 64), false)⟩,
    ⟨(some (.E 68)), .bin .leq (.E 66) (.E 67), some ((.E 64), false)⟩,
    ⟨(some (.E 69)), .pick (.E 64) (kb true) (.E 68), none⟩])
  (.cond (.E 69)
   (.seq (.reg [⟨(some (.V 4)), .mv (kb false), none⟩])
   (.ret))
   (.skip)))
  (.reg [⟨(some (.E 70)), .mv (.V 5), none⟩,
    ⟨(some (.E 71)), .bin .add (.E 70) (ki 2), none⟩,
    ⟨(some (.V 5)), .mv (.E 71), none⟩])))))
 (.reg [⟨(some (.E 13)), .mv (.V 6), none⟩,
   ⟨(some (.E 14)), .bin .add (.E 13) (ki 1), none⟩,
   ⟨(some (.V 6)), .mv (.E 14), none⟩]))

def k_spec_l17Shape_ic : IC :=
 .seq (.reg [⟨(some (.V 2)), .box (.V 0), none⟩,
   ⟨(some (.V 4)), .mv (kb false), none⟩])
 (.seq (.reg [⟨(some (.V 5)), .mv (ki 1), none⟩])
 (.seq (.seq (.reg [⟨(some (.V 6)), .mv (ki 0), none⟩])
 (.block 0 (.loop k_spec_l17Shape_b0)))
 (.seq (.reg [⟨(some (.E 72)), .mv (.V 5), none⟩,
   ⟨(some (.E 73)), .faddr 0 (.V 2), none⟩,
   ⟨(some (.E 74)), .load false 1 (.E 73), none⟩,
   ⟨(some (.E 75)), .len (.E 74), none⟩,
   ⟨(some (.E 76)), .bin .eql (.E 72) (.E 75), none⟩,
   ⟨(some (.V 4)), .mv (.E 76), none⟩])
 (.ret))))

def k_spec_l17Shape_rv : List RV := [.tmp [0] 4]

def k_spec_DepthOf_vars : List Nat := [0, 4, 1, 3, 2]

def k_spec_DepthOf_b0 : IC :=
 .seq (.seq (.reg [⟨(some (.E 5)), .mv (.V 4), none⟩,
   ⟨(some (.E 6)), .faddr 0 (.V 1), none⟩,
   ⟨(some (.E 7)), .load false 1 (.E 6), none⟩,
   ⟨(some (.E 8)), .len (.E 7), none⟩,
   ⟨(some (.E 9)), .bin .lss (.E 5) (.E 8), none⟩])
 (.cond (.E 9)
  (.skip)
  (.exit 0)))
 (.seq (.block 1 (.reg [⟨(some (.E 12)), .mv (.V 3), none⟩,
    ⟨(some (.E 13)), .load true 1 (.V 1), none⟩,
    ⟨(some (.E 14)), .mv (.V 4), none⟩,
    ⟨(some (.E 15)), .call k_spec_LevelOf [([5], (.E 13)), ([0], (.E 14))], none⟩,
    ⟨(some (.E 16)), .call k_spec_l1Max [([0], (.E 12)), ([0], (.E 15))], none⟩,
    ⟨(some (.V 3)), .mv (.E 16), none⟩]))
 (.reg [⟨(some (.E 10)), .mv (.V 4), none⟩,
   ⟨(some (.E 11)), .bin .add (.E 10) (ki 1), none⟩,
   ⟨(some (.V 4)), .mv (.E 11), none⟩]))

def k_spec_DepthOf_ic : IC :=
 .seq (.reg [⟨(some (.V 1)), .box (.V 0), none⟩,
   ⟨(some (.V 2)), .mv (ki 0), none⟩])
 (.seq (.reg [⟨(some (.V 3)), .mv (ki (-1)), none⟩])
 (.seq (.seq (.reg [⟨(some (.V 4)), .mv (ki 0), none⟩])
 (.block 0 (.loop k_spec_DepthOf_b0)))
 (.seq (.reg [⟨(some (.E 17)), .mv (.V 3), none⟩,
   ⟨(some (.V 2)), .mv (.E 17), none⟩])
 (.ret))))

def k_spec_DepthOf_rv : List RV := [.tmp [0] 2]

def k_spec_l17Ways_vars : List Nat := [0, 3, 1, 5, 6, 4, 2]

def k_spec_l17Ways_b0 : IC :=
 .seq (.seq (.reg [⟨(some (.E 25)), .mv (.V 5), none⟩,
   ⟨(some (.E 26)), .bin .geq (.E 25) (ki 0), none⟩])
 (.cond (.E 26)
  (.skip)
  (.exit 2)))
 (.seq (.block 3 (.seq (.reg [⟨(some (.E 30)), .faddr 0 (.V 1), none⟩,
    ⟨(some (.E 31)), .load false 1 (.E 30), none⟩,
    ⟨(some (.E 32)), .mv (.V 5), none⟩,
    ⟨(some (.E 33)), .iaddr 5 (.E 31) (.E 32), none⟩,
    ⟨(some (.E 34)), .load true 5 (.E 33), none⟩,
    ⟨(some (.V 6)), .alloc [(.v (.int .i64 0)), (.v (.int .i64 0)), (.v (.int .i64 0)), (.v (.int .i64 0)), (.v (.int .i64 0))], none⟩,
    ⟨none, .store [0, 0, 0, 0, 0] (.V 6) (.E 34), none⟩])
  (.seq (.seq (.regD [(⟨(some (.E 35)), .faddr 0 (.V 6), none⟩, 0, 0),
    (⟨(some (.E 36)), .load false 1 (.E 35), none⟩, 0, 0),
    (⟨(some (.E 37)), .faddr 0 (.V 1), none⟩, 0, 0),
    (⟨(some (.E 38)), .load false 1 (.E 37), none⟩, 0, 0),
    (⟨(some (.E 39)), .mv (.V 3), none⟩, 0, 0),
    (⟨(some (.E 40)), .iaddr 5 (.E 38) (.E 39), none⟩, 0, 0),
    (⟨(some (.E 41)), .faddr 0 (.E 40), none⟩, 0, 0),
    (⟨(some (.E 42)), .load false 1 (.E 41), none⟩, 0, 0),
    (⟨(some (.E 43)), .bin .eql (.E 36) (.E 42), none⟩, 0, 0),
    (⟨(some (.E 44)), .mv (.E 43), none⟩, 0, 0),
    (⟨(some (.E 45)), .faddr 3 (.V 6), some ((.E 44), true)⟩, 0, 0),
    (⟨(some (.E 46)), .load false 1 (.E 45), some ((.E 44), true)⟩, 0, 0),
    (⟨(some (.E 47)), .mv (.V 4), some ((.E 44), true)⟩, 0, 0),
    (⟨(some (.E 48)), .bin .eql (.E 46) (.E 47), some ((.E 44), true)⟩, 0, 0),
    (⟨(some (.E 49)), .mv (.E 48), some ((.E 44), true)⟩, 0, 0),
    (⟨(some (.E 50)), .faddr 1 (.V 6), some ((.E 49), true)⟩, 0, 0),
    (⟨(some (.E 51)), .load false 1 (.E 50), some ((.E 49), true)⟩, 0, 0),
    (⟨(some (.E 52)), .faddr 0 (.V 1), some ((.E 49), true)⟩, 0, 0),
    (⟨(some (.E 53)), .load false 1 (.E 52), some ((.E 49), true)⟩, 0, 0),
    (⟨(some (.E 54)), .mv (.V 3), some ((.E 49), true)⟩, 0, 0),
    (⟨(some (.E 55)), .iaddr 5 (.E 53) (.E 54), some ((.E 49), true)⟩, 0, 0),
    (⟨(some (.E 56)), .faddr 1 (.E 55), some ((.E 49), true)⟩, 0, 0),
    (⟨(some (.E 57)), .load false 1 (.E 56), some ((.E 49), true)⟩, 0, 0),
    (⟨(some (.E 58)), .bin .geq (.E 51) (.E 57), some ((.E 49), true)⟩, 0, 0),
    (⟨(some (.E 59)), .pick (.E 49) (.E 58) (kb false), some ((.E 44), true)⟩, 0, 0),
    (⟨(some (.E 60)), .mv (.E 59), some ((.E 44), true)⟩, 0, 0),
    (⟨(some (.E 61)), .faddr 2 (.V 6), some ((.E 60), false)⟩, 0, 0),
    (⟨(some (.E 62)), .load false 1 (.E 61), some ((.E 60), false)⟩, 0, 0),
    (⟨(some (.E 63)), .mv (.V 4), some ((.E 60), false)⟩, 0, 0),
    (⟨(some (.E 64)), .bin .eql (.E 62) (.E 63), some ((.E 60), false)⟩, 0, 0),
    (⟨(some (.E 65)), .mv (.E 64), some ((.E 60), false)⟩, 0, 0),
    (⟨(some (.E 66)), .faddr 1 (.V 6), some ((.E 65), true)⟩, 0, 0),
    (⟨(some (.E 67)), .load false 1 (.E 66), some ((.E 65), true)⟩, 0, 0),
    (⟨(some (.E 68)), .faddr 0 (.V 1), some ((.E 65), true)⟩, 0, 0),
    (⟨(some (.E 69)), .load false 1 (.E 68), some ((.E 65), true)⟩, 0, 0),
    (⟨(some (.E 70)), .mv (.V 3), some ((.E 65), true)⟩, 0, 0),
    (⟨(some (.E 71)), .iaddr 5 (.E 69) (.E 70), some ((.E 65), true)⟩, 0, 0),
    (⟨(some (.E 72)), .faddr 1 (.E 71), some ((.E 65), true)⟩, 0, 0),
    (⟨(some (.E 73)), .load false 1 (.E 72), some ((.E 65), true)⟩, 0, 0),
    (⟨(some (.E 74)), .bin .leq (.E 67) (.E 73), some ((.E 65), true)⟩, 0, 0),
    (⟨(some (.E 75)), .pick (.E 65) (.E 74) (kb false), some ((.E 60), false)⟩, 0, 0),
    (⟨(some (.E 76)), .pick (.E 60) (kb true) (.E 75), some ((.E 44), true)⟩, 0, 0),
    (⟨(some (.E 77)), .pick (.E 44) (.E 76) (kb false), none⟩, 0, 0)])
  (.cond (.E 77)
   (.seq (.reg [⟨(some (.V 2)), .mv (kb false), none⟩])
   (.ret))
   (.skip)))
  (.reg [⟨(some (.E 78)), .mv (.V 5), none⟩,
    ⟨(some (.V 4)), .mv (.E 78), none⟩]))))
 (.reg [⟨(some (.E 27)), .load true 1 (.V 1), none⟩,
   ⟨(some (.E 28)), .mv (.V 5), none⟩,
   ⟨(some (.E 29)), .call k_spec_l17Up [([5], (.E 27)), ([0], (.E 28))], none⟩,
   ⟨(some (.V 5)), .mv (.E 29), none⟩]))

def k_spec_l17Ways_b1 : IC :=
 .seq (.seq (.reg [⟨(some (.E 7)), .mv (.V 3), none⟩,
   ⟨(some (.E 8)), .faddr 0 (.V 1), none⟩,
   ⟨(some (.E 9)), .load false 1 (.E 8), none⟩,
   ⟨(some (.E 10)), .len (.E 9), none⟩,
   ⟨(some (.E 11)), .bin .lss (.E 7) (.E 10), none⟩])
 (.cond (.E 11)
  (.skip)
  (.exit 0)))
 (.seq (.block 1 (.seq (.seq (.reg [⟨(some (.E 14)), .faddr 0 (.V 1), none⟩,
    ⟨(some (.E 15)), .load false 1 (.E 14), none⟩,
    ⟨(some (.E 16)), .mv (.V 3), none⟩,
    ⟨(some (.E 17)), .iaddr 5 (.E 15) (.E 16), none⟩,
    ⟨(some (.E 18)), .load true 5 (.E 17), none⟩,
    ⟨(some (.E 19)), .call k_spec_l17Inner [([0, 0, 0, 0, 0], (.E 18))], none⟩,
    ⟨(some (.E 20)), .un .not (.E 19), none⟩])
  (.cond (.E 20)
   (.exit 1)
   (.skip)))
  (.seq (.reg [⟨(some (.E 21)), .mv (.V 3), none⟩,
    ⟨(some (.V 4)), .mv (.E 21), none⟩])
  (.seq (.reg [⟨(some (.E 22)), .load true 1 (.V 1), none⟩,
    ⟨(some (.E 23)), .mv (.V 3), none⟩,
    ⟨(some (.E 24)), .call k_spec_l17Up [([5], (.E 22)), ([0], (.E 23))], none⟩,
    ⟨(some (.V 5)), .mv (.E 24), none⟩])
  (.block 2 (.loop k_spec_l17Ways_b0))))))
 (.reg [⟨(some (.E 12)), .mv (.V 3), none⟩,
   ⟨(some (.E 13)), .bin .add (.E 12) (ki 1), none⟩,
   ⟨(some (.V 3)), .mv (.E 13), none⟩]))

def k_spec_l17Ways_ic : IC :=
 .seq (.reg [⟨(some (.V 1)), .box (.V 0), none⟩,
   ⟨(some (.V 2)), .mv (kb false), none⟩])
 (.seq (.seq (.reg [⟨(some (.V 3)), .mv (ki 0), none⟩])
 (.block 0 (.loop k_spec_l17Ways_b1)))
 (.seq (.reg [⟨(some (.V 2)), .mv (kb true), none⟩])
 (.ret)))

def k_spec_l17Ways_rv : List RV := [.tmp [0] 2]

def k_impl_NameOk_vars : List Nat := [0, 7, 6, 3, 4, 2]

def k_impl_NameOk_b0 : IC :=
 .seq (.reg [⟨(some (.E 8)), .bin .lss (.V 7) (.V 6), none⟩])
 (.seq (.cond (.E 8)
  (.skip)
  (.exit 0))
 (.seq (.block 1 (.seq (.reg [⟨(some (.E 9)), .mv (.V 7), none⟩,
    ⟨(some (.V 3)), .mv (.E 9), none⟩])
  (.seq (.reg [⟨(some (.E 10)), .mv (.V 0), none⟩,
    ⟨(some (.E 11)), .mv (.V 3), none⟩,
    ⟨(some (.E 12)), .idx (.E 10) (.E 11), none⟩,
    ⟨(some (.E 13)), .bin .geq (.E 12) (.C (.v (.int .u8 97))), none⟩,
    ⟨(some (.E 14)), .mv (.E 13), none⟩,
    ⟨(some (.E 15)), .mv (.V 0), some ((.E 14), true)⟩,
    ⟨(some (.E 16)), .mv (.V 3), some ((.E 14), true)⟩,
    ⟨(some (.E 17)), .idx (.E 15) (.E 16), some ((.E 14), true)⟩,
    ⟨(some (.E 18)), .bin .leq (.E 17) (.C (.v (.int .u8 122))), some ((.E 14), true)⟩,
    ⟨(some (.E 19)), .pick (.E 14) (.E 18) (kb false), none⟩,
    ⟨(some (.V 4)), .mv (.E 19), none⟩])
  (.seq (.reg [⟨(some (.E 20)), .mv (.V 4), none⟩,
    ⟨(some (.E 21)), .un .not (.E 20), none⟩,
    ⟨(some (.E 22)), .mv (.E 21), none⟩,
    ⟨(some (.E 23)), .mv (.V 3), some ((.E 22), true)⟩,
    ⟨(some (.E 24)), .bin .eql (.E 23) (ki 0), some ((.E 22), true)⟩,
    ⟨(some (.E 25)), .mv (.E 24), some ((.E 22), true)⟩,
    ⟨(some (.E 26)), .mv (.V 0), some ((.E 25), false)⟩,
    ⟨(some (.E 27)), .mv (.V 3), some ((.E 25), false)⟩,
    ⟨(some (.E 28)), .idx (.E 26) (.E 27), some ((.E 25), false)⟩,
    ⟨(some (.E 29)), .bin .lss (.E 28) (.C (.v (.int .u8 48))), some ((.E 25), false)⟩,
    ⟨(some (.E 30)), .pick (.E 25) (kb true) (.E 29), some ((.E 22), true)⟩,
    ⟨(some (.E 31)), .mv (.E 30), some ((.E 22), true)⟩,
    ⟨(some (.E 32)), .mv (.V 0), some ((.E 31), false)⟩,
    ⟨(some (.E 33)), .mv (.V 3), some ((.E 31), false)⟩,
    ⟨(some (.E 34)), .idx (.E 32) (.E 33), some ((.E 31), false)⟩,
    ⟨(some (.E 35)), .bin .gtr (.E 34) (.C (.v (.int .u8 57))), some ((.E 31), false)⟩,
    ⟨(some (.E 36)), .pick (.E 31) (kb true) (.E 35), some ((.E 22), true)⟩,
    ⟨(some (.E 37)), .pick (.E 22) (.E 36) (kb false), none⟩])
  (.cond (.E 37)
   (.seq (.reg [⟨(some (.V 2)), .mv (kb false), none⟩])
   (.ret))
   (.skip))))))
 (.reg [⟨(some (.E 38)), .bin .add (.V 7) (ki 1), none⟩,
   ⟨(some (.V 7)), .mv (.E 38), none⟩])))

def k_impl_NameOk_ic : IC :=
 .seq (.reg [⟨(some (.V 2)), .mv (kb false), none⟩])
 (.seq (.seq (.reg [⟨(some (.E 5)), .mv (.V 0), none⟩,
   ⟨(some (.V 6)), .lenS (.E 5), none⟩,
   ⟨(some (.V 7)), .mv (ki 0), none⟩])
 (.block 0 (.loop k_impl_NameOk_b0)))
 (.seq (.reg [⟨(some (.E 39)), .mv (.V 0), none⟩,
   ⟨(some (.E 40)), .lenS (.E 39), none⟩,
   ⟨(some (.E 41)), .call k_impl_within [([0], (.E 40)), ([0], (ki 1)), ([0], (ki 12))], none⟩,
   ⟨(some (.V 2)), .mv (.E 41), none⟩])
 (.ret)))

def k_impl_NameOk_rv : List RV := [.tmp [0] 2]

def k_slices_Contains___string_string__vars : List Nat := [0, 1, 4]

def k_slices_Contains___string_string__ic : IC :=
 .seq (.reg [⟨(some (.V 4)), .mv (kb false), none⟩])
 (.seq (.reg [⟨(some (.E 5)), .mv (.V 0), none⟩,
   ⟨(some (.E 6)), .mv (.V 1), none⟩,
   ⟨(some (.E 7)), .call k_slices_Index___string_string_ [([1], (.E 5)), ([0], (.E 6))], none⟩,
   ⟨(some (.E 8)), .bin .geq (.E 7) (ki 0), none⟩,
   ⟨(some (.V 4)), .mv (.E 8), none⟩])
 (.ret))

def k_slices_Contains___string_string__rv : List RV := [.tmp [0] 4]

def k_slices_IndexFunc___int_int__vars : List Nat := [0, 1, 8, 7, 5, 4]

def k_slices_IndexFunc___int_int__b0 : IC :=
 .seq (.reg [⟨(some (.E 9)), .bin .lss (.V 8) (.V 7), none⟩])
 (.seq (.cond (.E 9)
  (.skip)
  (.exit 0))
 (.seq (.block 1 (.seq (.reg [⟨(some (.E 10)), .mv (.V 8), none⟩,
    ⟨(some (.V 5)), .mv (.E 10), none⟩])
  (.seq (.reg [⟨(some (.E 11)), .mv (.V 1), none⟩,
    ⟨(some (.E 12)), .mv (.V 0), none⟩,
    ⟨(some (.E 13)), .mv (.V 5), none⟩,
    ⟨(some (.E 14)), .iaddr 1 (.E 12) (.E 13), none⟩,
    ⟨(some (.E 15)), .load false 1 (.E 14), none⟩,
    ⟨(some (.E 16)), .callv (.E 11) [([0], (.E 15))], none⟩])
  (.cond (.E 16)
   (.seq (.reg [⟨(some (.E 17)), .mv (.V 5), none⟩,
     ⟨(some (.V 4)), .mv (.E 17), none⟩])
   (.ret))
   (.skip)))))
 (.reg [⟨(some (.E 18)), .bin .add (.V 8) (ki 1), none⟩,
   ⟨(some (.V 8)), .mv (.E 18), none⟩])))

def k_slices_IndexFunc___int_int__ic : IC :=
 .seq (.reg [⟨(some (.V 4)), .mv (ki 0), none⟩])
 (.seq (.seq (.reg [⟨(some (.E 6)), .mv (.V 0), none⟩,
   ⟨(some (.V 7)), .len (.E 6), none⟩,
   ⟨(some (.V 8)), .mv (ki 0), none⟩])
 (.block 0 (.loop k_slices_IndexFunc___int_int__b0)))
 (.seq (.reg [⟨(some (.V 4)), .mv (ki (-1)), none⟩])
 (.ret)))

def k_slices_IndexFunc___int_int__rv : List RV := [.tmp [0] 4]

def k_slices_IndexFunc___impl_Tree_impl_Tree__vars : List Nat := [0, 1, 8, 7, 5, 4]

def k_slices_IndexFunc___impl_Tree_impl_Tree__b0 : IC :=
 .seq (.reg [⟨(some (.E 9)), .bin .lss (.V 8) (.V 7), none⟩])
 (.seq (.cond (.E 9)
  (.skip)
  (.exit 0))
 (.seq (.block 1 (.seq (.reg [⟨(some (.E 10)), .mv (.V 8), none⟩,
    ⟨(some (.V 5)), .mv (.E 10), none⟩])
  (.seq (.reg [⟨(some (.E 11)), .mv (.V 1), none⟩,
    ⟨(some (.E 12)), .mv (.V 0), none⟩,
    ⟨(some (.E 13)), .mv (.V 5), none⟩,
    ⟨(some (.E 14)), .iaddr 1 (.E 12) (.E 13), none⟩,
    ⟨(some (.E 15)), .load true 1 (.E 14), none⟩,
    ⟨(some (.E 16)), .callv (.E 11) [([5], (.E 15))], none⟩])
  (.cond (.E 16)
   (.seq (.reg [⟨(some (.E 17)), .mv (.V 5), none⟩,
     ⟨(some (.V 4)), .mv (.E 17), none⟩])
   (.ret))
   (.skip)))))
 (.reg [⟨(some (.E 18)), .bin .add (.V 8) (ki 1), none⟩,
   ⟨(some (.V 8)), .mv (.E 18), none⟩])))

def k_slices_IndexFunc___impl_Tree_impl_Tree__ic : IC :=
 .seq (.reg [⟨(some (.V 4)), .mv (ki 0), none⟩])
 (.seq (.seq (.reg [⟨(some (.E 6)), .mv (.V 0), none⟩,
   ⟨(some (.V 7)), .len (.E 6), none⟩,
   ⟨(some (.V 8)), .mv (ki 0), none⟩])
 (.block 0 (.loop k_slices_IndexFunc___impl_Tree_impl_Tree__b0)))
 (.seq (.reg [⟨(some (.V 4)), .mv (ki (-1)), none⟩])
 (.ret)))

def k_slices_IndexFunc___impl_Tree_impl_Tree__rv : List RV := [.tmp [0] 4]

def k_impl_shapeOk_vars : List Nat := [0, 1, 2, 11, 10, 9, 7, 5, 6, 4]

def k_impl_shapeOk_b0 : IC :=
 .seq (.reg [⟨(some (.E 12)), .bin .lss (.V 11) (.V 10), none⟩])
 (.seq (.cond (.E 12)
  (.skip)
  (.exit 0))
 (.seq (.block 1 (.seq (.reg [⟨(some (.E 13)), .mv (.V 11), none⟩,
    ⟨(some (.E 14)), .iaddr 5 (.V 9) (.V 11), none⟩,
    ⟨(some (.E 15)), .load true 5 (.E 14), none⟩,
    ⟨(some (.V 7)), .alloc [(.v (.int .i64 0)), (.v (.int .i64 0)), (.v (.int .i64 0)), (.v (.int .i64 0)), (.v (.int .i64 0))], none⟩,
    ⟨(some (.V 6)), .mv (.E 13), none⟩,
    ⟨none, .store [0, 0, 0, 0, 0] (.V 7) (.E 15), none⟩])
  (.seq (.seq (.reg [⟨(some (.E 16)), .load true 5 (.V 7), none⟩,
    ⟨(some (.E 17)), .call k_impl_isLeaf [([0, 0, 0, 0, 0], (.E 16))], none⟩])
  (.cond (.E 17)
   (.seq (.seq (.reg [⟨(some (.E 18)), .load true 5 (.V 7), none⟩,
     ⟨(some (.E 19)), .faddr 4 (.V 7), none⟩,
     ⟨(some (.E 20)), .load false 1 (.E 19), none⟩,
     ⟨(some (.E 21)), .build [(.v (.int .i64 0)), (.v (.int .i64 0)), (.v (.int .i64 0)), (.v (.int .i64 0)), (.v (.int .i64 0))] [(0, 1, (ki (-1))), (4, 1, (.E 20))], none⟩,
     ⟨(some (.E 22)), .eqb true [.i .i64, .i .i64, .i .i64, .i .i64, .i .i64] (.E 18) (.E 21), none⟩,
     ⟨(some (.E 23)), .mv (.E 22), none⟩,
     ⟨(some (.E 24)), .faddr 4 (.V 7), some ((.E 23), false)⟩,
     ⟨(some (.E 25)), .load false 1 (.E 24), some ((.E 23), false)⟩,
     ⟨(some (.E 26)), .call k_impl_isLeafValue [([0], (.E 25))], some ((.E 23), false)⟩,
     ⟨(some (.E 27)), .un .not (.E 26), some ((.E 23), false)⟩,
     ⟨(some (.E 28)), .pick (.E 23) (kb true) (.E 27), none⟩])
   (.cond (.E 28)
    (.seq (.reg [⟨(some (.V 4)), .mv (kb false), none⟩])
    (.ret))
    (.skip)))
   (.exit 1))
   (.skip)))
  (.seq (.seq (.reg [⟨(some (.E 29)), .faddr 0 (.V 7), none⟩,
    ⟨(some (.E 30)), .load false 1 (.E 29), none⟩,
    ⟨(some (.E 31)), .mv (.V 1), none⟩,
    ⟨(some (.E 32)), .bin .sub (.E 31) (ki 1), none⟩,
    ⟨(some (.E 33)), .call k_impl_within [([0], (.E 30)), ([0], (ki 0)), ([0], (.E 32))], none⟩,
    ⟨(some (.E 34)), .un .not (.E 33), none⟩,
    ⟨(some (.E 35)), .mv (.E 34), none⟩,
    ⟨(some (.E 36)), .faddr 1 (.V 7), some ((.E 35), false)⟩,
    ⟨(some (.E 37)), .load false 1 (.E 36), some ((.E 35), false)⟩,
    ⟨(some (.E 38)), .call k_impl_isDecimal [([0], (.E 37))], some ((.E 35), false)⟩,
    ⟨(some (.E 39)), .un .not (.E 38), some ((.E 35), false)⟩,
    ⟨(some (.E 40)), .pick (.E 35) (kb true) (.E 39), none⟩,
    ⟨(some (.E 41)), .mv (.E 40), none⟩,
    ⟨(some (.E 42)), .faddr 4 (.V 7), some ((.E 41), false)⟩,
    ⟨(some (.E 43)), .load false 1 (.E 42), some ((.E 41), false)⟩,
    ⟨(some (.E 44)), .bin .neq (.E 43) (ki 0), some ((.E 41), false)⟩,
    ⟨(some (.E 45)), .pick (.E 41) (kb true) (.E 44), none⟩,
    ⟨(some (.E 46)), .mv (.E 45), none⟩,
    ⟨(some (.E 47)), .faddr 2 (.V 7), some ((.E 46), false)⟩,
    ⟨(some (.E 48)), .load false 1 (.E 47), some ((.E 46), false)⟩,
    ⟨(some (.E 49)), .mv (.V 5), some ((.E 46), false)⟩,
    ⟨(some (.E 50)), .bin .neq (.E 48) (.E 49), some ((.E 46), false)⟩,
    ⟨(some (.E 51)), .pick (.E 46) (kb true) (.E 50), none⟩,
    ⟨(some (.E 52)), .mv (.E 51), none⟩,
    ⟨(some (.E 53)), .faddr 3 (.V 7), some ((.E 52), false)⟩,
    ⟨(some (.E 54)), .load false 1 (.E 53), some ((.E 52), false)⟩,
    ⟨(some (.E 55)), .mv (.V 5), some ((.E 52), false)⟩,
    ⟨(some (.E 56)), .bin .add (.E 55) (ki 1), some ((.E 52), false)⟩,
    ⟨(some (.E 57)), .bin .neq (.E 54) (.E 56), some ((.E 52), false)⟩,
    ⟨(some (.E 58)), .pick (.E 52) (kb true) (.E 57), none⟩,
    ⟨(some (.E 59)), .mv (.E 58), none⟩,
    ⟨(some (.E 60)), .mv (.V 5), some ((.E 59), false)⟩,
    ⟨(some (.E 61)), .mv (.V 6), some ((.E 59), false)⟩,
    ⟨(some (.E 62)), .bin .leq (.E 60) (.E 61), some ((.E 59), false)⟩,
    ⟨(some (.E 63)), .pick (.E 59) (kb true) (.E 62), none⟩])
  (.cond (.E 63)
   (.seq (.reg [⟨(some (.V 4)), .mv (kb false), none⟩])
   (.ret))
   (.skip)))
  (.reg [⟨(some (.E 64)), .mv (.V 5), none⟩,
    ⟨(some (.E 65)), .bin .add (.E 64) (ki 2), none⟩,
    ⟨(some (.V 5)), .mv (.E 65), none⟩])))))
 (.reg [⟨(some (.E 66)), .bin .add (.V 11) (ki 1), none⟩,
   ⟨(some (.V 11)), .mv (.E 66), none⟩])))

def k_impl_shapeOk_ic : IC :=
 .seq (.reg [⟨(some (.V 2)), .box (.V 0), none⟩,
   ⟨(some (.V 4)), .mv (kb false), none⟩])
 (.seq (.reg [⟨(some (.V 5)), .mv (ki 1), none⟩])
 (.seq (.seq (.reg [⟨(some (.E 8)), .faddr 0 (.V 2), none⟩,
   ⟨(some (.V 9)), .load false 1 (.E 8), none⟩,
   ⟨(some (.V 10)), .len (.V 9), none⟩,
   ⟨(some (.V 11)), .mv (ki 0), none⟩])
 (.block 0 (.loop k_impl_shapeOk_b0)))
 (.seq (.reg [⟨(some (.E 67)), .mv (.V 5), none⟩,
   ⟨(some (.E 68)), .faddr 0 (.V 2), none⟩,
   ⟨(some (.E 69)), .load false 1 (.E 68), none⟩,
   ⟨(some (.E 70)), .len (.E 69), none⟩,
   ⟨(some (.E 71)), .bin .eql (.E 67) (.E 70), none⟩,
   ⟨(some (.V 4)), .mv (.E 71), none⟩])
 (.ret))))

def k_impl_shapeOk_rv : List RV := [.tmp [0] 4]

def k_impl_LevelOf_vars : List Nat := [0, 1, 2, 4]

def k_impl_LevelOf_ic : IC :=
 .seq (.reg [⟨(some (.V 2)), .box (.V 0), none⟩,
   ⟨(some (.V 4)), .mv (ki 0), none⟩])
 (.seq (.reg [⟨(some (.E 5)), .load true 1 (.V 2), none⟩,
   ⟨(some (.E 6)), .mv (.V 1), none⟩,
   ⟨(some (.E 7)), .call k_impl_wayTo [([5], (.E 5)), ([0], (.E 6))], none⟩,
   ⟨(some (.E 8)), .len (.E 7), none⟩,
   ⟨(some (.E 9)), .bin .sub (.E 8) (ki 1), none⟩,
   ⟨(some (.V 4)), .mv (.E 9), none⟩])
 (.ret))

def k_impl_LevelOf_rv : List RV := [.tmp [0] 4]

def k_impl_wayTo_vars : List Nat := [0, 1, 2, 6, 5, 4]

def k_impl_wayTo_b0 : IC :=
 .seq (.seq (.reg [⟨(some (.E 19)), .mv (.V 6), none⟩,
   ⟨(some (.E 20)), .bin .geq (.E 19) (ki 0), none⟩])
 (.cond (.E 20)
  (.skip)
  (.exit 0)))
 (.seq (.block 1 (.seq (.seq (.reg [⟨(some (.E 24)), .mv (.V 5), none⟩,
    ⟨(some (.E 25)), .len (.E 24), none⟩,
    ⟨(some (.E 26)), .bin .gtr (.E 25) (ki 31), none⟩])
  (.cond (.E 26)
   (.seq (.reg [⟨(some (.V 4)), .mv (.C .e0), none⟩])
   (.ret))
   (.skip)))
  (.reg [⟨(some (.E 27)), .mv (.V 5), none⟩,
    ⟨(some (.E 28)), .mv (.V 6), none⟩,
    ⟨(some (.E 29)), .bslice 1 1 [(.v (.int .i64 0))] [(0, (.E 28))], none⟩,
    ⟨(some (.E 30)), .app 8 1 (.E 27) (.E 29), none⟩,
    ⟨(some (.V 5)), .mv (.E 30), none⟩])))
 (.reg [⟨(some (.E 21)), .load true 1 (.V 2), none⟩,
   ⟨(some (.E 22)), .mv (.V 6), none⟩,
   ⟨(some (.E 23)), .call k_impl_parent [([5], (.E 21)), ([0], (.E 22))], none⟩,
   ⟨(some (.V 6)), .mv (.E 23), none⟩]))

def k_impl_wayTo_ic : IC :=
 .seq (.reg [⟨(some (.V 2)), .box (.V 0), none⟩,
   ⟨(some (.V 4)), .mv (.C .e0), none⟩])
 (.seq (.seq (.reg [⟨(some (.E 7)), .mv (.V 1), none⟩,
   ⟨(some (.E 8)), .faddr 0 (.V 2), none⟩,
   ⟨(some (.E 9)), .load false 1 (.E 8), none⟩,
   ⟨(some (.E 10)), .len (.E 9), none⟩,
   ⟨(some (.E 11)), .bin .sub (.E 10) (ki 1), none⟩,
   ⟨(some (.E 12)), .call k_impl_within [([0], (.E 7)), ([0], (ki 0)), ([0], (.E 11))], none⟩,
   ⟨(some (.E 13)), .un .not (.E 12), none⟩])
 (.cond (.E 13)
  (.seq (.reg [⟨(some (.V 4)), .mv (.C .e0), none⟩])
  (.ret))
  (.skip)))
 (.seq (.reg [⟨(some (.E 14)), .mv (.V 1), none⟩,
   ⟨(some (.E 15)), .bslice 1 1 [(.v (.int .i64 0))] [(0, (.E 14))], none⟩,
   ⟨(some (.V 5)), .mv (.E 15), none⟩])
 (.seq (.seq (.reg [⟨(some (.E 16)), .load true 1 (.V 2), none⟩,
   ⟨(some (.E 17)), .mv (.V 1), none⟩,
   ⟨(some (.E 18)), .call k_impl_parent [([5], (.E 16)), ([0], (.E 17))], none⟩,
   ⟨(some (.V 6)), .mv (.E 18), none⟩])
 (.block 0 (.loop k_impl_wayTo_b0)))
 (.seq (.reg [⟨(some (.E 31)), .mv (.V 5), none⟩,
   ⟨(some (.E 32)), .call k_slices_Reverse___int_int_ [([1], (.E 31))], none⟩])
 (.seq (.reg [⟨(some (.E 33)), .mv (.V 5), none⟩,
   ⟨(some (.V 4)), .mv (.E 33), none⟩])
 (.ret))))))

def k_impl_wayTo_rv : List RV := [.tmp [1] 4]

def k_laws_markText_vars : List Nat := [0, 3, 2]

def k_laws_markText_b0 : IC :=
 .seq (.seq (.reg [⟨(some (.E 6)), .mv (.V 0), none⟩,
   ⟨(some (.E 7)), .bin .gtr (.E 6) (ki 0), none⟩])
 (.cond (.E 7)
  (.skip)
  (.exit 0)))
 (.block 1 (.seq (.reg [⟨(some (.E 8)), .mv (.V 0), none⟩,
    ⟨(some (.E 9)), .bin .rem (.E 8) (ki 10), none⟩,
    ⟨(some (.E 10)), .bin .add (ki 48) (.E 9), none⟩,
    ⟨(some (.E 11)), .convI .u8 (.E 10), none⟩,
    ⟨(some (.E 12)), .bslice 1 1 [(.v (.int .u8 0))] [(0, (.E 11))], none⟩,
    ⟨(some (.E 13)), .toS (.E 12), none⟩,
    ⟨(some (.E 14)), .mv (.V 3), none⟩,
    ⟨(some (.E 15)), .bin .add (.E 13) (.E 14), none⟩,
    ⟨(some (.V 3)), .mv (.E 15), none⟩])
  (.reg [⟨(some (.E 16)), .mv (.V 0), none⟩,
    ⟨(some (.E 17)), .bin .quo (.E 16) (ki 10), none⟩,
    ⟨(some (.V 0)), .mv (.E 17), none⟩])))

def k_laws_markText_ic : IC :=
 .seq (.reg [⟨(some (.V 2)), .mv (.C (.v (.string (bs [])))), none⟩])
 (.seq (.seq (.reg [⟨(some (.E 4)), .mv (.V 0), none⟩,
   ⟨(some (.E 5)), .bin .leq (.E 4) (ki 0), none⟩])
 (.cond (.E 5)
  (.seq (.reg [⟨(some (.V 2)), .mv (.C (.v (.string (bs [109, 48])))), none⟩])
  (.ret))
  (.skip)))
 (.seq (.reg [⟨(some (.V 3)), .mv (.C (.v (.string (bs [])))), none⟩])
 (.seq (.block 0 (.loop k_laws_markText_b0))
 (.seq (.reg [⟨(some (.E 18)), .mv (.V 3), none⟩,
   ⟨(some (.E 19)), .bin .add (.C (.v (.string (bs [109])))) (.E 18), none⟩,
   ⟨(some (.V 2)), .mv (.E 19), none⟩])
 (.ret)))))

def k_laws_markText_rv : List RV := [.tmp [0] 2]

def k_spec_RouteTo_vars : List Nat := [0, 1, 2, 5, 4]

def k_spec_RouteTo_ic : IC :=
 .seq (.reg [⟨(some (.V 2)), .box (.V 0), none⟩,
   ⟨(some (.V 4)), .mv (ki 0), none⟩])
 (.seq (.reg [⟨(some (.E 6)), .load true 1 (.V 2), none⟩,
   ⟨(some (.E 7)), .mv (.V 1), none⟩,
   ⟨(some (.E 8)), .call k_spec_l18Way [([5], (.E 6)), ([1], (.E 7))], none⟩,
   ⟨(some (.V 5)), .mv (.E 8), none⟩])
 (.seq (.seq (.reg [⟨(some (.E 9)), .mv (.V 5), none⟩,
   ⟨(some (.E 10)), .len (.E 9), none⟩,
   ⟨(some (.E 11)), .bin .eql (.E 10) (ki 0), none⟩])
 (.cond (.E 11)
  (.seq (.reg [⟨(some (.V 4)), .mv (ki (-1)), none⟩])
  (.ret))
  (.skip)))
 (.seq (.reg [⟨(some (.E 12)), .mv (.V 5), none⟩,
   ⟨(some (.E 13)), .mv (.V 5), none⟩,
   ⟨(some (.E 14)), .len (.E 13), none⟩,
   ⟨(some (.E 15)), .bin .sub (.E 14) (ki 1), none⟩,
   ⟨(some (.E 16)), .iaddr 1 (.E 12) (.E 15), none⟩,
   ⟨(some (.E 17)), .load false 1 (.E 16), none⟩,
   ⟨(some (.V 4)), .mv (.E 17), none⟩])
 (.ret))))

def k_spec_RouteTo_rv : List RV := [.tmp [0] 4]

def k_impl_RouteTo_vars : List Nat := [0, 1, 2, 5, 4]

def k_impl_RouteTo_ic : IC :=
 .seq (.reg [⟨(some (.V 2)), .box (.V 0), none⟩,
   ⟨(some (.V 4)), .mv (ki 0), none⟩])
 (.seq (.reg [⟨(some (.E 6)), .load true 1 (.V 2), none⟩,
   ⟨(some (.E 7)), .mv (.V 1), none⟩,
   ⟨(some (.E 8)), .call k_impl_route [([5], (.E 6)), ([1], (.E 7))], none⟩,
   ⟨(some (.V 5)), .mv (.E 8), none⟩])
 (.seq (.seq (.reg [⟨(some (.E 9)), .mv (.V 5), none⟩,
   ⟨(some (.E 10)), .len (.E 9), none⟩,
   ⟨(some (.E 11)), .bin .eql (.E 10) (ki 0), none⟩])
 (.cond (.E 11)
  (.seq (.reg [⟨(some (.V 4)), .mv (ki (-1)), none⟩])
  (.ret))
  (.skip)))
 (.seq (.reg [⟨(some (.E 12)), .mv (.V 5), none⟩,
   ⟨(some (.E 13)), .mv (.V 5), none⟩,
   ⟨(some (.E 14)), .len (.E 13), none⟩,
   ⟨(some (.E 15)), .bin .sub (.E 14) (ki 1), none⟩,
   ⟨(some (.E 16)), .iaddr 1 (.E 12) (.E 15), none⟩,
   ⟨(some (.E 17)), .load false 1 (.E 16), none⟩,
   ⟨(some (.V 4)), .mv (.E 17), none⟩])
 (.ret))))

def k_impl_RouteTo_rv : List RV := [.tmp [0] 4]

def k_spec_l1Max_vars : List Nat := [0, 1, 4]

def k_spec_l1Max_ic : IC :=
 .seq (.reg [⟨(some (.V 4)), .mv (ki 0), none⟩])
 (.seq (.seq (.reg [⟨(some (.E 5)), .mv (.V 0), none⟩,
   ⟨(some (.E 6)), .mv (.V 1), none⟩,
   ⟨(some (.E 7)), .bin .gtr (.E 5) (.E 6), none⟩])
 (.cond (.E 7)
  (.seq (.reg [⟨(some (.E 8)), .mv (.V 0), none⟩,
    ⟨(some (.V 4)), .mv (.E 8), none⟩])
  (.ret))
  (.skip)))
 (.seq (.reg [⟨(some (.E 9)), .mv (.V 1), none⟩,
   ⟨(some (.V 4)), .mv (.E 9), none⟩])
 (.ret)))

def k_spec_l1Max_rv : List RV := [.tmp [0] 4]

def k_spec_LevelOf_vars : List Nat := [0, 1, 2, 5, 4]

def k_spec_LevelOf_b0 : IC :=
 .seq (.seq (.reg [⟨(some (.E 13)), .mv (.V 5), none⟩,
   ⟨(some (.E 14)), .bin .leq (.E 13) (ki 31), none⟩])
 (.cond (.E 14)
  (.skip)
  (.exit 0)))
 (.block 1 (.seq (.reg [⟨(some (.E 15)), .load true 1 (.V 2), none⟩,
    ⟨(some (.E 16)), .mv (.V 1), none⟩,
    ⟨(some (.E 17)), .call k_spec_l17Up [([5], (.E 15)), ([0], (.E 16))], none⟩,
    ⟨(some (.V 1)), .mv (.E 17), none⟩])
  (.seq (.seq (.reg [⟨(some (.E 18)), .mv (.V 1), none⟩,
    ⟨(some (.E 19)), .bin .lss (.E 18) (ki 0), none⟩])
  (.cond (.E 19)
   (.seq (.reg [⟨(some (.E 20)), .mv (.V 5), none⟩,
     ⟨(some (.V 4)), .mv (.E 20), none⟩])
   (.ret))
   (.skip)))
  (.reg [⟨(some (.E 21)), .mv (.V 5), none⟩,
    ⟨(some (.E 22)), .bin .add (.E 21) (ki 1), none⟩,
    ⟨(some (.V 5)), .mv (.E 22), none⟩]))))

def k_spec_LevelOf_ic : IC :=
 .seq (.reg [⟨(some (.V 2)), .box (.V 0), none⟩,
   ⟨(some (.V 4)), .mv (ki 0), none⟩])
 (.seq (.seq (.reg [⟨(some (.E 6)), .mv (.V 1), none⟩,
   ⟨(some (.E 7)), .faddr 0 (.V 2), none⟩,
   ⟨(some (.E 8)), .load false 1 (.E 7), none⟩,
   ⟨(some (.E 9)), .len (.E 8), none⟩,
   ⟨(some (.E 10)), .bin .sub (.E 9) (ki 1), none⟩,
   ⟨(some (.E 11)), .call k_spec_l1In [([0], (.E 6)), ([0], (ki 0)), ([0], (.E 10))], none⟩,
   ⟨(some (.E 12)), .un .not (.E 11), none⟩])
 (.cond (.E 12)
  (.seq (.reg [⟨(some (.V 4)), .mv (ki (-1)), none⟩])
  (.ret))
  (.skip)))
 (.seq (.reg [⟨(some (.V 5)), .mv (ki 0), none⟩])
 (.seq (.block 0 (.loop k_spec_LevelOf_b0))
 (.seq (.reg [⟨(some (.V 4)), .mv (ki (-1)), none⟩])
 (.ret)))))

def k_spec_LevelOf_rv : List RV := [.tmp [0] 4]

def k_spec_l17Up_vars : List Nat := [0, 1, 5, 2, 4]

def k_spec_l17Up_b0 : IC :=
 .seq (.seq (.reg [⟨(some (.E 6)), .mv (.V 5), none⟩,
   ⟨(some (.E 7)), .faddr 0 (.V 2), none⟩,
   ⟨(some (.E 8)), .load false 1 (.E 7), none⟩,
   ⟨(some (.E 9)), .len (.E 8), none⟩,
   ⟨(some (.E 10)), .bin .lss (.E 6) (.E 9), none⟩])
 (.cond (.E 10)
  (.skip)
  (.exit 0)))
 (.seq (.block 1 (.seq (.reg [⟨(some (.E 13)), .faddr 0 (.V 2), none⟩,
    ⟨(some (.E 14)), .load false 1 (.E 13), none⟩,
    ⟨(some (.E 15)), .mv (.V 5), none⟩,
    ⟨(some (.E 16)), .iaddr 5 (.E 14) (.E 15), none⟩,
    ⟨(some (.E 17)), .load true 5 (.E 16), none⟩,
    ⟨(some (.E 18)), .call k_spec_l17Inner [([0, 0, 0, 0, 0], (.E 17))], none⟩,
    ⟨(some (.E 19)), .mv (.E 18), none⟩,
    ⟨(some (.E 20)), .faddr 0 (.V 2), some ((.E 19), true)⟩,
    ⟨(some (.E 21)), .load false 1 (.E 20), some ((.E 19), true)⟩,
    ⟨(some (.E 22)), .mv (.V 5), some ((.E 19), true)⟩,
    ⟨(some (.E 23)), .iaddr 5 (.E 21) (.E 22), some ((.E 19), true)⟩,
    ⟨(some (.E 24)), .faddr 2 (.E 23), some ((.E 19), true)⟩,
    ⟨(some (.E 25)), .load false 1 (.E 24), some ((.E 19), true)⟩,
    ⟨(some (.E 26)), .mv (.V 1), some ((.E 19), true)⟩,
    ⟨(some (.E 27)), .bin .eql (.E 25) (.E 26), some ((.E 19), true)⟩,
    ⟨(some (.E 28)), .mv (.E 27), some ((.E 19), true)⟩,
    ⟨(some (.E 29)), .faddr 0 (.V 2), some ((.E 28), false)⟩,
    ⟨(some (.E 30)), .load false 1 (.E 29), some ((.E 28), false)⟩,
    ⟨(some (.E 31)), .mv (.V 5), some ((.E 28), false)⟩,
    ⟨(some (.E 32)), .iaddr 5 (.E 30) (.E 31), some ((.E 28), false)⟩,
    ⟨(some (.E 33)), .faddr 3 (.E 32), some ((.E 28), false)⟩,
    ⟨(some (.E 34)), .load false 1 (.E 33), some ((.E 28), false)⟩,
    ⟨(some (.E 35)), .mv (.V 1), some ((.E 28), false)⟩,
    ⟨(some (.E 36)), .bin .eql (.E 34) (.E 35), some ((.E 28), false)⟩,
    ⟨(some (.E 37)), .pick (.E 28) (kb true) (.E 36), some ((.E 19), true)⟩,
    ⟨(some (.E 38)), .pick (.E 19) (.E 37) (kb false), none⟩])
  (.cond (.E 38)
   (.seq (.reg [⟨(some (.E 39)), .mv (.V 5), none⟩,
     ⟨(some (.V 4)), .mv (.E 39), none⟩])
   (.ret))
   (.skip))))
 (.reg [⟨(some (.E 11)), .mv (.V 5), none⟩,
   ⟨(some (.E 12)), .bin .add (.E 11) (ki 1), none⟩,
   ⟨(some (.V 5)), .mv (.E 12), none⟩]))

def k_spec_l17Up_ic : IC :=
 .seq (.reg [⟨(some (.V 2)), .box (.V 0), none⟩,
   ⟨(some (.V 4)), .mv (ki 0), none⟩])
 (.seq (.seq (.reg [⟨(some (.V 5)), .mv (ki 0), none⟩])
 (.block 0 (.loop k_spec_l17Up_b0)))
 (.seq (.reg [⟨(some (.V 4)), .mv (ki (-1)), none⟩])
 (.ret)))

def k_spec_l17Up_rv : List RV := [.tmp [0] 4]

def k_slices_Index___string_string__vars : List Nat := [0, 1, 8, 7, 5, 4]

def k_slices_Index___string_string__b0 : IC :=
 .seq (.reg [⟨(some (.E 9)), .bin .lss (.V 8) (.V 7), none⟩])
 (.seq (.cond (.E 9)
  (.skip)
  (.exit 0))
 (.seq (.block 1 (.seq (.reg [⟨(some (.E 10)), .mv (.V 8), none⟩,
    ⟨(some (.V 5)), .mv (.E 10), none⟩])
  (.seq (.reg [⟨(some (.E 11)), .mv (.V 1), none⟩,
    ⟨(some (.E 12)), .mv (.V 0), none⟩,
    ⟨(some (.E 13)), .mv (.V 5), none⟩,
    ⟨(some (.E 14)), .iaddr 1 (.E 12) (.E 13), none⟩,
    ⟨(some (.E 15)), .load false 1 (.E 14), none⟩,
    ⟨(some (.E 16)), .bin .eql (.E 11) (.E 15), none⟩])
  (.cond (.E 16)
   (.seq (.reg [⟨(some (.E 17)), .mv (.V 5), none⟩,
     ⟨(some (.V 4)), .mv (.E 17), none⟩])
   (.ret))
   (.skip)))))
 (.reg [⟨(some (.E 18)), .bin .add (.V 8) (ki 1), none⟩,
   ⟨(some (.V 8)), .mv (.E 18), none⟩])))

def k_slices_Index___string_string__ic : IC :=
 .seq (.reg [⟨(some (.V 4)), .mv (ki 0), none⟩])
 (.seq (.seq (.reg [⟨(some (.E 6)), .mv (.V 0), none⟩,
   ⟨(some (.V 7)), .len (.E 6), none⟩,
   ⟨(some (.V 8)), .mv (ki 0), none⟩])
 (.block 0 (.loop k_slices_Index___string_string__b0)))
 (.seq (.reg [⟨(some (.V 4)), .mv (ki (-1)), none⟩])
 (.ret)))

def k_slices_Index___string_string__rv : List RV := [.tmp [0] 4]

def k_impl_parent_vars : List Nat := [0, 1, 2, 3, 4]

def k_impl_parent_ic : IC :=
 .seq (.reg [⟨(some (.V 2)), .box (.V 0), none⟩,
   ⟨(some (.V 3)), .box (.V 1), none⟩,
   ⟨(some (.V 4)), .mv (ki 0), none⟩])
 (.seq (.reg [⟨(some (.E 5)), .faddr 0 (.V 2), none⟩,
   ⟨(some (.E 6)), .load false 1 (.E 5), none⟩,
   ⟨(some (.E 7)), .mkfn k_impl_parent_1 [(.V 3)], none⟩,
   ⟨(some (.E 8)), .call k_slices_IndexFunc___impl_Node_impl_Node_ [([5], (.E 6)), ([0], (.E 7))], none⟩,
   ⟨(some (.V 4)), .mv (.E 8), none⟩])
 (.ret))

def k_impl_parent_rv : List RV := [.tmp [0] 4]

def k_slices_Reverse___int_int__vars : List Nat := [0, 2, 3]

def k_slices_Reverse___int_int__b0 : IC :=
 .seq (.seq (.reg [⟨(some (.E 7)), .mv (.V 2), none⟩,
   ⟨(some (.E 8)), .mv (.V 3), none⟩,
   ⟨(some (.E 9)), .bin .lss (.E 7) (.E 8), none⟩])
 (.cond (.E 9)
  (.skip)
  (.exit 0)))
 (.seq (.block 1 (.regD [(⟨(some (.E 14)), .mv (.V 0), none⟩, 0, 0),
    (⟨(some (.E 15)), .mv (.V 2), none⟩, 0, 0),
    (⟨(some (.E 16)), .mv (.V 0), none⟩, 0, 0),
    (⟨(some (.E 17)), .mv (.V 3), none⟩, 0, 0),
    (⟨(some (.E 18)), .mv (.V 0), none⟩, 0, 0),
    (⟨(some (.E 19)), .mv (.V 3), none⟩, 0, 0),
    (⟨(some (.E 20)), .iaddr 1 (.E 18) (.E 19), none⟩, 0, 0),
    (⟨(some (.E 21)), .load false 1 (.E 20), none⟩, 0, 0),
    (⟨(some (.E 22)), .mv (.V 0), none⟩, 0, 0),
    (⟨(some (.E 23)), .mv (.V 2), none⟩, 0, 0),
    (⟨(some (.E 24)), .iaddr 1 (.E 22) (.E 23), none⟩, 0, 0),
    (⟨(some (.E 25)), .load false 1 (.E 24), none⟩, 0, 0),
    (⟨(some (.E 26)), .iaddr 1 (.E 14) (.E 15), none⟩, 0, 0),
    (⟨none, .store [0] (.E 26) (.E 21), none⟩, 0, 0),
    (⟨(some (.E 27)), .iaddr 1 (.E 16) (.E 17), none⟩, 0, 0),
    (⟨none, .store [0] (.E 27) (.E 25), none⟩, 0, 0)]))
 (.reg [⟨(some (.E 10)), .mv (.V 2), none⟩,
   ⟨(some (.E 11)), .bin .add (.E 10) (ki 1), none⟩,
   ⟨(some (.E 12)), .mv (.V 3), none⟩,
   ⟨(some (.E 13)), .bin .sub (.E 12) (ki 1), none⟩,
   ⟨(some (.V 2)), .mv (.E 11), none⟩,
   ⟨(some (.V 3)), .mv (.E 13), none⟩]))

def k_slices_Reverse___int_int__ic : IC :=
 .seq (.reg [⟨(some (.E 4)), .mv (.V 0), none⟩,
   ⟨(some (.E 5)), .len (.E 4), none⟩,
   ⟨(some (.E 6)), .bin .sub (.E 5) (ki 1), none⟩,
   ⟨(some (.V 2)), .mv (ki 0), none⟩,
   ⟨(some (.V 3)), .mv (.E 6), none⟩])
 (.block 0 (.loop k_slices_Reverse___int_int__b0))

def k_slices_Reverse___int_int__rv : List RV := []

def k_spec_l18Way_vars : List Nat := [0, 1, 7, 2, 6, 5, 8, 4]

def k_spec_l18Way_b0 : IC :=
 .seq (.seq (.reg [⟨(some (.E 10)), .mv (.V 7), none⟩,
   ⟨(some (.E 11)), .faddr 0 (.V 2), none⟩,
   ⟨(some (.E 12)), .load false 1 (.E 11), none⟩,
   ⟨(some (.E 13)), .len (.E 12), none⟩,
   ⟨(some (.E 14)), .bin .leq (.E 10) (.E 13), none⟩])
 (.cond (.E 14)
  (.skip)
  (.exit 0)))
 (.seq (.block 1 (.seq (.seq (.reg [⟨(some (.E 17)), .mv (.V 6), none⟩,
    ⟨(some (.E 18)), .faddr 0 (.V 2), none⟩,
    ⟨(some (.E 19)), .load false 1 (.E 18), none⟩,
    ⟨(some (.E 20)), .len (.E 19), none⟩,
    ⟨(some (.E 21)), .bin .sub (.E 20) (ki 1), none⟩,
    ⟨(some (.E 22)), .call k_spec_l1In [([0], (.E 17)), ([0], (ki 0)), ([0], (.E 21))], none⟩,
    ⟨(some (.E 23)), .un .not (.E 22), none⟩])
  (.cond (.E 23)
   (.seq (.reg [⟨(some (.E 24)), .bslice 0 1 [(.v (.int .i64 0))] [], none⟩,
     ⟨(some (.V 4)), .mv (.E 24), none⟩])
   (.ret))
   (.skip)))
  (.seq (.reg [⟨(some (.E 25)), .faddr 0 (.V 2), none⟩,
    ⟨(some (.E 26)), .load false 1 (.E 25), none⟩,
    ⟨(some (.E 27)), .mv (.V 6), none⟩,
    ⟨(some (.E 28)), .iaddr 5 (.E 26) (.E 27), none⟩,
    ⟨(some (.E 29)), .load true 5 (.E 28), none⟩,
    ⟨(some (.V 8)), .alloc [(.v (.int .i64 0)), (.v (.int .i64 0)), (.v (.int .i64 0)), (.v (.int .i64 0)), (.v (.int .i64 0))], none⟩,
    ⟨none, .store [0, 0, 0, 0, 0] (.V 8) (.E 29), none⟩])
  (.seq (.reg [⟨(some (.E 30)), .mv (.V 5), none⟩,
    ⟨(some (.E 31)), .mv (.V 6), none⟩,
    ⟨(some (.E 32)), .bslice 1 1 [(.v (.int .i64 0))] [(0, (.E 31))], none⟩,
    ⟨(some (.E 33)), .app 8 1 (.E 30) (.E 32), none⟩,
    ⟨(some (.V 5)), .mv (.E 33), none⟩])
  (.seq (.seq (.reg [⟨(some (.E 34)), .load true 5 (.V 8), none⟩,
    ⟨(some (.E 35)), .call k_spec_l17Inner [([0, 0, 0, 0, 0], (.E 34))], none⟩,
    ⟨(some (.E 36)), .un .not (.E 35), none⟩])
  (.cond (.E 36)
   (.seq (.reg [⟨(some (.E 37)), .mv (.V 5), none⟩,
     ⟨(some (.V 4)), .mv (.E 37), none⟩])
   (.ret))
   (.skip)))
  (.seq (.seq (.reg [⟨(some (.E 38)), .faddr 0 (.V 8), none⟩,
    ⟨(some (.E 39)), .load false 1 (.E 38), none⟩,
    ⟨(some (.E 40)), .mv (.V 1), none⟩,
    ⟨(some (.E 41)), .len (.E 40), none⟩,
    ⟨(some (.E 42)), .bin .sub (.E 41) (ki 1), none⟩,
    ⟨(some (.E 43)), .call k_spec_l1In [([0], (.E 39)), ([0], (ki 0)), ([0], (.E 42))], none⟩,
    ⟨(some (.E 44)), .un .not (.E 43), none⟩])
  (.cond (.E 44)
   (.seq (.reg [⟨(some (.E 45)), .bslice 0 1 [(.v (.int .i64 0))] [], none⟩,
     ⟨(some (.V 4)), .mv (.E 45), none⟩])
   (.ret))
   (.skip)))
  (.seq (.regD [(⟨(some (.E 46)), .mv (.V 1), none⟩, 0, 0),
    (⟨(some (.E 47)), .faddr 0 (.V 8), none⟩, 0, 0),
    (⟨(some (.E 48)), .load false 1 (.E 47), none⟩, 0, 0),
    (⟨(some (.E 49)), .iaddr 1 (.E 46) (.E 48), none⟩, 0, 0),
    (⟨(some (.E 50)), .load false 1 (.E 49), none⟩, 0, 0),
    (⟨(some (.E 51)), .faddr 1 (.V 8), none⟩, 0, 0),
    (⟨(some (.E 52)), .load false 1 (.E 51), none⟩, 0, 0),
    (⟨(some (.E 53)), .bin .leq (.E 50) (.E 52), none⟩, 0, 0)])
  (.cond (.E 53)
   (.reg [⟨(some (.E 54)), .faddr 2 (.V 8), none⟩,
     ⟨(some (.E 55)), .load false 1 (.E 54), none⟩,
     ⟨(some (.V 6)), .mv (.E 55), none⟩])
   (.reg [⟨(some (.E 56)), .faddr 3 (.V 8), none⟩,
     ⟨(some (.E 57)), .load false 1 (.E 56), none⟩,
     ⟨(some (.V 6)), .mv (.E 57), none⟩])))))))))
 (.reg [⟨(some (.E 15)), .mv (.V 7), none⟩,
   ⟨(some (.E 16)), .bin .add (.E 15) (ki 1), none⟩,
   ⟨(some (.V 7)), .mv (.E 16), none⟩]))

def k_spec_l18Way_ic : IC :=
 .seq (.reg [⟨(some (.V 2)), .box (.V 0), none⟩,
   ⟨(some (.V 4)), .mv (.C .e0), none⟩])
 (.seq (.reg [⟨(some (.E 9)), .bslice 0 1 [(.v (.int .i64 0))] [], none⟩,
   ⟨(some (.V 5)), .mv (.E 9), none⟩])
 (.seq (.reg [⟨(some (.V 6)), .mv (ki 0), none⟩])
 (.seq (.seq (.reg [⟨(some (.V 7)), .mv (ki 0), none⟩])
 (.block 0 (.loop k_spec_l18Way_b0)))
 (.seq (.reg [⟨(some (.E 58)), .bslice 0 1 [(.v (.int .i64 0))] [], none⟩,
   ⟨(some (.V 4)), .mv (.E 58), none⟩])
 (.ret)))))

def k_spec_l18Way_rv : List RV := [.tmp [1] 4]

def k_impl_route_vars : List Nat := [0, 1, 2, 13, 12, 6, 5, 7, 4]

def k_impl_route_b0 : IC :=
 .seq (.reg [⟨(some (.E 14)), .bin .lss (.V 13) (.V 12), none⟩])
 (.seq (.cond (.E 14)
  (.skip)
  (.exit 0))
 (.seq (.block 1 (.seq (.seq (.reg [⟨(some (.E 15)), .mv (.V 6), none⟩,
    ⟨(some (.E 16)), .faddr 0 (.V 2), none⟩,
    ⟨(some (.E 17)), .load false 1 (.E 16), none⟩,
    ⟨(some (.E 18)), .len (.E 17), none⟩,
    ⟨(some (.E 19)), .bin .sub (.E 18) (ki 1), none⟩,
    ⟨(some (.E 20)), .call k_impl_within [([0], (.E 15)), ([0], (ki 0)), ([0], (.E 19))], none⟩,
    ⟨(some (.E 21)), .un .not (.E 20), none⟩])
  (.cond (.E 21)
   (.seq (.reg [⟨(some (.V 4)), .mv (.C .e0), none⟩])
   (.ret))
   (.skip)))
  (.seq (.reg [⟨(some (.E 22)), .faddr 0 (.V 2), none⟩,
    ⟨(some (.E 23)), .load false 1 (.E 22), none⟩,
    ⟨(some (.E 24)), .mv (.V 6), none⟩,
    ⟨(some (.E 25)), .iaddr 5 (.E 23) (.E 24), none⟩,
    ⟨(some (.E 26)), .load true 5 (.E 25), none⟩,
    ⟨(some (.V 7)), .alloc [(.v (.int .i64 0)), (.v (.int .i64 0)), (.v (.int .i64 0)), (.v (.int .i64 0)), (.v (.int .i64 0))], none⟩,
    ⟨none, .store [0, 0, 0, 0, 0] (.V 7) (.E 26), none⟩])
  (.seq (.reg [⟨(some (.E 27)), .mv (.V 5), none⟩,
    ⟨(some (.E 28)), .mv (.V 6), none⟩,
    ⟨(some (.E 29)), .bslice 1 1 [(.v (.int .i64 0))] [(0, (.E 28))], none⟩,
    ⟨(some (.E 30)), .app 8 1 (.E 27) (.E 29), none⟩,
    ⟨(some (.V 5)), .mv (.E 30), none⟩])
  (.block 2 (.seq (.reg [⟨(some (.E 34)), .load true 5 (.V 7), none⟩,
     ⟨(some (.E 35)), .call k_impl_isLeaf [([0, 0, 0, 0, 0], (.E 34))], none⟩,
     ⟨(some (.E 33)), .mv (.E 35), none⟩])
   (.cond (.E 33)
    (.seq (.reg [⟨(some (.E 36)), .mv (.V 5), none⟩,
      ⟨(some (.V 4)), .mv (.E 36), none⟩])
    (.ret))
    (.seq (.reg [⟨(some (.E 38)), .faddr 0 (.V 7), none⟩,
      ⟨(some (.E 39)), .load false 1 (.E 38), none⟩,
      ⟨(some (.E 40)), .mv (.V 1), none⟩,
      ⟨(some (.E 41)), .len (.E 40), none⟩,
      ⟨(some (.E 42)), .bin .sub (.E 41) (ki 1), none⟩,
      ⟨(some (.E 43)), .call k_impl_within [([0], (.E 39)), ([0], (ki 0)), ([0], (.E 42))], none⟩,
      ⟨(some (.E 44)), .un .not (.E 43), none⟩,
      ⟨(some (.E 37)), .mv (.E 44), none⟩])
    (.cond (.E 37)
     (.seq (.reg [⟨(some (.V 4)), .mv (.C .e0), none⟩])
     (.ret))
     (.seq (.regD [(⟨(some (.E 46)), .mv (.V 1), none⟩, 0, 0),
       (⟨(some (.E 47)), .faddr 0 (.V 7), none⟩, 0, 0),
       (⟨(some (.E 48)), .load false 1 (.E 47), none⟩, 0, 0),
       (⟨(some (.E 49)), .iaddr 1 (.E 46) (.E 48), none⟩, 0, 0),
       (⟨(some (.E 50)), .load false 1 (.E 49), none⟩, 0, 0),
       (⟨(some (.E 51)), .faddr 1 (.V 7), none⟩, 0, 0),
       (⟨(some (.E 52)), .load false 1 (.E 51), none⟩, 0, 0),
       (⟨(some (.E 53)), .bin .leq (.E 50) (.E 52), none⟩, 0, 0),
       (⟨(some (.E 45)), .mv (.E 53), none⟩, 0, 0)])
     (.cond (.E 45)
      (.reg [⟨(some (.E 54)), .faddr 2 (.V 7), none⟩,
        ⟨(some (.E 55)), .load false 1 (.E 54), none⟩,
        ⟨(some (.V 6)), .mv (.E 55), none⟩])
      (.reg [⟨(some (.E 31)), .faddr 3 (.V 7), none⟩,
        ⟨(some (.E 32)), .load false 1 (.E 31), none⟩,
        ⟨(some (.V 6)), .mv (.E 32), none⟩]))))))))))))
 (.reg [⟨(some (.E 56)), .bin .add (.V 13) (ki 1), none⟩,
   ⟨(some (.V 13)), .mv (.E 56), none⟩])))

def k_impl_route_ic : IC :=
 .seq (.reg [⟨(some (.V 2)), .box (.V 0), none⟩,
   ⟨(some (.V 4)), .mv (.C .e0), none⟩])
 (.seq (.reg [⟨(some (.E 8)), .bslice 0 1 [(.v (.int .i64 0))] [], none⟩,
   ⟨(some (.V 5)), .mv (.E 8), none⟩,
   ⟨(some (.V 6)), .mv (ki 0), none⟩])
 (.seq (.seq (.reg [⟨(some (.E 9)), .faddr 0 (.V 2), none⟩,
   ⟨(some (.E 10)), .load false 1 (.E 9), none⟩,
   ⟨(some (.E 11)), .len (.E 10), none⟩,
   ⟨(some (.V 12)), .bin .add (.E 11) (ki 1), none⟩,
   ⟨(some (.V 13)), .mv (ki 0), none⟩])
 (.block 0 (.loop k_impl_route_b0)))
 (.seq (.reg [⟨(some (.V 4)), .mv (.C .e0), none⟩])
 (.ret))))

def k_impl_route_rv : List RV := [.tmp [1] 4]

def k_slices_IndexFunc___impl_Node_impl_Node__vars : List Nat := [0, 1, 8, 7, 5, 4]

def k_slices_IndexFunc___impl_Node_impl_Node__b0 : IC :=
 .seq (.reg [⟨(some (.E 9)), .bin .lss (.V 8) (.V 7), none⟩])
 (.seq (.cond (.E 9)
  (.skip)
  (.exit 0))
 (.seq (.block 1 (.seq (.reg [⟨(some (.E 10)), .mv (.V 8), none⟩,
    ⟨(some (.V 5)), .mv (.E 10), none⟩])
  (.seq (.reg [⟨(some (.E 11)), .mv (.V 1), none⟩,
    ⟨(some (.E 12)), .mv (.V 0), none⟩,
    ⟨(some (.E 13)), .mv (.V 5), none⟩,
    ⟨(some (.E 14)), .iaddr 5 (.E 12) (.E 13), none⟩,
    ⟨(some (.E 15)), .load true 5 (.E 14), none⟩,
    ⟨(some (.E 16)), .callv (.E 11) [([0, 0, 0, 0, 0], (.E 15))], none⟩])
  (.cond (.E 16)
   (.seq (.reg [⟨(some (.E 17)), .mv (.V 5), none⟩,
     ⟨(some (.V 4)), .mv (.E 17), none⟩])
   (.ret))
   (.skip)))))
 (.reg [⟨(some (.E 18)), .bin .add (.V 8) (ki 1), none⟩,
   ⟨(some (.V 8)), .mv (.E 18), none⟩])))

def k_slices_IndexFunc___impl_Node_impl_Node__ic : IC :=
 .seq (.reg [⟨(some (.V 4)), .mv (ki 0), none⟩])
 (.seq (.seq (.reg [⟨(some (.E 6)), .mv (.V 0), none⟩,
   ⟨(some (.V 7)), .len (.E 6), none⟩,
   ⟨(some (.V 8)), .mv (ki 0), none⟩])
 (.block 0 (.loop k_slices_IndexFunc___impl_Node_impl_Node__b0)))
 (.seq (.reg [⟨(some (.V 4)), .mv (ki (-1)), none⟩])
 (.ret)))

def k_slices_IndexFunc___impl_Node_impl_Node__rv : List RV := [.tmp [0] 4]

def k_impl_parent_1_vars : List Nat := [0, 1, 2, 3]

def k_impl_parent_1_ic : IC :=
 .seq (.reg [⟨(some (.V 2)), .box (.V 0), none⟩,
   ⟨(some (.V 3)), .mv (kb false), none⟩])
 (.seq (.reg [⟨(some (.E 4)), .load true 5 (.V 2), none⟩,
   ⟨(some (.E 5)), .call k_impl_isLeaf [([0, 0, 0, 0, 0], (.E 4))], none⟩,
   ⟨(some (.E 6)), .un .not (.E 5), none⟩,
   ⟨(some (.E 7)), .mv (.E 6), none⟩,
   ⟨(some (.E 8)), .faddr 2 (.V 2), some ((.E 7), true)⟩,
   ⟨(some (.E 9)), .load false 1 (.E 8), some ((.E 7), true)⟩,
   ⟨(some (.E 10)), .load false 1 (.V 1), some ((.E 7), true)⟩,
   ⟨(some (.E 11)), .bin .eql (.E 9) (.E 10), some ((.E 7), true)⟩,
   ⟨(some (.E 12)), .mv (.E 11), some ((.E 7), true)⟩,
   ⟨(some (.E 13)), .faddr 3 (.V 2), some ((.E 12), false)⟩,
   ⟨(some (.E 14)), .load false 1 (.E 13), some ((.E 12), false)⟩,
   ⟨(some (.E 15)), .load false 1 (.V 1), some ((.E 12), false)⟩,
   ⟨(some (.E 16)), .bin .eql (.E 14) (.E 15), some ((.E 12), false)⟩,
   ⟨(some (.E 17)), .pick (.E 12) (kb true) (.E 16), some ((.E 7), true)⟩,
   ⟨(some (.E 18)), .pick (.E 7) (.E 17) (kb false), none⟩,
   ⟨(some (.V 3)), .mv (.E 18), none⟩])
 (.ret))

def k_impl_parent_1_rv : List RV := [.tmp [0] 3]

def tbl : List (Nat × Fun) := [
  (k_laws_FnExactPredictAll, fnOf k_laws_FnExactPredictAll_ic k_laws_FnExactPredictAll_rv []),
  (k_laws_szModel, fnOf k_laws_szModel_ic k_laws_szModel_rv []),
  (k_laws_toModel, fnOf k_laws_toModel_ic k_laws_toModel_rv []),
  (k_laws_eqModel, fnOf k_laws_eqModel_ic k_laws_eqModel_rv []),
  (k_laws_szTree, fnOf k_laws_szTree_ic k_laws_szTree_rv []),
  (k_laws_toTree, fnOf k_laws_toTree_ic k_laws_toTree_rv []),
  (k_laws_eqTree, fnOf k_laws_eqTree_ic k_laws_eqTree_rv []),
  (k_laws_toIntS, fnOf k_laws_toIntS_ic k_laws_toIntS_rv []),
  (k_laws_eqIntS, fnOf k_laws_eqIntS_ic k_laws_eqIntS_rv []),
  (k_laws_markIntS, fnOf k_laws_markIntS_ic k_laws_markIntS_rv [true]),
  (k_spec_ModelOk, fnOf k_spec_ModelOk_ic k_spec_ModelOk_rv []),
  (k_impl_ModelOk, fnOf k_impl_ModelOk_ic k_impl_ModelOk_rv []),
  (k_spec_Predict, fnOf k_spec_Predict_ic k_spec_Predict_rv []),
  (k_impl_Predict, fnOf k_impl_Predict_ic k_impl_Predict_rv []),
  (k_laws_heldIntS, fnOf k_laws_heldIntS_ic k_laws_heldIntS_rv []),
  (k_laws_szIntSS, fnOf k_laws_szIntSS_ic k_laws_szIntSS_rv []),
  (k_spec_PredictAll, fnOf k_spec_PredictAll_ic k_spec_PredictAll_rv []),
  (k_laws_toIntSS, fnOf k_laws_toIntSS_ic k_laws_toIntSS_rv []),
  (k_impl_PredictAll, fnOf k_impl_PredictAll_ic k_impl_PredictAll_rv []),
  (k_laws_eqIntSS, fnOf k_laws_eqIntSS_ic k_laws_eqIntSS_rv []),
  (k_laws_markModel, fnOf k_laws_markModel_ic k_laws_markModel_rv [true]),
  (k_laws_markIntSS, fnOf k_laws_markIntSS_ic k_laws_markIntSS_rv [true]),
  (k_laws_szStringS, fnOf k_laws_szStringS_ic k_laws_szStringS_rv []),
  (k_laws_szIntS, fnOf k_laws_szIntS_ic k_laws_szIntS_rv []),
  (k_laws_szTreeS, fnOf k_laws_szTreeS_ic k_laws_szTreeS_rv []),
  (k_laws_toStringS, fnOf k_laws_toStringS_ic k_laws_toStringS_rv []),
  (k_laws_toTreeS, fnOf k_laws_toTreeS_ic k_laws_toTreeS_rv []),
  (k_laws_eqStringS, fnOf k_laws_eqStringS_ic k_laws_eqStringS_rv []),
  (k_laws_eqTreeS, fnOf k_laws_eqTreeS_ic k_laws_eqTreeS_rv []),
  (k_laws_szNodeS, fnOf k_laws_szNodeS_ic k_laws_szNodeS_rv []),
  (k_spec_l17Inner, fnOf k_spec_l17Inner_ic k_spec_l17Inner_rv []),
  (k_laws_toNodeS, fnOf k_laws_toNodeS_ic k_laws_toNodeS_rv []),
  (k_laws_eqNodeS, fnOf k_laws_eqNodeS_ic k_laws_eqNodeS_rv []),
  (k_laws_markNodeS, fnOf k_laws_markNodeS_ic k_laws_markNodeS_rv [true]),
  (k_spec_l1In, fnOf k_spec_l1In_ic k_spec_l1In_rv []),
  (k_spec_l6Value, fnOf k_spec_l6Value_ic k_spec_l6Value_rv []),
  (k_spec_NameOk, fnOf k_spec_NameOk_ic k_spec_NameOk_rv []),
  (k_spec_l9Has, fnOf k_spec_l9Has_ic k_spec_l9Has_rv []),
  (k_spec_TreeOk, fnOf k_spec_TreeOk_ic k_spec_TreeOk_rv []),
  (k_impl_within, fnOf k_impl_within_ic k_impl_within_rv []),
  (k_impl_areNames, fnOf k_impl_areNames_ic k_impl_areNames_rv []),
  (k_slices_ContainsFunc___int_int_, fnOf k_slices_ContainsFunc___int_int__ic k_slices_ContainsFunc___int_int__rv []),
  (k_impl_ModelOk_1, fnOf k_impl_ModelOk_1_ic k_impl_ModelOk_1_rv []),
  (k_impl_isSign, fnOf k_impl_isSign_ic k_impl_isSign_rv []),
  (k_impl_isDecimal, fnOf k_impl_isDecimal_ic k_impl_isDecimal_rv []),
  (k_slices_ContainsFunc___impl_Tree_impl_Tree_, fnOf k_slices_ContainsFunc___impl_Tree_impl_Tree__ic k_slices_ContainsFunc___impl_Tree_impl_Tree__rv []),
  (k_impl_ModelOk_2, fnOf k_impl_ModelOk_2_ic k_impl_ModelOk_2_rv []),
  (k_impl_TreeOk, fnOf k_impl_TreeOk_ic k_impl_TreeOk_rv []),
  (k_laws_markStringS, fnOf k_laws_markStringS_ic k_laws_markStringS_rv [true]),
  (k_laws_markTreeS, fnOf k_laws_markTreeS_ic k_laws_markTreeS_rv [true]),
  (k_spec_EvalTree, fnOf k_spec_EvalTree_ic k_spec_EvalTree_rv []),
  (k_impl_EvalTree, fnOf k_impl_EvalTree_ic k_impl_EvalTree_rv []),
  (k_spec_l14Leaf, fnOf k_spec_l14Leaf_ic k_spec_l14Leaf_rv []),
  (k_laws_toNode, fnOf k_laws_toNode_ic k_laws_toNode_rv []),
  (k_impl_isLeaf, fnOf k_impl_isLeaf_ic k_impl_isLeaf_rv []),
  (k_impl_isLeafValue, fnOf k_impl_isLeafValue_ic k_impl_isLeafValue_rv []),
  (k_laws_eqNode, fnOf k_laws_eqNode_ic k_laws_eqNode_rv []),
  (k_spec_l17Shape, fnOf k_spec_l17Shape_ic k_spec_l17Shape_rv []),
  (k_spec_DepthOf, fnOf k_spec_DepthOf_ic k_spec_DepthOf_rv []),
  (k_spec_l17Ways, fnOf k_spec_l17Ways_ic k_spec_l17Ways_rv []),
  (k_impl_NameOk, fnOf k_impl_NameOk_ic k_impl_NameOk_rv []),
  (k_slices_Contains___string_string_, fnOf k_slices_Contains___string_string__ic k_slices_Contains___string_string__rv []),
  (k_slices_IndexFunc___int_int_, fnOf k_slices_IndexFunc___int_int__ic k_slices_IndexFunc___int_int__rv []),
  (k_slices_IndexFunc___impl_Tree_impl_Tree_, fnOf k_slices_IndexFunc___impl_Tree_impl_Tree__ic k_slices_IndexFunc___impl_Tree_impl_Tree__rv []),
  (k_impl_shapeOk, fnOf k_impl_shapeOk_ic k_impl_shapeOk_rv []),
  (k_impl_LevelOf, fnOf k_impl_LevelOf_ic k_impl_LevelOf_rv []),
  (k_impl_wayTo, fnOf k_impl_wayTo_ic k_impl_wayTo_rv []),
  (k_laws_markText, fnOf k_laws_markText_ic k_laws_markText_rv []),
  (k_spec_RouteTo, fnOf k_spec_RouteTo_ic k_spec_RouteTo_rv []),
  (k_impl_RouteTo, fnOf k_impl_RouteTo_ic k_impl_RouteTo_rv []),
  (k_spec_l1Max, fnOf k_spec_l1Max_ic k_spec_l1Max_rv []),
  (k_spec_LevelOf, fnOf k_spec_LevelOf_ic k_spec_LevelOf_rv []),
  (k_spec_l17Up, fnOf k_spec_l17Up_ic k_spec_l17Up_rv []),
  (k_slices_Index___string_string_, fnOf k_slices_Index___string_string__ic k_slices_Index___string_string__rv []),
  (k_impl_parent, fnOf k_impl_parent_ic k_impl_parent_rv []),
  (k_slices_Reverse___int_int_, fnOf k_slices_Reverse___int_int__ic k_slices_Reverse___int_int__rv [true]),
  (k_spec_l18Way, fnOf k_spec_l18Way_ic k_spec_l18Way_rv []),
  (k_impl_route, fnOf k_impl_route_ic k_impl_route_rv []),
  (k_slices_IndexFunc___impl_Node_impl_Node_, fnOf k_slices_IndexFunc___impl_Node_impl_Node__ic k_slices_IndexFunc___impl_Node_impl_Node__rv []),
  (k_impl_parent_1, fnOf k_impl_parent_1_ic k_impl_parent_1_rv [])]

def T : Table := fun f => (tbl.find? fun q => q.1 == f).map fun q => q.2

theorem T_laws_FnExactPredictAll : T k_laws_FnExactPredictAll = some (fnOf k_laws_FnExactPredictAll_ic k_laws_FnExactPredictAll_rv []) := rfl

@[simp] theorem M_laws_FnExactPredictAll : modesOf T k_laws_FnExactPredictAll = [] := modesOf_code T_laws_FnExactPredictAll

theorem T_laws_szModel : T k_laws_szModel = some (fnOf k_laws_szModel_ic k_laws_szModel_rv []) := rfl

@[simp] theorem M_laws_szModel : modesOf T k_laws_szModel = [] := modesOf_code T_laws_szModel

theorem T_laws_toModel : T k_laws_toModel = some (fnOf k_laws_toModel_ic k_laws_toModel_rv []) := rfl

@[simp] theorem M_laws_toModel : modesOf T k_laws_toModel = [] := modesOf_code T_laws_toModel

theorem T_laws_eqModel : T k_laws_eqModel = some (fnOf k_laws_eqModel_ic k_laws_eqModel_rv []) := rfl

@[simp] theorem M_laws_eqModel : modesOf T k_laws_eqModel = [] := modesOf_code T_laws_eqModel

theorem T_laws_szTree : T k_laws_szTree = some (fnOf k_laws_szTree_ic k_laws_szTree_rv []) := rfl

@[simp] theorem M_laws_szTree : modesOf T k_laws_szTree = [] := modesOf_code T_laws_szTree

theorem T_laws_toTree : T k_laws_toTree = some (fnOf k_laws_toTree_ic k_laws_toTree_rv []) := rfl

@[simp] theorem M_laws_toTree : modesOf T k_laws_toTree = [] := modesOf_code T_laws_toTree

theorem T_laws_eqTree : T k_laws_eqTree = some (fnOf k_laws_eqTree_ic k_laws_eqTree_rv []) := rfl

@[simp] theorem M_laws_eqTree : modesOf T k_laws_eqTree = [] := modesOf_code T_laws_eqTree

theorem T_laws_toIntS : T k_laws_toIntS = some (fnOf k_laws_toIntS_ic k_laws_toIntS_rv []) := rfl

@[simp] theorem M_laws_toIntS : modesOf T k_laws_toIntS = [] := modesOf_code T_laws_toIntS

theorem T_laws_eqIntS : T k_laws_eqIntS = some (fnOf k_laws_eqIntS_ic k_laws_eqIntS_rv []) := rfl

@[simp] theorem M_laws_eqIntS : modesOf T k_laws_eqIntS = [] := modesOf_code T_laws_eqIntS

theorem T_laws_markIntS : T k_laws_markIntS = some (fnOf k_laws_markIntS_ic k_laws_markIntS_rv [true]) := rfl

@[simp] theorem M_laws_markIntS : modesOf T k_laws_markIntS = [true] := modesOf_code T_laws_markIntS

theorem T_spec_ModelOk : T k_spec_ModelOk = some (fnOf k_spec_ModelOk_ic k_spec_ModelOk_rv []) := rfl

@[simp] theorem M_spec_ModelOk : modesOf T k_spec_ModelOk = [] := modesOf_code T_spec_ModelOk

theorem T_impl_ModelOk : T k_impl_ModelOk = some (fnOf k_impl_ModelOk_ic k_impl_ModelOk_rv []) := rfl

@[simp] theorem M_impl_ModelOk : modesOf T k_impl_ModelOk = [] := modesOf_code T_impl_ModelOk

theorem T_spec_Predict : T k_spec_Predict = some (fnOf k_spec_Predict_ic k_spec_Predict_rv []) := rfl

@[simp] theorem M_spec_Predict : modesOf T k_spec_Predict = [] := modesOf_code T_spec_Predict

theorem T_impl_Predict : T k_impl_Predict = some (fnOf k_impl_Predict_ic k_impl_Predict_rv []) := rfl

@[simp] theorem M_impl_Predict : modesOf T k_impl_Predict = [] := modesOf_code T_impl_Predict

theorem T_laws_heldIntS : T k_laws_heldIntS = some (fnOf k_laws_heldIntS_ic k_laws_heldIntS_rv []) := rfl

@[simp] theorem M_laws_heldIntS : modesOf T k_laws_heldIntS = [] := modesOf_code T_laws_heldIntS

theorem T_laws_szIntSS : T k_laws_szIntSS = some (fnOf k_laws_szIntSS_ic k_laws_szIntSS_rv []) := rfl

@[simp] theorem M_laws_szIntSS : modesOf T k_laws_szIntSS = [] := modesOf_code T_laws_szIntSS

theorem T_spec_PredictAll : T k_spec_PredictAll = some (fnOf k_spec_PredictAll_ic k_spec_PredictAll_rv []) := rfl

@[simp] theorem M_spec_PredictAll : modesOf T k_spec_PredictAll = [] := modesOf_code T_spec_PredictAll

theorem T_laws_toIntSS : T k_laws_toIntSS = some (fnOf k_laws_toIntSS_ic k_laws_toIntSS_rv []) := rfl

@[simp] theorem M_laws_toIntSS : modesOf T k_laws_toIntSS = [] := modesOf_code T_laws_toIntSS

theorem T_impl_PredictAll : T k_impl_PredictAll = some (fnOf k_impl_PredictAll_ic k_impl_PredictAll_rv []) := rfl

@[simp] theorem M_impl_PredictAll : modesOf T k_impl_PredictAll = [] := modesOf_code T_impl_PredictAll

theorem T_laws_eqIntSS : T k_laws_eqIntSS = some (fnOf k_laws_eqIntSS_ic k_laws_eqIntSS_rv []) := rfl

@[simp] theorem M_laws_eqIntSS : modesOf T k_laws_eqIntSS = [] := modesOf_code T_laws_eqIntSS

theorem T_laws_markModel : T k_laws_markModel = some (fnOf k_laws_markModel_ic k_laws_markModel_rv [true]) := rfl

@[simp] theorem M_laws_markModel : modesOf T k_laws_markModel = [true] := modesOf_code T_laws_markModel

theorem T_laws_markIntSS : T k_laws_markIntSS = some (fnOf k_laws_markIntSS_ic k_laws_markIntSS_rv [true]) := rfl

@[simp] theorem M_laws_markIntSS : modesOf T k_laws_markIntSS = [true] := modesOf_code T_laws_markIntSS

theorem T_laws_szStringS : T k_laws_szStringS = some (fnOf k_laws_szStringS_ic k_laws_szStringS_rv []) := rfl

@[simp] theorem M_laws_szStringS : modesOf T k_laws_szStringS = [] := modesOf_code T_laws_szStringS

theorem T_laws_szIntS : T k_laws_szIntS = some (fnOf k_laws_szIntS_ic k_laws_szIntS_rv []) := rfl

@[simp] theorem M_laws_szIntS : modesOf T k_laws_szIntS = [] := modesOf_code T_laws_szIntS

theorem T_laws_szTreeS : T k_laws_szTreeS = some (fnOf k_laws_szTreeS_ic k_laws_szTreeS_rv []) := rfl

@[simp] theorem M_laws_szTreeS : modesOf T k_laws_szTreeS = [] := modesOf_code T_laws_szTreeS

theorem T_laws_toStringS : T k_laws_toStringS = some (fnOf k_laws_toStringS_ic k_laws_toStringS_rv []) := rfl

@[simp] theorem M_laws_toStringS : modesOf T k_laws_toStringS = [] := modesOf_code T_laws_toStringS

theorem T_laws_toTreeS : T k_laws_toTreeS = some (fnOf k_laws_toTreeS_ic k_laws_toTreeS_rv []) := rfl

@[simp] theorem M_laws_toTreeS : modesOf T k_laws_toTreeS = [] := modesOf_code T_laws_toTreeS

theorem T_laws_eqStringS : T k_laws_eqStringS = some (fnOf k_laws_eqStringS_ic k_laws_eqStringS_rv []) := rfl

@[simp] theorem M_laws_eqStringS : modesOf T k_laws_eqStringS = [] := modesOf_code T_laws_eqStringS

theorem T_laws_eqTreeS : T k_laws_eqTreeS = some (fnOf k_laws_eqTreeS_ic k_laws_eqTreeS_rv []) := rfl

@[simp] theorem M_laws_eqTreeS : modesOf T k_laws_eqTreeS = [] := modesOf_code T_laws_eqTreeS

theorem T_laws_szNodeS : T k_laws_szNodeS = some (fnOf k_laws_szNodeS_ic k_laws_szNodeS_rv []) := rfl

@[simp] theorem M_laws_szNodeS : modesOf T k_laws_szNodeS = [] := modesOf_code T_laws_szNodeS

theorem T_spec_l17Inner : T k_spec_l17Inner = some (fnOf k_spec_l17Inner_ic k_spec_l17Inner_rv []) := rfl

@[simp] theorem M_spec_l17Inner : modesOf T k_spec_l17Inner = [] := modesOf_code T_spec_l17Inner

theorem T_laws_toNodeS : T k_laws_toNodeS = some (fnOf k_laws_toNodeS_ic k_laws_toNodeS_rv []) := rfl

@[simp] theorem M_laws_toNodeS : modesOf T k_laws_toNodeS = [] := modesOf_code T_laws_toNodeS

theorem T_laws_eqNodeS : T k_laws_eqNodeS = some (fnOf k_laws_eqNodeS_ic k_laws_eqNodeS_rv []) := rfl

@[simp] theorem M_laws_eqNodeS : modesOf T k_laws_eqNodeS = [] := modesOf_code T_laws_eqNodeS

theorem T_laws_markNodeS : T k_laws_markNodeS = some (fnOf k_laws_markNodeS_ic k_laws_markNodeS_rv [true]) := rfl

@[simp] theorem M_laws_markNodeS : modesOf T k_laws_markNodeS = [true] := modesOf_code T_laws_markNodeS

theorem T_spec_l1In : T k_spec_l1In = some (fnOf k_spec_l1In_ic k_spec_l1In_rv []) := rfl

@[simp] theorem M_spec_l1In : modesOf T k_spec_l1In = [] := modesOf_code T_spec_l1In

theorem T_spec_l6Value : T k_spec_l6Value = some (fnOf k_spec_l6Value_ic k_spec_l6Value_rv []) := rfl

@[simp] theorem M_spec_l6Value : modesOf T k_spec_l6Value = [] := modesOf_code T_spec_l6Value

theorem T_spec_NameOk : T k_spec_NameOk = some (fnOf k_spec_NameOk_ic k_spec_NameOk_rv []) := rfl

@[simp] theorem M_spec_NameOk : modesOf T k_spec_NameOk = [] := modesOf_code T_spec_NameOk

theorem T_spec_l9Has : T k_spec_l9Has = some (fnOf k_spec_l9Has_ic k_spec_l9Has_rv []) := rfl

@[simp] theorem M_spec_l9Has : modesOf T k_spec_l9Has = [] := modesOf_code T_spec_l9Has

theorem T_spec_TreeOk : T k_spec_TreeOk = some (fnOf k_spec_TreeOk_ic k_spec_TreeOk_rv []) := rfl

@[simp] theorem M_spec_TreeOk : modesOf T k_spec_TreeOk = [] := modesOf_code T_spec_TreeOk

theorem T_impl_within : T k_impl_within = some (fnOf k_impl_within_ic k_impl_within_rv []) := rfl

@[simp] theorem M_impl_within : modesOf T k_impl_within = [] := modesOf_code T_impl_within

theorem T_impl_areNames : T k_impl_areNames = some (fnOf k_impl_areNames_ic k_impl_areNames_rv []) := rfl

@[simp] theorem M_impl_areNames : modesOf T k_impl_areNames = [] := modesOf_code T_impl_areNames

theorem T_slices_ContainsFunc___int_int_ : T k_slices_ContainsFunc___int_int_ = some (fnOf k_slices_ContainsFunc___int_int__ic k_slices_ContainsFunc___int_int__rv []) := rfl

@[simp] theorem M_slices_ContainsFunc___int_int_ : modesOf T k_slices_ContainsFunc___int_int_ = [] := modesOf_code T_slices_ContainsFunc___int_int_

theorem T_impl_ModelOk_1 : T k_impl_ModelOk_1 = some (fnOf k_impl_ModelOk_1_ic k_impl_ModelOk_1_rv []) := rfl

@[simp] theorem M_impl_ModelOk_1 : modesOf T k_impl_ModelOk_1 = [] := modesOf_code T_impl_ModelOk_1

theorem T_impl_isSign : T k_impl_isSign = some (fnOf k_impl_isSign_ic k_impl_isSign_rv []) := rfl

@[simp] theorem M_impl_isSign : modesOf T k_impl_isSign = [] := modesOf_code T_impl_isSign

theorem T_impl_isDecimal : T k_impl_isDecimal = some (fnOf k_impl_isDecimal_ic k_impl_isDecimal_rv []) := rfl

@[simp] theorem M_impl_isDecimal : modesOf T k_impl_isDecimal = [] := modesOf_code T_impl_isDecimal

theorem T_slices_ContainsFunc___impl_Tree_impl_Tree_ : T k_slices_ContainsFunc___impl_Tree_impl_Tree_ = some (fnOf k_slices_ContainsFunc___impl_Tree_impl_Tree__ic k_slices_ContainsFunc___impl_Tree_impl_Tree__rv []) := rfl

@[simp] theorem M_slices_ContainsFunc___impl_Tree_impl_Tree_ : modesOf T k_slices_ContainsFunc___impl_Tree_impl_Tree_ = [] := modesOf_code T_slices_ContainsFunc___impl_Tree_impl_Tree_

theorem T_impl_ModelOk_2 : T k_impl_ModelOk_2 = some (fnOf k_impl_ModelOk_2_ic k_impl_ModelOk_2_rv []) := rfl

@[simp] theorem M_impl_ModelOk_2 : modesOf T k_impl_ModelOk_2 = [] := modesOf_code T_impl_ModelOk_2

theorem T_impl_TreeOk : T k_impl_TreeOk = some (fnOf k_impl_TreeOk_ic k_impl_TreeOk_rv []) := rfl

@[simp] theorem M_impl_TreeOk : modesOf T k_impl_TreeOk = [] := modesOf_code T_impl_TreeOk

theorem T_laws_markStringS : T k_laws_markStringS = some (fnOf k_laws_markStringS_ic k_laws_markStringS_rv [true]) := rfl

@[simp] theorem M_laws_markStringS : modesOf T k_laws_markStringS = [true] := modesOf_code T_laws_markStringS

theorem T_laws_markTreeS : T k_laws_markTreeS = some (fnOf k_laws_markTreeS_ic k_laws_markTreeS_rv [true]) := rfl

@[simp] theorem M_laws_markTreeS : modesOf T k_laws_markTreeS = [true] := modesOf_code T_laws_markTreeS

theorem T_spec_EvalTree : T k_spec_EvalTree = some (fnOf k_spec_EvalTree_ic k_spec_EvalTree_rv []) := rfl

@[simp] theorem M_spec_EvalTree : modesOf T k_spec_EvalTree = [] := modesOf_code T_spec_EvalTree

theorem T_impl_EvalTree : T k_impl_EvalTree = some (fnOf k_impl_EvalTree_ic k_impl_EvalTree_rv []) := rfl

@[simp] theorem M_impl_EvalTree : modesOf T k_impl_EvalTree = [] := modesOf_code T_impl_EvalTree

theorem T_spec_l14Leaf : T k_spec_l14Leaf = some (fnOf k_spec_l14Leaf_ic k_spec_l14Leaf_rv []) := rfl

@[simp] theorem M_spec_l14Leaf : modesOf T k_spec_l14Leaf = [] := modesOf_code T_spec_l14Leaf

theorem T_laws_toNode : T k_laws_toNode = some (fnOf k_laws_toNode_ic k_laws_toNode_rv []) := rfl

@[simp] theorem M_laws_toNode : modesOf T k_laws_toNode = [] := modesOf_code T_laws_toNode

theorem T_impl_isLeaf : T k_impl_isLeaf = some (fnOf k_impl_isLeaf_ic k_impl_isLeaf_rv []) := rfl

@[simp] theorem M_impl_isLeaf : modesOf T k_impl_isLeaf = [] := modesOf_code T_impl_isLeaf

theorem T_impl_isLeafValue : T k_impl_isLeafValue = some (fnOf k_impl_isLeafValue_ic k_impl_isLeafValue_rv []) := rfl

@[simp] theorem M_impl_isLeafValue : modesOf T k_impl_isLeafValue = [] := modesOf_code T_impl_isLeafValue

theorem T_laws_eqNode : T k_laws_eqNode = some (fnOf k_laws_eqNode_ic k_laws_eqNode_rv []) := rfl

@[simp] theorem M_laws_eqNode : modesOf T k_laws_eqNode = [] := modesOf_code T_laws_eqNode

theorem T_spec_l17Shape : T k_spec_l17Shape = some (fnOf k_spec_l17Shape_ic k_spec_l17Shape_rv []) := rfl

@[simp] theorem M_spec_l17Shape : modesOf T k_spec_l17Shape = [] := modesOf_code T_spec_l17Shape

theorem T_spec_DepthOf : T k_spec_DepthOf = some (fnOf k_spec_DepthOf_ic k_spec_DepthOf_rv []) := rfl

@[simp] theorem M_spec_DepthOf : modesOf T k_spec_DepthOf = [] := modesOf_code T_spec_DepthOf

theorem T_spec_l17Ways : T k_spec_l17Ways = some (fnOf k_spec_l17Ways_ic k_spec_l17Ways_rv []) := rfl

@[simp] theorem M_spec_l17Ways : modesOf T k_spec_l17Ways = [] := modesOf_code T_spec_l17Ways

theorem T_impl_NameOk : T k_impl_NameOk = some (fnOf k_impl_NameOk_ic k_impl_NameOk_rv []) := rfl

@[simp] theorem M_impl_NameOk : modesOf T k_impl_NameOk = [] := modesOf_code T_impl_NameOk

theorem T_slices_Contains___string_string_ : T k_slices_Contains___string_string_ = some (fnOf k_slices_Contains___string_string__ic k_slices_Contains___string_string__rv []) := rfl

@[simp] theorem M_slices_Contains___string_string_ : modesOf T k_slices_Contains___string_string_ = [] := modesOf_code T_slices_Contains___string_string_

theorem T_slices_IndexFunc___int_int_ : T k_slices_IndexFunc___int_int_ = some (fnOf k_slices_IndexFunc___int_int__ic k_slices_IndexFunc___int_int__rv []) := rfl

@[simp] theorem M_slices_IndexFunc___int_int_ : modesOf T k_slices_IndexFunc___int_int_ = [] := modesOf_code T_slices_IndexFunc___int_int_

theorem T_slices_IndexFunc___impl_Tree_impl_Tree_ : T k_slices_IndexFunc___impl_Tree_impl_Tree_ = some (fnOf k_slices_IndexFunc___impl_Tree_impl_Tree__ic k_slices_IndexFunc___impl_Tree_impl_Tree__rv []) := rfl

@[simp] theorem M_slices_IndexFunc___impl_Tree_impl_Tree_ : modesOf T k_slices_IndexFunc___impl_Tree_impl_Tree_ = [] := modesOf_code T_slices_IndexFunc___impl_Tree_impl_Tree_

theorem T_impl_shapeOk : T k_impl_shapeOk = some (fnOf k_impl_shapeOk_ic k_impl_shapeOk_rv []) := rfl

@[simp] theorem M_impl_shapeOk : modesOf T k_impl_shapeOk = [] := modesOf_code T_impl_shapeOk

theorem T_impl_LevelOf : T k_impl_LevelOf = some (fnOf k_impl_LevelOf_ic k_impl_LevelOf_rv []) := rfl

@[simp] theorem M_impl_LevelOf : modesOf T k_impl_LevelOf = [] := modesOf_code T_impl_LevelOf

theorem T_impl_wayTo : T k_impl_wayTo = some (fnOf k_impl_wayTo_ic k_impl_wayTo_rv []) := rfl

@[simp] theorem M_impl_wayTo : modesOf T k_impl_wayTo = [] := modesOf_code T_impl_wayTo

theorem T_laws_markText : T k_laws_markText = some (fnOf k_laws_markText_ic k_laws_markText_rv []) := rfl

@[simp] theorem M_laws_markText : modesOf T k_laws_markText = [] := modesOf_code T_laws_markText

theorem T_spec_RouteTo : T k_spec_RouteTo = some (fnOf k_spec_RouteTo_ic k_spec_RouteTo_rv []) := rfl

@[simp] theorem M_spec_RouteTo : modesOf T k_spec_RouteTo = [] := modesOf_code T_spec_RouteTo

theorem T_impl_RouteTo : T k_impl_RouteTo = some (fnOf k_impl_RouteTo_ic k_impl_RouteTo_rv []) := rfl

@[simp] theorem M_impl_RouteTo : modesOf T k_impl_RouteTo = [] := modesOf_code T_impl_RouteTo

theorem T_spec_l1Max : T k_spec_l1Max = some (fnOf k_spec_l1Max_ic k_spec_l1Max_rv []) := rfl

@[simp] theorem M_spec_l1Max : modesOf T k_spec_l1Max = [] := modesOf_code T_spec_l1Max

theorem T_spec_LevelOf : T k_spec_LevelOf = some (fnOf k_spec_LevelOf_ic k_spec_LevelOf_rv []) := rfl

@[simp] theorem M_spec_LevelOf : modesOf T k_spec_LevelOf = [] := modesOf_code T_spec_LevelOf

theorem T_spec_l17Up : T k_spec_l17Up = some (fnOf k_spec_l17Up_ic k_spec_l17Up_rv []) := rfl

@[simp] theorem M_spec_l17Up : modesOf T k_spec_l17Up = [] := modesOf_code T_spec_l17Up

theorem T_slices_Index___string_string_ : T k_slices_Index___string_string_ = some (fnOf k_slices_Index___string_string__ic k_slices_Index___string_string__rv []) := rfl

@[simp] theorem M_slices_Index___string_string_ : modesOf T k_slices_Index___string_string_ = [] := modesOf_code T_slices_Index___string_string_

theorem T_impl_parent : T k_impl_parent = some (fnOf k_impl_parent_ic k_impl_parent_rv []) := rfl

@[simp] theorem M_impl_parent : modesOf T k_impl_parent = [] := modesOf_code T_impl_parent

theorem T_slices_Reverse___int_int_ : T k_slices_Reverse___int_int_ = some (fnOf k_slices_Reverse___int_int__ic k_slices_Reverse___int_int__rv [true]) := rfl

@[simp] theorem M_slices_Reverse___int_int_ : modesOf T k_slices_Reverse___int_int_ = [true] := modesOf_code T_slices_Reverse___int_int_

theorem T_spec_l18Way : T k_spec_l18Way = some (fnOf k_spec_l18Way_ic k_spec_l18Way_rv []) := rfl

@[simp] theorem M_spec_l18Way : modesOf T k_spec_l18Way = [] := modesOf_code T_spec_l18Way

theorem T_impl_route : T k_impl_route = some (fnOf k_impl_route_ic k_impl_route_rv []) := rfl

@[simp] theorem M_impl_route : modesOf T k_impl_route = [] := modesOf_code T_impl_route

theorem T_slices_IndexFunc___impl_Node_impl_Node_ : T k_slices_IndexFunc___impl_Node_impl_Node_ = some (fnOf k_slices_IndexFunc___impl_Node_impl_Node__ic k_slices_IndexFunc___impl_Node_impl_Node__rv []) := rfl

@[simp] theorem M_slices_IndexFunc___impl_Node_impl_Node_ : modesOf T k_slices_IndexFunc___impl_Node_impl_Node_ = [] := modesOf_code T_slices_IndexFunc___impl_Node_impl_Node_

theorem T_impl_parent_1 : T k_impl_parent_1 = some (fnOf k_impl_parent_1_ic k_impl_parent_1_rv []) := rfl

@[simp] theorem M_impl_parent_1 : modesOf T k_impl_parent_1 = [] := modesOf_code T_impl_parent_1

end Go.Pe
