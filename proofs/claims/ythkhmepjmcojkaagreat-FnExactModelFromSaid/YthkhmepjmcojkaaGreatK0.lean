/- The compact texts of the functions that the law reaches; no condition. -/
import Derived.Test.YthkhmepjmcojkaaGreatEvA0
set_option linter.all false
namespace Go.Pe
open Go
def bs (l : List UInt8) : ByteArray := ⟨l.toArray⟩

def k_laws_FnExactModelFrom : Nat := 5

def k_laws_szTable : Nat := 19

def k_laws_szConfig : Nat := 20

def k_laws_szState : Nat := 21

def k_spec_ModelFrom : Nat := 22

def k_laws_toTable : Nat := 23

def k_laws_toConfig : Nat := 24

def k_laws_toState : Nat := 25

def k_impl_ModelFrom : Nat := 26

def k_laws_eqModel : Nat := 27

def k_laws_eqTable : Nat := 28

def k_laws_eqConfig : Nat := 29

def k_laws_eqState : Nat := 30

def k_laws_markTable : Nat := 31

def k_laws_markConfig : Nat := 32

def k_laws_markState : Nat := 33

def k_laws_markModel : Nat := 34

def k_laws_heldModel : Nat := 35

def k_laws_toIntS : Nat := 39

def k_laws_eqIntS : Nat := 43

def k_laws_markIntS : Nat := 45

def k_laws_eqTree : Nat := 58

def k_impl_ConfigOk : Nat := 69

def k_spec_ConfigOk : Nat := 74

def k_laws_szStringS : Nat := 85

def k_laws_szIntSS : Nat := 86

def k_laws_szIntS : Nat := 87

def k_laws_szTreeS : Nat := 88

def k_spec_TableOk : Nat := 89

def k_spec_BaseOf : Nat := 90

def k_spec_l22Trees : Nat := 91

def k_spec_ModelOk : Nat := 92

def k_laws_toStringS : Nat := 93

def k_laws_toIntSS : Nat := 94

def k_laws_toTreeS : Nat := 95

def k_impl_TableOk : Nat := 96

def k_impl_BaseOf : Nat := 97

def k_slices_Clone___string_string_ : Nat := 98

def k_slices_Clone___int_int_ : Nat := 99

def k_impl_copyTrees : Nat := 100

def k_impl_ModelOk : Nat := 101

def k_laws_eqStringS : Nat := 102

def k_laws_eqTreeS : Nat := 103

def k_laws_eqIntSS : Nat := 104

def k_laws_markStringS : Nat := 105

def k_laws_markIntSS : Nat := 106

def k_laws_markTreeS : Nat := 107

def k_laws_heldStringS : Nat := 108

def k_laws_heldIntS : Nat := 109

def k_laws_heldTreeS : Nat := 110

def k_spec_l1In : Nat := 130

def k_laws_eqNodeS : Nat := 138

def k_laws_markNodeS : Nat := 139

def k_laws_heldNodeS : Nat := 140

def k_impl_within : Nat := 147

def k_slices_ContainsFunc___int_int_ : Nat := 148

def k_impl_ConfigOk_1 : Nat := 149

def k_impl_isSign : Nat := 150

def k_spec_l8Numbers : Nat := 153

def k_spec_l8Least : Nat := 154

def k_spec_l8Most : Nat := 155

def k_laws_szTree : Nat := 168

def k_spec_NameOk : Nat := 169

def k_spec_l9Has : Nat := 170

def k_spec_l6Value : Nat := 171

def k_spec_AddInt : Nat := 172

def k_spec_FloorDiv : Nat := 173

def k_spec_l17Copy : Nat := 174

def k_spec_TreeOk : Nat := 175

def k_laws_toTree : Nat := 176

def k_impl_areNames : Nat := 177

def k_impl_areDecimals : Nat := 178

def k_slices_ContainsFunc_____int___int_ : Nat := 179

def k_impl_TableOk_1 : Nat := 180

def k_impl_AddInt : Nat := 181

def k_impl_FloorDiv : Nat := 182

def k_impl_copyTree : Nat := 183

def k_impl_ModelOk_1 : Nat := 184

def k_impl_isDecimal : Nat := 185

def k_slices_ContainsFunc___impl_Tree_impl_Tree_ : Nat := 186

def k_impl_ModelOk_2 : Nat := 187

def k_impl_TreeOk : Nat := 188

def k_laws_markText : Nat := 189

def k_laws_eqNode : Nat := 212

def k_slices_IndexFunc___int_int_ : Nat := 215

def k_laws_szNodeS : Nat := 230

def k_spec_l17Shape : Nat := 231

def k_spec_DepthOf : Nat := 232

def k_spec_l17Ways : Nat := 233

def k_laws_toNodeS : Nat := 234

def k_impl_NameOk : Nat := 235

def k_slices_Contains___string_string_ : Nat := 236

def k_impl_areDecimals_1 : Nat := 237

def k_slices_IndexFunc_____int___int_ : Nat := 238

def k_slices_Clone___impl_Node_impl_Node_ : Nat := 239

def k_slices_IndexFunc___impl_Tree_impl_Tree_ : Nat := 240

def k_impl_shapeOk : Nat := 241

def k_impl_isLeaf : Nat := 242

def k_impl_LevelOf : Nat := 243

def k_impl_wayTo : Nat := 244

def k_spec_l14Leaf : Nat := 253

def k_impl_isLeafValue : Nat := 254

def k_spec_l17Inner : Nat := 262

def k_spec_l1Max : Nat := 263

def k_spec_LevelOf : Nat := 264

def k_spec_l17Up : Nat := 265

def k_laws_toNode : Nat := 266

def k_slices_Index___string_string_ : Nat := 267

def k_impl_parent : Nat := 268

def k_slices_Reverse___int_int_ : Nat := 269

def k_slices_IndexFunc___impl_Node_impl_Node_ : Nat := 274

def k_impl_parent_1 : Nat := 275

def k_laws_FnExactModelFrom_vars : List Nat := [0, 1, 2, 3, 7, 4, 5, 10, 11, 12, 13, 8, 14, 9, 15, 16, 17, 18, 19, 6]

def k_laws_FnExactModelFrom_ic : IC := .seq (.reg [oV 3 (.box (.V 0)), oV 4 (.box (.V 1)), oV 5 (.box (.V 2)), oV 6 (.mv (kb false))]) (.seq (.reg [oV 7 (.mv (ki 1048576))]) (.seq (.reg [oE 20 (.load true 4 (.V 3)), oE 21 (.mv (.V 7)), oE 22 (.call k_laws_szTable [([1, 0, 1, 1], (.E 20)), ([0], (.E 21))]), oV 7 (.mv (.E 22))]) (.seq (.seq (.reg [oE 23 (.mv (.V 7)), oE 24 (.bin .lss (.E 23) (ki 0))]) (.cond (.E 24) (.seq (.reg [oV 6 (.mv (kb true))]) .ret) .skip)) (.seq (.reg [oE 25 (.load true 8 (.V 4)), oE 26 (.mv (.V 7)), oE 27 (.call k_laws_szConfig [([0, 0, 0, 0, 0, 0, 0, 1], (.E 25)), ([0], (.E 26))]), oV 7 (.mv (.E 27))]) (.seq (.seq (.reg [oE 28 (.mv (.V 7)), oE 29 (.bin .lss (.E 28) (ki 0))]) (.cond (.E 29) (.seq (.reg [oV 6 (.mv (kb true))]) .ret) .skip)) (.seq (.reg [oE 30 (.load true 2 (.V 5)), oE 31 (.mv (.V 7)), oE 32 (.call k_laws_szState [([1, 1], (.E 30)), ([0], (.E 31))]), oV 7 (.mv (.E 32))]) (.seq (.seq (.reg [oE 33 (.mv (.V 7)), oE 34 (.bin .lss (.E 33) (ki 0))]) (.cond (.E 34) (.seq (.reg [oV 6 (.mv (kb true))]) .ret) .skip)) (.seq (.regD [(oE 36 (.load true 4 (.V 3)), 0, 0), (oE 37 (.call k_laws_toTable [([1, 0, 1, 1], (.E 36))]), 0, 0), (oE 38 (.load true 8 (.V 4)), 1, 0), (oE 39 (.call k_laws_toConfig [([0, 0, 0, 0, 0, 0, 0, 1], (.E 38))]), 0, 0), (oE 40 (.load true 2 (.V 5)), 2, 0), (oE 41 (.call k_laws_toState [([1, 1], (.E 40))]), 0, 0), (oE 42 (.call k_spec_ModelFrom [([1, 0, 1, 1], (.E 37)), ([0, 0, 0, 0, 0, 0, 0, 1], (.E 39)), ([1, 1], (.E 41))]), 0, 0), (oE 35 (.mv (.E 42)), 0, 0), (oE 43 (.ext 0 (.E 35)), 0, 0), (oE 44 (.ext 1 (.E 35)), 0, 0), (oV 8 (.allocL [.e0, .e0, iv 0, .e0]), 0, 0), (oN (.store [1, 1, 0, 1] (.V 8) (.E 43)), 0, 0), (oV 9 (.mv (.E 44)), 0, 0)]) (.seq (.reg [oE 45 (.load true 4 (.V 3)), oE 46 (.call k_laws_toTable [([1, 0, 1, 1], (.E 45))]), oV 10 (.alloc [.e0, (.v (.string (bs []))), .e0, .e0]), oN (.store [1, 0, 1, 1] (.V 10) (.E 46))]) (.seq (.reg [oE 47 (.load true 8 (.V 4)), oE 48 (.call k_laws_toConfig [([0, 0, 0, 0, 0, 0, 0, 1], (.E 47))]), oV 11 (.alloc [iv 0, iv 0, iv 0, iv 0, iv 0, iv 0, iv 0, .e0]), oN (.store [0, 0, 0, 0, 0, 0, 0, 1] (.V 11) (.E 48))]) (.seq (.reg [oE 49 (.load true 2 (.V 5)), oE 50 (.call k_laws_toState [([1, 1], (.E 49))]), oV 12 (.alloc [.e0, .e0]), oN (.store [1, 1] (.V 12) (.E 50))]) (.seq (.reg [oE 52 (.load true 4 (.V 10)), oE 53 (.load true 8 (.V 11)), oE 54 (.load true 2 (.V 12)), oE 55 (.call k_impl_ModelFrom [([1, 0, 1, 1], (.E 52)), ([0, 0, 0, 0, 0, 0, 0, 1], (.E 53)), ([1, 1], (.E 54))]), oE 51 (.mv (.E 55)), oE 56 (.ext 0 (.E 51)), oE 57 (.ext 1 (.E 51)), oV 13 (.alloc [.e0, .e0, iv 0, .e0]), oN (.store [1, 1, 0, 1] (.V 13) (.E 56)), oV 14 (.mv (.E 57))]) (.seq (.seq (.reg [oE 58 (.load true 4 (.V 13)), oE 59 (.load true 4 (.V 8)), oE 60 (.call k_laws_eqModel [([1, 1, 0, 1], (.E 58)), ([1, 1, 0, 1], (.E 59))]), oE 61 (.un .not (.E 60)), oE 62 (.mv (.E 61)), ⟨(some (.E 63)), .mv (.V 14), some ((.E 62), false)⟩, ⟨(some (.E 64)), .mv (.V 9), some ((.E 62), false)⟩, ⟨(some (.E 65)), .eqb true [.b] (.E 63) (.E 64), some ((.E 62), false)⟩, oE 66 (.pick (.E 62) (kb true) (.E 65))]) (.cond (.E 66) (.seq (.reg [oV 6 (.mv (kb false))]) .ret) .skip)) (.seq (.seq (.regD [(oE 67 (.load true 4 (.V 10)), 0, 1), (oE 68 (.load true 4 (.V 3)), 0, 0), (oE 69 (.call k_laws_toTable [([1, 0, 1, 1], (.E 68))]), 0, 0), (oE 70 (.call k_laws_eqTable [([1, 0, 1, 1], (.E 67)), ([1, 0, 1, 1], (.E 69))]), 0, 0), (oE 71 (.un .not (.E 70)), 0, 0)]) (.cond (.E 71) (.seq (.reg [oV 6 (.mv (kb false))]) .ret) .skip)) (.seq (.seq (.regD [(oE 72 (.load true 8 (.V 11)), 0, 1), (oE 73 (.load true 8 (.V 4)), 0, 0), (oE 74 (.call k_laws_toConfig [([0, 0, 0, 0, 0, 0, 0, 1], (.E 73))]), 0, 0), (oE 75 (.call k_laws_eqConfig [([0, 0, 0, 0, 0, 0, 0, 1], (.E 72)), ([0, 0, 0, 0, 0, 0, 0, 1], (.E 74))]), 0, 0), (oE 76 (.un .not (.E 75)), 0, 0)]) (.cond (.E 76) (.seq (.reg [oV 6 (.mv (kb false))]) .ret) .skip)) (.seq (.seq (.regD [(oE 77 (.load true 2 (.V 12)), 0, 1), (oE 78 (.load true 2 (.V 5)), 0, 0), (oE 79 (.call k_laws_toState [([1, 1], (.E 78))]), 0, 0), (oE 80 (.call k_laws_eqState [([1, 1], (.E 77)), ([1, 1], (.E 79))]), 0, 0), (oE 81 (.un .not (.E 80)), 0, 0)]) (.cond (.E 81) (.seq (.reg [oV 6 (.mv (kb false))]) .ret) .skip)) (.seq (.reg [oV 15 (.mv (ki 1))]) (.seq (.reg [oE 82 (.load true 4 (.V 10)), oE 83 (.mv (.V 15)), oE 84 (.call k_laws_markTable [([1, 0, 1, 1], (.E 82)), ([0], (.E 83))]), oV 15 (.mv (.E 84))]) (.seq (.reg [oE 85 (.load true 8 (.V 11)), oE 86 (.mv (.V 15)), oE 87 (.call k_laws_markConfig [([0, 0, 0, 0, 0, 0, 0, 1], (.E 85)), ([0], (.E 86))]), oV 15 (.mv (.E 87))]) (.seq (.reg [oE 88 (.load true 2 (.V 12)), oE 89 (.mv (.V 15)), oE 90 (.call k_laws_markState [([1, 1], (.E 88)), ([0], (.E 89))]), oV 15 (.mv (.E 90))]) (.seq (.seq (.reg [oE 91 (.mv (.V 15)), oE 92 (.bin .lss (.E 91) (ki 0)), oE 93 (.mv (.E 92)), ⟨(some (.E 94)), .load true 4 (.V 13), some ((.E 93), false)⟩, ⟨(some (.E 95)), .load true 4 (.V 8), some ((.E 93), false)⟩, ⟨(some (.E 96)), .call k_laws_eqModel [([1, 1, 0, 1], (.E 94)), ([1, 1, 0, 1], (.E 95))], some ((.E 93), false)⟩, ⟨(some (.E 97)), .un .not (.E 96), some ((.E 93), false)⟩, oE 98 (.pick (.E 93) (kb true) (.E 97)), oE 99 (.mv (.E 98)), ⟨(some (.E 100)), .mv (.V 14), some ((.E 99), false)⟩, ⟨(some (.E 101)), .mv (.V 9), some ((.E 99), false)⟩, ⟨(some (.E 102)), .eqb true [.b] (.E 100) (.E 101), some ((.E 99), false)⟩, oE 103 (.pick (.E 99) (kb true) (.E 102))]) (.cond (.E 103) (.seq (.reg [oV 6 (.mv (kb false))]) .ret) .skip)) (.seq (.reg [oV 16 (.mv (ki 1))]) (.seq (.reg [oE 104 (.load true 4 (.V 13)), oE 105 (.mv (.V 16)), oE 106 (.call k_laws_markModel [([1, 1, 0, 1], (.E 104)), ([0], (.E 105))]), oV 16 (.mv (.E 106))]) (.seq (.reg [oV 17 (.mv (ki 1))]) (.seq (.reg [oE 107 (.load true 4 (.V 13)), oE 108 (.mv (.V 17)), oE 109 (.call k_laws_heldModel [([1, 1, 0, 1], (.E 107)), ([0], (.E 108))]), oV 17 (.mv (.E 109))]) (.seq (.seq (.reg [oE 110 (.mv (.V 17)), oE 111 (.bin .lss (.E 110) (ki 0))]) (.cond (.E 111) (.seq (.reg [oV 6 (.mv (kb false))]) .ret) .skip)) (.seq (.seq (.reg [oE 112 (.mv (.V 17)), oE 113 (.mv (.V 16)), oE 114 (.bin .neq (.E 112) (.E 113))]) (.cond (.E 114) (.seq (.reg [oV 6 (.mv (kb false))]) .ret) .skip)) (.seq (.regD [(oE 116 (.load true 4 (.V 3)), 0, 0), (oE 117 (.call k_laws_toTable [([1, 0, 1, 1], (.E 116))]), 0, 0), (oE 118 (.load true 8 (.V 4)), 1, 0), (oE 119 (.call k_laws_toConfig [([0, 0, 0, 0, 0, 0, 0, 1], (.E 118))]), 0, 0), (oE 120 (.load true 2 (.V 5)), 2, 0), (oE 121 (.call k_laws_toState [([1, 1], (.E 120))]), 0, 0), (oE 122 (.call k_impl_ModelFrom [([1, 0, 1, 1], (.E 117)), ([0, 0, 0, 0, 0, 0, 0, 1], (.E 119)), ([1, 1], (.E 121))]), 0, 0), (oE 115 (.mv (.E 122)), 0, 0), (oE 123 (.ext 0 (.E 115)), 0, 0), (oE 124 (.ext 1 (.E 115)), 0, 0), (oV 18 (.allocL [.e0, .e0, iv 0, .e0]), 0, 0), (oN (.store [1, 1, 0, 1] (.V 18) (.E 123)), 0, 0), (oV 19 (.mv (.E 124)), 0, 0)]) (.seq (.seq (.reg [oE 125 (.load true 4 (.V 18)), oE 126 (.load true 4 (.V 8)), oE 127 (.call k_laws_eqModel [([1, 1, 0, 1], (.E 125)), ([1, 1, 0, 1], (.E 126))]), oE 128 (.un .not (.E 127)), oE 129 (.mv (.E 128)), ⟨(some (.E 130)), .mv (.V 19), some ((.E 129), false)⟩, ⟨(some (.E 131)), .mv (.V 9), some ((.E 129), false)⟩, ⟨(some (.E 132)), .eqb true [.b] (.E 130) (.E 131), some ((.E 129), false)⟩, oE 133 (.pick (.E 129) (kb true) (.E 132))]) (.cond (.E 133) (.seq (.reg [oV 6 (.mv (kb false))]) .ret) .skip)) (.seq (.reg [oV 17 (.mv (ki 1))]) (.seq (.reg [oE 134 (.load true 4 (.V 13)), oE 135 (.mv (.V 17)), oE 136 (.call k_laws_heldModel [([1, 1, 0, 1], (.E 134)), ([0], (.E 135))]), oV 17 (.mv (.E 136))]) (.seq (.seq (.reg [oE 137 (.mv (.V 17)), oE 138 (.bin .lss (.E 137) (ki 0))]) (.cond (.E 138) (.seq (.reg [oV 6 (.mv (kb false))]) .ret) .skip)) (.seq (.seq (.reg [oE 139 (.mv (.V 17)), oE 140 (.mv (.V 16)), oE 141 (.bin .neq (.E 139) (.E 140))]) (.cond (.E 141) (.seq (.reg [oV 6 (.mv (kb false))]) .ret) .skip)) (.seq (.reg [oV 6 (.mv (kb true))]) .ret))))))))))))))))))))))))))))))))))

def k_laws_FnExactModelFrom_rv : List RV := [.tmp [0] 6]

def k_laws_szTable_vars : List Nat := [0, 1, 2, 4]

def k_laws_szTable_ic : IC := .seq (.reg [oV 2 (.box (.V 0)), oV 4 (.mv (ki 0))]) (.seq (.reg [oE 5 (.faddr 0 (.V 2)), oE 6 (.load false 1 (.E 5)), oE 7 (.mv (.V 1)), oE 8 (.call k_laws_szStringS [([1], (.E 6)), ([0], (.E 7))]), oV 1 (.mv (.E 8))]) (.seq (.seq (.reg [oE 9 (.mv (.V 1)), oE 10 (.bin .lss (.E 9) (ki 0))]) (.cond (.E 10) (.seq (.reg [oV 4 (.mv (ki (-1)))]) .ret) .skip)) (.seq (.reg [oE 11 (.mv (.V 1)), oE 12 (.faddr 1 (.V 2)), oE 13 (.load false 1 (.E 12)), oE 14 (.lenS (.E 13)), oE 15 (.bin .sub (.E 11) (.E 14)), oV 1 (.mv (.E 15))]) (.seq (.seq (.reg [oE 16 (.mv (.V 1)), oE 17 (.bin .lss (.E 16) (ki 0))]) (.cond (.E 17) (.seq (.reg [oV 4 (.mv (ki (-1)))]) .ret) .skip)) (.seq (.reg [oE 18 (.faddr 2 (.V 2)), oE 19 (.load false 1 (.E 18)), oE 20 (.mv (.V 1)), oE 21 (.call k_laws_szIntSS [([1], (.E 19)), ([0], (.E 20))]), oV 1 (.mv (.E 21))]) (.seq (.seq (.reg [oE 22 (.mv (.V 1)), oE 23 (.bin .lss (.E 22) (ki 0))]) (.cond (.E 23) (.seq (.reg [oV 4 (.mv (ki (-1)))]) .ret) .skip)) (.seq (.reg [oE 24 (.faddr 3 (.V 2)), oE 25 (.load false 1 (.E 24)), oE 26 (.mv (.V 1)), oE 27 (.call k_laws_szIntS [([1], (.E 25)), ([0], (.E 26))]), oV 1 (.mv (.E 27))]) (.seq (.seq (.reg [oE 28 (.mv (.V 1)), oE 29 (.bin .lss (.E 28) (ki 0))]) (.cond (.E 29) (.seq (.reg [oV 4 (.mv (ki (-1)))]) .ret) .skip)) (.seq (.reg [oE 30 (.mv (.V 1)), oV 4 (.mv (.E 30))]) .ret)))))))))

def k_laws_szTable_rv : List RV := [.tmp [0] 4]

def k_laws_szConfig_vars : List Nat := [0, 1, 2, 4]

def k_laws_szConfig_ic : IC := .seq (.reg [oV 2 (.box (.V 0)), oV 4 (.mv (ki 0))]) (.seq (.reg [oE 5 (.faddr 7 (.V 2)), oE 6 (.load false 1 (.E 5)), oE 7 (.mv (.V 1)), oE 8 (.call k_laws_szIntS [([1], (.E 6)), ([0], (.E 7))]), oV 1 (.mv (.E 8))]) (.seq (.seq (.reg [oE 9 (.mv (.V 1)), oE 10 (.bin .lss (.E 9) (ki 0))]) (.cond (.E 10) (.seq (.reg [oV 4 (.mv (ki (-1)))]) .ret) .skip)) (.seq (.reg [oE 11 (.mv (.V 1)), oV 4 (.mv (.E 11))]) .ret)))

def k_laws_szConfig_rv : List RV := [.tmp [0] 4]

def k_laws_szState_vars : List Nat := [0, 1, 2, 4]

def k_laws_szState_ic : IC := .seq (.reg [oV 2 (.box (.V 0)), oV 4 (.mv (ki 0))]) (.seq (.reg [oE 5 (.faddr 0 (.V 2)), oE 6 (.load false 1 (.E 5)), oE 7 (.mv (.V 1)), oE 8 (.call k_laws_szIntS [([1], (.E 6)), ([0], (.E 7))]), oV 1 (.mv (.E 8))]) (.seq (.seq (.reg [oE 9 (.mv (.V 1)), oE 10 (.bin .lss (.E 9) (ki 0))]) (.cond (.E 10) (.seq (.reg [oV 4 (.mv (ki (-1)))]) .ret) .skip)) (.seq (.reg [oE 11 (.faddr 1 (.V 2)), oE 12 (.load false 1 (.E 11)), oE 13 (.mv (.V 1)), oE 14 (.call k_laws_szTreeS [([1], (.E 12)), ([0], (.E 13))]), oV 1 (.mv (.E 14))]) (.seq (.seq (.reg [oE 15 (.mv (.V 1)), oE 16 (.bin .lss (.E 15) (ki 0))]) (.cond (.E 16) (.seq (.reg [oV 4 (.mv (ki (-1)))]) .ret) .skip)) (.seq (.reg [oE 17 (.mv (.V 1)), oV 4 (.mv (.E 17))]) .ret)))))

def k_laws_szState_rv : List RV := [.tmp [0] 4]

def k_spec_ModelFrom_vars : List Nat := [0, 1, 2, 3, 4, 6, 8, 5, 10, 7]

def k_spec_ModelFrom_ic : IC := .seq (.reg [oV 3 (.box (.V 0)), oV 4 (.box (.V 1)), oV 5 (.box (.V 2)), oV 6 (.alloc [.e0, .e0, iv 0, .e0]), oV 7 (.mv (kb false))]) (.seq (.seq (.reg [oE 11 (.load true 4 (.V 3)), oE 12 (.call k_spec_TableOk [([1, 0, 1, 1], (.E 11))]), oE 13 (.un .not (.E 12)), oE 14 (.mv (.E 13)), ⟨(some (.E 15)), .load true 8 (.V 4), some ((.E 14), false)⟩, ⟨(some (.E 16)), .call k_spec_ConfigOk [([0, 0, 0, 0, 0, 0, 0, 1], (.E 15))], some ((.E 14), false)⟩, ⟨(some (.E 17)), .un .not (.E 16), some ((.E 14), false)⟩, oE 18 (.pick (.E 14) (kb true) (.E 17))]) (.cond (.E 18) (.seq (.reg [oE 19 (.build [.e0, .e0, iv 0, .e0] []), oN (.store [1, 1, 0, 1] (.V 6) (.E 19)), oV 7 (.mv (kb false))]) .ret) .skip)) (.seq (.reg [oE 21 (.faddr 3 (.V 3)), oE 22 (.load false 1 (.E 21)), oE 23 (.call k_spec_BaseOf [([1], (.E 22))]), oE 20 (.mv (.E 23)), oE 24 (.ext 0 (.E 20)), oE 25 (.ext 1 (.E 20)), oV 8 (.mv (.E 24)), oE 9 (.mv (.E 25))]) (.seq (.regD [(oE 26 (.bslice 0 1 [(.v (.string (bs [])))] []), 0, 0), (oE 27 (.faddr 0 (.V 3)), 1, 0), (oE 28 (.load false 1 (.E 27)), 1, 0), (oE 29 (.app 16 1 (.E 26) (.E 28)), 0, 0), (oE 30 (.bsliceL 0 1 [iv 0] []), 0, 0), (oE 31 (.faddr 7 (.V 4)), 3, 0), (oE 32 (.load false 1 (.E 31)), 3, 0), (oE 33 (.app 8 1 (.E 30) (.E 32)), 0, 0), (oE 34 (.mv (.V 8)), 0, 0), (oE 35 (.faddr 1 (.V 5)), 4, 0), (oE 36 (.load false 1 (.E 35)), 4, 0), (oE 37 (.call k_spec_l22Trees [([1], (.E 36))]), 0, 0), (oE 38 (.build [.e0, .e0, iv 0, .e0] [(0, 1, (.E 29)), (1, 1, (.E 33)), (2, 1, (.E 34)), (3, 1, (.E 37))]), 0, 0), (oV 10 (.allocL [.e0, .e0, iv 0, .e0]), 0, 0), (oN (.store [1, 1, 0, 1] (.V 10) (.E 38)), 0, 0)]) (.seq (.seq (.reg [oE 39 (.load true 4 (.V 10)), oE 40 (.call k_spec_ModelOk [([1, 1, 0, 1], (.E 39))]), oE 41 (.un .not (.E 40))]) (.cond (.E 41) (.seq (.reg [oE 42 (.build [.e0, .e0, iv 0, .e0] []), oN (.store [1, 1, 0, 1] (.V 6) (.E 42)), oV 7 (.mv (kb false))]) .ret) .skip)) (.seq (.reg [oE 43 (.load true 4 (.V 10)), oN (.store [1, 1, 0, 1] (.V 6) (.E 43)), oV 7 (.mv (kb true))]) .ret)))))

def k_spec_ModelFrom_rv : List RV := [.cell [1, 1, 0, 1] 6 true, .tmp [0] 7]

def k_laws_toTable_vars : List Nat := [0, 1, 3, 2]

def k_laws_toTable_ic : IC := .seq (.reg [oV 1 (.box (.V 0)), oV 2 (.alloc [.e0, (.v (.string (bs []))), .e0, .e0])]) (.seq (.reg [oV 3 (.alloc [.e0, (.v (.string (bs []))), .e0, .e0])]) (.seq (.reg [oE 4 (.faddr 0 (.V 1)), oE 5 (.load false 1 (.E 4)), oE 6 (.call k_laws_toStringS [([1], (.E 5))]), oE 7 (.faddr 0 (.V 3)), oN (.store [1] (.E 7) (.E 6))]) (.seq (.reg [oE 8 (.faddr 1 (.V 1)), oE 9 (.load false 1 (.E 8)), oE 10 (.faddr 1 (.V 3)), oN (.store [0] (.E 10) (.E 9))]) (.seq (.reg [oE 11 (.faddr 2 (.V 1)), oE 12 (.load false 1 (.E 11)), oE 13 (.call k_laws_toIntSS [([1], (.E 12))]), oE 14 (.faddr 2 (.V 3)), oN (.store [1] (.E 14) (.E 13))]) (.seq (.reg [oE 15 (.faddr 3 (.V 1)), oE 16 (.load false 1 (.E 15)), oE 17 (.call k_laws_toIntS [([1], (.E 16))]), oE 18 (.faddr 3 (.V 3)), oN (.store [1] (.E 18) (.E 17))]) (.seq (.reg [oE 19 (.load true 4 (.V 3)), oN (.store [1, 0, 1, 1] (.V 2) (.E 19))]) .ret))))))

def k_laws_toTable_rv : List RV := [.cell [1, 0, 1, 1] 2 true]

def k_laws_toConfig_vars : List Nat := [0, 1, 3, 2]

def k_laws_toConfig_ic : IC := .seq (.reg [oV 1 (.box (.V 0)), oV 2 (.alloc [iv 0, iv 0, iv 0, iv 0, iv 0, iv 0, iv 0, .e0])]) (.seq (.reg [oV 3 (.alloc [iv 0, iv 0, iv 0, iv 0, iv 0, iv 0, iv 0, .e0])]) (.seq (.reg [oE 4 (.faddr 0 (.V 1)), oE 5 (.load false 1 (.E 4)), oE 6 (.faddr 0 (.V 3)), oN (.store [0] (.E 6) (.E 5))]) (.seq (.reg [oE 7 (.faddr 1 (.V 1)), oE 8 (.load false 1 (.E 7)), oE 9 (.faddr 1 (.V 3)), oN (.store [0] (.E 9) (.E 8))]) (.seq (.reg [oE 10 (.faddr 2 (.V 1)), oE 11 (.load false 1 (.E 10)), oE 12 (.faddr 2 (.V 3)), oN (.store [0] (.E 12) (.E 11))]) (.seq (.reg [oE 13 (.faddr 3 (.V 1)), oE 14 (.load false 1 (.E 13)), oE 15 (.faddr 3 (.V 3)), oN (.store [0] (.E 15) (.E 14))]) (.seq (.reg [oE 16 (.faddr 4 (.V 1)), oE 17 (.load false 1 (.E 16)), oE 18 (.faddr 4 (.V 3)), oN (.store [0] (.E 18) (.E 17))]) (.seq (.reg [oE 19 (.faddr 5 (.V 1)), oE 20 (.load false 1 (.E 19)), oE 21 (.faddr 5 (.V 3)), oN (.store [0] (.E 21) (.E 20))]) (.seq (.reg [oE 22 (.faddr 6 (.V 1)), oE 23 (.load false 1 (.E 22)), oE 24 (.faddr 6 (.V 3)), oN (.store [0] (.E 24) (.E 23))]) (.seq (.reg [oE 25 (.faddr 7 (.V 1)), oE 26 (.load false 1 (.E 25)), oE 27 (.call k_laws_toIntS [([1], (.E 26))]), oE 28 (.faddr 7 (.V 3)), oN (.store [1] (.E 28) (.E 27))]) (.seq (.reg [oE 29 (.load true 8 (.V 3)), oN (.store [0, 0, 0, 0, 0, 0, 0, 1] (.V 2) (.E 29))]) .ret))))))))))

def k_laws_toConfig_rv : List RV := [.cell [0, 0, 0, 0, 0, 0, 0, 1] 2 true]

def k_laws_toState_vars : List Nat := [0, 1, 3, 2]

def k_laws_toState_ic : IC := .seq (.reg [oV 1 (.box (.V 0)), oV 2 (.alloc [.e0, .e0])]) (.seq (.reg [oV 3 (.alloc [.e0, .e0])]) (.seq (.reg [oE 4 (.faddr 0 (.V 1)), oE 5 (.load false 1 (.E 4)), oE 6 (.call k_laws_toIntS [([1], (.E 5))]), oE 7 (.faddr 0 (.V 3)), oN (.store [1] (.E 7) (.E 6))]) (.seq (.reg [oE 8 (.faddr 1 (.V 1)), oE 9 (.load false 1 (.E 8)), oE 10 (.call k_laws_toTreeS [([1], (.E 9))]), oE 11 (.faddr 1 (.V 3)), oN (.store [1] (.E 11) (.E 10))]) (.seq (.reg [oE 12 (.load true 2 (.V 3)), oN (.store [1, 1] (.V 2) (.E 12))]) .ret))))

def k_laws_toState_rv : List RV := [.cell [1, 1] 2 true]

def k_impl_ModelFrom_vars : List Nat := [0, 1, 2, 3, 4, 6, 8, 5, 10, 7]

def k_impl_ModelFrom_ic : IC := .seq (.reg [oV 3 (.box (.V 0)), oV 4 (.box (.V 1)), oV 5 (.box (.V 2)), oV 6 (.alloc [.e0, .e0, iv 0, .e0]), oV 7 (.mv (kb false))]) (.seq (.seq (.reg [oE 11 (.load true 4 (.V 3)), oE 12 (.call k_impl_TableOk [([1, 0, 1, 1], (.E 11))]), oE 13 (.un .not (.E 12)), oE 14 (.mv (.E 13)), ⟨(some (.E 15)), .load true 8 (.V 4), some ((.E 14), false)⟩, ⟨(some (.E 16)), .call k_impl_ConfigOk [([0, 0, 0, 0, 0, 0, 0, 1], (.E 15))], some ((.E 14), false)⟩, ⟨(some (.E 17)), .un .not (.E 16), some ((.E 14), false)⟩, oE 18 (.pick (.E 14) (kb true) (.E 17))]) (.cond (.E 18) (.seq (.reg [oE 19 (.build [.e0, .e0, iv 0, .e0] []), oN (.store [1, 1, 0, 1] (.V 6) (.E 19)), oV 7 (.mv (kb false))]) .ret) .skip)) (.seq (.reg [oE 21 (.faddr 3 (.V 3)), oE 22 (.load false 1 (.E 21)), oE 23 (.call k_impl_BaseOf [([1], (.E 22))]), oE 20 (.mv (.E 23)), oE 24 (.ext 0 (.E 20)), oE 25 (.ext 1 (.E 20)), oV 8 (.mv (.E 24)), oE 9 (.mv (.E 25))]) (.seq (.regD [(oE 26 (.faddr 0 (.V 3)), 0, 0), (oE 27 (.load false 1 (.E 26)), 0, 0), (oE 28 (.call k_slices_Clone___string_string_ [([1], (.E 27))]), 0, 0), (oE 29 (.faddr 7 (.V 4)), 1, 0), (oE 30 (.load false 1 (.E 29)), 1, 0), (oE 31 (.call k_slices_Clone___int_int_ [([1], (.E 30))]), 0, 0), (oE 32 (.mv (.V 8)), 0, 0), (oE 33 (.faddr 1 (.V 5)), 2, 0), (oE 34 (.load false 1 (.E 33)), 2, 0), (oE 35 (.call k_impl_copyTrees [([1], (.E 34))]), 0, 0), (oE 36 (.build [.e0, .e0, iv 0, .e0] [(0, 1, (.E 28)), (1, 1, (.E 31)), (2, 1, (.E 32)), (3, 1, (.E 35))]), 0, 0), (oV 10 (.allocL [.e0, .e0, iv 0, .e0]), 0, 0), (oN (.store [1, 1, 0, 1] (.V 10) (.E 36)), 0, 0)]) (.seq (.seq (.reg [oE 37 (.load true 4 (.V 10)), oE 38 (.call k_impl_ModelOk [([1, 1, 0, 1], (.E 37))]), oE 39 (.un .not (.E 38))]) (.cond (.E 39) (.seq (.reg [oE 40 (.build [.e0, .e0, iv 0, .e0] []), oN (.store [1, 1, 0, 1] (.V 6) (.E 40)), oV 7 (.mv (kb false))]) .ret) .skip)) (.seq (.reg [oE 41 (.load true 4 (.V 10)), oN (.store [1, 1, 0, 1] (.V 6) (.E 41)), oV 7 (.mv (kb true))]) .ret)))))

def k_impl_ModelFrom_rv : List RV := [.cell [1, 1, 0, 1] 6 true, .tmp [0] 7]

def k_laws_eqModel_vars : List Nat := [0, 1, 2, 3, 4]

def k_laws_eqModel_ic : IC := .seq (.reg [oV 2 (.box (.V 0)), oV 3 (.box (.V 1)), oV 4 (.mv (kb false))]) (.seq (.seq (.reg [oE 5 (.faddr 0 (.V 2)), oE 6 (.load false 1 (.E 5)), oE 7 (.faddr 0 (.V 3)), oE 8 (.load false 1 (.E 7)), oE 9 (.call k_laws_eqStringS [([1], (.E 6)), ([1], (.E 8))]), oE 10 (.un .not (.E 9))]) (.cond (.E 10) (.seq (.reg [oV 4 (.mv (kb false))]) .ret) .skip)) (.seq (.seq (.reg [oE 11 (.faddr 1 (.V 2)), oE 12 (.load false 1 (.E 11)), oE 13 (.faddr 1 (.V 3)), oE 14 (.load false 1 (.E 13)), oE 15 (.call k_laws_eqIntS [([1], (.E 12)), ([1], (.E 14))]), oE 16 (.un .not (.E 15))]) (.cond (.E 16) (.seq (.reg [oV 4 (.mv (kb false))]) .ret) .skip)) (.seq (.seq (.reg [oE 17 (.faddr 2 (.V 2)), oE 18 (.load false 1 (.E 17)), oE 19 (.faddr 2 (.V 3)), oE 20 (.load false 1 (.E 19)), oE 21 (.bin .neq (.E 18) (.E 20))]) (.cond (.E 21) (.seq (.reg [oV 4 (.mv (kb false))]) .ret) .skip)) (.seq (.seq (.reg [oE 22 (.faddr 3 (.V 2)), oE 23 (.load false 1 (.E 22)), oE 24 (.faddr 3 (.V 3)), oE 25 (.load false 1 (.E 24)), oE 26 (.call k_laws_eqTreeS [([1], (.E 23)), ([1], (.E 25))]), oE 27 (.un .not (.E 26))]) (.cond (.E 27) (.seq (.reg [oV 4 (.mv (kb false))]) .ret) .skip)) (.seq (.reg [oV 4 (.mv (kb true))]) .ret)))))

def k_laws_eqModel_rv : List RV := [.tmp [0] 4]

def k_laws_eqTable_vars : List Nat := [0, 1, 2, 3, 4]

def k_laws_eqTable_ic : IC := .seq (.reg [oV 2 (.box (.V 0)), oV 3 (.box (.V 1)), oV 4 (.mv (kb false))]) (.seq (.seq (.reg [oE 5 (.faddr 0 (.V 2)), oE 6 (.load false 1 (.E 5)), oE 7 (.faddr 0 (.V 3)), oE 8 (.load false 1 (.E 7)), oE 9 (.call k_laws_eqStringS [([1], (.E 6)), ([1], (.E 8))]), oE 10 (.un .not (.E 9))]) (.cond (.E 10) (.seq (.reg [oV 4 (.mv (kb false))]) .ret) .skip)) (.seq (.seq (.reg [oE 11 (.faddr 1 (.V 2)), oE 12 (.load false 1 (.E 11)), oE 13 (.faddr 1 (.V 3)), oE 14 (.load false 1 (.E 13)), oE 15 (.bin .neq (.E 12) (.E 14))]) (.cond (.E 15) (.seq (.reg [oV 4 (.mv (kb false))]) .ret) .skip)) (.seq (.seq (.reg [oE 16 (.faddr 2 (.V 2)), oE 17 (.load false 1 (.E 16)), oE 18 (.faddr 2 (.V 3)), oE 19 (.load false 1 (.E 18)), oE 20 (.call k_laws_eqIntSS [([1], (.E 17)), ([1], (.E 19))]), oE 21 (.un .not (.E 20))]) (.cond (.E 21) (.seq (.reg [oV 4 (.mv (kb false))]) .ret) .skip)) (.seq (.seq (.reg [oE 22 (.faddr 3 (.V 2)), oE 23 (.load false 1 (.E 22)), oE 24 (.faddr 3 (.V 3)), oE 25 (.load false 1 (.E 24)), oE 26 (.call k_laws_eqIntS [([1], (.E 23)), ([1], (.E 25))]), oE 27 (.un .not (.E 26))]) (.cond (.E 27) (.seq (.reg [oV 4 (.mv (kb false))]) .ret) .skip)) (.seq (.reg [oV 4 (.mv (kb true))]) .ret)))))

def k_laws_eqTable_rv : List RV := [.tmp [0] 4]

def k_laws_eqConfig_vars : List Nat := [0, 1, 2, 3, 4]

def k_laws_eqConfig_ic : IC := .seq (.reg [oV 2 (.box (.V 0)), oV 3 (.box (.V 1)), oV 4 (.mv (kb false))]) (.seq (.seq (.reg [oE 5 (.faddr 0 (.V 2)), oE 6 (.load false 1 (.E 5)), oE 7 (.faddr 0 (.V 3)), oE 8 (.load false 1 (.E 7)), oE 9 (.bin .neq (.E 6) (.E 8))]) (.cond (.E 9) (.seq (.reg [oV 4 (.mv (kb false))]) .ret) .skip)) (.seq (.seq (.reg [oE 10 (.faddr 1 (.V 2)), oE 11 (.load false 1 (.E 10)), oE 12 (.faddr 1 (.V 3)), oE 13 (.load false 1 (.E 12)), oE 14 (.bin .neq (.E 11) (.E 13))]) (.cond (.E 14) (.seq (.reg [oV 4 (.mv (kb false))]) .ret) .skip)) (.seq (.seq (.reg [oE 15 (.faddr 2 (.V 2)), oE 16 (.load false 1 (.E 15)), oE 17 (.faddr 2 (.V 3)), oE 18 (.load false 1 (.E 17)), oE 19 (.bin .neq (.E 16) (.E 18))]) (.cond (.E 19) (.seq (.reg [oV 4 (.mv (kb false))]) .ret) .skip)) (.seq (.seq (.reg [oE 20 (.faddr 3 (.V 2)), oE 21 (.load false 1 (.E 20)), oE 22 (.faddr 3 (.V 3)), oE 23 (.load false 1 (.E 22)), oE 24 (.bin .neq (.E 21) (.E 23))]) (.cond (.E 24) (.seq (.reg [oV 4 (.mv (kb false))]) .ret) .skip)) (.seq (.seq (.reg [oE 25 (.faddr 4 (.V 2)), oE 26 (.load false 1 (.E 25)), oE 27 (.faddr 4 (.V 3)), oE 28 (.load false 1 (.E 27)), oE 29 (.bin .neq (.E 26) (.E 28))]) (.cond (.E 29) (.seq (.reg [oV 4 (.mv (kb false))]) .ret) .skip)) (.seq (.seq (.reg [oE 30 (.faddr 5 (.V 2)), oE 31 (.load false 1 (.E 30)), oE 32 (.faddr 5 (.V 3)), oE 33 (.load false 1 (.E 32)), oE 34 (.bin .neq (.E 31) (.E 33))]) (.cond (.E 34) (.seq (.reg [oV 4 (.mv (kb false))]) .ret) .skip)) (.seq (.seq (.reg [oE 35 (.faddr 6 (.V 2)), oE 36 (.load false 1 (.E 35)), oE 37 (.faddr 6 (.V 3)), oE 38 (.load false 1 (.E 37)), oE 39 (.bin .neq (.E 36) (.E 38))]) (.cond (.E 39) (.seq (.reg [oV 4 (.mv (kb false))]) .ret) .skip)) (.seq (.seq (.reg [oE 40 (.faddr 7 (.V 2)), oE 41 (.load false 1 (.E 40)), oE 42 (.faddr 7 (.V 3)), oE 43 (.load false 1 (.E 42)), oE 44 (.call k_laws_eqIntS [([1], (.E 41)), ([1], (.E 43))]), oE 45 (.un .not (.E 44))]) (.cond (.E 45) (.seq (.reg [oV 4 (.mv (kb false))]) .ret) .skip)) (.seq (.reg [oV 4 (.mv (kb true))]) .ret)))))))))

def k_laws_eqConfig_rv : List RV := [.tmp [0] 4]

def k_laws_eqState_vars : List Nat := [0, 1, 2, 3, 4]

def k_laws_eqState_ic : IC := .seq (.reg [oV 2 (.box (.V 0)), oV 3 (.box (.V 1)), oV 4 (.mv (kb false))]) (.seq (.seq (.reg [oE 5 (.faddr 0 (.V 2)), oE 6 (.load false 1 (.E 5)), oE 7 (.faddr 0 (.V 3)), oE 8 (.load false 1 (.E 7)), oE 9 (.call k_laws_eqIntS [([1], (.E 6)), ([1], (.E 8))]), oE 10 (.un .not (.E 9))]) (.cond (.E 10) (.seq (.reg [oV 4 (.mv (kb false))]) .ret) .skip)) (.seq (.seq (.reg [oE 11 (.faddr 1 (.V 2)), oE 12 (.load false 1 (.E 11)), oE 13 (.faddr 1 (.V 3)), oE 14 (.load false 1 (.E 13)), oE 15 (.call k_laws_eqTreeS [([1], (.E 12)), ([1], (.E 14))]), oE 16 (.un .not (.E 15))]) (.cond (.E 16) (.seq (.reg [oV 4 (.mv (kb false))]) .ret) .skip)) (.seq (.reg [oV 4 (.mv (kb true))]) .ret)))

def k_laws_eqState_rv : List RV := [.tmp [0] 4]

def k_laws_markTable_vars : List Nat := [0, 1, 2, 4]

def k_laws_markTable_ic : IC := .seq (.reg [oV 2 (.box (.V 0)), oV 4 (.mv (ki 0))]) (.seq (.reg [oE 5 (.faddr 0 (.V 2)), oE 6 (.load false 1 (.E 5)), oE 7 (.mv (.V 1)), oE 8 (.call k_laws_markStringS [([1], (.E 6)), ([0], (.E 7))]), oV 1 (.mv (.E 8))]) (.seq (.reg [oE 9 (.faddr 2 (.V 2)), oE 10 (.load false 1 (.E 9)), oE 11 (.mv (.V 1)), oE 12 (.call k_laws_markIntSS [([1], (.E 10)), ([0], (.E 11))]), oV 1 (.mv (.E 12))]) (.seq (.reg [oE 13 (.faddr 3 (.V 2)), oE 14 (.load false 1 (.E 13)), oE 15 (.mv (.V 1)), oE 16 (.call k_laws_markIntS [([1], (.E 14)), ([0], (.E 15))]), oV 1 (.mv (.E 16))]) (.seq (.reg [oE 17 (.mv (.V 1)), oV 4 (.mv (.E 17))]) .ret))))

def k_laws_markTable_rv : List RV := [.tmp [0] 4]

def k_laws_markConfig_vars : List Nat := [0, 1, 2, 4]

def k_laws_markConfig_ic : IC := .seq (.reg [oV 2 (.box (.V 0)), oV 4 (.mv (ki 0))]) (.seq (.reg [oE 5 (.faddr 7 (.V 2)), oE 6 (.load false 1 (.E 5)), oE 7 (.mv (.V 1)), oE 8 (.call k_laws_markIntS [([1], (.E 6)), ([0], (.E 7))]), oV 1 (.mv (.E 8))]) (.seq (.reg [oE 9 (.mv (.V 1)), oV 4 (.mv (.E 9))]) .ret))

def k_laws_markConfig_rv : List RV := [.tmp [0] 4]

def k_laws_markState_vars : List Nat := [0, 1, 2, 4]

def k_laws_markState_ic : IC := .seq (.reg [oV 2 (.box (.V 0)), oV 4 (.mv (ki 0))]) (.seq (.reg [oE 5 (.faddr 0 (.V 2)), oE 6 (.load false 1 (.E 5)), oE 7 (.mv (.V 1)), oE 8 (.call k_laws_markIntS [([1], (.E 6)), ([0], (.E 7))]), oV 1 (.mv (.E 8))]) (.seq (.reg [oE 9 (.faddr 1 (.V 2)), oE 10 (.load false 1 (.E 9)), oE 11 (.mv (.V 1)), oE 12 (.call k_laws_markTreeS [([1], (.E 10)), ([0], (.E 11))]), oV 1 (.mv (.E 12))]) (.seq (.reg [oE 13 (.mv (.V 1)), oV 4 (.mv (.E 13))]) .ret)))

def k_laws_markState_rv : List RV := [.tmp [0] 4]

def k_laws_markModel_vars : List Nat := [0, 1, 2, 4]

def k_laws_markModel_ic : IC := .seq (.reg [oV 2 (.box (.V 0)), oV 4 (.mv (ki 0))]) (.seq (.reg [oE 5 (.faddr 0 (.V 2)), oE 6 (.load false 1 (.E 5)), oE 7 (.mv (.V 1)), oE 8 (.call k_laws_markStringS [([1], (.E 6)), ([0], (.E 7))]), oV 1 (.mv (.E 8))]) (.seq (.reg [oE 9 (.faddr 1 (.V 2)), oE 10 (.load false 1 (.E 9)), oE 11 (.mv (.V 1)), oE 12 (.call k_laws_markIntS [([1], (.E 10)), ([0], (.E 11))]), oV 1 (.mv (.E 12))]) (.seq (.reg [oE 13 (.faddr 3 (.V 2)), oE 14 (.load false 1 (.E 13)), oE 15 (.mv (.V 1)), oE 16 (.call k_laws_markTreeS [([1], (.E 14)), ([0], (.E 15))]), oV 1 (.mv (.E 16))]) (.seq (.reg [oE 17 (.mv (.V 1)), oV 4 (.mv (.E 17))]) .ret))))

def k_laws_markModel_rv : List RV := [.tmp [0] 4]

def k_laws_heldModel_vars : List Nat := [0, 1, 2, 4]

def k_laws_heldModel_ic : IC := .seq (.reg [oV 2 (.box (.V 0)), oV 4 (.mv (ki 0))]) (.seq (.reg [oE 5 (.faddr 0 (.V 2)), oE 6 (.load false 1 (.E 5)), oE 7 (.mv (.V 1)), oE 8 (.call k_laws_heldStringS [([1], (.E 6)), ([0], (.E 7))]), oV 1 (.mv (.E 8))]) (.seq (.seq (.reg [oE 9 (.mv (.V 1)), oE 10 (.bin .lss (.E 9) (ki 0))]) (.cond (.E 10) (.seq (.reg [oV 4 (.mv (ki (-1)))]) .ret) .skip)) (.seq (.reg [oE 11 (.faddr 1 (.V 2)), oE 12 (.load false 1 (.E 11)), oE 13 (.mv (.V 1)), oE 14 (.call k_laws_heldIntS [([1], (.E 12)), ([0], (.E 13))]), oV 1 (.mv (.E 14))]) (.seq (.seq (.reg [oE 15 (.mv (.V 1)), oE 16 (.bin .lss (.E 15) (ki 0))]) (.cond (.E 16) (.seq (.reg [oV 4 (.mv (ki (-1)))]) .ret) .skip)) (.seq (.reg [oE 17 (.faddr 3 (.V 2)), oE 18 (.load false 1 (.E 17)), oE 19 (.mv (.V 1)), oE 20 (.call k_laws_heldTreeS [([1], (.E 18)), ([0], (.E 19))]), oV 1 (.mv (.E 20))]) (.seq (.seq (.reg [oE 21 (.mv (.V 1)), oE 22 (.bin .lss (.E 21) (ki 0))]) (.cond (.E 22) (.seq (.reg [oV 4 (.mv (ki (-1)))]) .ret) .skip)) (.seq (.reg [oE 23 (.mv (.V 1)), oV 4 (.mv (.E 23))]) .ret)))))))

def k_laws_heldModel_rv : List RV := [.tmp [0] 4]

def k_laws_toIntS_vars : List Nat := [0, 4, 3, 2]

def k_laws_toIntS_b0 : IC := .seq (.seq (.reg [oE 8 (.mv (.V 4)), oE 9 (.mv (.V 0)), oE 10 (.len (.E 9)), oE 11 (.bin .lss (.E 8) (.E 10))]) (.cond (.E 11) .skip (.exit 0))) (.seq (.block 1 (.reg [oE 14 (.mv (.V 3)), oE 15 (.mv (.V 4)), oE 16 (.mv (.V 0)), oE 17 (.mv (.V 4)), oE 18 (.iaddr 1 (.E 16) (.E 17)), oE 19 (.load false 1 (.E 18)), oE 20 (.iaddr 1 (.E 14) (.E 15)), oN (.store [0] (.E 20) (.E 19))])) (.reg [oE 12 (.mv (.V 4)), oE 13 (.bin .add (.E 12) (ki 1)), oV 4 (.mv (.E 13))]))

def k_laws_toIntS_ic : IC := .seq (.reg [oV 2 (.mv (.C .e0))]) (.seq (.reg [oE 5 (.mv (.V 0)), oE 6 (.len (.E 5)), oE 7 (.mksl 8 1 [iv 0] (.E 6) (.E 6)), oV 3 (.mv (.E 7))]) (.seq (.seq (.reg [oV 4 (.mv (ki 0))]) (.block 0 (.loop k_laws_toIntS_b0))) (.seq (.reg [oE 21 (.mv (.V 3)), oV 2 (.mv (.E 21))]) .ret)))

def k_laws_toIntS_rv : List RV := [.tmp [1] 2]

def k_laws_eqIntS_vars : List Nat := [0, 1, 5, 4]

def k_laws_eqIntS_b0 : IC := .seq (.seq (.reg [oE 11 (.mv (.V 5)), oE 12 (.mv (.V 0)), oE 13 (.len (.E 12)), oE 14 (.bin .lss (.E 11) (.E 13))]) (.cond (.E 14) .skip (.exit 0))) (.seq (.block 1 (.seq (.regD [(oE 17 (.mv (.V 0)), 0, 0), (oE 18 (.mv (.V 5)), 0, 0), (oE 19 (.iaddr 1 (.E 17) (.E 18)), 0, 0), (oE 20 (.load false 1 (.E 19)), 0, 0), (oE 21 (.mv (.V 1)), 0, 0), (oE 22 (.mv (.V 5)), 0, 0), (oE 23 (.iaddr 1 (.E 21) (.E 22)), 0, 0), (oE 24 (.load false 1 (.E 23)), 0, 0), (oE 25 (.bin .neq (.E 20) (.E 24)), 0, 0)]) (.cond (.E 25) (.seq (.reg [oV 4 (.mv (kb false))]) .ret) .skip))) (.reg [oE 15 (.mv (.V 5)), oE 16 (.bin .add (.E 15) (ki 1)), oV 5 (.mv (.E 16))]))

def k_laws_eqIntS_ic : IC := .seq (.reg [oV 4 (.mv (kb false))]) (.seq (.seq (.reg [oE 6 (.mv (.V 0)), oE 7 (.len (.E 6)), oE 8 (.mv (.V 1)), oE 9 (.len (.E 8)), oE 10 (.bin .neq (.E 7) (.E 9))]) (.cond (.E 10) (.seq (.reg [oV 4 (.mv (kb false))]) .ret) .skip)) (.seq (.seq (.reg [oV 5 (.mv (ki 0))]) (.block 0 (.loop k_laws_eqIntS_b0))) (.seq (.reg [oV 4 (.mv (kb true))]) .ret)))

def k_laws_eqIntS_rv : List RV := [.tmp [0] 4]

def k_laws_markIntS_vars : List Nat := [0, 1, 5, 4]

def k_laws_markIntS_b0 : IC := .seq (.seq (.reg [oE 6 (.mv (.V 5)), oE 7 (.mv (.V 0)), oE 8 (.len (.E 7)), oE 9 (.bin .lss (.E 6) (.E 8))]) (.cond (.E 9) .skip (.exit 0))) (.seq (.block 1 (.seq (.reg [oE 12 (.mv (.V 0)), oE 13 (.mv (.V 5)), oE 14 (.mv (.V 1)), oE 15 (.iaddr 1 (.E 12) (.E 13)), oN (.store [0] (.E 15) (.E 14))]) (.reg [oE 16 (.mv (.V 1)), oE 17 (.bin .add (.E 16) (ki 1)), oV 1 (.mv (.E 17))]))) (.reg [oE 10 (.mv (.V 5)), oE 11 (.bin .add (.E 10) (ki 1)), oV 5 (.mv (.E 11))]))

def k_laws_markIntS_ic : IC := .seq (.reg [oV 4 (.mv (ki 0))]) (.seq (.seq (.reg [oV 5 (.mv (ki 0))]) (.block 0 (.loop k_laws_markIntS_b0))) (.seq (.reg [oE 18 (.mv (.V 1)), oV 4 (.mv (.E 18))]) .ret))

def k_laws_markIntS_rv : List RV := [.tmp [0] 4]

def k_laws_eqTree_vars : List Nat := [0, 1, 2, 3, 4]

def k_laws_eqTree_ic : IC := .seq (.reg [oV 2 (.box (.V 0)), oV 3 (.box (.V 1)), oV 4 (.mv (kb false))]) (.seq (.seq (.reg [oE 5 (.faddr 0 (.V 2)), oE 6 (.load false 1 (.E 5)), oE 7 (.faddr 0 (.V 3)), oE 8 (.load false 1 (.E 7)), oE 9 (.call k_laws_eqNodeS [([5], (.E 6)), ([5], (.E 8))]), oE 10 (.un .not (.E 9))]) (.cond (.E 10) (.seq (.reg [oV 4 (.mv (kb false))]) .ret) .skip)) (.seq (.reg [oV 4 (.mv (kb true))]) .ret))

def k_laws_eqTree_rv : List RV := [.tmp [0] 4]

def k_impl_ConfigOk_vars : List Nat := [0, 1, 2]

def k_impl_ConfigOk_ic : IC := .seq (.reg [oV 1 (.box (.V 0)), oV 2 (.mv (kb false))]) (.seq (.reg [oE 3 (.faddr 0 (.V 1)), oE 4 (.load false 1 (.E 3)), oE 5 (.call k_impl_within [([0], (.E 4)), ([0], (ki 1)), ([0], (ki 8))]), oE 6 (.mv (.E 5)), ⟨(some (.E 7)), .faddr 1 (.V 1), some ((.E 6), true)⟩, ⟨(some (.E 8)), .load false 1 (.E 7), some ((.E 6), true)⟩, ⟨(some (.E 9)), .call k_impl_within [([0], (.E 8)), ([0], (ki 0)), ([0], (ki 4))], some ((.E 6), true)⟩, oE 10 (.pick (.E 6) (.E 9) (kb false)), oE 11 (.mv (.E 10)), ⟨(some (.E 12)), .faddr 2 (.V 1), some ((.E 11), true)⟩, ⟨(some (.E 13)), .load false 1 (.E 12), some ((.E 11), true)⟩, ⟨(some (.E 14)), .call k_impl_within [([0], (.E 13)), ([0], (ki 2)), ([0], (ki 8))], some ((.E 11), true)⟩, oE 15 (.pick (.E 11) (.E 14) (kb false)), oE 16 (.mv (.E 15)), ⟨(some (.E 17)), .faddr 3 (.V 1), some ((.E 16), true)⟩, ⟨(some (.E 18)), .load false 1 (.E 17), some ((.E 16), true)⟩, ⟨(some (.E 19)), .call k_impl_within [([0], (.E 18)), ([0], (ki 1)), ([0], (ki 100))], some ((.E 16), true)⟩, oE 20 (.pick (.E 16) (.E 19) (kb false)), oE 21 (.mv (.E 20)), ⟨(some (.E 22)), .faddr 4 (.V 1), some ((.E 21), true)⟩, ⟨(some (.E 23)), .load false 1 (.E 22), some ((.E 21), true)⟩, ⟨(some (.E 24)), .call k_impl_within [([0], (.E 23)), ([0], (ki 1)), ([0], (ki 20))], some ((.E 21), true)⟩, oE 25 (.pick (.E 21) (.E 24) (kb false)), oE 26 (.mv (.E 25)), ⟨(some (.E 27)), .faddr 6 (.V 1), some ((.E 26), true)⟩, ⟨(some (.E 28)), .load false 1 (.E 27), some ((.E 26), true)⟩, ⟨(some (.E 29)), .call k_impl_within [([0], (.E 28)), ([0], (ki 1)), ([0], (ki 1000))], some ((.E 26), true)⟩, oE 30 (.pick (.E 26) (.E 29) (kb false)), oE 31 (.mv (.E 30)), ⟨(some (.E 32)), .faddr 5 (.V 1), some ((.E 31), true)⟩, ⟨(some (.E 33)), .load false 1 (.E 32), some ((.E 31), true)⟩, ⟨(some (.E 34)), .faddr 6 (.V 1), some ((.E 31), true)⟩, ⟨(some (.E 35)), .load false 1 (.E 34), some ((.E 31), true)⟩, ⟨(some (.E 36)), .call k_impl_within [([0], (.E 33)), ([0], (ki 1)), ([0], (.E 35))], some ((.E 31), true)⟩, oE 37 (.pick (.E 31) (.E 36) (kb false)), oE 38 (.mv (.E 37)), ⟨(some (.E 39)), .faddr 7 (.V 1), some ((.E 38), true)⟩, ⟨(some (.E 40)), .load false 1 (.E 39), some ((.E 38), true)⟩, ⟨(some (.E 41)), .len (.E 40), some ((.E 38), true)⟩, ⟨(some (.E 42)), .bin .leq (.E 41) (ki 4), some ((.E 38), true)⟩, oE 43 (.pick (.E 38) (.E 42) (kb false)), oE 44 (.mv (.E 43)), ⟨(some (.E 45)), .faddr 7 (.V 1), some ((.E 44), true)⟩, ⟨(some (.E 46)), .load false 1 (.E 45), some ((.E 44), true)⟩, ⟨(some (.E 47)), .call k_slices_ContainsFunc___int_int_ [([1], (.E 46)), ([0], (.C (.fn k_impl_ConfigOk_1 [])))], some ((.E 44), true)⟩, ⟨(some (.E 48)), .un .not (.E 47), some ((.E 44), true)⟩, oE 49 (.pick (.E 44) (.E 48) (kb false)), oV 2 (.mv (.E 49))]) .ret)

def k_impl_ConfigOk_rv : List RV := [.tmp [0] 2]

def k_spec_ConfigOk_vars : List Nat := [0, 1, 4, 3, 5, 2]

def k_spec_ConfigOk_b0 : IC := .seq (.seq (.reg [oE 8 (.mv (.V 4)), oE 9 (.bin .lss (.E 8) (ki 5))]) (.cond (.E 9) .skip (.exit 0))) (.seq (.block 1 (.seq (.regD [(oE 12 (.mv (.V 3)), 0, 0), (oE 13 (.mv (.V 4)), 0, 0), (oE 14 (.iaddr 1 (.E 12) (.E 13)), 0, 2), (oE 15 (.load false 1 (.E 14)), 0, 2), (oE 16 (.call k_spec_l8Least []), 0, 0), (oE 17 (.mv (.V 4)), 0, 0), (oE 18 (.iaddr 1 (.E 16) (.E 17)), 0, 1), (oE 19 (.load false 1 (.E 18)), 0, 1), (oE 20 (.call k_spec_l8Most []), 0, 0), (oE 21 (.mv (.V 4)), 0, 0), (oE 22 (.iaddr 1 (.E 20) (.E 21)), 0, 0), (oE 23 (.load false 1 (.E 22)), 0, 0), (oE 24 (.call k_spec_l1In [([0], (.E 15)), ([0], (.E 19)), ([0], (.E 23))]), 0, 0), (oE 25 (.un .not (.E 24)), 0, 0)]) (.cond (.E 25) (.seq (.reg [oV 2 (.mv (kb false))]) .ret) .skip))) (.reg [oE 10 (.mv (.V 4)), oE 11 (.bin .add (.E 10) (ki 1)), oV 4 (.mv (.E 11))]))

def k_spec_ConfigOk_b1 : IC := .seq (.seq (.reg [oE 26 (.mv (.V 5)), oE 27 (.faddr 7 (.V 1)), oE 28 (.load false 1 (.E 27)), oE 29 (.len (.E 28)), oE 30 (.bin .lss (.E 26) (.E 29))]) (.cond (.E 30) .skip (.exit 2))) (.seq (.block 3 (.seq (.reg [oE 33 (.faddr 7 (.V 1)), oE 34 (.load false 1 (.E 33)), oE 35 (.mv (.V 5)), oE 36 (.iaddr 1 (.E 34) (.E 35)), oE 37 (.load false 1 (.E 36)), oE 38 (.call k_spec_l1In [([0], (.E 37)), ([0], (ki (-1))), ([0], (ki 1))]), oE 39 (.un .not (.E 38))]) (.cond (.E 39) (.seq (.reg [oV 2 (.mv (kb false))]) .ret) .skip))) (.reg [oE 31 (.mv (.V 5)), oE 32 (.bin .add (.E 31) (ki 1)), oV 5 (.mv (.E 32))]))

def k_spec_ConfigOk_ic : IC := .seq (.reg [oV 1 (.box (.V 0)), oV 2 (.mv (kb false))]) (.seq (.reg [oE 6 (.load true 8 (.V 1)), oE 7 (.call k_spec_l8Numbers [([0, 0, 0, 0, 0, 0, 0, 1], (.E 6))]), oV 3 (.mv (.E 7))]) (.seq (.seq (.reg [oV 4 (.mv (ki 0))]) (.block 0 (.loop k_spec_ConfigOk_b0))) (.seq (.seq (.reg [oV 5 (.mv (ki 0))]) (.block 2 (.loop k_spec_ConfigOk_b1))) (.seq (.reg [oE 40 (.faddr 6 (.V 1)), oE 41 (.load false 1 (.E 40)), oE 42 (.call k_spec_l1In [([0], (.E 41)), ([0], (ki 1)), ([0], (ki 1000))]), oE 43 (.mv (.E 42)), ⟨(some (.E 44)), .faddr 5 (.V 1), some ((.E 43), true)⟩, ⟨(some (.E 45)), .load false 1 (.E 44), some ((.E 43), true)⟩, ⟨(some (.E 46)), .faddr 6 (.V 1), some ((.E 43), true)⟩, ⟨(some (.E 47)), .load false 1 (.E 46), some ((.E 43), true)⟩, ⟨(some (.E 48)), .call k_spec_l1In [([0], (.E 45)), ([0], (ki 1)), ([0], (.E 47))], some ((.E 43), true)⟩, oE 49 (.pick (.E 43) (.E 48) (kb false)), oE 50 (.mv (.E 49)), ⟨(some (.E 51)), .faddr 7 (.V 1), some ((.E 50), true)⟩, ⟨(some (.E 52)), .load false 1 (.E 51), some ((.E 50), true)⟩, ⟨(some (.E 53)), .len (.E 52), some ((.E 50), true)⟩, ⟨(some (.E 54)), .bin .leq (.E 53) (ki 4), some ((.E 50), true)⟩, oE 55 (.pick (.E 50) (.E 54) (kb false)), oV 2 (.mv (.E 55))]) .ret))))

def k_spec_ConfigOk_rv : List RV := [.tmp [0] 2]

def k_laws_szStringS_vars : List Nat := [0, 1, 5, 4]

def k_laws_szStringS_b0 : IC := .seq (.seq (.reg [oE 12 (.mv (.V 5)), oE 13 (.mv (.V 0)), oE 14 (.len (.E 13)), oE 15 (.bin .lss (.E 12) (.E 14))]) (.cond (.E 15) .skip (.exit 0))) (.seq (.block 1 (.seq (.reg [oE 18 (.mv (.V 1)), oE 19 (.mv (.V 0)), oE 20 (.mv (.V 5)), oE 21 (.iaddr 1 (.E 19) (.E 20)), oE 22 (.load false 1 (.E 21)), oE 23 (.lenS (.E 22)), oE 24 (.bin .sub (.E 18) (.E 23)), oV 1 (.mv (.E 24))]) (.seq (.reg [oE 25 (.mv (.V 1)), oE 26 (.bin .lss (.E 25) (ki 0))]) (.cond (.E 26) (.seq (.reg [oV 4 (.mv (ki (-1)))]) .ret) .skip)))) (.reg [oE 16 (.mv (.V 5)), oE 17 (.bin .add (.E 16) (ki 1)), oV 5 (.mv (.E 17))]))

def k_laws_szStringS_ic : IC := .seq (.reg [oV 4 (.mv (ki 0))]) (.seq (.reg [oE 6 (.mv (.V 1)), oE 7 (.mv (.V 0)), oE 8 (.len (.E 7)), oE 9 (.bin .sub (.E 6) (.E 8)), oV 1 (.mv (.E 9))]) (.seq (.seq (.reg [oE 10 (.mv (.V 1)), oE 11 (.bin .lss (.E 10) (ki 0))]) (.cond (.E 11) (.seq (.reg [oV 4 (.mv (ki (-1)))]) .ret) .skip)) (.seq (.seq (.reg [oV 5 (.mv (ki 0))]) (.block 0 (.loop k_laws_szStringS_b0))) (.seq (.reg [oE 27 (.mv (.V 1)), oV 4 (.mv (.E 27))]) .ret))))

def k_laws_szStringS_rv : List RV := [.tmp [0] 4]

def k_laws_szIntSS_vars : List Nat := [0, 1, 5, 4]

def k_laws_szIntSS_b0 : IC := .seq (.seq (.reg [oE 12 (.mv (.V 5)), oE 13 (.mv (.V 0)), oE 14 (.len (.E 13)), oE 15 (.bin .lss (.E 12) (.E 14))]) (.cond (.E 15) .skip (.exit 0))) (.seq (.block 1 (.seq (.reg [oE 18 (.mv (.V 0)), oE 19 (.mv (.V 5)), oE 20 (.iaddr 1 (.E 18) (.E 19)), oE 21 (.load false 1 (.E 20)), oE 22 (.mv (.V 1)), oE 23 (.call k_laws_szIntS [([1], (.E 21)), ([0], (.E 22))]), oV 1 (.mv (.E 23))]) (.seq (.reg [oE 24 (.mv (.V 1)), oE 25 (.bin .lss (.E 24) (ki 0))]) (.cond (.E 25) (.seq (.reg [oV 4 (.mv (ki (-1)))]) .ret) .skip)))) (.reg [oE 16 (.mv (.V 5)), oE 17 (.bin .add (.E 16) (ki 1)), oV 5 (.mv (.E 17))]))

def k_laws_szIntSS_ic : IC := .seq (.reg [oV 4 (.mv (ki 0))]) (.seq (.reg [oE 6 (.mv (.V 1)), oE 7 (.mv (.V 0)), oE 8 (.len (.E 7)), oE 9 (.bin .sub (.E 6) (.E 8)), oV 1 (.mv (.E 9))]) (.seq (.seq (.reg [oE 10 (.mv (.V 1)), oE 11 (.bin .lss (.E 10) (ki 0))]) (.cond (.E 11) (.seq (.reg [oV 4 (.mv (ki (-1)))]) .ret) .skip)) (.seq (.seq (.reg [oV 5 (.mv (ki 0))]) (.block 0 (.loop k_laws_szIntSS_b0))) (.seq (.reg [oE 26 (.mv (.V 1)), oV 4 (.mv (.E 26))]) .ret))))

def k_laws_szIntSS_rv : List RV := [.tmp [0] 4]

def k_laws_szIntS_vars : List Nat := [0, 1, 4]

def k_laws_szIntS_ic : IC := .seq (.reg [oV 4 (.mv (ki 0))]) (.seq (.reg [oE 5 (.mv (.V 1)), oE 6 (.mv (.V 0)), oE 7 (.len (.E 6)), oE 8 (.bin .sub (.E 5) (.E 7)), oV 1 (.mv (.E 8))]) (.seq (.seq (.reg [oE 9 (.mv (.V 1)), oE 10 (.bin .lss (.E 9) (ki 0))]) (.cond (.E 10) (.seq (.reg [oV 4 (.mv (ki (-1)))]) .ret) .skip)) (.seq (.reg [oE 11 (.mv (.V 1)), oV 4 (.mv (.E 11))]) .ret)))

def k_laws_szIntS_rv : List RV := [.tmp [0] 4]

def k_laws_szTreeS_vars : List Nat := [0, 1, 5, 4]

def k_laws_szTreeS_b0 : IC := .seq (.seq (.reg [oE 12 (.mv (.V 5)), oE 13 (.mv (.V 0)), oE 14 (.len (.E 13)), oE 15 (.bin .lss (.E 12) (.E 14))]) (.cond (.E 15) .skip (.exit 0))) (.seq (.block 1 (.seq (.reg [oE 18 (.mv (.V 0)), oE 19 (.mv (.V 5)), oE 20 (.iaddr 1 (.E 18) (.E 19)), oE 21 (.load true 1 (.E 20)), oE 22 (.mv (.V 1)), oE 23 (.call k_laws_szTree [([5], (.E 21)), ([0], (.E 22))]), oV 1 (.mv (.E 23))]) (.seq (.reg [oE 24 (.mv (.V 1)), oE 25 (.bin .lss (.E 24) (ki 0))]) (.cond (.E 25) (.seq (.reg [oV 4 (.mv (ki (-1)))]) .ret) .skip)))) (.reg [oE 16 (.mv (.V 5)), oE 17 (.bin .add (.E 16) (ki 1)), oV 5 (.mv (.E 17))]))

def k_laws_szTreeS_ic : IC := .seq (.reg [oV 4 (.mv (ki 0))]) (.seq (.reg [oE 6 (.mv (.V 1)), oE 7 (.mv (.V 0)), oE 8 (.len (.E 7)), oE 9 (.bin .sub (.E 6) (.E 8)), oV 1 (.mv (.E 9))]) (.seq (.seq (.reg [oE 10 (.mv (.V 1)), oE 11 (.bin .lss (.E 10) (ki 0))]) (.cond (.E 11) (.seq (.reg [oV 4 (.mv (ki (-1)))]) .ret) .skip)) (.seq (.seq (.reg [oV 5 (.mv (ki 0))]) (.block 0 (.loop k_laws_szTreeS_b0))) (.seq (.reg [oE 26 (.mv (.V 1)), oV 4 (.mv (.E 26))]) .ret))))

def k_laws_szTreeS_rv : List RV := [.tmp [0] 4]

def k_spec_TableOk_vars : List Nat := [0, 1, 3, 4, 5, 6, 2]

def k_spec_TableOk_b0 : IC := .seq (.seq (.reg [oE 42 (.mv (.V 4)), oE 43 (.mv (.V 3)), oE 44 (.bin .lss (.E 42) (.E 43))]) (.cond (.E 44) .skip (.exit 0))) (.seq (.block 1 (.seq (.regD [(oE 47 (.faddr 0 (.V 1)), 0, 0), (oE 48 (.load false 1 (.E 47)), 0, 0), (oE 49 (.mv (.V 4)), 0, 0), (oE 50 (.iaddr 1 (.E 48) (.E 49)), 0, 0), (oE 51 (.load false 1 (.E 50)), 0, 0), (oE 52 (.call k_spec_NameOk [([0], (.E 51))]), 0, 0), (oE 53 (.un .not (.E 52)), 0, 0), (oE 54 (.mv (.E 53)), 0, 0), (⟨(some (.E 55)), .faddr 0 (.V 1), some ((.E 54), false)⟩, 0, 0), (⟨(some (.E 56)), .load false 1 (.E 55), some ((.E 54), false)⟩, 0, 0), (⟨(some (.E 57)), .mv (.V 4), some ((.E 54), false)⟩, 0, 0), (⟨(some (.E 58)), .slice 1 (.E 56) none (some (.E 57)) none, some ((.E 54), false)⟩, 0, 0), (⟨(some (.E 59)), .faddr 0 (.V 1), some ((.E 54), false)⟩, 0, 0), (⟨(some (.E 60)), .load false 1 (.E 59), some ((.E 54), false)⟩, 0, 0), (⟨(some (.E 61)), .mv (.V 4), some ((.E 54), false)⟩, 0, 0), (⟨(some (.E 62)), .iaddr 1 (.E 60) (.E 61), some ((.E 54), false)⟩, 0, 0), (⟨(some (.E 63)), .load false 1 (.E 62), some ((.E 54), false)⟩, 0, 0), (⟨(some (.E 64)), .call k_spec_l9Has [([1], (.E 58)), ([0], (.E 63))], some ((.E 54), false)⟩, 0, 0), (oE 65 (.pick (.E 54) (kb true) (.E 64)), 0, 0)]) (.cond (.E 65) (.seq (.reg [oV 2 (.mv (kb false))]) .ret) .skip))) (.reg [oE 45 (.mv (.V 4)), oE 46 (.bin .add (.E 45) (ki 1)), oV 4 (.mv (.E 46))]))

def k_spec_TableOk_b1 : IC := .seq (.seq (.reg [oE 90 (.mv (.V 6)), oE 91 (.mv (.V 3)), oE 92 (.bin .lss (.E 90) (.E 91))]) (.cond (.E 92) .skip (.exit 4))) (.seq (.block 5 (.seq (.reg [oE 95 (.faddr 2 (.V 1)), oE 96 (.load false 1 (.E 95)), oE 97 (.mv (.V 5)), oE 98 (.iaddr 1 (.E 96) (.E 97)), oE 99 (.load false 1 (.E 98)), oE 100 (.mv (.V 6)), oE 101 (.iaddr 1 (.E 99) (.E 100)), oE 102 (.load false 1 (.E 101)), oE 103 (.call k_spec_l6Value [([0], (.E 102))]), oE 104 (.un .not (.E 103))]) (.cond (.E 104) (.seq (.reg [oV 2 (.mv (kb false))]) .ret) .skip))) (.reg [oE 93 (.mv (.V 6)), oE 94 (.bin .add (.E 93) (ki 1)), oV 6 (.mv (.E 94))]))

def k_spec_TableOk_b2 : IC := .seq (.seq (.reg [oE 66 (.mv (.V 5)), oE 67 (.faddr 2 (.V 1)), oE 68 (.load false 1 (.E 67)), oE 69 (.len (.E 68)), oE 70 (.bin .lss (.E 66) (.E 69))]) (.cond (.E 70) .skip (.exit 2))) (.seq (.block 3 (.seq (.seq (.reg [oE 73 (.faddr 2 (.V 1)), oE 74 (.load false 1 (.E 73)), oE 75 (.mv (.V 5)), oE 76 (.iaddr 1 (.E 74) (.E 75)), oE 77 (.load false 1 (.E 76)), oE 78 (.len (.E 77)), oE 79 (.mv (.V 3)), oE 80 (.bin .neq (.E 78) (.E 79)), oE 81 (.mv (.E 80)), ⟨(some (.E 82)), .faddr 3 (.V 1), some ((.E 81), false)⟩, ⟨(some (.E 83)), .load false 1 (.E 82), some ((.E 81), false)⟩, ⟨(some (.E 84)), .mv (.V 5), some ((.E 81), false)⟩, ⟨(some (.E 85)), .iaddr 1 (.E 83) (.E 84), some ((.E 81), false)⟩, ⟨(some (.E 86)), .load false 1 (.E 85), some ((.E 81), false)⟩, ⟨(some (.E 87)), .call k_spec_l6Value [([0], (.E 86))], some ((.E 81), false)⟩, ⟨(some (.E 88)), .un .not (.E 87), some ((.E 81), false)⟩, oE 89 (.pick (.E 81) (kb true) (.E 88))]) (.cond (.E 89) (.seq (.reg [oV 2 (.mv (kb false))]) .ret) .skip)) (.seq (.reg [oV 6 (.mv (ki 0))]) (.block 4 (.loop k_spec_TableOk_b1))))) (.reg [oE 71 (.mv (.V 5)), oE 72 (.bin .add (.E 71) (ki 1)), oV 5 (.mv (.E 72))]))

def k_spec_TableOk_ic : IC := .seq (.reg [oV 1 (.box (.V 0)), oV 2 (.mv (kb false))]) (.seq (.reg [oE 7 (.faddr 0 (.V 1)), oE 8 (.load false 1 (.E 7)), oE 9 (.len (.E 8)), oV 3 (.mv (.E 9))]) (.seq (.seq (.reg [oE 10 (.mv (.V 3)), oE 11 (.call k_spec_l1In [([0], (.E 10)), ([0], (ki 1)), ([0], (ki 4))]), oE 12 (.un .not (.E 11)), oE 13 (.mv (.E 12)), ⟨(some (.E 14)), .faddr 1 (.V 1), some ((.E 13), false)⟩, ⟨(some (.E 15)), .load false 1 (.E 14), some ((.E 13), false)⟩, ⟨(some (.E 16)), .call k_spec_NameOk [([0], (.E 15))], some ((.E 13), false)⟩, ⟨(some (.E 17)), .un .not (.E 16), some ((.E 13), false)⟩, oE 18 (.pick (.E 13) (kb true) (.E 17)), oE 19 (.mv (.E 18)), ⟨(some (.E 20)), .faddr 0 (.V 1), some ((.E 19), false)⟩, ⟨(some (.E 21)), .load false 1 (.E 20), some ((.E 19), false)⟩, ⟨(some (.E 22)), .faddr 1 (.V 1), some ((.E 19), false)⟩, ⟨(some (.E 23)), .load false 1 (.E 22), some ((.E 19), false)⟩, ⟨(some (.E 24)), .call k_spec_l9Has [([1], (.E 21)), ([0], (.E 23))], some ((.E 19), false)⟩, oE 25 (.pick (.E 19) (kb true) (.E 24)), oE 26 (.mv (.E 25)), ⟨(some (.E 27)), .faddr 2 (.V 1), some ((.E 26), false)⟩, ⟨(some (.E 28)), .load false 1 (.E 27), some ((.E 26), false)⟩, ⟨(some (.E 29)), .len (.E 28), some ((.E 26), false)⟩, ⟨(some (.E 30)), .call k_spec_l1In [([0], (.E 29)), ([0], (ki 1)), ([0], (ki 40))], some ((.E 26), false)⟩, ⟨(some (.E 31)), .un .not (.E 30), some ((.E 26), false)⟩, oE 32 (.pick (.E 26) (kb true) (.E 31)), oE 33 (.mv (.E 32)), ⟨(some (.E 34)), .faddr 3 (.V 1), some ((.E 33), false)⟩, ⟨(some (.E 35)), .load false 1 (.E 34), some ((.E 33), false)⟩, ⟨(some (.E 36)), .len (.E 35), some ((.E 33), false)⟩, ⟨(some (.E 37)), .faddr 2 (.V 1), some ((.E 33), false)⟩, ⟨(some (.E 38)), .load false 1 (.E 37), some ((.E 33), false)⟩, ⟨(some (.E 39)), .len (.E 38), some ((.E 33), false)⟩, ⟨(some (.E 40)), .bin .neq (.E 36) (.E 39), some ((.E 33), false)⟩, oE 41 (.pick (.E 33) (kb true) (.E 40))]) (.cond (.E 41) (.seq (.reg [oV 2 (.mv (kb false))]) .ret) .skip)) (.seq (.seq (.reg [oV 4 (.mv (ki 0))]) (.block 0 (.loop k_spec_TableOk_b0))) (.seq (.seq (.reg [oV 5 (.mv (ki 0))]) (.block 2 (.loop k_spec_TableOk_b2))) (.seq (.reg [oV 2 (.mv (kb true))]) .ret)))))

def k_spec_TableOk_rv : List RV := [.tmp [0] 2]

def k_spec_BaseOf_vars : List Nat := [0, 5, 4, 7, 6, 2, 3]

def k_spec_BaseOf_b0 : IC := .seq (.seq (.reg [oE 8 (.mv (.V 5)), oE 9 (.mv (.V 0)), oE 10 (.len (.E 9)), oE 11 (.bin .lss (.E 8) (.E 10))]) (.cond (.E 11) .skip (.exit 0))) (.seq (.block 1 (.seq (.reg [oE 15 (.mv (.V 4)), oE 16 (.mv (.V 0)), oE 17 (.mv (.V 5)), oE 18 (.iaddr 1 (.E 16) (.E 17)), oE 19 (.load false 1 (.E 18)), oE 20 (.call k_spec_AddInt [([0], (.E 15)), ([0], (.E 19))]), oE 14 (.mv (.E 20)), oE 21 (.ext 0 (.E 14)), oE 22 (.ext 1 (.E 14)), oV 6 (.mv (.E 21)), oV 7 (.mv (.E 22))]) (.seq (.seq (.reg [oE 23 (.mv (.V 7)), oE 24 (.un .not (.E 23))]) (.cond (.E 24) (.seq (.reg [oV 2 (.mv (ki 0)), oV 3 (.mv (kb false))]) .ret) .skip)) (.reg [oE 25 (.mv (.V 6)), oV 4 (.mv (.E 25))])))) (.reg [oE 12 (.mv (.V 5)), oE 13 (.bin .add (.E 12) (ki 1)), oV 5 (.mv (.E 13))]))

def k_spec_BaseOf_ic : IC := .seq (.reg [oV 2 (.mv (ki 0)), oV 3 (.mv (kb false))]) (.seq (.reg [oV 4 (.mv (ki 0))]) (.seq (.seq (.reg [oV 5 (.mv (ki 0))]) (.block 0 (.loop k_spec_BaseOf_b0))) (.seq (.reg [oE 26 (.mv (.V 4)), oE 27 (.mv (.V 0)), oE 28 (.len (.E 27)), oE 29 (.call k_spec_FloorDiv [([0], (.E 26)), ([0], (.E 28))]), oE 30 (.ext 0 (.E 29)), oE 31 (.ext 1 (.E 29)), oV 2 (.mv (.E 30)), oV 3 (.mv (.E 31))]) .ret)))

def k_spec_BaseOf_rv : List RV := [.tmp [0] 2, .tmp [0] 3]

def k_spec_l22Trees_vars : List Nat := [0, 4, 3, 2]

def k_spec_l22Trees_b0 : IC := .seq (.seq (.reg [oE 6 (.mv (.V 4)), oE 7 (.mv (.V 0)), oE 8 (.len (.E 7)), oE 9 (.bin .lss (.E 6) (.E 8))]) (.cond (.E 9) .skip (.exit 0))) (.seq (.block 1 (.reg [oE 12 (.mv (.V 3)), oE 13 (.mv (.V 0)), oE 14 (.mv (.V 4)), oE 15 (.iaddr 1 (.E 13) (.E 14)), oE 16 (.load true 1 (.E 15)), oE 17 (.call k_spec_l17Copy [([5], (.E 16))]), oE 18 (.bslice 1 1 [(.own 5 [])] [(0, (.E 17))]), oE 19 (.app 24 1 (.E 12) (.E 18)), oV 3 (.mv (.E 19))])) (.reg [oE 10 (.mv (.V 4)), oE 11 (.bin .add (.E 10) (ki 1)), oV 4 (.mv (.E 11))]))

def k_spec_l22Trees_ic : IC := .seq (.reg [oV 2 (.mv (.C .e0))]) (.seq (.reg [oE 5 (.bslice 0 1 [(.own 5 [])] []), oV 3 (.mv (.E 5))]) (.seq (.seq (.reg [oV 4 (.mv (ki 0))]) (.block 0 (.loop k_spec_l22Trees_b0))) (.seq (.reg [oE 20 (.mv (.V 3)), oV 2 (.mv (.E 20))]) .ret)))

def k_spec_l22Trees_rv : List RV := [.tmp [1] 2]

def k_spec_ModelOk_vars : List Nat := [0, 1, 3, 4, 5, 6, 2]

def k_spec_ModelOk_b0 : IC := .seq (.seq (.reg [oE 38 (.mv (.V 4)), oE 39 (.mv (.V 3)), oE 40 (.bin .lss (.E 38) (.E 39))]) (.cond (.E 40) .skip (.exit 0))) (.seq (.block 1 (.seq (.regD [(oE 43 (.faddr 0 (.V 1)), 0, 0), (oE 44 (.load false 1 (.E 43)), 0, 0), (oE 45 (.mv (.V 4)), 0, 0), (oE 46 (.iaddr 1 (.E 44) (.E 45)), 0, 0), (oE 47 (.load false 1 (.E 46)), 0, 0), (oE 48 (.call k_spec_NameOk [([0], (.E 47))]), 0, 0), (oE 49 (.un .not (.E 48)), 0, 0), (oE 50 (.mv (.E 49)), 0, 0), (⟨(some (.E 51)), .faddr 0 (.V 1), some ((.E 50), false)⟩, 0, 0), (⟨(some (.E 52)), .load false 1 (.E 51), some ((.E 50), false)⟩, 0, 0), (⟨(some (.E 53)), .mv (.V 4), some ((.E 50), false)⟩, 0, 0), (⟨(some (.E 54)), .slice 1 (.E 52) none (some (.E 53)) none, some ((.E 50), false)⟩, 0, 0), (⟨(some (.E 55)), .faddr 0 (.V 1), some ((.E 50), false)⟩, 0, 0), (⟨(some (.E 56)), .load false 1 (.E 55), some ((.E 50), false)⟩, 0, 0), (⟨(some (.E 57)), .mv (.V 4), some ((.E 50), false)⟩, 0, 0), (⟨(some (.E 58)), .iaddr 1 (.E 56) (.E 57), some ((.E 50), false)⟩, 0, 0), (⟨(some (.E 59)), .load false 1 (.E 58), some ((.E 50), false)⟩, 0, 0), (⟨(some (.E 60)), .call k_spec_l9Has [([1], (.E 54)), ([0], (.E 59))], some ((.E 50), false)⟩, 0, 0), (oE 61 (.pick (.E 50) (kb true) (.E 60)), 0, 0)]) (.cond (.E 61) (.seq (.reg [oV 2 (.mv (kb false))]) .ret) .skip))) (.reg [oE 41 (.mv (.V 4)), oE 42 (.bin .add (.E 41) (ki 1)), oV 4 (.mv (.E 42))]))

def k_spec_ModelOk_b1 : IC := .seq (.seq (.reg [oE 62 (.mv (.V 5)), oE 63 (.faddr 1 (.V 1)), oE 64 (.load false 1 (.E 63)), oE 65 (.len (.E 64)), oE 66 (.bin .lss (.E 62) (.E 65))]) (.cond (.E 66) .skip (.exit 2))) (.seq (.block 3 (.seq (.reg [oE 69 (.faddr 1 (.V 1)), oE 70 (.load false 1 (.E 69)), oE 71 (.mv (.V 5)), oE 72 (.iaddr 1 (.E 70) (.E 71)), oE 73 (.load false 1 (.E 72)), oE 74 (.call k_spec_l1In [([0], (.E 73)), ([0], (ki (-1))), ([0], (ki 1))]), oE 75 (.un .not (.E 74))]) (.cond (.E 75) (.seq (.reg [oV 2 (.mv (kb false))]) .ret) .skip))) (.reg [oE 67 (.mv (.V 5)), oE 68 (.bin .add (.E 67) (ki 1)), oV 5 (.mv (.E 68))]))

def k_spec_ModelOk_b2 : IC := .seq (.seq (.reg [oE 76 (.mv (.V 6)), oE 77 (.faddr 3 (.V 1)), oE 78 (.load false 1 (.E 77)), oE 79 (.len (.E 78)), oE 80 (.bin .lss (.E 76) (.E 79))]) (.cond (.E 80) .skip (.exit 4))) (.seq (.block 5 (.seq (.reg [oE 83 (.faddr 3 (.V 1)), oE 84 (.load false 1 (.E 83)), oE 85 (.mv (.V 6)), oE 86 (.iaddr 1 (.E 84) (.E 85)), oE 87 (.load true 1 (.E 86)), oE 88 (.mv (.V 3)), oE 89 (.call k_spec_TreeOk [([5], (.E 87)), ([0], (.E 88))]), oE 90 (.un .not (.E 89))]) (.cond (.E 90) (.seq (.reg [oV 2 (.mv (kb false))]) .ret) .skip))) (.reg [oE 81 (.mv (.V 6)), oE 82 (.bin .add (.E 81) (ki 1)), oV 6 (.mv (.E 82))]))

def k_spec_ModelOk_ic : IC := .seq (.reg [oV 1 (.box (.V 0)), oV 2 (.mv (kb false))]) (.seq (.reg [oE 7 (.faddr 0 (.V 1)), oE 8 (.load false 1 (.E 7)), oE 9 (.len (.E 8)), oV 3 (.mv (.E 9))]) (.seq (.seq (.reg [oE 10 (.mv (.V 3)), oE 11 (.call k_spec_l1In [([0], (.E 10)), ([0], (ki 1)), ([0], (ki 4))]), oE 12 (.un .not (.E 11)), oE 13 (.mv (.E 12)), ⟨(some (.E 14)), .faddr 1 (.V 1), some ((.E 13), false)⟩, ⟨(some (.E 15)), .load false 1 (.E 14), some ((.E 13), false)⟩, ⟨(some (.E 16)), .len (.E 15), some ((.E 13), false)⟩, ⟨(some (.E 17)), .bin .neq (.E 16) (ki 0), some ((.E 13), false)⟩, ⟨(some (.E 18)), .mv (.E 17), some ((.E 13), false)⟩, ⟨(some (.E 19)), .faddr 1 (.V 1), some ((.E 18), true)⟩, ⟨(some (.E 20)), .load false 1 (.E 19), some ((.E 18), true)⟩, ⟨(some (.E 21)), .len (.E 20), some ((.E 18), true)⟩, ⟨(some (.E 22)), .mv (.V 3), some ((.E 18), true)⟩, ⟨(some (.E 23)), .bin .neq (.E 21) (.E 22), some ((.E 18), true)⟩, ⟨(some (.E 24)), .pick (.E 18) (.E 23) (kb false), some ((.E 13), false)⟩, oE 25 (.pick (.E 13) (kb true) (.E 24)), oE 26 (.mv (.E 25)), ⟨(some (.E 27)), .faddr 2 (.V 1), some ((.E 26), false)⟩, ⟨(some (.E 28)), .load false 1 (.E 27), some ((.E 26), false)⟩, ⟨(some (.E 29)), .call k_spec_l6Value [([0], (.E 28))], some ((.E 26), false)⟩, ⟨(some (.E 30)), .un .not (.E 29), some ((.E 26), false)⟩, oE 31 (.pick (.E 26) (kb true) (.E 30)), oE 32 (.mv (.E 31)), ⟨(some (.E 33)), .faddr 3 (.V 1), some ((.E 32), false)⟩, ⟨(some (.E 34)), .load false 1 (.E 33), some ((.E 32), false)⟩, ⟨(some (.E 35)), .len (.E 34), some ((.E 32), false)⟩, ⟨(some (.E 36)), .bin .gtr (.E 35) (ki 8), some ((.E 32), false)⟩, oE 37 (.pick (.E 32) (kb true) (.E 36))]) (.cond (.E 37) (.seq (.reg [oV 2 (.mv (kb false))]) .ret) .skip)) (.seq (.seq (.reg [oV 4 (.mv (ki 0))]) (.block 0 (.loop k_spec_ModelOk_b0))) (.seq (.seq (.reg [oV 5 (.mv (ki 0))]) (.block 2 (.loop k_spec_ModelOk_b1))) (.seq (.seq (.reg [oV 6 (.mv (ki 0))]) (.block 4 (.loop k_spec_ModelOk_b2))) (.seq (.reg [oV 2 (.mv (kb true))]) .ret))))))

def k_spec_ModelOk_rv : List RV := [.tmp [0] 2]

def k_laws_toStringS_vars : List Nat := [0, 4, 3, 2]

def k_laws_toStringS_b0 : IC := .seq (.seq (.reg [oE 8 (.mv (.V 4)), oE 9 (.mv (.V 0)), oE 10 (.len (.E 9)), oE 11 (.bin .lss (.E 8) (.E 10))]) (.cond (.E 11) .skip (.exit 0))) (.seq (.block 1 (.reg [oE 14 (.mv (.V 3)), oE 15 (.mv (.V 4)), oE 16 (.mv (.V 0)), oE 17 (.mv (.V 4)), oE 18 (.iaddr 1 (.E 16) (.E 17)), oE 19 (.load false 1 (.E 18)), oE 20 (.iaddr 1 (.E 14) (.E 15)), oN (.store [0] (.E 20) (.E 19))])) (.reg [oE 12 (.mv (.V 4)), oE 13 (.bin .add (.E 12) (ki 1)), oV 4 (.mv (.E 13))]))

def k_laws_toStringS_ic : IC := .seq (.reg [oV 2 (.mv (.C .e0))]) (.seq (.reg [oE 5 (.mv (.V 0)), oE 6 (.len (.E 5)), oE 7 (.mksl 16 1 [(.v (.string (bs [])))] (.E 6) (.E 6)), oV 3 (.mv (.E 7))]) (.seq (.seq (.reg [oV 4 (.mv (ki 0))]) (.block 0 (.loop k_laws_toStringS_b0))) (.seq (.reg [oE 21 (.mv (.V 3)), oV 2 (.mv (.E 21))]) .ret)))

def k_laws_toStringS_rv : List RV := [.tmp [1] 2]

def k_laws_toIntSS_vars : List Nat := [0, 4, 3, 2]

def k_laws_toIntSS_b0 : IC := .seq (.seq (.reg [oE 8 (.mv (.V 4)), oE 9 (.mv (.V 0)), oE 10 (.len (.E 9)), oE 11 (.bin .lss (.E 8) (.E 10))]) (.cond (.E 11) .skip (.exit 0))) (.seq (.block 1 (.reg [oE 14 (.mv (.V 3)), oE 15 (.mv (.V 4)), oE 16 (.mv (.V 0)), oE 17 (.mv (.V 4)), oE 18 (.iaddr 1 (.E 16) (.E 17)), oE 19 (.load false 1 (.E 18)), oE 20 (.call k_laws_toIntS [([1], (.E 19))]), oE 21 (.iaddr 1 (.E 14) (.E 15)), oN (.store [1] (.E 21) (.E 20))])) (.reg [oE 12 (.mv (.V 4)), oE 13 (.bin .add (.E 12) (ki 1)), oV 4 (.mv (.E 13))]))

def k_laws_toIntSS_ic : IC := .seq (.reg [oV 2 (.mv (.C .e0))]) (.seq (.reg [oE 5 (.mv (.V 0)), oE 6 (.len (.E 5)), oE 7 (.mksl 24 1 [(.own 1 [])] (.E 6) (.E 6)), oV 3 (.mv (.E 7))]) (.seq (.seq (.reg [oV 4 (.mv (ki 0))]) (.block 0 (.loop k_laws_toIntSS_b0))) (.seq (.reg [oE 22 (.mv (.V 3)), oV 2 (.mv (.E 22))]) .ret)))

def k_laws_toIntSS_rv : List RV := [.tmp [1] 2]

def k_laws_toTreeS_vars : List Nat := [0, 4, 3, 2]

def k_laws_toTreeS_b0 : IC := .seq (.seq (.reg [oE 8 (.mv (.V 4)), oE 9 (.mv (.V 0)), oE 10 (.len (.E 9)), oE 11 (.bin .lss (.E 8) (.E 10))]) (.cond (.E 11) .skip (.exit 0))) (.seq (.block 1 (.reg [oE 14 (.mv (.V 3)), oE 15 (.mv (.V 4)), oE 16 (.mv (.V 0)), oE 17 (.mv (.V 4)), oE 18 (.iaddr 1 (.E 16) (.E 17)), oE 19 (.load true 1 (.E 18)), oE 20 (.call k_laws_toTree [([5], (.E 19))]), oE 21 (.iaddr 1 (.E 14) (.E 15)), oN (.store [5] (.E 21) (.E 20))])) (.reg [oE 12 (.mv (.V 4)), oE 13 (.bin .add (.E 12) (ki 1)), oV 4 (.mv (.E 13))]))

def k_laws_toTreeS_ic : IC := .seq (.reg [oV 2 (.mv (.C .e0))]) (.seq (.reg [oE 5 (.mv (.V 0)), oE 6 (.len (.E 5)), oE 7 (.mksl 24 1 [(.own 5 [])] (.E 6) (.E 6)), oV 3 (.mv (.E 7))]) (.seq (.seq (.reg [oV 4 (.mv (ki 0))]) (.block 0 (.loop k_laws_toTreeS_b0))) (.seq (.reg [oE 22 (.mv (.V 3)), oV 2 (.mv (.E 22))]) .ret)))

def k_laws_toTreeS_rv : List RV := [.tmp [1] 2]

def k_impl_TableOk_vars : List Nat := [0, 1, 2]

def k_impl_TableOk_ic : IC := .seq (.reg [oV 1 (.box (.V 0)), oV 2 (.mv (kb false))]) (.seq (.seq (.regD [(oE 3 (.faddr 0 (.V 1)), 0, 0), (oE 4 (.load false 1 (.E 3)), 0, 0), (oE 5 (.len (.E 4)), 0, 0), (oE 6 (.call k_impl_within [([0], (.E 5)), ([0], (ki 1)), ([0], (ki 4))]), 0, 0), (oE 7 (.un .not (.E 6)), 0, 0), (oE 8 (.mv (.E 7)), 0, 0), (⟨(some (.E 9)), .faddr 0 (.V 1), some ((.E 8), false)⟩, 0, 0), (⟨(some (.E 10)), .load false 1 (.E 9), some ((.E 8), false)⟩, 0, 0), (⟨(some (.E 11)), .call k_slices_Clone___string_string_ [([1], (.E 10))], some ((.E 8), false)⟩, 0, 0), (⟨(some (.E 12)), .faddr 1 (.V 1), some ((.E 8), false)⟩, 1, 0), (⟨(some (.E 13)), .load false 1 (.E 12), some ((.E 8), false)⟩, 1, 0), (⟨(some (.E 14)), .bsliceL 1 1 [(.v (.string (bs [])))] [(0, (.E 13))], some ((.E 8), false)⟩, 0, 0), (⟨(some (.E 15)), .app 16 1 (.E 11) (.E 14), some ((.E 8), false)⟩, 0, 0), (⟨(some (.E 16)), .call k_impl_areNames [([1], (.E 15))], some ((.E 8), false)⟩, 0, 0), (⟨(some (.E 17)), .un .not (.E 16), some ((.E 8), false)⟩, 0, 0), (oE 18 (.pick (.E 8) (kb true) (.E 17)), 0, 0), (oE 19 (.mv (.E 18)), 0, 0), (⟨(some (.E 20)), .faddr 2 (.V 1), some ((.E 19), false)⟩, 0, 0), (⟨(some (.E 21)), .load false 1 (.E 20), some ((.E 19), false)⟩, 0, 0), (⟨(some (.E 22)), .len (.E 21), some ((.E 19), false)⟩, 0, 0), (⟨(some (.E 23)), .call k_impl_within [([0], (.E 22)), ([0], (ki 1)), ([0], (ki 40))], some ((.E 19), false)⟩, 0, 0), (⟨(some (.E 24)), .un .not (.E 23), some ((.E 19), false)⟩, 0, 0), (oE 25 (.pick (.E 19) (kb true) (.E 24)), 0, 0), (oE 26 (.mv (.E 25)), 0, 0), (⟨(some (.E 27)), .faddr 3 (.V 1), some ((.E 26), false)⟩, 0, 0), (⟨(some (.E 28)), .load false 1 (.E 27), some ((.E 26), false)⟩, 0, 0), (⟨(some (.E 29)), .len (.E 28), some ((.E 26), false)⟩, 0, 0), (⟨(some (.E 30)), .faddr 2 (.V 1), some ((.E 26), false)⟩, 0, 0), (⟨(some (.E 31)), .load false 1 (.E 30), some ((.E 26), false)⟩, 0, 0), (⟨(some (.E 32)), .len (.E 31), some ((.E 26), false)⟩, 0, 0), (⟨(some (.E 33)), .bin .neq (.E 29) (.E 32), some ((.E 26), false)⟩, 0, 0), (oE 34 (.pick (.E 26) (kb true) (.E 33)), 0, 0), (oE 35 (.mv (.E 34)), 0, 0), (⟨(some (.E 36)), .faddr 3 (.V 1), some ((.E 35), false)⟩, 0, 0), (⟨(some (.E 37)), .load false 1 (.E 36), some ((.E 35), false)⟩, 0, 0), (⟨(some (.E 38)), .call k_impl_areDecimals [([1], (.E 37))], some ((.E 35), false)⟩, 0, 0), (⟨(some (.E 39)), .un .not (.E 38), some ((.E 35), false)⟩, 0, 0), (oE 40 (.pick (.E 35) (kb true) (.E 39)), 0, 0)]) (.cond (.E 40) (.seq (.reg [oV 2 (.mv (kb false))]) .ret) .skip)) (.seq (.reg [oE 41 (.faddr 2 (.V 1)), oE 42 (.load false 1 (.E 41)), oE 43 (.mkfn k_impl_TableOk_1 [(.V 1)]), oE 44 (.call k_slices_ContainsFunc_____int___int_ [([1], (.E 42)), ([0], (.E 43))]), oE 45 (.un .not (.E 44)), oV 2 (.mv (.E 45))]) .ret))

def k_impl_TableOk_rv : List RV := [.tmp [0] 2]

def k_impl_BaseOf_vars : List Nat := [0, 11, 10, 9, 4, 6, 8, 7, 2, 3]

def k_impl_BaseOf_b0 : IC := .seq (.reg [oE 12 (.bin .lss (.V 11) (.V 10))]) (.seq (.cond (.E 12) .skip (.exit 0)) (.seq (.block 1 (.seq (.reg [oE 13 (.iaddr 1 (.V 9) (.V 11)), oE 14 (.load false 1 (.E 13)), oV 6 (.mv (.E 14))]) (.seq (.reg [oE 16 (.mv (.V 4)), oE 17 (.mv (.V 6)), oE 18 (.call k_impl_AddInt [([0], (.E 16)), ([0], (.E 17))]), oE 15 (.mv (.E 18)), oE 19 (.ext 0 (.E 15)), oE 20 (.ext 1 (.E 15)), oV 7 (.mv (.E 19)), oV 8 (.mv (.E 20))]) (.seq (.seq (.reg [oE 21 (.mv (.V 8)), oE 22 (.un .not (.E 21))]) (.cond (.E 22) (.seq (.reg [oV 2 (.mv (ki 0)), oV 3 (.mv (kb false))]) .ret) .skip)) (.reg [oE 23 (.mv (.V 7)), oV 4 (.mv (.E 23))]))))) (.reg [oE 24 (.bin .add (.V 11) (ki 1)), oV 11 (.mv (.E 24))])))

def k_impl_BaseOf_ic : IC := .seq (.reg [oV 2 (.mv (ki 0)), oV 3 (.mv (kb false))]) (.seq (.reg [oV 4 (.mv (ki 0))]) (.seq (.seq (.reg [oV 9 (.mv (.V 0)), oV 10 (.len (.V 9)), oV 11 (.mv (ki 0))]) (.block 0 (.loop k_impl_BaseOf_b0))) (.seq (.reg [oE 25 (.mv (.V 4)), oE 26 (.mv (.V 0)), oE 27 (.len (.E 26)), oE 28 (.call k_impl_FloorDiv [([0], (.E 25)), ([0], (.E 27))]), oE 29 (.ext 0 (.E 28)), oE 30 (.ext 1 (.E 28)), oV 2 (.mv (.E 29)), oV 3 (.mv (.E 30))]) .ret)))

def k_impl_BaseOf_rv : List RV := [.tmp [0] 2, .tmp [0] 3]

def k_impl_copyTrees_vars : List Nat := [0, 9, 8, 7, 3, 5, 2]

def k_impl_copyTrees_b0 : IC := .seq (.reg [oE 10 (.bin .lss (.V 9) (.V 8))]) (.seq (.cond (.E 10) .skip (.exit 0)) (.seq (.block 1 (.seq (.reg [oE 11 (.iaddr 1 (.V 7) (.V 9)), oE 12 (.load true 1 (.E 11)), oV 5 (.alloc [.e0]), oN (.store [5] (.V 5) (.E 12))]) (.reg [oE 13 (.mv (.V 3)), oE 14 (.load true 1 (.V 5)), oE 15 (.call k_impl_copyTree [([5], (.E 14))]), oE 16 (.bslice 1 1 [(.own 5 [])] [(0, (.E 15))]), oE 17 (.app 24 1 (.E 13) (.E 16)), oV 3 (.mv (.E 17))]))) (.reg [oE 18 (.bin .add (.V 9) (ki 1)), oV 9 (.mv (.E 18))])))

def k_impl_copyTrees_ic : IC := .seq (.reg [oV 2 (.mv (.C .e0))]) (.seq (.reg [oE 6 (.bslice 0 1 [(.own 5 [])] []), oV 3 (.mv (.E 6))]) (.seq (.seq (.reg [oV 7 (.mv (.V 0)), oV 8 (.len (.V 7)), oV 9 (.mv (ki 0))]) (.block 0 (.loop k_impl_copyTrees_b0))) (.seq (.reg [oE 19 (.mv (.V 3)), oV 2 (.mv (.E 19))]) .ret)))

def k_impl_copyTrees_rv : List RV := [.tmp [1] 2]

def k_impl_ModelOk_vars : List Nat := [0, 1, 3, 2]

def k_impl_ModelOk_ic : IC := .seq (.reg [oV 1 (.box (.V 0)), oV 2 (.mv (kb false))]) (.seq (.reg [oE 4 (.faddr 0 (.V 1)), oE 5 (.load false 1 (.E 4)), oE 6 (.len (.E 5)), oV 3 (.alloc [iv 0]), oN (.store [0] (.V 3) (.E 6))]) (.seq (.seq (.reg [oE 7 (.load false 1 (.V 3)), oE 8 (.call k_impl_within [([0], (.E 7)), ([0], (ki 1)), ([0], (ki 4))]), oE 9 (.un .not (.E 8)), oE 10 (.mv (.E 9)), ⟨(some (.E 11)), .faddr 0 (.V 1), some ((.E 10), false)⟩, ⟨(some (.E 12)), .load false 1 (.E 11), some ((.E 10), false)⟩, ⟨(some (.E 13)), .call k_impl_areNames [([1], (.E 12))], some ((.E 10), false)⟩, ⟨(some (.E 14)), .un .not (.E 13), some ((.E 10), false)⟩, oE 15 (.pick (.E 10) (kb true) (.E 14)), oE 16 (.mv (.E 15)), ⟨(some (.E 17)), .faddr 1 (.V 1), some ((.E 16), false)⟩, ⟨(some (.E 18)), .load false 1 (.E 17), some ((.E 16), false)⟩, ⟨(some (.E 19)), .len (.E 18), some ((.E 16), false)⟩, ⟨(some (.E 20)), .bin .neq (.E 19) (ki 0), some ((.E 16), false)⟩, ⟨(some (.E 21)), .mv (.E 20), some ((.E 16), false)⟩, ⟨(some (.E 22)), .faddr 1 (.V 1), some ((.E 21), true)⟩, ⟨(some (.E 23)), .load false 1 (.E 22), some ((.E 21), true)⟩, ⟨(some (.E 24)), .len (.E 23), some ((.E 21), true)⟩, ⟨(some (.E 25)), .load false 1 (.V 3), some ((.E 21), true)⟩, ⟨(some (.E 26)), .bin .neq (.E 24) (.E 25), some ((.E 21), true)⟩, ⟨(some (.E 27)), .pick (.E 21) (.E 26) (kb false), some ((.E 16), false)⟩, oE 28 (.pick (.E 16) (kb true) (.E 27)), oE 29 (.mv (.E 28)), ⟨(some (.E 30)), .faddr 1 (.V 1), some ((.E 29), false)⟩, ⟨(some (.E 31)), .load false 1 (.E 30), some ((.E 29), false)⟩, ⟨(some (.E 32)), .call k_slices_ContainsFunc___int_int_ [([1], (.E 31)), ([0], (.C (.fn k_impl_ModelOk_1 [])))], some ((.E 29), false)⟩, oE 33 (.pick (.E 29) (kb true) (.E 32))]) (.cond (.E 33) (.seq (.reg [oV 2 (.mv (kb false))]) .ret) .skip)) (.seq (.reg [oE 34 (.faddr 2 (.V 1)), oE 35 (.load false 1 (.E 34)), oE 36 (.call k_impl_isDecimal [([0], (.E 35))]), oE 37 (.mv (.E 36)), ⟨(some (.E 38)), .faddr 3 (.V 1), some ((.E 37), true)⟩, ⟨(some (.E 39)), .load false 1 (.E 38), some ((.E 37), true)⟩, ⟨(some (.E 40)), .len (.E 39), some ((.E 37), true)⟩, ⟨(some (.E 41)), .bin .leq (.E 40) (ki 8), some ((.E 37), true)⟩, oE 42 (.pick (.E 37) (.E 41) (kb false)), oE 43 (.mv (.E 42)), ⟨(some (.E 44)), .faddr 3 (.V 1), some ((.E 43), true)⟩, ⟨(some (.E 45)), .load false 1 (.E 44), some ((.E 43), true)⟩, ⟨(some (.E 46)), .mkfn k_impl_ModelOk_2 [(.V 3)], some ((.E 43), true)⟩, ⟨(some (.E 47)), .call k_slices_ContainsFunc___impl_Tree_impl_Tree_ [([1], (.E 45)), ([0], (.E 46))], some ((.E 43), true)⟩, ⟨(some (.E 48)), .un .not (.E 47), some ((.E 43), true)⟩, oE 49 (.pick (.E 43) (.E 48) (kb false)), oV 2 (.mv (.E 49))]) .ret)))

def k_impl_ModelOk_rv : List RV := [.tmp [0] 2]

def k_laws_eqStringS_vars : List Nat := [0, 1, 5, 4]

def k_laws_eqStringS_b0 : IC := .seq (.seq (.reg [oE 11 (.mv (.V 5)), oE 12 (.mv (.V 0)), oE 13 (.len (.E 12)), oE 14 (.bin .lss (.E 11) (.E 13))]) (.cond (.E 14) .skip (.exit 0))) (.seq (.block 1 (.seq (.regD [(oE 17 (.mv (.V 0)), 0, 0), (oE 18 (.mv (.V 5)), 0, 0), (oE 19 (.iaddr 1 (.E 17) (.E 18)), 0, 0), (oE 20 (.load false 1 (.E 19)), 0, 0), (oE 21 (.mv (.V 1)), 0, 0), (oE 22 (.mv (.V 5)), 0, 0), (oE 23 (.iaddr 1 (.E 21) (.E 22)), 0, 0), (oE 24 (.load false 1 (.E 23)), 0, 0), (oE 25 (.bin .neq (.E 20) (.E 24)), 0, 0)]) (.cond (.E 25) (.seq (.reg [oV 4 (.mv (kb false))]) .ret) .skip))) (.reg [oE 15 (.mv (.V 5)), oE 16 (.bin .add (.E 15) (ki 1)), oV 5 (.mv (.E 16))]))

def k_laws_eqStringS_ic : IC := .seq (.reg [oV 4 (.mv (kb false))]) (.seq (.seq (.reg [oE 6 (.mv (.V 0)), oE 7 (.len (.E 6)), oE 8 (.mv (.V 1)), oE 9 (.len (.E 8)), oE 10 (.bin .neq (.E 7) (.E 9))]) (.cond (.E 10) (.seq (.reg [oV 4 (.mv (kb false))]) .ret) .skip)) (.seq (.seq (.reg [oV 5 (.mv (ki 0))]) (.block 0 (.loop k_laws_eqStringS_b0))) (.seq (.reg [oV 4 (.mv (kb true))]) .ret)))

def k_laws_eqStringS_rv : List RV := [.tmp [0] 4]

def k_laws_eqTreeS_vars : List Nat := [0, 1, 5, 4]

def k_laws_eqTreeS_b0 : IC := .seq (.seq (.reg [oE 11 (.mv (.V 5)), oE 12 (.mv (.V 0)), oE 13 (.len (.E 12)), oE 14 (.bin .lss (.E 11) (.E 13))]) (.cond (.E 14) .skip (.exit 0))) (.seq (.block 1 (.seq (.regD [(oE 17 (.mv (.V 0)), 0, 0), (oE 18 (.mv (.V 5)), 0, 0), (oE 19 (.iaddr 1 (.E 17) (.E 18)), 0, 0), (oE 20 (.load true 1 (.E 19)), 0, 0), (oE 21 (.mv (.V 1)), 0, 0), (oE 22 (.mv (.V 5)), 0, 0), (oE 23 (.iaddr 1 (.E 21) (.E 22)), 0, 0), (oE 24 (.load true 1 (.E 23)), 0, 0), (oE 25 (.call k_laws_eqTree [([5], (.E 20)), ([5], (.E 24))]), 0, 0), (oE 26 (.un .not (.E 25)), 0, 0)]) (.cond (.E 26) (.seq (.reg [oV 4 (.mv (kb false))]) .ret) .skip))) (.reg [oE 15 (.mv (.V 5)), oE 16 (.bin .add (.E 15) (ki 1)), oV 5 (.mv (.E 16))]))

def k_laws_eqTreeS_ic : IC := .seq (.reg [oV 4 (.mv (kb false))]) (.seq (.seq (.reg [oE 6 (.mv (.V 0)), oE 7 (.len (.E 6)), oE 8 (.mv (.V 1)), oE 9 (.len (.E 8)), oE 10 (.bin .neq (.E 7) (.E 9))]) (.cond (.E 10) (.seq (.reg [oV 4 (.mv (kb false))]) .ret) .skip)) (.seq (.seq (.reg [oV 5 (.mv (ki 0))]) (.block 0 (.loop k_laws_eqTreeS_b0))) (.seq (.reg [oV 4 (.mv (kb true))]) .ret)))

def k_laws_eqTreeS_rv : List RV := [.tmp [0] 4]

def k_laws_eqIntSS_vars : List Nat := [0, 1, 5, 4]

def k_laws_eqIntSS_b0 : IC := .seq (.seq (.reg [oE 11 (.mv (.V 5)), oE 12 (.mv (.V 0)), oE 13 (.len (.E 12)), oE 14 (.bin .lss (.E 11) (.E 13))]) (.cond (.E 14) .skip (.exit 0))) (.seq (.block 1 (.seq (.regD [(oE 17 (.mv (.V 0)), 0, 0), (oE 18 (.mv (.V 5)), 0, 0), (oE 19 (.iaddr 1 (.E 17) (.E 18)), 0, 0), (oE 20 (.load false 1 (.E 19)), 0, 0), (oE 21 (.mv (.V 1)), 0, 0), (oE 22 (.mv (.V 5)), 0, 0), (oE 23 (.iaddr 1 (.E 21) (.E 22)), 0, 0), (oE 24 (.load false 1 (.E 23)), 0, 0), (oE 25 (.call k_laws_eqIntS [([1], (.E 20)), ([1], (.E 24))]), 0, 0), (oE 26 (.un .not (.E 25)), 0, 0)]) (.cond (.E 26) (.seq (.reg [oV 4 (.mv (kb false))]) .ret) .skip))) (.reg [oE 15 (.mv (.V 5)), oE 16 (.bin .add (.E 15) (ki 1)), oV 5 (.mv (.E 16))]))

def k_laws_eqIntSS_ic : IC := .seq (.reg [oV 4 (.mv (kb false))]) (.seq (.seq (.reg [oE 6 (.mv (.V 0)), oE 7 (.len (.E 6)), oE 8 (.mv (.V 1)), oE 9 (.len (.E 8)), oE 10 (.bin .neq (.E 7) (.E 9))]) (.cond (.E 10) (.seq (.reg [oV 4 (.mv (kb false))]) .ret) .skip)) (.seq (.seq (.reg [oV 5 (.mv (ki 0))]) (.block 0 (.loop k_laws_eqIntSS_b0))) (.seq (.reg [oV 4 (.mv (kb true))]) .ret)))

def k_laws_eqIntSS_rv : List RV := [.tmp [0] 4]

def k_laws_markStringS_vars : List Nat := [0, 1, 5, 4]

def k_laws_markStringS_b0 : IC := .seq (.seq (.reg [oE 6 (.mv (.V 5)), oE 7 (.mv (.V 0)), oE 8 (.len (.E 7)), oE 9 (.bin .lss (.E 6) (.E 8))]) (.cond (.E 9) .skip (.exit 0))) (.seq (.block 1 (.seq (.reg [oE 12 (.mv (.V 0)), oE 13 (.mv (.V 5)), oE 14 (.mv (.V 1)), oE 15 (.call k_laws_markText [([0], (.E 14))]), oE 16 (.iaddr 1 (.E 12) (.E 13)), oN (.store [0] (.E 16) (.E 15))]) (.reg [oE 17 (.mv (.V 1)), oE 18 (.bin .add (.E 17) (ki 1)), oV 1 (.mv (.E 18))]))) (.reg [oE 10 (.mv (.V 5)), oE 11 (.bin .add (.E 10) (ki 1)), oV 5 (.mv (.E 11))]))

def k_laws_markStringS_ic : IC := .seq (.reg [oV 4 (.mv (ki 0))]) (.seq (.seq (.reg [oV 5 (.mv (ki 0))]) (.block 0 (.loop k_laws_markStringS_b0))) (.seq (.reg [oE 19 (.mv (.V 1)), oV 4 (.mv (.E 19))]) .ret))

def k_laws_markStringS_rv : List RV := [.tmp [0] 4]

def k_laws_markIntSS_vars : List Nat := [0, 1, 5, 4]

def k_laws_markIntSS_b0 : IC := .seq (.seq (.reg [oE 6 (.mv (.V 5)), oE 7 (.mv (.V 0)), oE 8 (.len (.E 7)), oE 9 (.bin .lss (.E 6) (.E 8))]) (.cond (.E 9) .skip (.exit 0))) (.seq (.block 1 (.reg [oE 12 (.mv (.V 0)), oE 13 (.mv (.V 5)), oE 14 (.iaddr 1 (.E 12) (.E 13)), oE 15 (.load false 1 (.E 14)), oE 16 (.mv (.V 1)), oE 17 (.call k_laws_markIntS [([1], (.E 15)), ([0], (.E 16))]), oV 1 (.mv (.E 17))])) (.reg [oE 10 (.mv (.V 5)), oE 11 (.bin .add (.E 10) (ki 1)), oV 5 (.mv (.E 11))]))

def k_laws_markIntSS_ic : IC := .seq (.reg [oV 4 (.mv (ki 0))]) (.seq (.seq (.reg [oV 5 (.mv (ki 0))]) (.block 0 (.loop k_laws_markIntSS_b0))) (.seq (.reg [oE 18 (.mv (.V 1)), oV 4 (.mv (.E 18))]) .ret))

def k_laws_markIntSS_rv : List RV := [.tmp [0] 4]

def k_laws_markTreeS_vars : List Nat := [0, 1, 5, 4]

def k_laws_markTreeS_b0 : IC := .seq (.seq (.reg [oE 6 (.mv (.V 5)), oE 7 (.mv (.V 0)), oE 8 (.len (.E 7)), oE 9 (.bin .lss (.E 6) (.E 8))]) (.cond (.E 9) .skip (.exit 0))) (.seq (.block 1 (.reg [oE 12 (.mv (.V 0)), oE 13 (.mv (.V 5)), oE 14 (.iaddr 1 (.E 12) (.E 13)), oE 15 (.faddr 0 (.E 14)), oE 16 (.load false 1 (.E 15)), oE 17 (.mv (.V 1)), oE 18 (.call k_laws_markNodeS [([5], (.E 16)), ([0], (.E 17))]), oV 1 (.mv (.E 18))])) (.reg [oE 10 (.mv (.V 5)), oE 11 (.bin .add (.E 10) (ki 1)), oV 5 (.mv (.E 11))]))

def k_laws_markTreeS_ic : IC := .seq (.reg [oV 4 (.mv (ki 0))]) (.seq (.seq (.reg [oV 5 (.mv (ki 0))]) (.block 0 (.loop k_laws_markTreeS_b0))) (.seq (.reg [oE 19 (.mv (.V 1)), oV 4 (.mv (.E 19))]) .ret))

def k_laws_markTreeS_rv : List RV := [.tmp [0] 4]

def k_laws_heldStringS_vars : List Nat := [0, 1, 5, 4]

def k_laws_heldStringS_b0 : IC := .seq (.seq (.reg [oE 6 (.mv (.V 5)), oE 7 (.mv (.V 0)), oE 8 (.len (.E 7)), oE 9 (.bin .lss (.E 6) (.E 8))]) (.cond (.E 9) .skip (.exit 0))) (.seq (.block 1 (.seq (.seq (.regD [(oE 12 (.mv (.V 0)), 0, 0), (oE 13 (.mv (.V 5)), 0, 0), (oE 14 (.iaddr 1 (.E 12) (.E 13)), 0, 1), (oE 15 (.load false 1 (.E 14)), 0, 1), (oE 16 (.mv (.V 1)), 0, 0), (oE 17 (.call k_laws_markText [([0], (.E 16))]), 0, 0), (oE 18 (.bin .neq (.E 15) (.E 17)), 0, 0)]) (.cond (.E 18) (.seq (.reg [oV 4 (.mv (ki (-1)))]) .ret) .skip)) (.reg [oE 19 (.mv (.V 1)), oE 20 (.bin .add (.E 19) (ki 1)), oV 1 (.mv (.E 20))]))) (.reg [oE 10 (.mv (.V 5)), oE 11 (.bin .add (.E 10) (ki 1)), oV 5 (.mv (.E 11))]))

def k_laws_heldStringS_ic : IC := .seq (.reg [oV 4 (.mv (ki 0))]) (.seq (.seq (.reg [oV 5 (.mv (ki 0))]) (.block 0 (.loop k_laws_heldStringS_b0))) (.seq (.reg [oE 21 (.mv (.V 1)), oV 4 (.mv (.E 21))]) .ret))

def k_laws_heldStringS_rv : List RV := [.tmp [0] 4]

def k_laws_heldIntS_vars : List Nat := [0, 1, 5, 4]

def k_laws_heldIntS_b0 : IC := .seq (.seq (.reg [oE 6 (.mv (.V 5)), oE 7 (.mv (.V 0)), oE 8 (.len (.E 7)), oE 9 (.bin .lss (.E 6) (.E 8))]) (.cond (.E 9) .skip (.exit 0))) (.seq (.block 1 (.seq (.seq (.reg [oE 12 (.mv (.V 0)), oE 13 (.mv (.V 5)), oE 14 (.iaddr 1 (.E 12) (.E 13)), oE 15 (.load false 1 (.E 14)), oE 16 (.mv (.V 1)), oE 17 (.bin .neq (.E 15) (.E 16))]) (.cond (.E 17) (.seq (.reg [oV 4 (.mv (ki (-1)))]) .ret) .skip)) (.reg [oE 18 (.mv (.V 1)), oE 19 (.bin .add (.E 18) (ki 1)), oV 1 (.mv (.E 19))]))) (.reg [oE 10 (.mv (.V 5)), oE 11 (.bin .add (.E 10) (ki 1)), oV 5 (.mv (.E 11))]))

def k_laws_heldIntS_ic : IC := .seq (.reg [oV 4 (.mv (ki 0))]) (.seq (.seq (.reg [oV 5 (.mv (ki 0))]) (.block 0 (.loop k_laws_heldIntS_b0))) (.seq (.reg [oE 20 (.mv (.V 1)), oV 4 (.mv (.E 20))]) .ret))

def k_laws_heldIntS_rv : List RV := [.tmp [0] 4]

def k_laws_heldTreeS_vars : List Nat := [0, 1, 5, 4]

def k_laws_heldTreeS_b0 : IC := .seq (.seq (.reg [oE 6 (.mv (.V 5)), oE 7 (.mv (.V 0)), oE 8 (.len (.E 7)), oE 9 (.bin .lss (.E 6) (.E 8))]) (.cond (.E 9) .skip (.exit 0))) (.seq (.block 1 (.seq (.reg [oE 12 (.mv (.V 0)), oE 13 (.mv (.V 5)), oE 14 (.iaddr 1 (.E 12) (.E 13)), oE 15 (.faddr 0 (.E 14)), oE 16 (.load false 1 (.E 15)), oE 17 (.mv (.V 1)), oE 18 (.call k_laws_heldNodeS [([5], (.E 16)), ([0], (.E 17))]), oV 1 (.mv (.E 18))]) (.seq (.reg [oE 19 (.mv (.V 1)), oE 20 (.bin .lss (.E 19) (ki 0))]) (.cond (.E 20) (.seq (.reg [oV 4 (.mv (ki (-1)))]) .ret) .skip)))) (.reg [oE 10 (.mv (.V 5)), oE 11 (.bin .add (.E 10) (ki 1)), oV 5 (.mv (.E 11))]))

def k_laws_heldTreeS_ic : IC := .seq (.reg [oV 4 (.mv (ki 0))]) (.seq (.seq (.reg [oV 5 (.mv (ki 0))]) (.block 0 (.loop k_laws_heldTreeS_b0))) (.seq (.reg [oE 21 (.mv (.V 1)), oV 4 (.mv (.E 21))]) .ret))

def k_laws_heldTreeS_rv : List RV := [.tmp [0] 4]

def k_spec_l1In_vars : List Nat := [0, 1, 2, 6]

def k_spec_l1In_ic : IC := .seq (.reg [oV 6 (.mv (kb false))]) (.seq (.reg [oE 7 (.mv (.V 0)), oE 8 (.mv (.V 1)), oE 9 (.bin .geq (.E 7) (.E 8)), oE 10 (.mv (.E 9)), ⟨(some (.E 11)), .mv (.V 0), some ((.E 10), true)⟩, ⟨(some (.E 12)), .mv (.V 2), some ((.E 10), true)⟩, ⟨(some (.E 13)), .bin .leq (.E 11) (.E 12), some ((.E 10), true)⟩, oE 14 (.pick (.E 10) (.E 13) (kb false)), oV 6 (.mv (.E 14))]) .ret)

def k_spec_l1In_rv : List RV := [.tmp [0] 6]

def k_laws_eqNodeS_vars : List Nat := [0, 1, 5, 4]

def k_laws_eqNodeS_b0 : IC := .seq (.seq (.reg [oE 11 (.mv (.V 5)), oE 12 (.mv (.V 0)), oE 13 (.len (.E 12)), oE 14 (.bin .lss (.E 11) (.E 13))]) (.cond (.E 14) .skip (.exit 0))) (.seq (.block 1 (.seq (.regD [(oE 17 (.mv (.V 0)), 0, 0), (oE 18 (.mv (.V 5)), 0, 0), (oE 19 (.iaddr 5 (.E 17) (.E 18)), 0, 0), (oE 20 (.load true 5 (.E 19)), 0, 0), (oE 21 (.mv (.V 1)), 0, 0), (oE 22 (.mv (.V 5)), 0, 0), (oE 23 (.iaddr 5 (.E 21) (.E 22)), 0, 0), (oE 24 (.load true 5 (.E 23)), 0, 0), (oE 25 (.call k_laws_eqNode [([0, 0, 0, 0, 0], (.E 20)), ([0, 0, 0, 0, 0], (.E 24))]), 0, 0), (oE 26 (.un .not (.E 25)), 0, 0)]) (.cond (.E 26) (.seq (.reg [oV 4 (.mv (kb false))]) .ret) .skip))) (.reg [oE 15 (.mv (.V 5)), oE 16 (.bin .add (.E 15) (ki 1)), oV 5 (.mv (.E 16))]))

def k_laws_eqNodeS_ic : IC := .seq (.reg [oV 4 (.mv (kb false))]) (.seq (.seq (.reg [oE 6 (.mv (.V 0)), oE 7 (.len (.E 6)), oE 8 (.mv (.V 1)), oE 9 (.len (.E 8)), oE 10 (.bin .neq (.E 7) (.E 9))]) (.cond (.E 10) (.seq (.reg [oV 4 (.mv (kb false))]) .ret) .skip)) (.seq (.seq (.reg [oV 5 (.mv (ki 0))]) (.block 0 (.loop k_laws_eqNodeS_b0))) (.seq (.reg [oV 4 (.mv (kb true))]) .ret)))

def k_laws_eqNodeS_rv : List RV := [.tmp [0] 4]

def k_laws_markNodeS_vars : List Nat := [0, 1, 5, 4]

def k_laws_markNodeS_b0 : IC := .seq (.seq (.reg [oE 6 (.mv (.V 5)), oE 7 (.mv (.V 0)), oE 8 (.len (.E 7)), oE 9 (.bin .lss (.E 6) (.E 8))]) (.cond (.E 9) .skip (.exit 0))) (.seq (.block 1 (.seq (.reg [oE 12 (.mv (.V 0)), oE 13 (.mv (.V 5)), oE 14 (.mv (.V 1)), oE 15 (.iaddr 5 (.E 12) (.E 13)), oE 16 (.faddr 0 (.E 15)), oN (.store [0] (.E 16) (.E 14))]) (.seq (.reg [oE 17 (.mv (.V 1)), oE 18 (.bin .add (.E 17) (ki 1)), oV 1 (.mv (.E 18))]) (.seq (.reg [oE 19 (.mv (.V 0)), oE 20 (.mv (.V 5)), oE 21 (.mv (.V 1)), oE 22 (.iaddr 5 (.E 19) (.E 20)), oE 23 (.faddr 1 (.E 22)), oN (.store [0] (.E 23) (.E 21))]) (.seq (.reg [oE 24 (.mv (.V 1)), oE 25 (.bin .add (.E 24) (ki 1)), oV 1 (.mv (.E 25))]) (.seq (.reg [oE 26 (.mv (.V 0)), oE 27 (.mv (.V 5)), oE 28 (.mv (.V 1)), oE 29 (.iaddr 5 (.E 26) (.E 27)), oE 30 (.faddr 2 (.E 29)), oN (.store [0] (.E 30) (.E 28))]) (.seq (.reg [oE 31 (.mv (.V 1)), oE 32 (.bin .add (.E 31) (ki 1)), oV 1 (.mv (.E 32))]) (.seq (.reg [oE 33 (.mv (.V 0)), oE 34 (.mv (.V 5)), oE 35 (.mv (.V 1)), oE 36 (.iaddr 5 (.E 33) (.E 34)), oE 37 (.faddr 3 (.E 36)), oN (.store [0] (.E 37) (.E 35))]) (.seq (.reg [oE 38 (.mv (.V 1)), oE 39 (.bin .add (.E 38) (ki 1)), oV 1 (.mv (.E 39))]) (.seq (.reg [oE 40 (.mv (.V 0)), oE 41 (.mv (.V 5)), oE 42 (.mv (.V 1)), oE 43 (.iaddr 5 (.E 40) (.E 41)), oE 44 (.faddr 4 (.E 43)), oN (.store [0] (.E 44) (.E 42))]) (.reg [oE 45 (.mv (.V 1)), oE 46 (.bin .add (.E 45) (ki 1)), oV 1 (.mv (.E 46))]))))))))))) (.reg [oE 10 (.mv (.V 5)), oE 11 (.bin .add (.E 10) (ki 1)), oV 5 (.mv (.E 11))]))

def k_laws_markNodeS_ic : IC := .seq (.reg [oV 4 (.mv (ki 0))]) (.seq (.seq (.reg [oV 5 (.mv (ki 0))]) (.block 0 (.loop k_laws_markNodeS_b0))) (.seq (.reg [oE 47 (.mv (.V 1)), oV 4 (.mv (.E 47))]) .ret))

def k_laws_markNodeS_rv : List RV := [.tmp [0] 4]

def k_laws_heldNodeS_vars : List Nat := [0, 1, 5, 4]

def k_laws_heldNodeS_b0 : IC := .seq (.seq (.reg [oE 6 (.mv (.V 5)), oE 7 (.mv (.V 0)), oE 8 (.len (.E 7)), oE 9 (.bin .lss (.E 6) (.E 8))]) (.cond (.E 9) .skip (.exit 0))) (.seq (.block 1 (.seq (.seq (.reg [oE 12 (.mv (.V 0)), oE 13 (.mv (.V 5)), oE 14 (.iaddr 5 (.E 12) (.E 13)), oE 15 (.faddr 0 (.E 14)), oE 16 (.load false 1 (.E 15)), oE 17 (.mv (.V 1)), oE 18 (.bin .neq (.E 16) (.E 17))]) (.cond (.E 18) (.seq (.reg [oV 4 (.mv (ki (-1)))]) .ret) .skip)) (.seq (.reg [oE 19 (.mv (.V 1)), oE 20 (.bin .add (.E 19) (ki 1)), oV 1 (.mv (.E 20))]) (.seq (.seq (.reg [oE 21 (.mv (.V 0)), oE 22 (.mv (.V 5)), oE 23 (.iaddr 5 (.E 21) (.E 22)), oE 24 (.faddr 1 (.E 23)), oE 25 (.load false 1 (.E 24)), oE 26 (.mv (.V 1)), oE 27 (.bin .neq (.E 25) (.E 26))]) (.cond (.E 27) (.seq (.reg [oV 4 (.mv (ki (-1)))]) .ret) .skip)) (.seq (.reg [oE 28 (.mv (.V 1)), oE 29 (.bin .add (.E 28) (ki 1)), oV 1 (.mv (.E 29))]) (.seq (.seq (.reg [oE 30 (.mv (.V 0)), oE 31 (.mv (.V 5)), oE 32 (.iaddr 5 (.E 30) (.E 31)), oE 33 (.faddr 2 (.E 32)), oE 34 (.load false 1 (.E 33)), oE 35 (.mv (.V 1)), oE 36 (.bin .neq (.E 34) (.E 35))]) (.cond (.E 36) (.seq (.reg [oV 4 (.mv (ki (-1)))]) .ret) .skip)) (.seq (.reg [oE 37 (.mv (.V 1)), oE 38 (.bin .add (.E 37) (ki 1)), oV 1 (.mv (.E 38))]) (.seq (.seq (.reg [oE 39 (.mv (.V 0)), oE 40 (.mv (.V 5)), oE 41 (.iaddr 5 (.E 39) (.E 40)), oE 42 (.faddr 3 (.E 41)), oE 43 (.load false 1 (.E 42)), oE 44 (.mv (.V 1)), oE 45 (.bin .neq (.E 43) (.E 44))]) (.cond (.E 45) (.seq (.reg [oV 4 (.mv (ki (-1)))]) .ret) .skip)) (.seq (.reg [oE 46 (.mv (.V 1)), oE 47 (.bin .add (.E 46) (ki 1)), oV 1 (.mv (.E 47))]) (.seq (.seq (.reg [oE 48 (.mv (.V 0)), oE 49 (.mv (.V 5)), oE 50 (.iaddr 5 (.E 48) (.E 49)), oE 51 (.faddr 4 (.E 50)), oE 52 (.load false 1 (.E 51)), oE 53 (.mv (.V 1)), oE 54 (.bin .neq (.E 52) (.E 53))]) (.cond (.E 54) (.seq (.reg [oV 4 (.mv (ki (-1)))]) .ret) .skip)) (.reg [oE 55 (.mv (.V 1)), oE 56 (.bin .add (.E 55) (ki 1)), oV 1 (.mv (.E 56))]))))))))))) (.reg [oE 10 (.mv (.V 5)), oE 11 (.bin .add (.E 10) (ki 1)), oV 5 (.mv (.E 11))]))

def k_laws_heldNodeS_ic : IC := .seq (.reg [oV 4 (.mv (ki 0))]) (.seq (.seq (.reg [oV 5 (.mv (ki 0))]) (.block 0 (.loop k_laws_heldNodeS_b0))) (.seq (.reg [oE 57 (.mv (.V 1)), oV 4 (.mv (.E 57))]) .ret))

def k_laws_heldNodeS_rv : List RV := [.tmp [0] 4]

def k_impl_within_vars : List Nat := [0, 1, 2, 6]

def k_impl_within_ic : IC := .seq (.reg [oV 6 (.mv (kb false))]) (.seq (.reg [oE 7 (.mv (.V 0)), oE 8 (.mv (.V 1)), oE 9 (.bin .geq (.E 7) (.E 8)), oE 10 (.mv (.E 9)), ⟨(some (.E 11)), .mv (.V 0), some ((.E 10), true)⟩, ⟨(some (.E 12)), .mv (.V 2), some ((.E 10), true)⟩, ⟨(some (.E 13)), .bin .leq (.E 11) (.E 12), some ((.E 10), true)⟩, oE 14 (.pick (.E 10) (.E 13) (kb false)), oV 6 (.mv (.E 14))]) .ret)

def k_impl_within_rv : List RV := [.tmp [0] 6]

def k_slices_ContainsFunc___int_int__vars : List Nat := [0, 1, 4]

def k_slices_ContainsFunc___int_int__ic : IC := .seq (.reg [oV 4 (.mv (kb false))]) (.seq (.reg [oE 5 (.mv (.V 0)), oE 6 (.mv (.V 1)), oE 7 (.call k_slices_IndexFunc___int_int_ [([1], (.E 5)), ([0], (.E 6))]), oE 8 (.bin .geq (.E 7) (ki 0)), oV 4 (.mv (.E 8))]) .ret)

def k_slices_ContainsFunc___int_int__rv : List RV := [.tmp [0] 4]

def k_impl_ConfigOk_1_vars : List Nat := [0, 2]

def k_impl_ConfigOk_1_ic : IC := .seq (.reg [oV 2 (.mv (kb false))]) (.seq (.reg [oE 3 (.mv (.V 0)), oE 4 (.call k_impl_isSign [([0], (.E 3))]), oE 5 (.un .not (.E 4)), oV 2 (.mv (.E 5))]) .ret)

def k_impl_ConfigOk_1_rv : List RV := [.tmp [0] 2]

def k_impl_isSign_vars : List Nat := [0, 2]

def k_impl_isSign_ic : IC := .seq (.reg [oV 2 (.mv (kb false))]) (.seq (.reg [oE 3 (.mv (.V 0)), oE 4 (.call k_impl_within [([0], (.E 3)), ([0], (ki (-1))), ([0], (ki 1))]), oV 2 (.mv (.E 4))]) .ret)

def k_impl_isSign_rv : List RV := [.tmp [0] 2]

def k_spec_l8Numbers_vars : List Nat := [0, 1, 2]

def k_spec_l8Numbers_ic : IC := .seq (.reg [oV 1 (.box (.V 0)), oV 2 (.mv (.C .e0))]) (.seq (.reg [oE 3 (.faddr 0 (.V 1)), oE 4 (.load false 1 (.E 3)), oE 5 (.faddr 1 (.V 1)), oE 6 (.load false 1 (.E 5)), oE 7 (.faddr 2 (.V 1)), oE 8 (.load false 1 (.E 7)), oE 9 (.faddr 3 (.V 1)), oE 10 (.load false 1 (.E 9)), oE 11 (.faddr 4 (.V 1)), oE 12 (.load false 1 (.E 11)), oE 13 (.bslice 5 1 [iv 0] [(0, (.E 4)), (1, (.E 6)), (2, (.E 8)), (3, (.E 10)), (4, (.E 12))]), oV 2 (.mv (.E 13))]) .ret)

def k_spec_l8Numbers_rv : List RV := [.tmp [1] 2]

def k_spec_l8Least_vars : List Nat := [0]

def k_spec_l8Least_ic : IC := .seq (.reg [oV 0 (.mv (.C .e0))]) (.seq (.reg [oE 1 (.bslice 5 1 [iv 0] [(0, (ki 1)), (1, (ki 0)), (2, (ki 2)), (3, (ki 1)), (4, (ki 1))]), oV 0 (.mv (.E 1))]) .ret)

def k_spec_l8Least_rv : List RV := [.tmp [1] 0]

def k_spec_l8Most_vars : List Nat := [0]

def k_spec_l8Most_ic : IC := .seq (.reg [oV 0 (.mv (.C .e0))]) (.seq (.reg [oE 1 (.bslice 5 1 [iv 0] [(0, (ki 8)), (1, (ki 4)), (2, (ki 8)), (3, (ki 100)), (4, (ki 20))]), oV 0 (.mv (.E 1))]) .ret)

def k_spec_l8Most_rv : List RV := [.tmp [1] 0]

def k_laws_szTree_vars : List Nat := [0, 1, 2, 4]

def k_laws_szTree_ic : IC := .seq (.reg [oV 2 (.box (.V 0)), oV 4 (.mv (ki 0))]) (.seq (.reg [oE 5 (.faddr 0 (.V 2)), oE 6 (.load false 1 (.E 5)), oE 7 (.mv (.V 1)), oE 8 (.call k_laws_szNodeS [([5], (.E 6)), ([0], (.E 7))]), oV 1 (.mv (.E 8))]) (.seq (.seq (.reg [oE 9 (.mv (.V 1)), oE 10 (.bin .lss (.E 9) (ki 0))]) (.cond (.E 10) (.seq (.reg [oV 4 (.mv (ki (-1)))]) .ret) .skip)) (.seq (.reg [oE 11 (.mv (.V 1)), oV 4 (.mv (.E 11))]) .ret)))

def k_laws_szTree_rv : List RV := [.tmp [0] 4]

def k_spec_NameOk_vars : List Nat := [0, 3, 2]

def k_spec_NameOk_b0 : IC := .seq (.seq (.reg [oE 13 (.mv (.V 3)), oE 14 (.mv (.V 0)), oE 15 (.lenS (.E 14)), oE 16 (.bin .lss (.E 13) (.E 15))]) (.cond (.E 16) .skip (.exit 0))) (.seq (.block 1 (.seq (.reg [oE 19 (.mv (.V 0)), oE 20 (.mv (.V 3)), oE 21 (.idx (.E 19) (.E 20)), oE 22 (.convI .i64 (.E 21)), oE 23 (.call k_spec_l1In [([0], (.E 22)), ([0], (ki 97)), ([0], (ki 122))]), oE 24 (.un .not (.E 23)), oE 25 (.mv (.E 24)), ⟨(some (.E 26)), .mv (.V 0), some ((.E 25), true)⟩, ⟨(some (.E 27)), .mv (.V 3), some ((.E 25), true)⟩, ⟨(some (.E 28)), .idx (.E 26) (.E 27), some ((.E 25), true)⟩, ⟨(some (.E 29)), .convI .i64 (.E 28), some ((.E 25), true)⟩, ⟨(some (.E 30)), .call k_spec_l1In [([0], (.E 29)), ([0], (ki 48)), ([0], (ki 57))], some ((.E 25), true)⟩, ⟨(some (.E 31)), .un .not (.E 30), some ((.E 25), true)⟩, oE 32 (.pick (.E 25) (.E 31) (kb false))]) (.cond (.E 32) (.seq (.reg [oV 2 (.mv (kb false))]) .ret) .skip))) (.reg [oE 17 (.mv (.V 3)), oE 18 (.bin .add (.E 17) (ki 1)), oV 3 (.mv (.E 18))]))

def k_spec_NameOk_ic : IC := .seq (.reg [oV 2 (.mv (kb false))]) (.seq (.seq (.reg [oE 4 (.mv (.V 0)), oE 5 (.lenS (.E 4)), oE 6 (.call k_spec_l1In [([0], (.E 5)), ([0], (ki 1)), ([0], (ki 12))]), oE 7 (.un .not (.E 6)), oE 8 (.mv (.E 7)), ⟨(some (.E 9)), .mv (.V 0), some ((.E 8), false)⟩, ⟨(some (.E 10)), .idx (.E 9) (ki 0), some ((.E 8), false)⟩, ⟨(some (.E 11)), .bin .lss (.E 10) (.C (.v (.int .u8 97))), some ((.E 8), false)⟩, oE 12 (.pick (.E 8) (kb true) (.E 11))]) (.cond (.E 12) (.seq (.reg [oV 2 (.mv (kb false))]) .ret) .skip)) (.seq (.seq (.reg [oV 3 (.mv (ki 0))]) (.block 0 (.loop k_spec_NameOk_b0))) (.seq (.reg [oV 2 (.mv (kb true))]) .ret)))

def k_spec_NameOk_rv : List RV := [.tmp [0] 2]

def k_spec_l9Has_vars : List Nat := [0, 1, 5, 4]

def k_spec_l9Has_b0 : IC := .seq (.seq (.reg [oE 6 (.mv (.V 5)), oE 7 (.mv (.V 0)), oE 8 (.len (.E 7)), oE 9 (.bin .lss (.E 6) (.E 8))]) (.cond (.E 9) .skip (.exit 0))) (.seq (.block 1 (.seq (.reg [oE 12 (.mv (.V 0)), oE 13 (.mv (.V 5)), oE 14 (.iaddr 1 (.E 12) (.E 13)), oE 15 (.load false 1 (.E 14)), oE 16 (.mv (.V 1)), oE 17 (.bin .eql (.E 15) (.E 16))]) (.cond (.E 17) (.seq (.reg [oV 4 (.mv (kb true))]) .ret) .skip))) (.reg [oE 10 (.mv (.V 5)), oE 11 (.bin .add (.E 10) (ki 1)), oV 5 (.mv (.E 11))]))

def k_spec_l9Has_ic : IC := .seq (.reg [oV 4 (.mv (kb false))]) (.seq (.seq (.reg [oV 5 (.mv (ki 0))]) (.block 0 (.loop k_spec_l9Has_b0))) (.seq (.reg [oV 4 (.mv (kb false))]) .ret))

def k_spec_l9Has_rv : List RV := [.tmp [0] 4]

def k_spec_l6Value_vars : List Nat := [0, 2]

def k_spec_l6Value_ic : IC := .seq (.reg [oV 2 (.mv (kb false))]) (.seq (.reg [oE 3 (.mv (.V 0)), oE 4 (.call k_spec_l1In [([0], (.E 3)), ([0], (ki (-2147483647))), ([0], (ki 2147483647))]), oV 2 (.mv (.E 4))]) .ret)

def k_spec_l6Value_rv : List RV := [.tmp [0] 2]

def k_spec_AddInt_vars : List Nat := [0, 1, 4, 5]

def k_spec_AddInt_ic : IC := .seq (.reg [oV 4 (.mv (ki 0)), oV 5 (.mv (kb false))]) (.seq (.seq (.reg [oE 6 (.mv (.V 1)), oE 7 (.bin .gtr (.E 6) (ki 0)), oE 8 (.mv (.E 7)), ⟨(some (.E 9)), .mv (.V 0), some ((.E 8), true)⟩, ⟨(some (.E 10)), .mv (.V 1), some ((.E 8), true)⟩, ⟨(some (.E 11)), .bin .sub (ki 9223372036854775807) (.E 10), some ((.E 8), true)⟩, ⟨(some (.E 12)), .bin .gtr (.E 9) (.E 11), some ((.E 8), true)⟩, oE 13 (.pick (.E 8) (.E 12) (kb false)), oE 14 (.mv (.E 13)), ⟨(some (.E 15)), .mv (.V 1), some ((.E 14), false)⟩, ⟨(some (.E 16)), .bin .lss (.E 15) (ki 0), some ((.E 14), false)⟩, ⟨(some (.E 17)), .mv (.E 16), some ((.E 14), false)⟩, ⟨(some (.E 18)), .mv (.V 0), some ((.E 17), true)⟩, ⟨(some (.E 19)), .mv (.V 1), some ((.E 17), true)⟩, ⟨(some (.E 20)), .bin .sub (ki (-9223372036854775808)) (.E 19), some ((.E 17), true)⟩, ⟨(some (.E 21)), .bin .lss (.E 18) (.E 20), some ((.E 17), true)⟩, ⟨(some (.E 22)), .pick (.E 17) (.E 21) (kb false), some ((.E 14), false)⟩, oE 23 (.pick (.E 14) (kb true) (.E 22))]) (.cond (.E 23) (.seq (.reg [oV 4 (.mv (ki 0)), oV 5 (.mv (kb false))]) .ret) .skip)) (.seq (.reg [oE 24 (.mv (.V 0)), oE 25 (.mv (.V 1)), oE 26 (.bin .add (.E 24) (.E 25)), oV 4 (.mv (.E 26)), oV 5 (.mv (kb true))]) .ret))

def k_spec_AddInt_rv : List RV := [.tmp [0] 4, .tmp [0] 5]

def k_spec_FloorDiv_vars : List Nat := [0, 1, 6, 4, 5]

def k_spec_FloorDiv_ic : IC := .seq (.reg [oV 4 (.mv (ki 0)), oV 5 (.mv (kb false))]) (.seq (.seq (.reg [oE 7 (.mv (.V 1)), oE 8 (.bin .eql (.E 7) (ki 0)), oE 9 (.mv (.E 8)), ⟨(some (.E 10)), .mv (.V 1), some ((.E 9), false)⟩, ⟨(some (.E 11)), .bin .eql (.E 10) (ki (-1)), some ((.E 9), false)⟩, ⟨(some (.E 12)), .mv (.E 11), some ((.E 9), false)⟩, ⟨(some (.E 13)), .mv (.V 0), some ((.E 12), true)⟩, ⟨(some (.E 14)), .bin .eql (.E 13) (ki (-9223372036854775808)), some ((.E 12), true)⟩, ⟨(some (.E 15)), .pick (.E 12) (.E 14) (kb false), some ((.E 9), false)⟩, oE 16 (.pick (.E 9) (kb true) (.E 15))]) (.cond (.E 16) (.seq (.reg [oV 4 (.mv (ki 0)), oV 5 (.mv (kb false))]) .ret) .skip)) (.seq (.reg [oE 17 (.mv (.V 0)), oE 18 (.mv (.V 1)), oE 19 (.bin .quo (.E 17) (.E 18)), oV 6 (.mv (.E 19))]) (.seq (.seq (.reg [oE 20 (.mv (.V 0)), oE 21 (.mv (.V 1)), oE 22 (.bin .rem (.E 20) (.E 21)), oE 23 (.bin .neq (.E 22) (ki 0)), oE 24 (.mv (.E 23)), ⟨(some (.E 25)), .mv (.V 0), some ((.E 24), true)⟩, ⟨(some (.E 26)), .bin .lss (.E 25) (ki 0), some ((.E 24), true)⟩, ⟨(some (.E 27)), .mv (.V 1), some ((.E 24), true)⟩, ⟨(some (.E 28)), .bin .lss (.E 27) (ki 0), some ((.E 24), true)⟩, ⟨(some (.E 29)), .eqb true [.b] (.E 26) (.E 28), some ((.E 24), true)⟩, oE 30 (.pick (.E 24) (.E 29) (kb false))]) (.cond (.E 30) (.reg [oE 31 (.mv (.V 6)), oE 32 (.bin .sub (.E 31) (ki 1)), oV 6 (.mv (.E 32))]) .skip)) (.seq (.reg [oE 33 (.mv (.V 6)), oV 4 (.mv (.E 33)), oV 5 (.mv (kb true))]) .ret))))

def k_spec_FloorDiv_rv : List RV := [.tmp [0] 4, .tmp [0] 5]

def k_spec_l17Copy_vars : List Nat := [0, 1, 2]

def k_spec_l17Copy_ic : IC := .seq (.reg [oV 1 (.box (.V 0)), oV 2 (.alloc [.e0])]) (.seq (.reg [oE 3 (.bslice 0 5 [iv 0, iv 0, iv 0, iv 0, iv 0] []), oE 4 (.faddr 0 (.V 1)), oE 5 (.load false 1 (.E 4)), oE 6 (.app 40 5 (.E 3) (.E 5)), oE 7 (.build [.e0] [(0, 1, (.E 6))]), oN (.store [5] (.V 2) (.E 7))]) .ret)

def k_spec_l17Copy_rv : List RV := [.cell [5] 2 true]

def k_spec_TreeOk_vars : List Nat := [0, 1, 2, 4]

def k_spec_TreeOk_ic : IC := .seq (.reg [oV 2 (.box (.V 0)), oV 4 (.mv (kb false))]) (.seq (.reg [oE 5 (.faddr 0 (.V 2)), oE 6 (.load false 1 (.E 5)), oE 7 (.len (.E 6)), oE 8 (.call k_spec_l1In [([0], (.E 7)), ([0], (ki 1)), ([0], (ki 31))]), oE 9 (.mv (.E 8)), ⟨(some (.E 10)), .mv (.V 1), some ((.E 9), true)⟩, ⟨(some (.E 11)), .call k_spec_l1In [([0], (.E 10)), ([0], (ki 0)), ([0], (ki 4))], some ((.E 9), true)⟩, oE 12 (.pick (.E 9) (.E 11) (kb false)), oE 13 (.mv (.E 12)), ⟨(some (.E 14)), .load true 1 (.V 2), some ((.E 13), true)⟩, ⟨(some (.E 15)), .mv (.V 1), some ((.E 13), true)⟩, ⟨(some (.E 16)), .call k_spec_l17Shape [([5], (.E 14)), ([0], (.E 15))], some ((.E 13), true)⟩, oE 17 (.pick (.E 13) (.E 16) (kb false)), oE 18 (.mv (.E 17)), ⟨(some (.E 19)), .load true 1 (.V 2), some ((.E 18), true)⟩, ⟨(some (.E 20)), .call k_spec_DepthOf [([5], (.E 19))], some ((.E 18), true)⟩, ⟨(some (.E 21)), .bin .leq (.E 20) (ki 4), some ((.E 18), true)⟩, oE 22 (.pick (.E 18) (.E 21) (kb false)), oE 23 (.mv (.E 22)), ⟨(some (.E 24)), .load true 1 (.V 2), some ((.E 23), true)⟩, ⟨(some (.E 25)), .call k_spec_l17Ways [([5], (.E 24))], some ((.E 23), true)⟩, oE 26 (.pick (.E 23) (.E 25) (kb false)), oV 4 (.mv (.E 26))]) .ret)

def k_spec_TreeOk_rv : List RV := [.tmp [0] 4]

def k_laws_toTree_vars : List Nat := [0, 1, 3, 2]

def k_laws_toTree_ic : IC := .seq (.reg [oV 1 (.box (.V 0)), oV 2 (.alloc [.e0])]) (.seq (.reg [oV 3 (.alloc [.e0])]) (.seq (.reg [oE 4 (.faddr 0 (.V 1)), oE 5 (.load false 1 (.E 4)), oE 6 (.call k_laws_toNodeS [([5], (.E 5))]), oE 7 (.faddr 0 (.V 3)), oN (.store [5] (.E 7) (.E 6))]) (.seq (.reg [oE 8 (.load true 1 (.V 3)), oN (.store [5] (.V 2) (.E 8))]) .ret)))

def k_laws_toTree_rv : List RV := [.cell [5] 2 true]

def k_impl_areNames_vars : List Nat := [0, 7, 6, 5, 4, 3, 2]

def k_impl_areNames_b0 : IC := .seq (.reg [oE 8 (.bin .lss (.V 7) (.V 6))]) (.seq (.cond (.E 8) .skip (.exit 0)) (.seq (.block 1 (.seq (.reg [oE 9 (.mv (.V 7)), oE 10 (.iaddr 1 (.V 5) (.V 7)), oE 11 (.load false 1 (.E 10)), oV 3 (.mv (.E 9)), oV 4 (.mv (.E 11))]) (.seq (.reg [oE 12 (.mv (.V 4)), oE 13 (.call k_impl_NameOk [([0], (.E 12))]), oE 14 (.un .not (.E 13)), oE 15 (.mv (.E 14)), ⟨(some (.E 16)), .mv (.V 0), some ((.E 15), false)⟩, ⟨(some (.E 17)), .mv (.V 3), some ((.E 15), false)⟩, ⟨(some (.E 18)), .slice 1 (.E 16) none (some (.E 17)) none, some ((.E 15), false)⟩, ⟨(some (.E 19)), .mv (.V 4), some ((.E 15), false)⟩, ⟨(some (.E 20)), .call k_slices_Contains___string_string_ [([1], (.E 18)), ([0], (.E 19))], some ((.E 15), false)⟩, oE 21 (.pick (.E 15) (kb true) (.E 20))]) (.cond (.E 21) (.seq (.reg [oV 2 (.mv (kb false))]) .ret) .skip)))) (.reg [oE 22 (.bin .add (.V 7) (ki 1)), oV 7 (.mv (.E 22))])))

def k_impl_areNames_ic : IC := .seq (.reg [oV 2 (.mv (kb false))]) (.seq (.seq (.reg [oV 5 (.mv (.V 0)), oV 6 (.len (.V 5)), oV 7 (.mv (ki 0))]) (.block 0 (.loop k_impl_areNames_b0))) (.seq (.reg [oV 2 (.mv (kb true))]) .ret))

def k_impl_areNames_rv : List RV := [.tmp [0] 2]

def k_impl_areDecimals_vars : List Nat := [0, 2]

def k_impl_areDecimals_ic : IC := .seq (.reg [oV 2 (.mv (kb false))]) (.seq (.reg [oE 3 (.mv (.V 0)), oE 4 (.call k_slices_ContainsFunc___int_int_ [([1], (.E 3)), ([0], (.C (.fn k_impl_areDecimals_1 [])))]), oE 5 (.un .not (.E 4)), oV 2 (.mv (.E 5))]) .ret)

def k_impl_areDecimals_rv : List RV := [.tmp [0] 2]

def k_slices_ContainsFunc_____int___int__vars : List Nat := [0, 1, 4]

def k_slices_ContainsFunc_____int___int__ic : IC := .seq (.reg [oV 4 (.mv (kb false))]) (.seq (.reg [oE 5 (.mv (.V 0)), oE 6 (.mv (.V 1)), oE 7 (.call k_slices_IndexFunc_____int___int_ [([1], (.E 5)), ([0], (.E 6))]), oE 8 (.bin .geq (.E 7) (ki 0)), oV 4 (.mv (.E 8))]) .ret)

def k_slices_ContainsFunc_____int___int__rv : List RV := [.tmp [0] 4]

def k_impl_TableOk_1_vars : List Nat := [0, 1, 3]

def k_impl_TableOk_1_ic : IC := .seq (.reg [oV 3 (.mv (kb false))]) (.seq (.reg [oE 4 (.mv (.V 0)), oE 5 (.len (.E 4)), oE 6 (.faddr 0 (.V 1)), oE 7 (.load false 1 (.E 6)), oE 8 (.len (.E 7)), oE 9 (.bin .neq (.E 5) (.E 8)), oE 10 (.mv (.E 9)), ⟨(some (.E 11)), .mv (.V 0), some ((.E 10), false)⟩, ⟨(some (.E 12)), .call k_impl_areDecimals [([1], (.E 11))], some ((.E 10), false)⟩, ⟨(some (.E 13)), .un .not (.E 12), some ((.E 10), false)⟩, oE 14 (.pick (.E 10) (kb true) (.E 13)), oV 3 (.mv (.E 14))]) .ret)

def k_impl_TableOk_1_rv : List RV := [.tmp [0] 3]

def k_impl_AddInt_vars : List Nat := [0, 1, 6, 4, 5]

def k_impl_AddInt_ic : IC := .seq (.reg [oV 4 (.mv (ki 0)), oV 5 (.mv (kb false))]) (.seq (.reg [oE 7 (.mv (.V 0)), oE 8 (.mv (.V 1)), oE 9 (.bin .add (.E 7) (.E 8)), oV 6 (.mv (.E 9))]) (.seq (.seq (.reg [oE 10 (.mv (.V 0)), oE 11 (.bin .lss (.E 10) (ki 0)), oE 12 (.mv (.V 1)), oE 13 (.bin .lss (.E 12) (ki 0)), oE 14 (.eqb false [.b] (.E 11) (.E 13)), oE 15 (.mv (.E 14)), ⟨(some (.E 16)), .mv (.V 6), some ((.E 15), true)⟩, ⟨(some (.E 17)), .bin .lss (.E 16) (ki 0), some ((.E 15), true)⟩, ⟨(some (.E 18)), .mv (.V 0), some ((.E 15), true)⟩, ⟨(some (.E 19)), .bin .lss (.E 18) (ki 0), some ((.E 15), true)⟩, ⟨(some (.E 20)), .eqb true [.b] (.E 17) (.E 19), some ((.E 15), true)⟩, oE 21 (.pick (.E 15) (.E 20) (kb false))]) (.cond (.E 21) (.seq (.reg [oV 4 (.mv (ki 0)), oV 5 (.mv (kb false))]) .ret) .skip)) (.seq (.reg [oE 22 (.mv (.V 6)), oV 4 (.mv (.E 22)), oV 5 (.mv (kb true))]) .ret)))

def k_impl_AddInt_rv : List RV := [.tmp [0] 4, .tmp [0] 5]

def k_impl_FloorDiv_vars : List Nat := [0, 1, 6, 4, 5]

def k_impl_FloorDiv_ic : IC := .seq (.reg [oV 4 (.mv (ki 0)), oV 5 (.mv (kb false))]) (.seq (.seq (.reg [oE 7 (.mv (.V 1)), oE 8 (.bin .eql (.E 7) (ki 0)), oE 9 (.mv (.E 8)), ⟨(some (.E 10)), .mv (.V 0), some ((.E 9), false)⟩, ⟨(some (.E 11)), .bin .eql (.E 10) (ki (-9223372036854775808)), some ((.E 9), false)⟩, ⟨(some (.E 12)), .mv (.E 11), some ((.E 9), false)⟩, ⟨(some (.E 13)), .mv (.V 1), some ((.E 12), true)⟩, ⟨(some (.E 14)), .bin .eql (.E 13) (ki (-1)), some ((.E 12), true)⟩, ⟨(some (.E 15)), .pick (.E 12) (.E 14) (kb false), some ((.E 9), false)⟩, oE 16 (.pick (.E 9) (kb true) (.E 15))]) (.cond (.E 16) (.seq (.reg [oV 4 (.mv (ki 0)), oV 5 (.mv (kb false))]) .ret) .skip)) (.seq (.reg [oE 17 (.mv (.V 0)), oE 18 (.mv (.V 1)), oE 19 (.bin .quo (.E 17) (.E 18)), oV 6 (.mv (.E 19))]) (.seq (.seq (.reg [oE 20 (.mv (.V 0)), oE 21 (.mv (.V 1)), oE 22 (.bin .rem (.E 20) (.E 21)), oE 23 (.bin .neq (.E 22) (ki 0)), oE 24 (.mv (.E 23)), ⟨(some (.E 25)), .mv (.V 0), some ((.E 24), true)⟩, ⟨(some (.E 26)), .bin .lss (.E 25) (ki 0), some ((.E 24), true)⟩, ⟨(some (.E 27)), .mv (.V 1), some ((.E 24), true)⟩, ⟨(some (.E 28)), .bin .lss (.E 27) (ki 0), some ((.E 24), true)⟩, ⟨(some (.E 29)), .eqb true [.b] (.E 26) (.E 28), some ((.E 24), true)⟩, oE 30 (.pick (.E 24) (.E 29) (kb false))]) (.cond (.E 30) (.reg [oE 31 (.mv (.V 6)), oE 32 (.bin .sub (.E 31) (ki 1)), oV 6 (.mv (.E 32))]) .skip)) (.seq (.reg [oE 33 (.mv (.V 6)), oV 4 (.mv (.E 33)), oV 5 (.mv (kb true))]) .ret))))

def k_impl_FloorDiv_rv : List RV := [.tmp [0] 4, .tmp [0] 5]

def k_impl_copyTree_vars : List Nat := [0, 1, 2]

def k_impl_copyTree_ic : IC := .seq (.reg [oV 1 (.box (.V 0)), oV 2 (.alloc [.e0])]) (.seq (.reg [oE 3 (.faddr 0 (.V 1)), oE 4 (.load false 1 (.E 3)), oE 5 (.call k_slices_Clone___impl_Node_impl_Node_ [([5], (.E 4))]), oE 6 (.build [.e0] [(0, 1, (.E 5))]), oN (.store [5] (.V 2) (.E 6))]) .ret)

def k_impl_copyTree_rv : List RV := [.cell [5] 2 true]

def k_impl_ModelOk_1_vars : List Nat := [0, 2]

def k_impl_ModelOk_1_ic : IC := .seq (.reg [oV 2 (.mv (kb false))]) (.seq (.reg [oE 3 (.mv (.V 0)), oE 4 (.call k_impl_isSign [([0], (.E 3))]), oE 5 (.un .not (.E 4)), oV 2 (.mv (.E 5))]) .ret)

def k_impl_ModelOk_1_rv : List RV := [.tmp [0] 2]

def k_impl_isDecimal_vars : List Nat := [0, 2]

def k_impl_isDecimal_ic : IC := .seq (.reg [oV 2 (.mv (kb false))]) (.seq (.reg [oE 3 (.mv (.V 0)), oE 4 (.call k_impl_within [([0], (.E 3)), ([0], (ki (-2147483647))), ([0], (ki 2147483647))]), oV 2 (.mv (.E 4))]) .ret)

def k_impl_isDecimal_rv : List RV := [.tmp [0] 2]

def k_slices_ContainsFunc___impl_Tree_impl_Tree__vars : List Nat := [0, 1, 4]

def k_slices_ContainsFunc___impl_Tree_impl_Tree__ic : IC := .seq (.reg [oV 4 (.mv (kb false))]) (.seq (.reg [oE 5 (.mv (.V 0)), oE 6 (.mv (.V 1)), oE 7 (.call k_slices_IndexFunc___impl_Tree_impl_Tree_ [([1], (.E 5)), ([0], (.E 6))]), oE 8 (.bin .geq (.E 7) (ki 0)), oV 4 (.mv (.E 8))]) .ret)

def k_slices_ContainsFunc___impl_Tree_impl_Tree__rv : List RV := [.tmp [0] 4]

def k_impl_ModelOk_2_vars : List Nat := [0, 1, 2, 3]

def k_impl_ModelOk_2_ic : IC := .seq (.reg [oV 2 (.box (.V 0)), oV 3 (.mv (kb false))]) (.seq (.reg [oE 4 (.load true 1 (.V 2)), oE 5 (.load false 1 (.V 1)), oE 6 (.call k_impl_TreeOk [([5], (.E 4)), ([0], (.E 5))]), oE 7 (.un .not (.E 6)), oV 3 (.mv (.E 7))]) .ret)

def k_impl_ModelOk_2_rv : List RV := [.tmp [0] 3]

def k_impl_TreeOk_vars : List Nat := [0, 1, 2, 30, 29, 28, 6, 5, 7, 50, 49, 48, 9, 10, 8, 4]

def k_impl_TreeOk_b0 : IC := .seq (.reg [oE 51 (.bin .lss (.V 50) (.V 49))]) (.seq (.cond (.E 51) .skip (.exit 2)) (.seq (.block 3 (.seq (.reg [oE 52 (.mv (.V 50)), oE 53 (.iaddr 1 (.V 48) (.V 50)), oE 54 (.load false 1 (.E 53)), oV 8 (.mv (.E 52)), oV 9 (.mv (.E 54))]) (.seq (.reg [oE 55 (.faddr 0 (.V 2)), oE 56 (.load false 1 (.E 55)), oE 57 (.mv (.V 9)), oE 58 (.iaddr 5 (.E 56) (.E 57)), oE 59 (.load true 5 (.E 58)), oV 10 (.alloc [iv 0, iv 0, iv 0, iv 0, iv 0]), oN (.store [0, 0, 0, 0, 0] (.V 10) (.E 59))]) (.seq (.seq (.reg [oE 60 (.faddr 0 (.V 10)), oE 61 (.load false 1 (.E 60)), oE 62 (.faddr 0 (.V 6)), oE 63 (.load false 1 (.E 62)), oE 64 (.bin .neq (.E 61) (.E 63))]) (.cond (.E 64) (.exit 3) .skip)) (.seq (.regD [(oE 65 (.mv (.V 7)), 0, 0), (oE 66 (.mv (.V 8)), 0, 0), (oE 67 (.bin .add (.E 66) (ki 1)), 0, 0), (oE 68 (.iaddr 1 (.E 65) (.E 67)), 0, 0), (oE 69 (.load false 1 (.E 68)), 0, 0), (oE 70 (.faddr 2 (.V 10)), 0, 0), (oE 71 (.load false 1 (.E 70)), 0, 0), (oE 72 (.bin .eql (.E 69) (.E 71)), 0, 0), (oE 73 (.mv (.E 72)), 0, 0), (⟨(some (.E 74)), .faddr 1 (.V 10), some ((.E 73), true)⟩, 0, 0), (⟨(some (.E 75)), .load false 1 (.E 74), some ((.E 73), true)⟩, 0, 0), (⟨(some (.E 76)), .faddr 1 (.V 6), some ((.E 73), true)⟩, 0, 0), (⟨(some (.E 77)), .load false 1 (.E 76), some ((.E 73), true)⟩, 0, 0), (⟨(some (.E 78)), .bin .leq (.E 75) (.E 77), some ((.E 73), true)⟩, 0, 0), (oE 79 (.pick (.E 73) (.E 78) (kb false)), 0, 0), (oE 80 (.mv (.E 79)), 0, 0), (⟨(some (.E 81)), .mv (.V 7), some ((.E 80), false)⟩, 0, 0), (⟨(some (.E 82)), .mv (.V 8), some ((.E 80), false)⟩, 0, 0), (⟨(some (.E 83)), .bin .add (.E 82) (ki 1), some ((.E 80), false)⟩, 0, 0), (⟨(some (.E 84)), .iaddr 1 (.E 81) (.E 83), some ((.E 80), false)⟩, 0, 0), (⟨(some (.E 85)), .load false 1 (.E 84), some ((.E 80), false)⟩, 0, 0), (⟨(some (.E 86)), .faddr 3 (.V 10), some ((.E 80), false)⟩, 0, 0), (⟨(some (.E 87)), .load false 1 (.E 86), some ((.E 80), false)⟩, 0, 0), (⟨(some (.E 88)), .bin .eql (.E 85) (.E 87), some ((.E 80), false)⟩, 0, 0), (⟨(some (.E 89)), .mv (.E 88), some ((.E 80), false)⟩, 0, 0), (⟨(some (.E 90)), .faddr 1 (.V 10), some ((.E 89), true)⟩, 0, 0), (⟨(some (.E 91)), .load false 1 (.E 90), some ((.E 89), true)⟩, 0, 0), (⟨(some (.E 92)), .faddr 1 (.V 6), some ((.E 89), true)⟩, 0, 0), (⟨(some (.E 93)), .load false 1 (.E 92), some ((.E 89), true)⟩, 0, 0), (⟨(some (.E 94)), .bin .geq (.E 91) (.E 93), some ((.E 89), true)⟩, 0, 0), (⟨(some (.E 95)), .pick (.E 89) (.E 94) (kb false), some ((.E 80), false)⟩, 0, 0), (oE 96 (.pick (.E 80) (kb true) (.E 95)), 0, 0)]) (.cond (.E 96) (.seq (.reg [oV 4 (.mv (kb false))]) .ret) .skip)))))) (.reg [oE 97 (.bin .add (.V 50) (ki 1)), oV 50 (.mv (.E 97))])))

def k_impl_TreeOk_b1 : IC := .seq (.reg [oE 31 (.bin .lss (.V 30) (.V 29))]) (.seq (.cond (.E 31) .skip (.exit 0)) (.seq (.block 1 (.seq (.reg [oE 32 (.mv (.V 30)), oE 33 (.iaddr 5 (.V 28) (.V 30)), oE 34 (.load true 5 (.E 33)), oV 6 (.alloc [iv 0, iv 0, iv 0, iv 0, iv 0]), oV 5 (.mv (.E 32)), oN (.store [0, 0, 0, 0, 0] (.V 6) (.E 34))]) (.seq (.seq (.reg [oE 35 (.load true 5 (.V 6)), oE 36 (.call k_impl_isLeaf [([0, 0, 0, 0, 0], (.E 35))])]) (.cond (.E 36) (.seq (.seq (.reg [oE 37 (.load true 1 (.V 2)), oE 38 (.mv (.V 5)), oE 39 (.call k_impl_LevelOf [([5], (.E 37)), ([0], (.E 38))]), oE 40 (.bin .gtr (.E 39) (ki 4))]) (.cond (.E 40) (.seq (.reg [oV 4 (.mv (kb false))]) .ret) .skip)) (.exit 1)) .skip)) (.seq (.reg [oE 41 (.load true 1 (.V 2)), oE 42 (.mv (.V 5)), oE 43 (.call k_impl_wayTo [([5], (.E 41)), ([0], (.E 42))]), oV 7 (.mv (.E 43))]) (.seq (.reg [oE 44 (.mv (.V 7)), oE 45 (.mv (.V 7)), oE 46 (.len (.E 45)), oE 47 (.bin .sub (.E 46) (ki 1)), oV 48 (.slice 1 (.E 44) none (some (.E 47)) none), oV 49 (.len (.V 48)), oV 50 (.mv (ki 0))]) (.block 2 (.loop k_impl_TreeOk_b0))))))) (.reg [oE 98 (.bin .add (.V 30) (ki 1)), oV 30 (.mv (.E 98))])))

def k_impl_TreeOk_ic : IC := .seq (.reg [oV 2 (.box (.V 0)), oV 4 (.mv (kb false))]) (.seq (.seq (.reg [oE 11 (.mv (.V 1)), oE 12 (.call k_impl_within [([0], (.E 11)), ([0], (ki 0)), ([0], (ki 4))]), oE 13 (.un .not (.E 12)), oE 14 (.mv (.E 13)), ⟨(some (.E 15)), .faddr 0 (.V 2), some ((.E 14), false)⟩, ⟨(some (.E 16)), .load false 1 (.E 15), some ((.E 14), false)⟩, ⟨(some (.E 17)), .len (.E 16), some ((.E 14), false)⟩, ⟨(some (.E 18)), .call k_impl_within [([0], (.E 17)), ([0], (ki 1)), ([0], (ki 31))], some ((.E 14), false)⟩, ⟨(some (.E 19)), .un .not (.E 18), some ((.E 14), false)⟩, oE 20 (.pick (.E 14) (kb true) (.E 19)), oE 21 (.mv (.E 20)), ⟨(some (.E 22)), .load true 1 (.V 2), some ((.E 21), false)⟩, ⟨(some (.E 23)), .mv (.V 1), some ((.E 21), false)⟩, ⟨(some (.E 24)), .call k_impl_shapeOk [([5], (.E 22)), ([0], (.E 23))], some ((.E 21), false)⟩, ⟨(some (.E 25)), .un .not (.E 24), some ((.E 21), false)⟩, oE 26 (.pick (.E 21) (kb true) (.E 25))]) (.cond (.E 26) (.seq (.reg [oV 4 (.mv (kb false))]) .ret) .skip)) (.seq (.seq (.reg [oE 27 (.faddr 0 (.V 2)), oV 28 (.load false 1 (.E 27)), oV 29 (.len (.V 28)), oV 30 (.mv (ki 0))]) (.block 0 (.loop k_impl_TreeOk_b1))) (.seq (.reg [oV 4 (.mv (kb true))]) .ret)))

def k_impl_TreeOk_rv : List RV := [.tmp [0] 4]

def k_laws_markText_vars : List Nat := [0, 3, 2]

def k_laws_markText_b0 : IC := .seq (.seq (.reg [oE 6 (.mv (.V 0)), oE 7 (.bin .gtr (.E 6) (ki 0))]) (.cond (.E 7) .skip (.exit 0))) (.block 1 (.seq (.reg [oE 8 (.mv (.V 0)), oE 9 (.bin .rem (.E 8) (ki 10)), oE 10 (.bin .add (ki 48) (.E 9)), oE 11 (.convI .u8 (.E 10)), oE 12 (.bslice 1 1 [(.v (.int .u8 0))] [(0, (.E 11))]), oE 13 (.toS (.E 12)), oE 14 (.mv (.V 3)), oE 15 (.bin .add (.E 13) (.E 14)), oV 3 (.mv (.E 15))]) (.reg [oE 16 (.mv (.V 0)), oE 17 (.bin .quo (.E 16) (ki 10)), oV 0 (.mv (.E 17))])))

def k_laws_markText_ic : IC := .seq (.reg [oV 2 (.mv (.C (.v (.string (bs [])))))]) (.seq (.seq (.reg [oE 4 (.mv (.V 0)), oE 5 (.bin .leq (.E 4) (ki 0))]) (.cond (.E 5) (.seq (.reg [oV 2 (.mv (.C (.v (.string (bs [109, 48])))))]) .ret) .skip)) (.seq (.reg [oV 3 (.mv (.C (.v (.string (bs [])))))]) (.seq (.block 0 (.loop k_laws_markText_b0)) (.seq (.reg [oE 18 (.mv (.V 3)), oE 19 (.bin .add (.C (.v (.string (bs [109])))) (.E 18)), oV 2 (.mv (.E 19))]) .ret))))

def k_laws_markText_rv : List RV := [.tmp [0] 2]

def k_laws_eqNode_vars : List Nat := [0, 1, 2, 3, 4]

def k_laws_eqNode_ic : IC := .seq (.reg [oV 2 (.box (.V 0)), oV 3 (.box (.V 1)), oV 4 (.mv (kb false))]) (.seq (.seq (.reg [oE 5 (.faddr 0 (.V 2)), oE 6 (.load false 1 (.E 5)), oE 7 (.faddr 0 (.V 3)), oE 8 (.load false 1 (.E 7)), oE 9 (.bin .neq (.E 6) (.E 8))]) (.cond (.E 9) (.seq (.reg [oV 4 (.mv (kb false))]) .ret) .skip)) (.seq (.seq (.reg [oE 10 (.faddr 1 (.V 2)), oE 11 (.load false 1 (.E 10)), oE 12 (.faddr 1 (.V 3)), oE 13 (.load false 1 (.E 12)), oE 14 (.bin .neq (.E 11) (.E 13))]) (.cond (.E 14) (.seq (.reg [oV 4 (.mv (kb false))]) .ret) .skip)) (.seq (.seq (.reg [oE 15 (.faddr 2 (.V 2)), oE 16 (.load false 1 (.E 15)), oE 17 (.faddr 2 (.V 3)), oE 18 (.load false 1 (.E 17)), oE 19 (.bin .neq (.E 16) (.E 18))]) (.cond (.E 19) (.seq (.reg [oV 4 (.mv (kb false))]) .ret) .skip)) (.seq (.seq (.reg [oE 20 (.faddr 3 (.V 2)), oE 21 (.load false 1 (.E 20)), oE 22 (.faddr 3 (.V 3)), oE 23 (.load false 1 (.E 22)), oE 24 (.bin .neq (.E 21) (.E 23))]) (.cond (.E 24) (.seq (.reg [oV 4 (.mv (kb false))]) .ret) .skip)) (.seq (.seq (.reg [oE 25 (.faddr 4 (.V 2)), oE 26 (.load false 1 (.E 25)), oE 27 (.faddr 4 (.V 3)), oE 28 (.load false 1 (.E 27)), oE 29 (.bin .neq (.E 26) (.E 28))]) (.cond (.E 29) (.seq (.reg [oV 4 (.mv (kb false))]) .ret) .skip)) (.seq (.reg [oV 4 (.mv (kb true))]) .ret))))))

def k_laws_eqNode_rv : List RV := [.tmp [0] 4]

def k_slices_IndexFunc___int_int__vars : List Nat := [0, 1, 8, 7, 5, 4]

def k_slices_IndexFunc___int_int__b0 : IC := .seq (.reg [oE 9 (.bin .lss (.V 8) (.V 7))]) (.seq (.cond (.E 9) .skip (.exit 0)) (.seq (.block 1 (.seq (.reg [oE 10 (.mv (.V 8)), oV 5 (.mv (.E 10))]) (.seq (.reg [oE 11 (.mv (.V 1)), oE 12 (.mv (.V 0)), oE 13 (.mv (.V 5)), oE 14 (.iaddr 1 (.E 12) (.E 13)), oE 15 (.load false 1 (.E 14)), oE 16 (.callv (.E 11) [([0], (.E 15))])]) (.cond (.E 16) (.seq (.reg [oE 17 (.mv (.V 5)), oV 4 (.mv (.E 17))]) .ret) .skip)))) (.reg [oE 18 (.bin .add (.V 8) (ki 1)), oV 8 (.mv (.E 18))])))

def k_slices_IndexFunc___int_int__ic : IC := .seq (.reg [oV 4 (.mv (ki 0))]) (.seq (.seq (.reg [oE 6 (.mv (.V 0)), oV 7 (.len (.E 6)), oV 8 (.mv (ki 0))]) (.block 0 (.loop k_slices_IndexFunc___int_int__b0))) (.seq (.reg [oV 4 (.mv (ki (-1)))]) .ret))

def k_slices_IndexFunc___int_int__rv : List RV := [.tmp [0] 4]

def k_laws_szNodeS_vars : List Nat := [0, 1, 4]

def k_laws_szNodeS_ic : IC := .seq (.reg [oV 4 (.mv (ki 0))]) (.seq (.reg [oE 5 (.mv (.V 1)), oE 6 (.mv (.V 0)), oE 7 (.len (.E 6)), oE 8 (.bin .sub (.E 5) (.E 7)), oV 1 (.mv (.E 8))]) (.seq (.seq (.reg [oE 9 (.mv (.V 1)), oE 10 (.bin .lss (.E 9) (ki 0))]) (.cond (.E 10) (.seq (.reg [oV 4 (.mv (ki (-1)))]) .ret) .skip)) (.seq (.reg [oE 11 (.mv (.V 1)), oV 4 (.mv (.E 11))]) .ret)))

def k_laws_szNodeS_rv : List RV := [.tmp [0] 4]

def k_spec_l17Shape_vars : List Nat := [0, 1, 6, 2, 7, 5, 4]

def k_spec_l17Shape_b0 : IC := .seq (.seq (.reg [oE 8 (.mv (.V 6)), oE 9 (.faddr 0 (.V 2)), oE 10 (.load false 1 (.E 9)), oE 11 (.len (.E 10)), oE 12 (.bin .lss (.E 8) (.E 11))]) (.cond (.E 12) .skip (.exit 0))) (.seq (.block 1 (.seq (.reg [oE 15 (.faddr 0 (.V 2)), oE 16 (.load false 1 (.E 15)), oE 17 (.mv (.V 6)), oE 18 (.iaddr 5 (.E 16) (.E 17)), oE 19 (.load true 5 (.E 18)), oV 7 (.alloc [iv 0, iv 0, iv 0, iv 0, iv 0]), oN (.store [0, 0, 0, 0, 0] (.V 7) (.E 19))]) (.seq (.seq (.reg [oE 20 (.load true 5 (.V 7)), oE 21 (.call k_spec_l17Inner [([0, 0, 0, 0, 0], (.E 20))]), oE 22 (.un .not (.E 21))]) (.cond (.E 22) (.seq (.seq (.reg [oE 23 (.load true 5 (.V 7)), oE 24 (.faddr 4 (.V 7)), oE 25 (.load false 1 (.E 24)), oE 26 (.build [iv 0, iv 0, iv 0, iv 0, iv 0] [(0, 1, (ki (-1))), (4, 1, (.E 25))]), oE 27 (.eqb true [.i .i64, .i .i64, .i .i64, .i .i64, .i .i64] (.E 23) (.E 26)), oE 28 (.mv (.E 27)), ⟨(some (.E 29)), .faddr 4 (.V 7), some ((.E 28), false)⟩, ⟨(some (.E 30)), .load false 1 (.E 29), some ((.E 28), false)⟩, ⟨(some (.E 31)), .call k_spec_l14Leaf [([0], (.E 30))], some ((.E 28), false)⟩, ⟨(some (.E 32)), .un .not (.E 31), some ((.E 28), false)⟩, oE 33 (.pick (.E 28) (kb true) (.E 32))]) (.cond (.E 33) (.seq (.reg [oV 4 (.mv (kb false))]) .ret) .skip)) (.exit 1)) .skip)) (.seq (.seq (.reg [oE 34 (.faddr 0 (.V 7)), oE 35 (.load false 1 (.E 34)), oE 36 (.mv (.V 1)), oE 37 (.bin .sub (.E 36) (ki 1)), oE 38 (.call k_spec_l1In [([0], (.E 35)), ([0], (ki 0)), ([0], (.E 37))]), oE 39 (.un .not (.E 38)), oE 40 (.mv (.E 39)), ⟨(some (.E 41)), .faddr 1 (.V 7), some ((.E 40), false)⟩, ⟨(some (.E 42)), .load false 1 (.E 41), some ((.E 40), false)⟩, ⟨(some (.E 43)), .call k_spec_l6Value [([0], (.E 42))], some ((.E 40), false)⟩, ⟨(some (.E 44)), .un .not (.E 43), some ((.E 40), false)⟩, oE 45 (.pick (.E 40) (kb true) (.E 44)), oE 46 (.mv (.E 45)), ⟨(some (.E 47)), .faddr 4 (.V 7), some ((.E 46), false)⟩, ⟨(some (.E 48)), .load false 1 (.E 47), some ((.E 46), false)⟩, ⟨(some (.E 49)), .bin .neq (.E 48) (ki 0), some ((.E 46), false)⟩, oE 50 (.pick (.E 46) (kb true) (.E 49)), oE 51 (.mv (.E 50)), ⟨(some (.E 52)), .faddr 2 (.V 7), some ((.E 51), false)⟩, ⟨(some (.E 53)), .load false 1 (.E 52), some ((.E 51), false)⟩, ⟨(some (.E 54)), .mv (.V 5), some ((.E 51), false)⟩, ⟨(some (.E 55)), .bin .neq (.E 53) (.E 54), some ((.E 51), false)⟩, oE 56 (.pick (.E 51) (kb true) (.E 55)), oE 57 (.mv (.E 56)), ⟨(some (.E 58)), .faddr 3 (.V 7), some ((.E 57), false)⟩, ⟨(some (.E 59)), .load false 1 (.E 58), some ((.E 57), false)⟩, ⟨(some (.E 60)), .mv (.V 5), some ((.E 57), false)⟩, ⟨(some (.E 61)), .bin .add (.E 60) (ki 1), some ((.E 57), false)⟩, ⟨(some (.E 62)), .bin .neq (.E 59) (.E 61), some ((.E 57), false)⟩, oE 63 (.pick (.E 57) (kb true) (.E 62)), oE 64 (.mv (.E 63)), ⟨(some (.E 65)), .faddr 2 (.V 7), some ((.E 64), false)⟩, ⟨(some (.E 66)), .load false 1 (.E 65), some ((.E 64), false)⟩, ⟨(some (.E 67)), .mv (.V 6), some ((.E 64), false)⟩, ⟨(some (.E 68)), .bin .leq (.E 66) (.E 67), some ((.E 64), false)⟩, oE 69 (.pick (.E 64) (kb true) (.E 68))]) (.cond (.E 69) (.seq (.reg [oV 4 (.mv (kb false))]) .ret) .skip)) (.reg [oE 70 (.mv (.V 5)), oE 71 (.bin .add (.E 70) (ki 2)), oV 5 (.mv (.E 71))]))))) (.reg [oE 13 (.mv (.V 6)), oE 14 (.bin .add (.E 13) (ki 1)), oV 6 (.mv (.E 14))]))

def k_spec_l17Shape_ic : IC := .seq (.reg [oV 2 (.box (.V 0)), oV 4 (.mv (kb false))]) (.seq (.reg [oV 5 (.mv (ki 1))]) (.seq (.seq (.reg [oV 6 (.mv (ki 0))]) (.block 0 (.loop k_spec_l17Shape_b0))) (.seq (.reg [oE 72 (.mv (.V 5)), oE 73 (.faddr 0 (.V 2)), oE 74 (.load false 1 (.E 73)), oE 75 (.len (.E 74)), oE 76 (.bin .eql (.E 72) (.E 75)), oV 4 (.mv (.E 76))]) .ret)))

def k_spec_l17Shape_rv : List RV := [.tmp [0] 4]

def k_spec_DepthOf_vars : List Nat := [0, 4, 1, 3, 2]

def k_spec_DepthOf_b0 : IC := .seq (.seq (.reg [oE 5 (.mv (.V 4)), oE 6 (.faddr 0 (.V 1)), oE 7 (.load false 1 (.E 6)), oE 8 (.len (.E 7)), oE 9 (.bin .lss (.E 5) (.E 8))]) (.cond (.E 9) .skip (.exit 0))) (.seq (.block 1 (.reg [oE 12 (.mv (.V 3)), oE 13 (.load true 1 (.V 1)), oE 14 (.mv (.V 4)), oE 15 (.call k_spec_LevelOf [([5], (.E 13)), ([0], (.E 14))]), oE 16 (.call k_spec_l1Max [([0], (.E 12)), ([0], (.E 15))]), oV 3 (.mv (.E 16))])) (.reg [oE 10 (.mv (.V 4)), oE 11 (.bin .add (.E 10) (ki 1)), oV 4 (.mv (.E 11))]))

def k_spec_DepthOf_ic : IC := .seq (.reg [oV 1 (.box (.V 0)), oV 2 (.mv (ki 0))]) (.seq (.reg [oV 3 (.mv (ki (-1)))]) (.seq (.seq (.reg [oV 4 (.mv (ki 0))]) (.block 0 (.loop k_spec_DepthOf_b0))) (.seq (.reg [oE 17 (.mv (.V 3)), oV 2 (.mv (.E 17))]) .ret)))

def k_spec_DepthOf_rv : List RV := [.tmp [0] 2]

def k_spec_l17Ways_vars : List Nat := [0, 3, 1, 5, 6, 4, 2]

def k_spec_l17Ways_b0 : IC := .seq (.seq (.reg [oE 25 (.mv (.V 5)), oE 26 (.bin .geq (.E 25) (ki 0))]) (.cond (.E 26) .skip (.exit 2))) (.seq (.block 3 (.seq (.reg [oE 30 (.faddr 0 (.V 1)), oE 31 (.load false 1 (.E 30)), oE 32 (.mv (.V 5)), oE 33 (.iaddr 5 (.E 31) (.E 32)), oE 34 (.load true 5 (.E 33)), oV 6 (.alloc [iv 0, iv 0, iv 0, iv 0, iv 0]), oN (.store [0, 0, 0, 0, 0] (.V 6) (.E 34))]) (.seq (.seq (.regD [(oE 35 (.faddr 0 (.V 6)), 0, 0), (oE 36 (.load false 1 (.E 35)), 0, 0), (oE 37 (.faddr 0 (.V 1)), 0, 0), (oE 38 (.load false 1 (.E 37)), 0, 0), (oE 39 (.mv (.V 3)), 0, 0), (oE 40 (.iaddr 5 (.E 38) (.E 39)), 0, 0), (oE 41 (.faddr 0 (.E 40)), 0, 0), (oE 42 (.load false 1 (.E 41)), 0, 0), (oE 43 (.bin .eql (.E 36) (.E 42)), 0, 0), (oE 44 (.mv (.E 43)), 0, 0), (⟨(some (.E 45)), .faddr 3 (.V 6), some ((.E 44), true)⟩, 0, 0), (⟨(some (.E 46)), .load false 1 (.E 45), some ((.E 44), true)⟩, 0, 0), (⟨(some (.E 47)), .mv (.V 4), some ((.E 44), true)⟩, 0, 0), (⟨(some (.E 48)), .bin .eql (.E 46) (.E 47), some ((.E 44), true)⟩, 0, 0), (⟨(some (.E 49)), .mv (.E 48), some ((.E 44), true)⟩, 0, 0), (⟨(some (.E 50)), .faddr 1 (.V 6), some ((.E 49), true)⟩, 0, 0), (⟨(some (.E 51)), .load false 1 (.E 50), some ((.E 49), true)⟩, 0, 0), (⟨(some (.E 52)), .faddr 0 (.V 1), some ((.E 49), true)⟩, 0, 0), (⟨(some (.E 53)), .load false 1 (.E 52), some ((.E 49), true)⟩, 0, 0), (⟨(some (.E 54)), .mv (.V 3), some ((.E 49), true)⟩, 0, 0), (⟨(some (.E 55)), .iaddr 5 (.E 53) (.E 54), some ((.E 49), true)⟩, 0, 0), (⟨(some (.E 56)), .faddr 1 (.E 55), some ((.E 49), true)⟩, 0, 0), (⟨(some (.E 57)), .load false 1 (.E 56), some ((.E 49), true)⟩, 0, 0), (⟨(some (.E 58)), .bin .geq (.E 51) (.E 57), some ((.E 49), true)⟩, 0, 0), (⟨(some (.E 59)), .pick (.E 49) (.E 58) (kb false), some ((.E 44), true)⟩, 0, 0), (⟨(some (.E 60)), .mv (.E 59), some ((.E 44), true)⟩, 0, 0), (⟨(some (.E 61)), .faddr 2 (.V 6), some ((.E 60), false)⟩, 0, 0), (⟨(some (.E 62)), .load false 1 (.E 61), some ((.E 60), false)⟩, 0, 0), (⟨(some (.E 63)), .mv (.V 4), some ((.E 60), false)⟩, 0, 0), (⟨(some (.E 64)), .bin .eql (.E 62) (.E 63), some ((.E 60), false)⟩, 0, 0), (⟨(some (.E 65)), .mv (.E 64), some ((.E 60), false)⟩, 0, 0), (⟨(some (.E 66)), .faddr 1 (.V 6), some ((.E 65), true)⟩, 0, 0), (⟨(some (.E 67)), .load false 1 (.E 66), some ((.E 65), true)⟩, 0, 0), (⟨(some (.E 68)), .faddr 0 (.V 1), some ((.E 65), true)⟩, 0, 0), (⟨(some (.E 69)), .load false 1 (.E 68), some ((.E 65), true)⟩, 0, 0), (⟨(some (.E 70)), .mv (.V 3), some ((.E 65), true)⟩, 0, 0), (⟨(some (.E 71)), .iaddr 5 (.E 69) (.E 70), some ((.E 65), true)⟩, 0, 0), (⟨(some (.E 72)), .faddr 1 (.E 71), some ((.E 65), true)⟩, 0, 0), (⟨(some (.E 73)), .load false 1 (.E 72), some ((.E 65), true)⟩, 0, 0), (⟨(some (.E 74)), .bin .leq (.E 67) (.E 73), some ((.E 65), true)⟩, 0, 0), (⟨(some (.E 75)), .pick (.E 65) (.E 74) (kb false), some ((.E 60), false)⟩, 0, 0), (⟨(some (.E 76)), .pick (.E 60) (kb true) (.E 75), some ((.E 44), true)⟩, 0, 0), (oE 77 (.pick (.E 44) (.E 76) (kb false)), 0, 0)]) (.cond (.E 77) (.seq (.reg [oV 2 (.mv (kb false))]) .ret) .skip)) (.reg [oE 78 (.mv (.V 5)), oV 4 (.mv (.E 78))])))) (.reg [oE 27 (.load true 1 (.V 1)), oE 28 (.mv (.V 5)), oE 29 (.call k_spec_l17Up [([5], (.E 27)), ([0], (.E 28))]), oV 5 (.mv (.E 29))]))

def k_spec_l17Ways_b1 : IC := .seq (.seq (.reg [oE 7 (.mv (.V 3)), oE 8 (.faddr 0 (.V 1)), oE 9 (.load false 1 (.E 8)), oE 10 (.len (.E 9)), oE 11 (.bin .lss (.E 7) (.E 10))]) (.cond (.E 11) .skip (.exit 0))) (.seq (.block 1 (.seq (.seq (.reg [oE 14 (.faddr 0 (.V 1)), oE 15 (.load false 1 (.E 14)), oE 16 (.mv (.V 3)), oE 17 (.iaddr 5 (.E 15) (.E 16)), oE 18 (.load true 5 (.E 17)), oE 19 (.call k_spec_l17Inner [([0, 0, 0, 0, 0], (.E 18))]), oE 20 (.un .not (.E 19))]) (.cond (.E 20) (.exit 1) .skip)) (.seq (.reg [oE 21 (.mv (.V 3)), oV 4 (.mv (.E 21))]) (.seq (.reg [oE 22 (.load true 1 (.V 1)), oE 23 (.mv (.V 3)), oE 24 (.call k_spec_l17Up [([5], (.E 22)), ([0], (.E 23))]), oV 5 (.mv (.E 24))]) (.block 2 (.loop k_spec_l17Ways_b0)))))) (.reg [oE 12 (.mv (.V 3)), oE 13 (.bin .add (.E 12) (ki 1)), oV 3 (.mv (.E 13))]))

def k_spec_l17Ways_ic : IC := .seq (.reg [oV 1 (.box (.V 0)), oV 2 (.mv (kb false))]) (.seq (.seq (.reg [oV 3 (.mv (ki 0))]) (.block 0 (.loop k_spec_l17Ways_b1))) (.seq (.reg [oV 2 (.mv (kb true))]) .ret))

def k_spec_l17Ways_rv : List RV := [.tmp [0] 2]

def k_laws_toNodeS_vars : List Nat := [0, 4, 3, 2]

def k_laws_toNodeS_b0 : IC := .seq (.seq (.reg [oE 8 (.mv (.V 4)), oE 9 (.mv (.V 0)), oE 10 (.len (.E 9)), oE 11 (.bin .lss (.E 8) (.E 10))]) (.cond (.E 11) .skip (.exit 0))) (.seq (.block 1 (.reg [oE 14 (.mv (.V 3)), oE 15 (.mv (.V 4)), oE 16 (.mv (.V 0)), oE 17 (.mv (.V 4)), oE 18 (.iaddr 5 (.E 16) (.E 17)), oE 19 (.load true 5 (.E 18)), oE 20 (.call k_laws_toNode [([0, 0, 0, 0, 0], (.E 19))]), oE 21 (.iaddr 5 (.E 14) (.E 15)), oN (.store [0, 0, 0, 0, 0] (.E 21) (.E 20))])) (.reg [oE 12 (.mv (.V 4)), oE 13 (.bin .add (.E 12) (ki 1)), oV 4 (.mv (.E 13))]))

def k_laws_toNodeS_ic : IC := .seq (.reg [oV 2 (.mv (.C .e0))]) (.seq (.reg [oE 5 (.mv (.V 0)), oE 6 (.len (.E 5)), oE 7 (.mksl 40 5 [iv 0, iv 0, iv 0, iv 0, iv 0] (.E 6) (.E 6)), oV 3 (.mv (.E 7))]) (.seq (.seq (.reg [oV 4 (.mv (ki 0))]) (.block 0 (.loop k_laws_toNodeS_b0))) (.seq (.reg [oE 22 (.mv (.V 3)), oV 2 (.mv (.E 22))]) .ret)))

def k_laws_toNodeS_rv : List RV := [.tmp [5] 2]

def k_impl_NameOk_vars : List Nat := [0, 7, 6, 3, 4, 2]

def k_impl_NameOk_b0 : IC := .seq (.reg [oE 8 (.bin .lss (.V 7) (.V 6))]) (.seq (.cond (.E 8) .skip (.exit 0)) (.seq (.block 1 (.seq (.reg [oE 9 (.mv (.V 7)), oV 3 (.mv (.E 9))]) (.seq (.reg [oE 10 (.mv (.V 0)), oE 11 (.mv (.V 3)), oE 12 (.idx (.E 10) (.E 11)), oE 13 (.bin .geq (.E 12) (.C (.v (.int .u8 97)))), oE 14 (.mv (.E 13)), ⟨(some (.E 15)), .mv (.V 0), some ((.E 14), true)⟩, ⟨(some (.E 16)), .mv (.V 3), some ((.E 14), true)⟩, ⟨(some (.E 17)), .idx (.E 15) (.E 16), some ((.E 14), true)⟩, ⟨(some (.E 18)), .bin .leq (.E 17) (.C (.v (.int .u8 122))), some ((.E 14), true)⟩, oE 19 (.pick (.E 14) (.E 18) (kb false)), oV 4 (.mv (.E 19))]) (.seq (.reg [oE 20 (.mv (.V 4)), oE 21 (.un .not (.E 20)), oE 22 (.mv (.E 21)), ⟨(some (.E 23)), .mv (.V 3), some ((.E 22), true)⟩, ⟨(some (.E 24)), .bin .eql (.E 23) (ki 0), some ((.E 22), true)⟩, ⟨(some (.E 25)), .mv (.E 24), some ((.E 22), true)⟩, ⟨(some (.E 26)), .mv (.V 0), some ((.E 25), false)⟩, ⟨(some (.E 27)), .mv (.V 3), some ((.E 25), false)⟩, ⟨(some (.E 28)), .idx (.E 26) (.E 27), some ((.E 25), false)⟩, ⟨(some (.E 29)), .bin .lss (.E 28) (.C (.v (.int .u8 48))), some ((.E 25), false)⟩, ⟨(some (.E 30)), .pick (.E 25) (kb true) (.E 29), some ((.E 22), true)⟩, ⟨(some (.E 31)), .mv (.E 30), some ((.E 22), true)⟩, ⟨(some (.E 32)), .mv (.V 0), some ((.E 31), false)⟩, ⟨(some (.E 33)), .mv (.V 3), some ((.E 31), false)⟩, ⟨(some (.E 34)), .idx (.E 32) (.E 33), some ((.E 31), false)⟩, ⟨(some (.E 35)), .bin .gtr (.E 34) (.C (.v (.int .u8 57))), some ((.E 31), false)⟩, ⟨(some (.E 36)), .pick (.E 31) (kb true) (.E 35), some ((.E 22), true)⟩, oE 37 (.pick (.E 22) (.E 36) (kb false))]) (.cond (.E 37) (.seq (.reg [oV 2 (.mv (kb false))]) .ret) .skip))))) (.reg [oE 38 (.bin .add (.V 7) (ki 1)), oV 7 (.mv (.E 38))])))

def k_impl_NameOk_ic : IC := .seq (.reg [oV 2 (.mv (kb false))]) (.seq (.seq (.reg [oE 5 (.mv (.V 0)), oV 6 (.lenS (.E 5)), oV 7 (.mv (ki 0))]) (.block 0 (.loop k_impl_NameOk_b0))) (.seq (.reg [oE 39 (.mv (.V 0)), oE 40 (.lenS (.E 39)), oE 41 (.call k_impl_within [([0], (.E 40)), ([0], (ki 1)), ([0], (ki 12))]), oV 2 (.mv (.E 41))]) .ret))

def k_impl_NameOk_rv : List RV := [.tmp [0] 2]

def k_slices_Contains___string_string__vars : List Nat := [0, 1, 4]

def k_slices_Contains___string_string__ic : IC := .seq (.reg [oV 4 (.mv (kb false))]) (.seq (.reg [oE 5 (.mv (.V 0)), oE 6 (.mv (.V 1)), oE 7 (.call k_slices_Index___string_string_ [([1], (.E 5)), ([0], (.E 6))]), oE 8 (.bin .geq (.E 7) (ki 0)), oV 4 (.mv (.E 8))]) .ret)

def k_slices_Contains___string_string__rv : List RV := [.tmp [0] 4]

def k_impl_areDecimals_1_vars : List Nat := [0, 2]

def k_impl_areDecimals_1_ic : IC := .seq (.reg [oV 2 (.mv (kb false))]) (.seq (.reg [oE 3 (.mv (.V 0)), oE 4 (.call k_impl_isDecimal [([0], (.E 3))]), oE 5 (.un .not (.E 4)), oV 2 (.mv (.E 5))]) .ret)

def k_impl_areDecimals_1_rv : List RV := [.tmp [0] 2]

def k_slices_IndexFunc_____int___int__vars : List Nat := [0, 1, 8, 7, 5, 4]

def k_slices_IndexFunc_____int___int__b0 : IC := .seq (.reg [oE 9 (.bin .lss (.V 8) (.V 7))]) (.seq (.cond (.E 9) .skip (.exit 0)) (.seq (.block 1 (.seq (.reg [oE 10 (.mv (.V 8)), oV 5 (.mv (.E 10))]) (.seq (.reg [oE 11 (.mv (.V 1)), oE 12 (.mv (.V 0)), oE 13 (.mv (.V 5)), oE 14 (.iaddr 1 (.E 12) (.E 13)), oE 15 (.load false 1 (.E 14)), oE 16 (.callv (.E 11) [([1], (.E 15))])]) (.cond (.E 16) (.seq (.reg [oE 17 (.mv (.V 5)), oV 4 (.mv (.E 17))]) .ret) .skip)))) (.reg [oE 18 (.bin .add (.V 8) (ki 1)), oV 8 (.mv (.E 18))])))

def k_slices_IndexFunc_____int___int__ic : IC := .seq (.reg [oV 4 (.mv (ki 0))]) (.seq (.seq (.reg [oE 6 (.mv (.V 0)), oV 7 (.len (.E 6)), oV 8 (.mv (ki 0))]) (.block 0 (.loop k_slices_IndexFunc_____int___int__b0))) (.seq (.reg [oV 4 (.mv (ki (-1)))]) .ret))

def k_slices_IndexFunc_____int___int__rv : List RV := [.tmp [0] 4]

def k_slices_IndexFunc___impl_Tree_impl_Tree__vars : List Nat := [0, 1, 8, 7, 5, 4]

def k_slices_IndexFunc___impl_Tree_impl_Tree__b0 : IC := .seq (.reg [oE 9 (.bin .lss (.V 8) (.V 7))]) (.seq (.cond (.E 9) .skip (.exit 0)) (.seq (.block 1 (.seq (.reg [oE 10 (.mv (.V 8)), oV 5 (.mv (.E 10))]) (.seq (.reg [oE 11 (.mv (.V 1)), oE 12 (.mv (.V 0)), oE 13 (.mv (.V 5)), oE 14 (.iaddr 1 (.E 12) (.E 13)), oE 15 (.load true 1 (.E 14)), oE 16 (.callv (.E 11) [([5], (.E 15))])]) (.cond (.E 16) (.seq (.reg [oE 17 (.mv (.V 5)), oV 4 (.mv (.E 17))]) .ret) .skip)))) (.reg [oE 18 (.bin .add (.V 8) (ki 1)), oV 8 (.mv (.E 18))])))

def k_slices_IndexFunc___impl_Tree_impl_Tree__ic : IC := .seq (.reg [oV 4 (.mv (ki 0))]) (.seq (.seq (.reg [oE 6 (.mv (.V 0)), oV 7 (.len (.E 6)), oV 8 (.mv (ki 0))]) (.block 0 (.loop k_slices_IndexFunc___impl_Tree_impl_Tree__b0))) (.seq (.reg [oV 4 (.mv (ki (-1)))]) .ret))

def k_slices_IndexFunc___impl_Tree_impl_Tree__rv : List RV := [.tmp [0] 4]

def k_impl_shapeOk_vars : List Nat := [0, 1, 2, 11, 10, 9, 7, 5, 6, 4]

def k_impl_shapeOk_b0 : IC := .seq (.reg [oE 12 (.bin .lss (.V 11) (.V 10))]) (.seq (.cond (.E 12) .skip (.exit 0)) (.seq (.block 1 (.seq (.reg [oE 13 (.mv (.V 11)), oE 14 (.iaddr 5 (.V 9) (.V 11)), oE 15 (.load true 5 (.E 14)), oV 7 (.alloc [iv 0, iv 0, iv 0, iv 0, iv 0]), oV 6 (.mv (.E 13)), oN (.store [0, 0, 0, 0, 0] (.V 7) (.E 15))]) (.seq (.seq (.reg [oE 16 (.load true 5 (.V 7)), oE 17 (.call k_impl_isLeaf [([0, 0, 0, 0, 0], (.E 16))])]) (.cond (.E 17) (.seq (.seq (.reg [oE 18 (.load true 5 (.V 7)), oE 19 (.faddr 4 (.V 7)), oE 20 (.load false 1 (.E 19)), oE 21 (.build [iv 0, iv 0, iv 0, iv 0, iv 0] [(0, 1, (ki (-1))), (4, 1, (.E 20))]), oE 22 (.eqb true [.i .i64, .i .i64, .i .i64, .i .i64, .i .i64] (.E 18) (.E 21)), oE 23 (.mv (.E 22)), ⟨(some (.E 24)), .faddr 4 (.V 7), some ((.E 23), false)⟩, ⟨(some (.E 25)), .load false 1 (.E 24), some ((.E 23), false)⟩, ⟨(some (.E 26)), .call k_impl_isLeafValue [([0], (.E 25))], some ((.E 23), false)⟩, ⟨(some (.E 27)), .un .not (.E 26), some ((.E 23), false)⟩, oE 28 (.pick (.E 23) (kb true) (.E 27))]) (.cond (.E 28) (.seq (.reg [oV 4 (.mv (kb false))]) .ret) .skip)) (.exit 1)) .skip)) (.seq (.seq (.reg [oE 29 (.faddr 0 (.V 7)), oE 30 (.load false 1 (.E 29)), oE 31 (.mv (.V 1)), oE 32 (.bin .sub (.E 31) (ki 1)), oE 33 (.call k_impl_within [([0], (.E 30)), ([0], (ki 0)), ([0], (.E 32))]), oE 34 (.un .not (.E 33)), oE 35 (.mv (.E 34)), ⟨(some (.E 36)), .faddr 1 (.V 7), some ((.E 35), false)⟩, ⟨(some (.E 37)), .load false 1 (.E 36), some ((.E 35), false)⟩, ⟨(some (.E 38)), .call k_impl_isDecimal [([0], (.E 37))], some ((.E 35), false)⟩, ⟨(some (.E 39)), .un .not (.E 38), some ((.E 35), false)⟩, oE 40 (.pick (.E 35) (kb true) (.E 39)), oE 41 (.mv (.E 40)), ⟨(some (.E 42)), .faddr 4 (.V 7), some ((.E 41), false)⟩, ⟨(some (.E 43)), .load false 1 (.E 42), some ((.E 41), false)⟩, ⟨(some (.E 44)), .bin .neq (.E 43) (ki 0), some ((.E 41), false)⟩, oE 45 (.pick (.E 41) (kb true) (.E 44)), oE 46 (.mv (.E 45)), ⟨(some (.E 47)), .faddr 2 (.V 7), some ((.E 46), false)⟩, ⟨(some (.E 48)), .load false 1 (.E 47), some ((.E 46), false)⟩, ⟨(some (.E 49)), .mv (.V 5), some ((.E 46), false)⟩, ⟨(some (.E 50)), .bin .neq (.E 48) (.E 49), some ((.E 46), false)⟩, oE 51 (.pick (.E 46) (kb true) (.E 50)), oE 52 (.mv (.E 51)), ⟨(some (.E 53)), .faddr 3 (.V 7), some ((.E 52), false)⟩, ⟨(some (.E 54)), .load false 1 (.E 53), some ((.E 52), false)⟩, ⟨(some (.E 55)), .mv (.V 5), some ((.E 52), false)⟩, ⟨(some (.E 56)), .bin .add (.E 55) (ki 1), some ((.E 52), false)⟩, ⟨(some (.E 57)), .bin .neq (.E 54) (.E 56), some ((.E 52), false)⟩, oE 58 (.pick (.E 52) (kb true) (.E 57)), oE 59 (.mv (.E 58)), ⟨(some (.E 60)), .mv (.V 5), some ((.E 59), false)⟩, ⟨(some (.E 61)), .mv (.V 6), some ((.E 59), false)⟩, ⟨(some (.E 62)), .bin .leq (.E 60) (.E 61), some ((.E 59), false)⟩, oE 63 (.pick (.E 59) (kb true) (.E 62))]) (.cond (.E 63) (.seq (.reg [oV 4 (.mv (kb false))]) .ret) .skip)) (.reg [oE 64 (.mv (.V 5)), oE 65 (.bin .add (.E 64) (ki 2)), oV 5 (.mv (.E 65))]))))) (.reg [oE 66 (.bin .add (.V 11) (ki 1)), oV 11 (.mv (.E 66))])))

def k_impl_shapeOk_ic : IC := .seq (.reg [oV 2 (.box (.V 0)), oV 4 (.mv (kb false))]) (.seq (.reg [oV 5 (.mv (ki 1))]) (.seq (.seq (.reg [oE 8 (.faddr 0 (.V 2)), oV 9 (.load false 1 (.E 8)), oV 10 (.len (.V 9)), oV 11 (.mv (ki 0))]) (.block 0 (.loop k_impl_shapeOk_b0))) (.seq (.reg [oE 67 (.mv (.V 5)), oE 68 (.faddr 0 (.V 2)), oE 69 (.load false 1 (.E 68)), oE 70 (.len (.E 69)), oE 71 (.bin .eql (.E 67) (.E 70)), oV 4 (.mv (.E 71))]) .ret)))

def k_impl_shapeOk_rv : List RV := [.tmp [0] 4]

def k_impl_isLeaf_vars : List Nat := [0, 1, 2]

def k_impl_isLeaf_ic : IC := .seq (.reg [oV 1 (.box (.V 0)), oV 2 (.mv (kb false))]) (.seq (.reg [oE 3 (.faddr 0 (.V 1)), oE 4 (.load false 1 (.E 3)), oE 5 (.bin .eql (.E 4) (ki (-1))), oV 2 (.mv (.E 5))]) .ret)

def k_impl_isLeaf_rv : List RV := [.tmp [0] 2]

def k_impl_LevelOf_vars : List Nat := [0, 1, 2, 4]

def k_impl_LevelOf_ic : IC := .seq (.reg [oV 2 (.box (.V 0)), oV 4 (.mv (ki 0))]) (.seq (.reg [oE 5 (.load true 1 (.V 2)), oE 6 (.mv (.V 1)), oE 7 (.call k_impl_wayTo [([5], (.E 5)), ([0], (.E 6))]), oE 8 (.len (.E 7)), oE 9 (.bin .sub (.E 8) (ki 1)), oV 4 (.mv (.E 9))]) .ret)

def k_impl_LevelOf_rv : List RV := [.tmp [0] 4]

def k_impl_wayTo_vars : List Nat := [0, 1, 2, 6, 5, 4]

def k_impl_wayTo_b0 : IC := .seq (.seq (.reg [oE 19 (.mv (.V 6)), oE 20 (.bin .geq (.E 19) (ki 0))]) (.cond (.E 20) .skip (.exit 0))) (.seq (.block 1 (.seq (.seq (.reg [oE 24 (.mv (.V 5)), oE 25 (.len (.E 24)), oE 26 (.bin .gtr (.E 25) (ki 31))]) (.cond (.E 26) (.seq (.reg [oV 4 (.mv (.C .e0))]) .ret) .skip)) (.reg [oE 27 (.mv (.V 5)), oE 28 (.mv (.V 6)), oE 29 (.bslice 1 1 [iv 0] [(0, (.E 28))]), oE 30 (.app 8 1 (.E 27) (.E 29)), oV 5 (.mv (.E 30))]))) (.reg [oE 21 (.load true 1 (.V 2)), oE 22 (.mv (.V 6)), oE 23 (.call k_impl_parent [([5], (.E 21)), ([0], (.E 22))]), oV 6 (.mv (.E 23))]))

def k_impl_wayTo_ic : IC := .seq (.reg [oV 2 (.box (.V 0)), oV 4 (.mv (.C .e0))]) (.seq (.seq (.reg [oE 7 (.mv (.V 1)), oE 8 (.faddr 0 (.V 2)), oE 9 (.load false 1 (.E 8)), oE 10 (.len (.E 9)), oE 11 (.bin .sub (.E 10) (ki 1)), oE 12 (.call k_impl_within [([0], (.E 7)), ([0], (ki 0)), ([0], (.E 11))]), oE 13 (.un .not (.E 12))]) (.cond (.E 13) (.seq (.reg [oV 4 (.mv (.C .e0))]) .ret) .skip)) (.seq (.reg [oE 14 (.mv (.V 1)), oE 15 (.bslice 1 1 [iv 0] [(0, (.E 14))]), oV 5 (.mv (.E 15))]) (.seq (.seq (.reg [oE 16 (.load true 1 (.V 2)), oE 17 (.mv (.V 1)), oE 18 (.call k_impl_parent [([5], (.E 16)), ([0], (.E 17))]), oV 6 (.mv (.E 18))]) (.block 0 (.loop k_impl_wayTo_b0))) (.seq (.reg [oE 31 (.mv (.V 5)), oE 32 (.call k_slices_Reverse___int_int_ [([1], (.E 31))])]) (.seq (.reg [oE 33 (.mv (.V 5)), oV 4 (.mv (.E 33))]) .ret)))))

def k_impl_wayTo_rv : List RV := [.tmp [1] 4]

def k_spec_l14Leaf_vars : List Nat := [0, 2]

def k_spec_l14Leaf_ic : IC := .seq (.reg [oV 2 (.mv (kb false))]) (.seq (.reg [oE 3 (.mv (.V 0)), oE 4 (.call k_spec_l1In [([0], (.E 3)), ([0], (ki (-1099511627776))), ([0], (ki 1099511627776))]), oV 2 (.mv (.E 4))]) .ret)

def k_spec_l14Leaf_rv : List RV := [.tmp [0] 2]

def k_impl_isLeafValue_vars : List Nat := [0, 2]

def k_impl_isLeafValue_ic : IC := .seq (.reg [oV 2 (.mv (kb false))]) (.seq (.reg [oE 3 (.mv (.V 0)), oE 4 (.call k_impl_within [([0], (.E 3)), ([0], (ki (-1099511627776))), ([0], (ki 1099511627776))]), oV 2 (.mv (.E 4))]) .ret)

def k_impl_isLeafValue_rv : List RV := [.tmp [0] 2]

def k_spec_l17Inner_vars : List Nat := [0, 1, 2]

def k_spec_l17Inner_ic : IC := .seq (.reg [oV 1 (.box (.V 0)), oV 2 (.mv (kb false))]) (.seq (.reg [oE 3 (.faddr 0 (.V 1)), oE 4 (.load false 1 (.E 3)), oE 5 (.bin .neq (.E 4) (ki (-1))), oV 2 (.mv (.E 5))]) .ret)

def k_spec_l17Inner_rv : List RV := [.tmp [0] 2]

def k_spec_l1Max_vars : List Nat := [0, 1, 4]

def k_spec_l1Max_ic : IC := .seq (.reg [oV 4 (.mv (ki 0))]) (.seq (.seq (.reg [oE 5 (.mv (.V 0)), oE 6 (.mv (.V 1)), oE 7 (.bin .gtr (.E 5) (.E 6))]) (.cond (.E 7) (.seq (.reg [oE 8 (.mv (.V 0)), oV 4 (.mv (.E 8))]) .ret) .skip)) (.seq (.reg [oE 9 (.mv (.V 1)), oV 4 (.mv (.E 9))]) .ret))

def k_spec_l1Max_rv : List RV := [.tmp [0] 4]

def k_spec_LevelOf_vars : List Nat := [0, 1, 2, 5, 4]

def k_spec_LevelOf_b0 : IC := .seq (.seq (.reg [oE 13 (.mv (.V 5)), oE 14 (.bin .leq (.E 13) (ki 31))]) (.cond (.E 14) .skip (.exit 0))) (.block 1 (.seq (.reg [oE 15 (.load true 1 (.V 2)), oE 16 (.mv (.V 1)), oE 17 (.call k_spec_l17Up [([5], (.E 15)), ([0], (.E 16))]), oV 1 (.mv (.E 17))]) (.seq (.seq (.reg [oE 18 (.mv (.V 1)), oE 19 (.bin .lss (.E 18) (ki 0))]) (.cond (.E 19) (.seq (.reg [oE 20 (.mv (.V 5)), oV 4 (.mv (.E 20))]) .ret) .skip)) (.reg [oE 21 (.mv (.V 5)), oE 22 (.bin .add (.E 21) (ki 1)), oV 5 (.mv (.E 22))]))))

def k_spec_LevelOf_ic : IC := .seq (.reg [oV 2 (.box (.V 0)), oV 4 (.mv (ki 0))]) (.seq (.seq (.reg [oE 6 (.mv (.V 1)), oE 7 (.faddr 0 (.V 2)), oE 8 (.load false 1 (.E 7)), oE 9 (.len (.E 8)), oE 10 (.bin .sub (.E 9) (ki 1)), oE 11 (.call k_spec_l1In [([0], (.E 6)), ([0], (ki 0)), ([0], (.E 10))]), oE 12 (.un .not (.E 11))]) (.cond (.E 12) (.seq (.reg [oV 4 (.mv (ki (-1)))]) .ret) .skip)) (.seq (.reg [oV 5 (.mv (ki 0))]) (.seq (.block 0 (.loop k_spec_LevelOf_b0)) (.seq (.reg [oV 4 (.mv (ki (-1)))]) .ret))))

def k_spec_LevelOf_rv : List RV := [.tmp [0] 4]

def k_spec_l17Up_vars : List Nat := [0, 1, 5, 2, 4]

def k_spec_l17Up_b0 : IC := .seq (.seq (.reg [oE 6 (.mv (.V 5)), oE 7 (.faddr 0 (.V 2)), oE 8 (.load false 1 (.E 7)), oE 9 (.len (.E 8)), oE 10 (.bin .lss (.E 6) (.E 9))]) (.cond (.E 10) .skip (.exit 0))) (.seq (.block 1 (.seq (.reg [oE 13 (.faddr 0 (.V 2)), oE 14 (.load false 1 (.E 13)), oE 15 (.mv (.V 5)), oE 16 (.iaddr 5 (.E 14) (.E 15)), oE 17 (.load true 5 (.E 16)), oE 18 (.call k_spec_l17Inner [([0, 0, 0, 0, 0], (.E 17))]), oE 19 (.mv (.E 18)), ⟨(some (.E 20)), .faddr 0 (.V 2), some ((.E 19), true)⟩, ⟨(some (.E 21)), .load false 1 (.E 20), some ((.E 19), true)⟩, ⟨(some (.E 22)), .mv (.V 5), some ((.E 19), true)⟩, ⟨(some (.E 23)), .iaddr 5 (.E 21) (.E 22), some ((.E 19), true)⟩, ⟨(some (.E 24)), .faddr 2 (.E 23), some ((.E 19), true)⟩, ⟨(some (.E 25)), .load false 1 (.E 24), some ((.E 19), true)⟩, ⟨(some (.E 26)), .mv (.V 1), some ((.E 19), true)⟩, ⟨(some (.E 27)), .bin .eql (.E 25) (.E 26), some ((.E 19), true)⟩, ⟨(some (.E 28)), .mv (.E 27), some ((.E 19), true)⟩, ⟨(some (.E 29)), .faddr 0 (.V 2), some ((.E 28), false)⟩, ⟨(some (.E 30)), .load false 1 (.E 29), some ((.E 28), false)⟩, ⟨(some (.E 31)), .mv (.V 5), some ((.E 28), false)⟩, ⟨(some (.E 32)), .iaddr 5 (.E 30) (.E 31), some ((.E 28), false)⟩, ⟨(some (.E 33)), .faddr 3 (.E 32), some ((.E 28), false)⟩, ⟨(some (.E 34)), .load false 1 (.E 33), some ((.E 28), false)⟩, ⟨(some (.E 35)), .mv (.V 1), some ((.E 28), false)⟩, ⟨(some (.E 36)), .bin .eql (.E 34) (.E 35), some ((.E 28), false)⟩, ⟨(some (.E 37)), .pick (.E 28) (kb true) (.E 36), some ((.E 19), true)⟩, oE 38 (.pick (.E 19) (.E 37) (kb false))]) (.cond (.E 38) (.seq (.reg [oE 39 (.mv (.V 5)), oV 4 (.mv (.E 39))]) .ret) .skip))) (.reg [oE 11 (.mv (.V 5)), oE 12 (.bin .add (.E 11) (ki 1)), oV 5 (.mv (.E 12))]))

def k_spec_l17Up_ic : IC := .seq (.reg [oV 2 (.box (.V 0)), oV 4 (.mv (ki 0))]) (.seq (.seq (.reg [oV 5 (.mv (ki 0))]) (.block 0 (.loop k_spec_l17Up_b0))) (.seq (.reg [oV 4 (.mv (ki (-1)))]) .ret))

def k_spec_l17Up_rv : List RV := [.tmp [0] 4]

def k_laws_toNode_vars : List Nat := [0, 1, 3, 2]

def k_laws_toNode_ic : IC := .seq (.reg [oV 1 (.box (.V 0)), oV 2 (.alloc [iv 0, iv 0, iv 0, iv 0, iv 0])]) (.seq (.reg [oV 3 (.alloc [iv 0, iv 0, iv 0, iv 0, iv 0])]) (.seq (.reg [oE 4 (.faddr 0 (.V 1)), oE 5 (.load false 1 (.E 4)), oE 6 (.faddr 0 (.V 3)), oN (.store [0] (.E 6) (.E 5))]) (.seq (.reg [oE 7 (.faddr 1 (.V 1)), oE 8 (.load false 1 (.E 7)), oE 9 (.faddr 1 (.V 3)), oN (.store [0] (.E 9) (.E 8))]) (.seq (.reg [oE 10 (.faddr 2 (.V 1)), oE 11 (.load false 1 (.E 10)), oE 12 (.faddr 2 (.V 3)), oN (.store [0] (.E 12) (.E 11))]) (.seq (.reg [oE 13 (.faddr 3 (.V 1)), oE 14 (.load false 1 (.E 13)), oE 15 (.faddr 3 (.V 3)), oN (.store [0] (.E 15) (.E 14))]) (.seq (.reg [oE 16 (.faddr 4 (.V 1)), oE 17 (.load false 1 (.E 16)), oE 18 (.faddr 4 (.V 3)), oN (.store [0] (.E 18) (.E 17))]) (.seq (.reg [oE 19 (.load true 5 (.V 3)), oN (.store [0, 0, 0, 0, 0] (.V 2) (.E 19))]) .ret)))))))

def k_laws_toNode_rv : List RV := [.cell [0, 0, 0, 0, 0] 2 true]

def k_slices_Index___string_string__vars : List Nat := [0, 1, 8, 7, 5, 4]

def k_slices_Index___string_string__b0 : IC := .seq (.reg [oE 9 (.bin .lss (.V 8) (.V 7))]) (.seq (.cond (.E 9) .skip (.exit 0)) (.seq (.block 1 (.seq (.reg [oE 10 (.mv (.V 8)), oV 5 (.mv (.E 10))]) (.seq (.reg [oE 11 (.mv (.V 1)), oE 12 (.mv (.V 0)), oE 13 (.mv (.V 5)), oE 14 (.iaddr 1 (.E 12) (.E 13)), oE 15 (.load false 1 (.E 14)), oE 16 (.bin .eql (.E 11) (.E 15))]) (.cond (.E 16) (.seq (.reg [oE 17 (.mv (.V 5)), oV 4 (.mv (.E 17))]) .ret) .skip)))) (.reg [oE 18 (.bin .add (.V 8) (ki 1)), oV 8 (.mv (.E 18))])))

def k_slices_Index___string_string__ic : IC := .seq (.reg [oV 4 (.mv (ki 0))]) (.seq (.seq (.reg [oE 6 (.mv (.V 0)), oV 7 (.len (.E 6)), oV 8 (.mv (ki 0))]) (.block 0 (.loop k_slices_Index___string_string__b0))) (.seq (.reg [oV 4 (.mv (ki (-1)))]) .ret))

def k_slices_Index___string_string__rv : List RV := [.tmp [0] 4]

def k_impl_parent_vars : List Nat := [0, 1, 2, 3, 4]

def k_impl_parent_ic : IC := .seq (.reg [oV 2 (.box (.V 0)), oV 3 (.box (.V 1)), oV 4 (.mv (ki 0))]) (.seq (.reg [oE 5 (.faddr 0 (.V 2)), oE 6 (.load false 1 (.E 5)), oE 7 (.mkfn k_impl_parent_1 [(.V 3)]), oE 8 (.call k_slices_IndexFunc___impl_Node_impl_Node_ [([5], (.E 6)), ([0], (.E 7))]), oV 4 (.mv (.E 8))]) .ret)

def k_impl_parent_rv : List RV := [.tmp [0] 4]

def k_slices_Reverse___int_int__vars : List Nat := [0, 2, 3]

def k_slices_Reverse___int_int__b0 : IC := .seq (.seq (.reg [oE 7 (.mv (.V 2)), oE 8 (.mv (.V 3)), oE 9 (.bin .lss (.E 7) (.E 8))]) (.cond (.E 9) .skip (.exit 0))) (.seq (.block 1 (.regD [(oE 14 (.mv (.V 0)), 0, 0), (oE 15 (.mv (.V 2)), 0, 0), (oE 16 (.mv (.V 0)), 0, 0), (oE 17 (.mv (.V 3)), 0, 0), (oE 18 (.mv (.V 0)), 0, 0), (oE 19 (.mv (.V 3)), 0, 0), (oE 20 (.iaddr 1 (.E 18) (.E 19)), 0, 0), (oE 21 (.load false 1 (.E 20)), 0, 0), (oE 22 (.mv (.V 0)), 0, 0), (oE 23 (.mv (.V 2)), 0, 0), (oE 24 (.iaddr 1 (.E 22) (.E 23)), 0, 0), (oE 25 (.load false 1 (.E 24)), 0, 0), (oE 26 (.iaddr 1 (.E 14) (.E 15)), 0, 0), (oN (.store [0] (.E 26) (.E 21)), 0, 0), (oE 27 (.iaddr 1 (.E 16) (.E 17)), 0, 0), (oN (.store [0] (.E 27) (.E 25)), 0, 0)])) (.reg [oE 10 (.mv (.V 2)), oE 11 (.bin .add (.E 10) (ki 1)), oE 12 (.mv (.V 3)), oE 13 (.bin .sub (.E 12) (ki 1)), oV 2 (.mv (.E 11)), oV 3 (.mv (.E 13))]))

def k_slices_Reverse___int_int__ic : IC := .seq (.reg [oE 4 (.mv (.V 0)), oE 5 (.len (.E 4)), oE 6 (.bin .sub (.E 5) (ki 1)), oV 2 (.mv (ki 0)), oV 3 (.mv (.E 6))]) (.block 0 (.loop k_slices_Reverse___int_int__b0))

def k_slices_Reverse___int_int__rv : List RV := []

def k_slices_IndexFunc___impl_Node_impl_Node__vars : List Nat := [0, 1, 8, 7, 5, 4]

def k_slices_IndexFunc___impl_Node_impl_Node__b0 : IC := .seq (.reg [oE 9 (.bin .lss (.V 8) (.V 7))]) (.seq (.cond (.E 9) .skip (.exit 0)) (.seq (.block 1 (.seq (.reg [oE 10 (.mv (.V 8)), oV 5 (.mv (.E 10))]) (.seq (.reg [oE 11 (.mv (.V 1)), oE 12 (.mv (.V 0)), oE 13 (.mv (.V 5)), oE 14 (.iaddr 5 (.E 12) (.E 13)), oE 15 (.load true 5 (.E 14)), oE 16 (.callv (.E 11) [([0, 0, 0, 0, 0], (.E 15))])]) (.cond (.E 16) (.seq (.reg [oE 17 (.mv (.V 5)), oV 4 (.mv (.E 17))]) .ret) .skip)))) (.reg [oE 18 (.bin .add (.V 8) (ki 1)), oV 8 (.mv (.E 18))])))

def k_slices_IndexFunc___impl_Node_impl_Node__ic : IC := .seq (.reg [oV 4 (.mv (ki 0))]) (.seq (.seq (.reg [oE 6 (.mv (.V 0)), oV 7 (.len (.E 6)), oV 8 (.mv (ki 0))]) (.block 0 (.loop k_slices_IndexFunc___impl_Node_impl_Node__b0))) (.seq (.reg [oV 4 (.mv (ki (-1)))]) .ret))

def k_slices_IndexFunc___impl_Node_impl_Node__rv : List RV := [.tmp [0] 4]

def k_impl_parent_1_vars : List Nat := [0, 1, 2, 3]

def k_impl_parent_1_ic : IC := .seq (.reg [oV 2 (.box (.V 0)), oV 3 (.mv (kb false))]) (.seq (.reg [oE 4 (.load true 5 (.V 2)), oE 5 (.call k_impl_isLeaf [([0, 0, 0, 0, 0], (.E 4))]), oE 6 (.un .not (.E 5)), oE 7 (.mv (.E 6)), ⟨(some (.E 8)), .faddr 2 (.V 2), some ((.E 7), true)⟩, ⟨(some (.E 9)), .load false 1 (.E 8), some ((.E 7), true)⟩, ⟨(some (.E 10)), .load false 1 (.V 1), some ((.E 7), true)⟩, ⟨(some (.E 11)), .bin .eql (.E 9) (.E 10), some ((.E 7), true)⟩, ⟨(some (.E 12)), .mv (.E 11), some ((.E 7), true)⟩, ⟨(some (.E 13)), .faddr 3 (.V 2), some ((.E 12), false)⟩, ⟨(some (.E 14)), .load false 1 (.E 13), some ((.E 12), false)⟩, ⟨(some (.E 15)), .load false 1 (.V 1), some ((.E 12), false)⟩, ⟨(some (.E 16)), .bin .eql (.E 14) (.E 15), some ((.E 12), false)⟩, ⟨(some (.E 17)), .pick (.E 12) (kb true) (.E 16), some ((.E 7), true)⟩, oE 18 (.pick (.E 7) (.E 17) (kb false)), oV 3 (.mv (.E 18))]) .ret)

def k_impl_parent_1_rv : List RV := [.tmp [0] 3]

def tbl : List (Nat × Fun) := [
  (k_laws_FnExactModelFrom, fnOf k_laws_FnExactModelFrom_ic k_laws_FnExactModelFrom_rv []),
  (k_laws_szTable, fnOf k_laws_szTable_ic k_laws_szTable_rv []),
  (k_laws_szConfig, fnOf k_laws_szConfig_ic k_laws_szConfig_rv []),
  (k_laws_szState, fnOf k_laws_szState_ic k_laws_szState_rv []),
  (k_spec_ModelFrom, fnOf k_spec_ModelFrom_ic k_spec_ModelFrom_rv []),
  (k_laws_toTable, fnOf k_laws_toTable_ic k_laws_toTable_rv []),
  (k_laws_toConfig, fnOf k_laws_toConfig_ic k_laws_toConfig_rv []),
  (k_laws_toState, fnOf k_laws_toState_ic k_laws_toState_rv []),
  (k_impl_ModelFrom, fnOf k_impl_ModelFrom_ic k_impl_ModelFrom_rv []),
  (k_laws_eqModel, fnOf k_laws_eqModel_ic k_laws_eqModel_rv []),
  (k_laws_eqTable, fnOf k_laws_eqTable_ic k_laws_eqTable_rv []),
  (k_laws_eqConfig, fnOf k_laws_eqConfig_ic k_laws_eqConfig_rv []),
  (k_laws_eqState, fnOf k_laws_eqState_ic k_laws_eqState_rv []),
  (k_laws_markTable, fnOf k_laws_markTable_ic k_laws_markTable_rv [true]),
  (k_laws_markConfig, fnOf k_laws_markConfig_ic k_laws_markConfig_rv [true]),
  (k_laws_markState, fnOf k_laws_markState_ic k_laws_markState_rv [true]),
  (k_laws_markModel, fnOf k_laws_markModel_ic k_laws_markModel_rv [true]),
  (k_laws_heldModel, fnOf k_laws_heldModel_ic k_laws_heldModel_rv []),
  (k_laws_toIntS, fnOf k_laws_toIntS_ic k_laws_toIntS_rv []),
  (k_laws_eqIntS, fnOf k_laws_eqIntS_ic k_laws_eqIntS_rv []),
  (k_laws_markIntS, fnOf k_laws_markIntS_ic k_laws_markIntS_rv [true]),
  (k_laws_eqTree, fnOf k_laws_eqTree_ic k_laws_eqTree_rv []),
  (k_impl_ConfigOk, fnOf k_impl_ConfigOk_ic k_impl_ConfigOk_rv []),
  (k_spec_ConfigOk, fnOf k_spec_ConfigOk_ic k_spec_ConfigOk_rv []),
  (k_laws_szStringS, fnOf k_laws_szStringS_ic k_laws_szStringS_rv []),
  (k_laws_szIntSS, fnOf k_laws_szIntSS_ic k_laws_szIntSS_rv []),
  (k_laws_szIntS, fnOf k_laws_szIntS_ic k_laws_szIntS_rv []),
  (k_laws_szTreeS, fnOf k_laws_szTreeS_ic k_laws_szTreeS_rv []),
  (k_spec_TableOk, fnOf k_spec_TableOk_ic k_spec_TableOk_rv []),
  (k_spec_BaseOf, fnOf k_spec_BaseOf_ic k_spec_BaseOf_rv []),
  (k_spec_l22Trees, fnOf k_spec_l22Trees_ic k_spec_l22Trees_rv []),
  (k_spec_ModelOk, fnOf k_spec_ModelOk_ic k_spec_ModelOk_rv []),
  (k_laws_toStringS, fnOf k_laws_toStringS_ic k_laws_toStringS_rv []),
  (k_laws_toIntSS, fnOf k_laws_toIntSS_ic k_laws_toIntSS_rv []),
  (k_laws_toTreeS, fnOf k_laws_toTreeS_ic k_laws_toTreeS_rv []),
  (k_impl_TableOk, fnOf k_impl_TableOk_ic k_impl_TableOk_rv []),
  (k_impl_BaseOf, fnOf k_impl_BaseOf_ic k_impl_BaseOf_rv []),
  (k_slices_Clone___string_string_, .known [] (cloneG 1 16)),
  (k_slices_Clone___int_int_, .known [] (cloneG 1 8)),
  (k_impl_copyTrees, fnOf k_impl_copyTrees_ic k_impl_copyTrees_rv []),
  (k_impl_ModelOk, fnOf k_impl_ModelOk_ic k_impl_ModelOk_rv []),
  (k_laws_eqStringS, fnOf k_laws_eqStringS_ic k_laws_eqStringS_rv []),
  (k_laws_eqTreeS, fnOf k_laws_eqTreeS_ic k_laws_eqTreeS_rv []),
  (k_laws_eqIntSS, fnOf k_laws_eqIntSS_ic k_laws_eqIntSS_rv []),
  (k_laws_markStringS, fnOf k_laws_markStringS_ic k_laws_markStringS_rv [true]),
  (k_laws_markIntSS, fnOf k_laws_markIntSS_ic k_laws_markIntSS_rv [true]),
  (k_laws_markTreeS, fnOf k_laws_markTreeS_ic k_laws_markTreeS_rv [true]),
  (k_laws_heldStringS, fnOf k_laws_heldStringS_ic k_laws_heldStringS_rv []),
  (k_laws_heldIntS, fnOf k_laws_heldIntS_ic k_laws_heldIntS_rv []),
  (k_laws_heldTreeS, fnOf k_laws_heldTreeS_ic k_laws_heldTreeS_rv []),
  (k_spec_l1In, fnOf k_spec_l1In_ic k_spec_l1In_rv []),
  (k_laws_eqNodeS, fnOf k_laws_eqNodeS_ic k_laws_eqNodeS_rv []),
  (k_laws_markNodeS, fnOf k_laws_markNodeS_ic k_laws_markNodeS_rv [true]),
  (k_laws_heldNodeS, fnOf k_laws_heldNodeS_ic k_laws_heldNodeS_rv []),
  (k_impl_within, fnOf k_impl_within_ic k_impl_within_rv []),
  (k_slices_ContainsFunc___int_int_, fnOf k_slices_ContainsFunc___int_int__ic k_slices_ContainsFunc___int_int__rv []),
  (k_impl_ConfigOk_1, fnOf k_impl_ConfigOk_1_ic k_impl_ConfigOk_1_rv []),
  (k_impl_isSign, fnOf k_impl_isSign_ic k_impl_isSign_rv []),
  (k_spec_l8Numbers, fnOf k_spec_l8Numbers_ic k_spec_l8Numbers_rv []),
  (k_spec_l8Least, fnOf k_spec_l8Least_ic k_spec_l8Least_rv []),
  (k_spec_l8Most, fnOf k_spec_l8Most_ic k_spec_l8Most_rv []),
  (k_laws_szTree, fnOf k_laws_szTree_ic k_laws_szTree_rv []),
  (k_spec_NameOk, fnOf k_spec_NameOk_ic k_spec_NameOk_rv []),
  (k_spec_l9Has, fnOf k_spec_l9Has_ic k_spec_l9Has_rv []),
  (k_spec_l6Value, fnOf k_spec_l6Value_ic k_spec_l6Value_rv []),
  (k_spec_AddInt, fnOf k_spec_AddInt_ic k_spec_AddInt_rv []),
  (k_spec_FloorDiv, fnOf k_spec_FloorDiv_ic k_spec_FloorDiv_rv []),
  (k_spec_l17Copy, fnOf k_spec_l17Copy_ic k_spec_l17Copy_rv []),
  (k_spec_TreeOk, fnOf k_spec_TreeOk_ic k_spec_TreeOk_rv []),
  (k_laws_toTree, fnOf k_laws_toTree_ic k_laws_toTree_rv []),
  (k_impl_areNames, fnOf k_impl_areNames_ic k_impl_areNames_rv []),
  (k_impl_areDecimals, fnOf k_impl_areDecimals_ic k_impl_areDecimals_rv []),
  (k_slices_ContainsFunc_____int___int_, fnOf k_slices_ContainsFunc_____int___int__ic k_slices_ContainsFunc_____int___int__rv []),
  (k_impl_TableOk_1, fnOf k_impl_TableOk_1_ic k_impl_TableOk_1_rv []),
  (k_impl_AddInt, fnOf k_impl_AddInt_ic k_impl_AddInt_rv []),
  (k_impl_FloorDiv, fnOf k_impl_FloorDiv_ic k_impl_FloorDiv_rv []),
  (k_impl_copyTree, fnOf k_impl_copyTree_ic k_impl_copyTree_rv []),
  (k_impl_ModelOk_1, fnOf k_impl_ModelOk_1_ic k_impl_ModelOk_1_rv []),
  (k_impl_isDecimal, fnOf k_impl_isDecimal_ic k_impl_isDecimal_rv []),
  (k_slices_ContainsFunc___impl_Tree_impl_Tree_, fnOf k_slices_ContainsFunc___impl_Tree_impl_Tree__ic k_slices_ContainsFunc___impl_Tree_impl_Tree__rv []),
  (k_impl_ModelOk_2, fnOf k_impl_ModelOk_2_ic k_impl_ModelOk_2_rv []),
  (k_impl_TreeOk, fnOf k_impl_TreeOk_ic k_impl_TreeOk_rv []),
  (k_laws_markText, fnOf k_laws_markText_ic k_laws_markText_rv []),
  (k_laws_eqNode, fnOf k_laws_eqNode_ic k_laws_eqNode_rv []),
  (k_slices_IndexFunc___int_int_, fnOf k_slices_IndexFunc___int_int__ic k_slices_IndexFunc___int_int__rv []),
  (k_laws_szNodeS, fnOf k_laws_szNodeS_ic k_laws_szNodeS_rv []),
  (k_spec_l17Shape, fnOf k_spec_l17Shape_ic k_spec_l17Shape_rv []),
  (k_spec_DepthOf, fnOf k_spec_DepthOf_ic k_spec_DepthOf_rv []),
  (k_spec_l17Ways, fnOf k_spec_l17Ways_ic k_spec_l17Ways_rv []),
  (k_laws_toNodeS, fnOf k_laws_toNodeS_ic k_laws_toNodeS_rv []),
  (k_impl_NameOk, fnOf k_impl_NameOk_ic k_impl_NameOk_rv []),
  (k_slices_Contains___string_string_, fnOf k_slices_Contains___string_string__ic k_slices_Contains___string_string__rv []),
  (k_impl_areDecimals_1, fnOf k_impl_areDecimals_1_ic k_impl_areDecimals_1_rv []),
  (k_slices_IndexFunc_____int___int_, fnOf k_slices_IndexFunc_____int___int__ic k_slices_IndexFunc_____int___int__rv []),
  (k_slices_Clone___impl_Node_impl_Node_, .known [] (cloneG 5 40)),
  (k_slices_IndexFunc___impl_Tree_impl_Tree_, fnOf k_slices_IndexFunc___impl_Tree_impl_Tree__ic k_slices_IndexFunc___impl_Tree_impl_Tree__rv []),
  (k_impl_shapeOk, fnOf k_impl_shapeOk_ic k_impl_shapeOk_rv []),
  (k_impl_isLeaf, fnOf k_impl_isLeaf_ic k_impl_isLeaf_rv []),
  (k_impl_LevelOf, fnOf k_impl_LevelOf_ic k_impl_LevelOf_rv []),
  (k_impl_wayTo, fnOf k_impl_wayTo_ic k_impl_wayTo_rv []),
  (k_spec_l14Leaf, fnOf k_spec_l14Leaf_ic k_spec_l14Leaf_rv []),
  (k_impl_isLeafValue, fnOf k_impl_isLeafValue_ic k_impl_isLeafValue_rv []),
  (k_spec_l17Inner, fnOf k_spec_l17Inner_ic k_spec_l17Inner_rv []),
  (k_spec_l1Max, fnOf k_spec_l1Max_ic k_spec_l1Max_rv []),
  (k_spec_LevelOf, fnOf k_spec_LevelOf_ic k_spec_LevelOf_rv []),
  (k_spec_l17Up, fnOf k_spec_l17Up_ic k_spec_l17Up_rv []),
  (k_laws_toNode, fnOf k_laws_toNode_ic k_laws_toNode_rv []),
  (k_slices_Index___string_string_, fnOf k_slices_Index___string_string__ic k_slices_Index___string_string__rv []),
  (k_impl_parent, fnOf k_impl_parent_ic k_impl_parent_rv []),
  (k_slices_Reverse___int_int_, fnOf k_slices_Reverse___int_int__ic k_slices_Reverse___int_int__rv [true]),
  (k_slices_IndexFunc___impl_Node_impl_Node_, fnOf k_slices_IndexFunc___impl_Node_impl_Node__ic k_slices_IndexFunc___impl_Node_impl_Node__rv []),
  (k_impl_parent_1, fnOf k_impl_parent_1_ic k_impl_parent_1_rv [])]

def T : Table := fun f => (tbl.find? fun q => q.1 == f).map fun q => q.2

theorem T_laws_FnExactModelFrom : T k_laws_FnExactModelFrom = some (fnOf k_laws_FnExactModelFrom_ic k_laws_FnExactModelFrom_rv []) := rfl

@[simp] theorem M_laws_FnExactModelFrom : modesOf T k_laws_FnExactModelFrom = [] := modesOf_code T_laws_FnExactModelFrom

theorem T_laws_szTable : T k_laws_szTable = some (fnOf k_laws_szTable_ic k_laws_szTable_rv []) := rfl

@[simp] theorem M_laws_szTable : modesOf T k_laws_szTable = [] := modesOf_code T_laws_szTable

theorem T_laws_szConfig : T k_laws_szConfig = some (fnOf k_laws_szConfig_ic k_laws_szConfig_rv []) := rfl

@[simp] theorem M_laws_szConfig : modesOf T k_laws_szConfig = [] := modesOf_code T_laws_szConfig

theorem T_laws_szState : T k_laws_szState = some (fnOf k_laws_szState_ic k_laws_szState_rv []) := rfl

@[simp] theorem M_laws_szState : modesOf T k_laws_szState = [] := modesOf_code T_laws_szState

theorem T_spec_ModelFrom : T k_spec_ModelFrom = some (fnOf k_spec_ModelFrom_ic k_spec_ModelFrom_rv []) := rfl

@[simp] theorem M_spec_ModelFrom : modesOf T k_spec_ModelFrom = [] := modesOf_code T_spec_ModelFrom

theorem T_laws_toTable : T k_laws_toTable = some (fnOf k_laws_toTable_ic k_laws_toTable_rv []) := rfl

@[simp] theorem M_laws_toTable : modesOf T k_laws_toTable = [] := modesOf_code T_laws_toTable

theorem T_laws_toConfig : T k_laws_toConfig = some (fnOf k_laws_toConfig_ic k_laws_toConfig_rv []) := rfl

@[simp] theorem M_laws_toConfig : modesOf T k_laws_toConfig = [] := modesOf_code T_laws_toConfig

theorem T_laws_toState : T k_laws_toState = some (fnOf k_laws_toState_ic k_laws_toState_rv []) := rfl

@[simp] theorem M_laws_toState : modesOf T k_laws_toState = [] := modesOf_code T_laws_toState

theorem T_impl_ModelFrom : T k_impl_ModelFrom = some (fnOf k_impl_ModelFrom_ic k_impl_ModelFrom_rv []) := rfl

@[simp] theorem M_impl_ModelFrom : modesOf T k_impl_ModelFrom = [] := modesOf_code T_impl_ModelFrom

theorem T_laws_eqModel : T k_laws_eqModel = some (fnOf k_laws_eqModel_ic k_laws_eqModel_rv []) := rfl

@[simp] theorem M_laws_eqModel : modesOf T k_laws_eqModel = [] := modesOf_code T_laws_eqModel

theorem T_laws_eqTable : T k_laws_eqTable = some (fnOf k_laws_eqTable_ic k_laws_eqTable_rv []) := rfl

@[simp] theorem M_laws_eqTable : modesOf T k_laws_eqTable = [] := modesOf_code T_laws_eqTable

theorem T_laws_eqConfig : T k_laws_eqConfig = some (fnOf k_laws_eqConfig_ic k_laws_eqConfig_rv []) := rfl

@[simp] theorem M_laws_eqConfig : modesOf T k_laws_eqConfig = [] := modesOf_code T_laws_eqConfig

theorem T_laws_eqState : T k_laws_eqState = some (fnOf k_laws_eqState_ic k_laws_eqState_rv []) := rfl

@[simp] theorem M_laws_eqState : modesOf T k_laws_eqState = [] := modesOf_code T_laws_eqState

theorem T_laws_markTable : T k_laws_markTable = some (fnOf k_laws_markTable_ic k_laws_markTable_rv [true]) := rfl

@[simp] theorem M_laws_markTable : modesOf T k_laws_markTable = [true] := modesOf_code T_laws_markTable

theorem T_laws_markConfig : T k_laws_markConfig = some (fnOf k_laws_markConfig_ic k_laws_markConfig_rv [true]) := rfl

@[simp] theorem M_laws_markConfig : modesOf T k_laws_markConfig = [true] := modesOf_code T_laws_markConfig

theorem T_laws_markState : T k_laws_markState = some (fnOf k_laws_markState_ic k_laws_markState_rv [true]) := rfl

@[simp] theorem M_laws_markState : modesOf T k_laws_markState = [true] := modesOf_code T_laws_markState

theorem T_laws_markModel : T k_laws_markModel = some (fnOf k_laws_markModel_ic k_laws_markModel_rv [true]) := rfl

@[simp] theorem M_laws_markModel : modesOf T k_laws_markModel = [true] := modesOf_code T_laws_markModel

theorem T_laws_heldModel : T k_laws_heldModel = some (fnOf k_laws_heldModel_ic k_laws_heldModel_rv []) := rfl

@[simp] theorem M_laws_heldModel : modesOf T k_laws_heldModel = [] := modesOf_code T_laws_heldModel

theorem T_laws_toIntS : T k_laws_toIntS = some (fnOf k_laws_toIntS_ic k_laws_toIntS_rv []) := rfl

@[simp] theorem M_laws_toIntS : modesOf T k_laws_toIntS = [] := modesOf_code T_laws_toIntS

theorem T_laws_eqIntS : T k_laws_eqIntS = some (fnOf k_laws_eqIntS_ic k_laws_eqIntS_rv []) := rfl

@[simp] theorem M_laws_eqIntS : modesOf T k_laws_eqIntS = [] := modesOf_code T_laws_eqIntS

theorem T_laws_markIntS : T k_laws_markIntS = some (fnOf k_laws_markIntS_ic k_laws_markIntS_rv [true]) := rfl

@[simp] theorem M_laws_markIntS : modesOf T k_laws_markIntS = [true] := modesOf_code T_laws_markIntS

theorem T_laws_eqTree : T k_laws_eqTree = some (fnOf k_laws_eqTree_ic k_laws_eqTree_rv []) := rfl

@[simp] theorem M_laws_eqTree : modesOf T k_laws_eqTree = [] := modesOf_code T_laws_eqTree

theorem T_impl_ConfigOk : T k_impl_ConfigOk = some (fnOf k_impl_ConfigOk_ic k_impl_ConfigOk_rv []) := rfl

@[simp] theorem M_impl_ConfigOk : modesOf T k_impl_ConfigOk = [] := modesOf_code T_impl_ConfigOk

theorem T_spec_ConfigOk : T k_spec_ConfigOk = some (fnOf k_spec_ConfigOk_ic k_spec_ConfigOk_rv []) := rfl

@[simp] theorem M_spec_ConfigOk : modesOf T k_spec_ConfigOk = [] := modesOf_code T_spec_ConfigOk

theorem T_laws_szStringS : T k_laws_szStringS = some (fnOf k_laws_szStringS_ic k_laws_szStringS_rv []) := rfl

@[simp] theorem M_laws_szStringS : modesOf T k_laws_szStringS = [] := modesOf_code T_laws_szStringS

theorem T_laws_szIntSS : T k_laws_szIntSS = some (fnOf k_laws_szIntSS_ic k_laws_szIntSS_rv []) := rfl

@[simp] theorem M_laws_szIntSS : modesOf T k_laws_szIntSS = [] := modesOf_code T_laws_szIntSS

theorem T_laws_szIntS : T k_laws_szIntS = some (fnOf k_laws_szIntS_ic k_laws_szIntS_rv []) := rfl

@[simp] theorem M_laws_szIntS : modesOf T k_laws_szIntS = [] := modesOf_code T_laws_szIntS

theorem T_laws_szTreeS : T k_laws_szTreeS = some (fnOf k_laws_szTreeS_ic k_laws_szTreeS_rv []) := rfl

@[simp] theorem M_laws_szTreeS : modesOf T k_laws_szTreeS = [] := modesOf_code T_laws_szTreeS

theorem T_spec_TableOk : T k_spec_TableOk = some (fnOf k_spec_TableOk_ic k_spec_TableOk_rv []) := rfl

@[simp] theorem M_spec_TableOk : modesOf T k_spec_TableOk = [] := modesOf_code T_spec_TableOk

theorem T_spec_BaseOf : T k_spec_BaseOf = some (fnOf k_spec_BaseOf_ic k_spec_BaseOf_rv []) := rfl

@[simp] theorem M_spec_BaseOf : modesOf T k_spec_BaseOf = [] := modesOf_code T_spec_BaseOf

theorem T_spec_l22Trees : T k_spec_l22Trees = some (fnOf k_spec_l22Trees_ic k_spec_l22Trees_rv []) := rfl

@[simp] theorem M_spec_l22Trees : modesOf T k_spec_l22Trees = [] := modesOf_code T_spec_l22Trees

theorem T_spec_ModelOk : T k_spec_ModelOk = some (fnOf k_spec_ModelOk_ic k_spec_ModelOk_rv []) := rfl

@[simp] theorem M_spec_ModelOk : modesOf T k_spec_ModelOk = [] := modesOf_code T_spec_ModelOk

theorem T_laws_toStringS : T k_laws_toStringS = some (fnOf k_laws_toStringS_ic k_laws_toStringS_rv []) := rfl

@[simp] theorem M_laws_toStringS : modesOf T k_laws_toStringS = [] := modesOf_code T_laws_toStringS

theorem T_laws_toIntSS : T k_laws_toIntSS = some (fnOf k_laws_toIntSS_ic k_laws_toIntSS_rv []) := rfl

@[simp] theorem M_laws_toIntSS : modesOf T k_laws_toIntSS = [] := modesOf_code T_laws_toIntSS

theorem T_laws_toTreeS : T k_laws_toTreeS = some (fnOf k_laws_toTreeS_ic k_laws_toTreeS_rv []) := rfl

@[simp] theorem M_laws_toTreeS : modesOf T k_laws_toTreeS = [] := modesOf_code T_laws_toTreeS

theorem T_impl_TableOk : T k_impl_TableOk = some (fnOf k_impl_TableOk_ic k_impl_TableOk_rv []) := rfl

@[simp] theorem M_impl_TableOk : modesOf T k_impl_TableOk = [] := modesOf_code T_impl_TableOk

theorem T_impl_BaseOf : T k_impl_BaseOf = some (fnOf k_impl_BaseOf_ic k_impl_BaseOf_rv []) := rfl

@[simp] theorem M_impl_BaseOf : modesOf T k_impl_BaseOf = [] := modesOf_code T_impl_BaseOf

theorem T_slices_Clone___string_string_ : T k_slices_Clone___string_string_ = some (.known [] (cloneG 1 16)) := rfl

@[simp] theorem M_slices_Clone___string_string_ : modesOf T k_slices_Clone___string_string_ = [] := modesOf_known T_slices_Clone___string_string_

theorem T_slices_Clone___int_int_ : T k_slices_Clone___int_int_ = some (.known [] (cloneG 1 8)) := rfl

@[simp] theorem M_slices_Clone___int_int_ : modesOf T k_slices_Clone___int_int_ = [] := modesOf_known T_slices_Clone___int_int_

theorem T_impl_copyTrees : T k_impl_copyTrees = some (fnOf k_impl_copyTrees_ic k_impl_copyTrees_rv []) := rfl

@[simp] theorem M_impl_copyTrees : modesOf T k_impl_copyTrees = [] := modesOf_code T_impl_copyTrees

theorem T_impl_ModelOk : T k_impl_ModelOk = some (fnOf k_impl_ModelOk_ic k_impl_ModelOk_rv []) := rfl

@[simp] theorem M_impl_ModelOk : modesOf T k_impl_ModelOk = [] := modesOf_code T_impl_ModelOk

theorem T_laws_eqStringS : T k_laws_eqStringS = some (fnOf k_laws_eqStringS_ic k_laws_eqStringS_rv []) := rfl

@[simp] theorem M_laws_eqStringS : modesOf T k_laws_eqStringS = [] := modesOf_code T_laws_eqStringS

theorem T_laws_eqTreeS : T k_laws_eqTreeS = some (fnOf k_laws_eqTreeS_ic k_laws_eqTreeS_rv []) := rfl

@[simp] theorem M_laws_eqTreeS : modesOf T k_laws_eqTreeS = [] := modesOf_code T_laws_eqTreeS

theorem T_laws_eqIntSS : T k_laws_eqIntSS = some (fnOf k_laws_eqIntSS_ic k_laws_eqIntSS_rv []) := rfl

@[simp] theorem M_laws_eqIntSS : modesOf T k_laws_eqIntSS = [] := modesOf_code T_laws_eqIntSS

theorem T_laws_markStringS : T k_laws_markStringS = some (fnOf k_laws_markStringS_ic k_laws_markStringS_rv [true]) := rfl

@[simp] theorem M_laws_markStringS : modesOf T k_laws_markStringS = [true] := modesOf_code T_laws_markStringS

theorem T_laws_markIntSS : T k_laws_markIntSS = some (fnOf k_laws_markIntSS_ic k_laws_markIntSS_rv [true]) := rfl

@[simp] theorem M_laws_markIntSS : modesOf T k_laws_markIntSS = [true] := modesOf_code T_laws_markIntSS

theorem T_laws_markTreeS : T k_laws_markTreeS = some (fnOf k_laws_markTreeS_ic k_laws_markTreeS_rv [true]) := rfl

@[simp] theorem M_laws_markTreeS : modesOf T k_laws_markTreeS = [true] := modesOf_code T_laws_markTreeS

theorem T_laws_heldStringS : T k_laws_heldStringS = some (fnOf k_laws_heldStringS_ic k_laws_heldStringS_rv []) := rfl

@[simp] theorem M_laws_heldStringS : modesOf T k_laws_heldStringS = [] := modesOf_code T_laws_heldStringS

theorem T_laws_heldIntS : T k_laws_heldIntS = some (fnOf k_laws_heldIntS_ic k_laws_heldIntS_rv []) := rfl

@[simp] theorem M_laws_heldIntS : modesOf T k_laws_heldIntS = [] := modesOf_code T_laws_heldIntS

theorem T_laws_heldTreeS : T k_laws_heldTreeS = some (fnOf k_laws_heldTreeS_ic k_laws_heldTreeS_rv []) := rfl

@[simp] theorem M_laws_heldTreeS : modesOf T k_laws_heldTreeS = [] := modesOf_code T_laws_heldTreeS

theorem T_spec_l1In : T k_spec_l1In = some (fnOf k_spec_l1In_ic k_spec_l1In_rv []) := rfl

@[simp] theorem M_spec_l1In : modesOf T k_spec_l1In = [] := modesOf_code T_spec_l1In

theorem T_laws_eqNodeS : T k_laws_eqNodeS = some (fnOf k_laws_eqNodeS_ic k_laws_eqNodeS_rv []) := rfl

@[simp] theorem M_laws_eqNodeS : modesOf T k_laws_eqNodeS = [] := modesOf_code T_laws_eqNodeS

theorem T_laws_markNodeS : T k_laws_markNodeS = some (fnOf k_laws_markNodeS_ic k_laws_markNodeS_rv [true]) := rfl

@[simp] theorem M_laws_markNodeS : modesOf T k_laws_markNodeS = [true] := modesOf_code T_laws_markNodeS

theorem T_laws_heldNodeS : T k_laws_heldNodeS = some (fnOf k_laws_heldNodeS_ic k_laws_heldNodeS_rv []) := rfl

@[simp] theorem M_laws_heldNodeS : modesOf T k_laws_heldNodeS = [] := modesOf_code T_laws_heldNodeS

theorem T_impl_within : T k_impl_within = some (fnOf k_impl_within_ic k_impl_within_rv []) := rfl

@[simp] theorem M_impl_within : modesOf T k_impl_within = [] := modesOf_code T_impl_within

theorem T_slices_ContainsFunc___int_int_ : T k_slices_ContainsFunc___int_int_ = some (fnOf k_slices_ContainsFunc___int_int__ic k_slices_ContainsFunc___int_int__rv []) := rfl

@[simp] theorem M_slices_ContainsFunc___int_int_ : modesOf T k_slices_ContainsFunc___int_int_ = [] := modesOf_code T_slices_ContainsFunc___int_int_

theorem T_impl_ConfigOk_1 : T k_impl_ConfigOk_1 = some (fnOf k_impl_ConfigOk_1_ic k_impl_ConfigOk_1_rv []) := rfl

@[simp] theorem M_impl_ConfigOk_1 : modesOf T k_impl_ConfigOk_1 = [] := modesOf_code T_impl_ConfigOk_1

theorem T_impl_isSign : T k_impl_isSign = some (fnOf k_impl_isSign_ic k_impl_isSign_rv []) := rfl

@[simp] theorem M_impl_isSign : modesOf T k_impl_isSign = [] := modesOf_code T_impl_isSign

theorem T_spec_l8Numbers : T k_spec_l8Numbers = some (fnOf k_spec_l8Numbers_ic k_spec_l8Numbers_rv []) := rfl

@[simp] theorem M_spec_l8Numbers : modesOf T k_spec_l8Numbers = [] := modesOf_code T_spec_l8Numbers

theorem T_spec_l8Least : T k_spec_l8Least = some (fnOf k_spec_l8Least_ic k_spec_l8Least_rv []) := rfl

@[simp] theorem M_spec_l8Least : modesOf T k_spec_l8Least = [] := modesOf_code T_spec_l8Least

theorem T_spec_l8Most : T k_spec_l8Most = some (fnOf k_spec_l8Most_ic k_spec_l8Most_rv []) := rfl

@[simp] theorem M_spec_l8Most : modesOf T k_spec_l8Most = [] := modesOf_code T_spec_l8Most

theorem T_laws_szTree : T k_laws_szTree = some (fnOf k_laws_szTree_ic k_laws_szTree_rv []) := rfl

@[simp] theorem M_laws_szTree : modesOf T k_laws_szTree = [] := modesOf_code T_laws_szTree

theorem T_spec_NameOk : T k_spec_NameOk = some (fnOf k_spec_NameOk_ic k_spec_NameOk_rv []) := rfl

@[simp] theorem M_spec_NameOk : modesOf T k_spec_NameOk = [] := modesOf_code T_spec_NameOk

theorem T_spec_l9Has : T k_spec_l9Has = some (fnOf k_spec_l9Has_ic k_spec_l9Has_rv []) := rfl

@[simp] theorem M_spec_l9Has : modesOf T k_spec_l9Has = [] := modesOf_code T_spec_l9Has

theorem T_spec_l6Value : T k_spec_l6Value = some (fnOf k_spec_l6Value_ic k_spec_l6Value_rv []) := rfl

@[simp] theorem M_spec_l6Value : modesOf T k_spec_l6Value = [] := modesOf_code T_spec_l6Value

theorem T_spec_AddInt : T k_spec_AddInt = some (fnOf k_spec_AddInt_ic k_spec_AddInt_rv []) := rfl

@[simp] theorem M_spec_AddInt : modesOf T k_spec_AddInt = [] := modesOf_code T_spec_AddInt

theorem T_spec_FloorDiv : T k_spec_FloorDiv = some (fnOf k_spec_FloorDiv_ic k_spec_FloorDiv_rv []) := rfl

@[simp] theorem M_spec_FloorDiv : modesOf T k_spec_FloorDiv = [] := modesOf_code T_spec_FloorDiv

theorem T_spec_l17Copy : T k_spec_l17Copy = some (fnOf k_spec_l17Copy_ic k_spec_l17Copy_rv []) := rfl

@[simp] theorem M_spec_l17Copy : modesOf T k_spec_l17Copy = [] := modesOf_code T_spec_l17Copy

theorem T_spec_TreeOk : T k_spec_TreeOk = some (fnOf k_spec_TreeOk_ic k_spec_TreeOk_rv []) := rfl

@[simp] theorem M_spec_TreeOk : modesOf T k_spec_TreeOk = [] := modesOf_code T_spec_TreeOk

theorem T_laws_toTree : T k_laws_toTree = some (fnOf k_laws_toTree_ic k_laws_toTree_rv []) := rfl

@[simp] theorem M_laws_toTree : modesOf T k_laws_toTree = [] := modesOf_code T_laws_toTree

theorem T_impl_areNames : T k_impl_areNames = some (fnOf k_impl_areNames_ic k_impl_areNames_rv []) := rfl

@[simp] theorem M_impl_areNames : modesOf T k_impl_areNames = [] := modesOf_code T_impl_areNames

theorem T_impl_areDecimals : T k_impl_areDecimals = some (fnOf k_impl_areDecimals_ic k_impl_areDecimals_rv []) := rfl

@[simp] theorem M_impl_areDecimals : modesOf T k_impl_areDecimals = [] := modesOf_code T_impl_areDecimals

theorem T_slices_ContainsFunc_____int___int_ : T k_slices_ContainsFunc_____int___int_ = some (fnOf k_slices_ContainsFunc_____int___int__ic k_slices_ContainsFunc_____int___int__rv []) := rfl

@[simp] theorem M_slices_ContainsFunc_____int___int_ : modesOf T k_slices_ContainsFunc_____int___int_ = [] := modesOf_code T_slices_ContainsFunc_____int___int_

theorem T_impl_TableOk_1 : T k_impl_TableOk_1 = some (fnOf k_impl_TableOk_1_ic k_impl_TableOk_1_rv []) := rfl

@[simp] theorem M_impl_TableOk_1 : modesOf T k_impl_TableOk_1 = [] := modesOf_code T_impl_TableOk_1

theorem T_impl_AddInt : T k_impl_AddInt = some (fnOf k_impl_AddInt_ic k_impl_AddInt_rv []) := rfl

@[simp] theorem M_impl_AddInt : modesOf T k_impl_AddInt = [] := modesOf_code T_impl_AddInt

theorem T_impl_FloorDiv : T k_impl_FloorDiv = some (fnOf k_impl_FloorDiv_ic k_impl_FloorDiv_rv []) := rfl

@[simp] theorem M_impl_FloorDiv : modesOf T k_impl_FloorDiv = [] := modesOf_code T_impl_FloorDiv

theorem T_impl_copyTree : T k_impl_copyTree = some (fnOf k_impl_copyTree_ic k_impl_copyTree_rv []) := rfl

@[simp] theorem M_impl_copyTree : modesOf T k_impl_copyTree = [] := modesOf_code T_impl_copyTree

theorem T_impl_ModelOk_1 : T k_impl_ModelOk_1 = some (fnOf k_impl_ModelOk_1_ic k_impl_ModelOk_1_rv []) := rfl

@[simp] theorem M_impl_ModelOk_1 : modesOf T k_impl_ModelOk_1 = [] := modesOf_code T_impl_ModelOk_1

theorem T_impl_isDecimal : T k_impl_isDecimal = some (fnOf k_impl_isDecimal_ic k_impl_isDecimal_rv []) := rfl

@[simp] theorem M_impl_isDecimal : modesOf T k_impl_isDecimal = [] := modesOf_code T_impl_isDecimal

theorem T_slices_ContainsFunc___impl_Tree_impl_Tree_ : T k_slices_ContainsFunc___impl_Tree_impl_Tree_ = some (fnOf k_slices_ContainsFunc___impl_Tree_impl_Tree__ic k_slices_ContainsFunc___impl_Tree_impl_Tree__rv []) := rfl

@[simp] theorem M_slices_ContainsFunc___impl_Tree_impl_Tree_ : modesOf T k_slices_ContainsFunc___impl_Tree_impl_Tree_ = [] := modesOf_code T_slices_ContainsFunc___impl_Tree_impl_Tree_

theorem T_impl_ModelOk_2 : T k_impl_ModelOk_2 = some (fnOf k_impl_ModelOk_2_ic k_impl_ModelOk_2_rv []) := rfl

@[simp] theorem M_impl_ModelOk_2 : modesOf T k_impl_ModelOk_2 = [] := modesOf_code T_impl_ModelOk_2

theorem T_impl_TreeOk : T k_impl_TreeOk = some (fnOf k_impl_TreeOk_ic k_impl_TreeOk_rv []) := rfl

@[simp] theorem M_impl_TreeOk : modesOf T k_impl_TreeOk = [] := modesOf_code T_impl_TreeOk

theorem T_laws_markText : T k_laws_markText = some (fnOf k_laws_markText_ic k_laws_markText_rv []) := rfl

@[simp] theorem M_laws_markText : modesOf T k_laws_markText = [] := modesOf_code T_laws_markText

theorem T_laws_eqNode : T k_laws_eqNode = some (fnOf k_laws_eqNode_ic k_laws_eqNode_rv []) := rfl

@[simp] theorem M_laws_eqNode : modesOf T k_laws_eqNode = [] := modesOf_code T_laws_eqNode

theorem T_slices_IndexFunc___int_int_ : T k_slices_IndexFunc___int_int_ = some (fnOf k_slices_IndexFunc___int_int__ic k_slices_IndexFunc___int_int__rv []) := rfl

@[simp] theorem M_slices_IndexFunc___int_int_ : modesOf T k_slices_IndexFunc___int_int_ = [] := modesOf_code T_slices_IndexFunc___int_int_

theorem T_laws_szNodeS : T k_laws_szNodeS = some (fnOf k_laws_szNodeS_ic k_laws_szNodeS_rv []) := rfl

@[simp] theorem M_laws_szNodeS : modesOf T k_laws_szNodeS = [] := modesOf_code T_laws_szNodeS

theorem T_spec_l17Shape : T k_spec_l17Shape = some (fnOf k_spec_l17Shape_ic k_spec_l17Shape_rv []) := rfl

@[simp] theorem M_spec_l17Shape : modesOf T k_spec_l17Shape = [] := modesOf_code T_spec_l17Shape

theorem T_spec_DepthOf : T k_spec_DepthOf = some (fnOf k_spec_DepthOf_ic k_spec_DepthOf_rv []) := rfl

@[simp] theorem M_spec_DepthOf : modesOf T k_spec_DepthOf = [] := modesOf_code T_spec_DepthOf

theorem T_spec_l17Ways : T k_spec_l17Ways = some (fnOf k_spec_l17Ways_ic k_spec_l17Ways_rv []) := rfl

@[simp] theorem M_spec_l17Ways : modesOf T k_spec_l17Ways = [] := modesOf_code T_spec_l17Ways

theorem T_laws_toNodeS : T k_laws_toNodeS = some (fnOf k_laws_toNodeS_ic k_laws_toNodeS_rv []) := rfl

@[simp] theorem M_laws_toNodeS : modesOf T k_laws_toNodeS = [] := modesOf_code T_laws_toNodeS

theorem T_impl_NameOk : T k_impl_NameOk = some (fnOf k_impl_NameOk_ic k_impl_NameOk_rv []) := rfl

@[simp] theorem M_impl_NameOk : modesOf T k_impl_NameOk = [] := modesOf_code T_impl_NameOk

theorem T_slices_Contains___string_string_ : T k_slices_Contains___string_string_ = some (fnOf k_slices_Contains___string_string__ic k_slices_Contains___string_string__rv []) := rfl

@[simp] theorem M_slices_Contains___string_string_ : modesOf T k_slices_Contains___string_string_ = [] := modesOf_code T_slices_Contains___string_string_

theorem T_impl_areDecimals_1 : T k_impl_areDecimals_1 = some (fnOf k_impl_areDecimals_1_ic k_impl_areDecimals_1_rv []) := rfl

@[simp] theorem M_impl_areDecimals_1 : modesOf T k_impl_areDecimals_1 = [] := modesOf_code T_impl_areDecimals_1

theorem T_slices_IndexFunc_____int___int_ : T k_slices_IndexFunc_____int___int_ = some (fnOf k_slices_IndexFunc_____int___int__ic k_slices_IndexFunc_____int___int__rv []) := rfl

@[simp] theorem M_slices_IndexFunc_____int___int_ : modesOf T k_slices_IndexFunc_____int___int_ = [] := modesOf_code T_slices_IndexFunc_____int___int_

theorem T_slices_Clone___impl_Node_impl_Node_ : T k_slices_Clone___impl_Node_impl_Node_ = some (.known [] (cloneG 5 40)) := rfl

@[simp] theorem M_slices_Clone___impl_Node_impl_Node_ : modesOf T k_slices_Clone___impl_Node_impl_Node_ = [] := modesOf_known T_slices_Clone___impl_Node_impl_Node_

theorem T_slices_IndexFunc___impl_Tree_impl_Tree_ : T k_slices_IndexFunc___impl_Tree_impl_Tree_ = some (fnOf k_slices_IndexFunc___impl_Tree_impl_Tree__ic k_slices_IndexFunc___impl_Tree_impl_Tree__rv []) := rfl

@[simp] theorem M_slices_IndexFunc___impl_Tree_impl_Tree_ : modesOf T k_slices_IndexFunc___impl_Tree_impl_Tree_ = [] := modesOf_code T_slices_IndexFunc___impl_Tree_impl_Tree_

theorem T_impl_shapeOk : T k_impl_shapeOk = some (fnOf k_impl_shapeOk_ic k_impl_shapeOk_rv []) := rfl

@[simp] theorem M_impl_shapeOk : modesOf T k_impl_shapeOk = [] := modesOf_code T_impl_shapeOk

theorem T_impl_isLeaf : T k_impl_isLeaf = some (fnOf k_impl_isLeaf_ic k_impl_isLeaf_rv []) := rfl

@[simp] theorem M_impl_isLeaf : modesOf T k_impl_isLeaf = [] := modesOf_code T_impl_isLeaf

theorem T_impl_LevelOf : T k_impl_LevelOf = some (fnOf k_impl_LevelOf_ic k_impl_LevelOf_rv []) := rfl

@[simp] theorem M_impl_LevelOf : modesOf T k_impl_LevelOf = [] := modesOf_code T_impl_LevelOf

theorem T_impl_wayTo : T k_impl_wayTo = some (fnOf k_impl_wayTo_ic k_impl_wayTo_rv []) := rfl

@[simp] theorem M_impl_wayTo : modesOf T k_impl_wayTo = [] := modesOf_code T_impl_wayTo

theorem T_spec_l14Leaf : T k_spec_l14Leaf = some (fnOf k_spec_l14Leaf_ic k_spec_l14Leaf_rv []) := rfl

@[simp] theorem M_spec_l14Leaf : modesOf T k_spec_l14Leaf = [] := modesOf_code T_spec_l14Leaf

theorem T_impl_isLeafValue : T k_impl_isLeafValue = some (fnOf k_impl_isLeafValue_ic k_impl_isLeafValue_rv []) := rfl

@[simp] theorem M_impl_isLeafValue : modesOf T k_impl_isLeafValue = [] := modesOf_code T_impl_isLeafValue

theorem T_spec_l17Inner : T k_spec_l17Inner = some (fnOf k_spec_l17Inner_ic k_spec_l17Inner_rv []) := rfl

@[simp] theorem M_spec_l17Inner : modesOf T k_spec_l17Inner = [] := modesOf_code T_spec_l17Inner

theorem T_spec_l1Max : T k_spec_l1Max = some (fnOf k_spec_l1Max_ic k_spec_l1Max_rv []) := rfl

@[simp] theorem M_spec_l1Max : modesOf T k_spec_l1Max = [] := modesOf_code T_spec_l1Max

theorem T_spec_LevelOf : T k_spec_LevelOf = some (fnOf k_spec_LevelOf_ic k_spec_LevelOf_rv []) := rfl

@[simp] theorem M_spec_LevelOf : modesOf T k_spec_LevelOf = [] := modesOf_code T_spec_LevelOf

theorem T_spec_l17Up : T k_spec_l17Up = some (fnOf k_spec_l17Up_ic k_spec_l17Up_rv []) := rfl

@[simp] theorem M_spec_l17Up : modesOf T k_spec_l17Up = [] := modesOf_code T_spec_l17Up

theorem T_laws_toNode : T k_laws_toNode = some (fnOf k_laws_toNode_ic k_laws_toNode_rv []) := rfl

@[simp] theorem M_laws_toNode : modesOf T k_laws_toNode = [] := modesOf_code T_laws_toNode

theorem T_slices_Index___string_string_ : T k_slices_Index___string_string_ = some (fnOf k_slices_Index___string_string__ic k_slices_Index___string_string__rv []) := rfl

@[simp] theorem M_slices_Index___string_string_ : modesOf T k_slices_Index___string_string_ = [] := modesOf_code T_slices_Index___string_string_

theorem T_impl_parent : T k_impl_parent = some (fnOf k_impl_parent_ic k_impl_parent_rv []) := rfl

@[simp] theorem M_impl_parent : modesOf T k_impl_parent = [] := modesOf_code T_impl_parent

theorem T_slices_Reverse___int_int_ : T k_slices_Reverse___int_int_ = some (fnOf k_slices_Reverse___int_int__ic k_slices_Reverse___int_int__rv [true]) := rfl

@[simp] theorem M_slices_Reverse___int_int_ : modesOf T k_slices_Reverse___int_int_ = [true] := modesOf_code T_slices_Reverse___int_int_

theorem T_slices_IndexFunc___impl_Node_impl_Node_ : T k_slices_IndexFunc___impl_Node_impl_Node_ = some (fnOf k_slices_IndexFunc___impl_Node_impl_Node__ic k_slices_IndexFunc___impl_Node_impl_Node__rv []) := rfl

@[simp] theorem M_slices_IndexFunc___impl_Node_impl_Node_ : modesOf T k_slices_IndexFunc___impl_Node_impl_Node_ = [] := modesOf_code T_slices_IndexFunc___impl_Node_impl_Node_

theorem T_impl_parent_1 : T k_impl_parent_1 = some (fnOf k_impl_parent_1_ic k_impl_parent_1_rv []) := rfl

@[simp] theorem M_impl_parent_1 : modesOf T k_impl_parent_1 = [] := modesOf_code T_impl_parent_1

end Go.Pe
