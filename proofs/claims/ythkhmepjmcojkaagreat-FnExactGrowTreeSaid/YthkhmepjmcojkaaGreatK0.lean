/- The compact texts of the functions that the law reaches; no condition. -/
import Derived.Test.YthkhmepjmcojkaaGreatEvA0
set_option linter.all false
namespace Go.Pe
open Go
def k_laws_FnExactGrowTree : Nat := 9

def k_impl_BestOf : Nat := 12

def k_spec_BestOf : Nat := 13

def k_impl_MayPart : Nat := 14

def k_spec_MayPart : Nat := 15

def k_impl_Better : Nat := 16

def k_spec_GainOf : Nat := 17

def k_spec_CompareFrac : Nat := 18

def k_laws_szConfig : Nat := 20

def k_laws_toConfig : Nat := 24

def k_laws_eqConfig : Nat := 29

def k_laws_markConfig : Nat := 32

def k_laws_szGrid : Nat := 36

def k_laws_toGrid : Nat := 38

def k_laws_toIntS : Nat := 39

def k_laws_eqGrid : Nat := 42

def k_laws_eqIntS : Nat := 43

def k_laws_markGrid : Nat := 44

def k_laws_markIntS : Nat := 45

def k_spec_PartOf : Nat := 48

def k_impl_PartOf : Nat := 50

def k_spec_SplitRows : Nat := 54

def k_spec_GrowTree : Nat := 56

def k_impl_GrowTree : Nat := 57

def k_laws_eqTree : Nat := 58

def k_laws_markTree : Nat := 59

def k_laws_heldTree : Nat := 60

def k_spec_Better : Nat := 67

def k_impl_SideValues : Nat := 68

def k_impl_ConfigOk : Nat := 69

def k_impl_Agrees : Nat := 70

def k_impl_SignFor : Nat := 71

def k_impl_Improves : Nat := 72

def k_spec_SideValues : Nat := 73

def k_spec_ConfigOk : Nat := 74

def k_spec_Agrees : Nat := 75

def k_spec_SignFor : Nat := 76

def k_spec_Improves : Nat := 77

def k_impl_GainOf : Nat := 78

def k_impl_CompareFrac : Nat := 79

def k_impl_CandLess : Nat := 80

def k_spec_PlainGain : Nat := 81

def k_spec_AddFrac : Nat := 82

def k_spec_l5Cross : Nat := 83

def k_spec_CompareWide : Nat := 84

def k_laws_szIntSS : Nat := 86

def k_laws_szIntS : Nat := 87

def k_laws_toIntSS : Nat := 94

def k_laws_eqIntSS : Nat := 104

def k_laws_markIntSS : Nat := 106

def k_spec_TaskOk : Nat := 111

def k_spec_AllRows : Nat := 113

def k_spec_Free : Nat := 114

def k_impl_TaskOk : Nat := 115

def k_impl_AllRows : Nat := 117

def k_impl_RowsIn : Nat := 118

def k_impl_Free : Nat := 119

def k_spec_NodeHists : Nat := 123

def k_spec_CandsOf : Nat := 124

def k_impl_NodeHists : Nat := 125

def k_impl_CandsOf : Nat := 126

def k_spec_l1In : Nat := 130

def k_spec_LeafOf : Nat := 131

def k_spec_l19Sum : Nat := 132

def k_spec_SidesOf : Nat := 133

def k_impl_LeafOf : Nat := 134

def k_impl_slotOf : Nat := 135

def k_impl_SidesOf : Nat := 136

def k_impl_SplitRows : Nat := 137

def k_laws_eqNodeS : Nat := 138

def k_laws_markNodeS : Nat := 139

def k_laws_heldNodeS : Nat := 140

def k_spec_CandLess : Nat := 146

def k_impl_within : Nat := 147

def k_slices_ContainsFunc___int_int_ : Nat := 148

def k_impl_ConfigOk_1 : Nat := 149

def k_impl_isSign : Nat := 150

def k_impl_BothOf : Nat := 151

def k_impl_PlainGain : Nat := 152

def k_spec_l8Numbers : Nat := 153

def k_spec_l8Least : Nat := 154

def k_spec_l8Most : Nat := 155

def k_spec_BothOf : Nat := 156

def k_impl_AddFrac : Nat := 157

def k_impl_crossed : Nat := 158

def k_impl_CompareWide : Nat := 159

def k_cmp_Or_int_ : Nat := 160

def k_cmp_Compare_int_ : Nat := 161

def k_spec_SquareOver : Nat := 162

def k_spec_AddWide : Nat := 163

def k_spec_FracOk : Nat := 164

def k_spec_ScaleWide : Nat := 165

def k_spec_l3Zero : Nat := 166

def k_spec_l3Order : Nat := 167

def k_spec_l6Value : Nat := 171

def k_spec_AddInt : Nat := 172

def k_spec_FloorDiv : Nat := 173

def k_impl_areDecimals : Nat := 178

def k_impl_AddInt : Nat := 181

def k_impl_FloorDiv : Nat := 182

def k_impl_isDecimal : Nat := 185

def k_spec_GridOk : Nat := 190

def k_spec_RowsIn : Nat := 191

def k_impl_GridOk : Nat := 194

def k_impl_TaskOk_1 : Nat := 195

def k_spec_HistOf : Nat := 196

def k_spec_Prefix : Nat := 197

def k_spec_SubInt : Nat := 198

def k_impl_HistOf : Nat := 199

def k_impl_Prefix : Nat := 200

def k__impl_Slot__minus : Nat := 201

def k_spec_BoundOk : Nat := 205

def k_spec_Brought : Nat := 206

def k_spec_HalfSum : Nat := 207

def k_impl_isCount : Nat := 208

def k_impl_BoundOk : Nat := 209

def k_impl_Brought : Nat := 210

def k_impl_HalfSum : Nat := 211

def k_laws_eqNode : Nat := 212

def k_slices_IndexFunc___int_int_ : Nat := 215

def k__impl_Slot__plus : Nat := 216

def k_impl_SquareOver : Nat := 217

def k_spec_l13Add : Nat := 218

def k_impl_AddWide : Nat := 219

def k_impl_fracOf : Nat := 220

def k_impl_FracOk : Nat := 221

def k_impl_ScaleWide : Nat := 222

def k_impl_wideOf : Nat := 223

def k_impl_compareSizes : Nat := 224

def k_cmp_isNaN_int_ : Nat := 225

def k_spec_MulWide : Nat := 226

def k_spec_WideOk : Nat := 227

def k_spec_l3Abs : Nat := 228

def k_spec_l3Product : Nat := 229

def k_impl_areDecimals_1 : Nat := 237

def k_spec_CutsOk : Nat := 245

def k_impl_CutsOk : Nat := 247

def k_impl_GridOk_1 : Nat := 248

def k_impl_SubInt : Nat := 249

def k_spec_l14Leaf : Nat := 253

def k_impl_isLeafValue : Nat := 254

def k_impl_MulWide : Nat := 255

def k_impl_WideOk : Nat := 256

def k_math_bits_Sub64 : Nat := 257

def k_math_bits_Add64 : Nat := 258

def k_impl_size : Nat := 259

def k_math_bits_Mul64 : Nat := 260

def k_cmp_Compare_uint64_ : Nat := 261

def k_cmp_isNaN_uint64_ : Nat := 273

def k_laws_FnExactGrowTree_vars : List Nat := [0, 1, 2, 3, 7, 5, 10, 11, 12, 13, 8, 14, 9, 15, 16, 17, 18, 19, 6]

def k_laws_FnExactGrowTree_ic : IC := .seq (.reg [oV 3 (.box (.V 0)), oV 5 (.box (.V 2)), oV 6 (.mv (kb false))]) (.seq (.seq (.reg [oE 20 (.mv (.V 1)), oE 21 (.len (.E 20)), oE 22 (.bin .gtr (.E 21) (ki 1048576))]) (.cond (.E 22) (.seq (.reg [oV 6 (.mv (kb true))]) .ret) .skip)) (.seq (.reg [oV 7 (.mv (ki 1048576))]) (.seq (.reg [oE 23 (.load true 2 (.V 3)), oE 24 (.mv (.V 7)), oE 25 (.call k_laws_szGrid [([1, 1], (.E 23)), ([0], (.E 24))]), oV 7 (.mv (.E 25))]) (.seq (.seq (.reg [oE 26 (.mv (.V 7)), oE 27 (.bin .lss (.E 26) (ki 0))]) (.cond (.E 27) (.seq (.reg [oV 6 (.mv (kb true))]) .ret) .skip)) (.seq (.reg [oE 28 (.load true 8 (.V 5)), oE 29 (.mv (.V 7)), oE 30 (.call k_laws_szConfig [([0, 0, 0, 0, 0, 0, 0, 1], (.E 28)), ([0], (.E 29))]), oV 7 (.mv (.E 30))]) (.seq (.seq (.reg [oE 31 (.mv (.V 7)), oE 32 (.bin .lss (.E 31) (ki 0))]) (.cond (.E 32) (.seq (.reg [oV 6 (.mv (kb true))]) .ret) .skip)) (.seq (.regD [(oE 34 (.load true 2 (.V 3)), 0, 0), (oE 35 (.call k_laws_toGrid [([1, 1], (.E 34))]), 0, 0), (oE 36 (.mv (.V 1)), 0, 0), (oE 37 (.call k_laws_toIntS [([1], (.E 36))]), 0, 0), (oE 38 (.load true 8 (.V 5)), 2, 0), (oE 39 (.call k_laws_toConfig [([0, 0, 0, 0, 0, 0, 0, 1], (.E 38))]), 0, 0), (oE 40 (.call k_spec_GrowTree [([1, 1], (.E 35)), ([1], (.E 37)), ([0, 0, 0, 0, 0, 0, 0, 1], (.E 39))]), 0, 0), (oE 33 (.mv (.E 40)), 0, 0), (oE 41 (.ext 0 (.E 33)), 0, 0), (oE 42 (.ext 1 (.E 33)), 0, 0), (oV 8 (.allocL [.e0]), 0, 0), (oN (.store [5] (.V 8) (.E 41)), 0, 0), (oV 9 (.mv (.E 42)), 0, 0)]) (.seq (.reg [oE 43 (.load true 2 (.V 3)), oE 44 (.call k_laws_toGrid [([1, 1], (.E 43))]), oV 10 (.alloc [.e0, .e0]), oN (.store [1, 1] (.V 10) (.E 44))]) (.seq (.reg [oE 45 (.mv (.V 1)), oE 46 (.call k_laws_toIntS [([1], (.E 45))]), oV 11 (.mv (.E 46))]) (.seq (.reg [oE 47 (.load true 8 (.V 5)), oE 48 (.call k_laws_toConfig [([0, 0, 0, 0, 0, 0, 0, 1], (.E 47))]), oV 12 (.alloc [iv 0, iv 0, iv 0, iv 0, iv 0, iv 0, iv 0, .e0]), oN (.store [0, 0, 0, 0, 0, 0, 0, 1] (.V 12) (.E 48))]) (.seq (.reg [oE 50 (.load true 2 (.V 10)), oE 51 (.mv (.V 11)), oE 52 (.load true 8 (.V 12)), oE 53 (.call k_impl_GrowTree [([1, 1], (.E 50)), ([1], (.E 51)), ([0, 0, 0, 0, 0, 0, 0, 1], (.E 52))]), oE 49 (.mv (.E 53)), oE 54 (.ext 0 (.E 49)), oE 55 (.ext 1 (.E 49)), oV 13 (.alloc [.e0]), oN (.store [5] (.V 13) (.E 54)), oV 14 (.mv (.E 55))]) (.seq (.seq (.reg [oE 56 (.load true 1 (.V 13)), oE 57 (.load true 1 (.V 8)), oE 58 (.call k_laws_eqTree [([5], (.E 56)), ([5], (.E 57))]), oE 59 (.un .not (.E 58)), oE 60 (.mv (.E 59)), ⟨(some (.E 61)), .mv (.V 14), some ((.E 60), false)⟩, ⟨(some (.E 62)), .mv (.V 9), some ((.E 60), false)⟩, ⟨(some (.E 63)), .eqb true [.b] (.E 61) (.E 62), some ((.E 60), false)⟩, oE 64 (.pick (.E 60) (kb true) (.E 63))]) (.cond (.E 64) (.seq (.reg [oV 6 (.mv (kb false))]) .ret) .skip)) (.seq (.seq (.regD [(oE 65 (.load true 2 (.V 10)), 0, 1), (oE 66 (.load true 2 (.V 3)), 0, 0), (oE 67 (.call k_laws_toGrid [([1, 1], (.E 66))]), 0, 0), (oE 68 (.call k_laws_eqGrid [([1, 1], (.E 65)), ([1, 1], (.E 67))]), 0, 0), (oE 69 (.un .not (.E 68)), 0, 0)]) (.cond (.E 69) (.seq (.reg [oV 6 (.mv (kb false))]) .ret) .skip)) (.seq (.seq (.reg [oE 70 (.mv (.V 11)), oE 71 (.mv (.V 1)), oE 72 (.call k_laws_toIntS [([1], (.E 71))]), oE 73 (.call k_laws_eqIntS [([1], (.E 70)), ([1], (.E 72))]), oE 74 (.un .not (.E 73))]) (.cond (.E 74) (.seq (.reg [oV 6 (.mv (kb false))]) .ret) .skip)) (.seq (.seq (.regD [(oE 75 (.load true 8 (.V 12)), 0, 1), (oE 76 (.load true 8 (.V 5)), 0, 0), (oE 77 (.call k_laws_toConfig [([0, 0, 0, 0, 0, 0, 0, 1], (.E 76))]), 0, 0), (oE 78 (.call k_laws_eqConfig [([0, 0, 0, 0, 0, 0, 0, 1], (.E 75)), ([0, 0, 0, 0, 0, 0, 0, 1], (.E 77))]), 0, 0), (oE 79 (.un .not (.E 78)), 0, 0)]) (.cond (.E 79) (.seq (.reg [oV 6 (.mv (kb false))]) .ret) .skip)) (.seq (.reg [oV 15 (.mv (ki 1))]) (.seq (.reg [oE 80 (.load true 2 (.V 10)), oE 81 (.mv (.V 15)), oE 82 (.call k_laws_markGrid [([1, 1], (.E 80)), ([0], (.E 81))]), oV 15 (.mv (.E 82))]) (.seq (.reg [oE 83 (.mv (.V 11)), oE 84 (.mv (.V 15)), oE 85 (.call k_laws_markIntS [([1], (.E 83)), ([0], (.E 84))]), oV 15 (.mv (.E 85))]) (.seq (.reg [oE 86 (.load true 8 (.V 12)), oE 87 (.mv (.V 15)), oE 88 (.call k_laws_markConfig [([0, 0, 0, 0, 0, 0, 0, 1], (.E 86)), ([0], (.E 87))]), oV 15 (.mv (.E 88))]) (.seq (.seq (.reg [oE 89 (.mv (.V 15)), oE 90 (.bin .lss (.E 89) (ki 0)), oE 91 (.mv (.E 90)), ⟨(some (.E 92)), .load true 1 (.V 13), some ((.E 91), false)⟩, ⟨(some (.E 93)), .load true 1 (.V 8), some ((.E 91), false)⟩, ⟨(some (.E 94)), .call k_laws_eqTree [([5], (.E 92)), ([5], (.E 93))], some ((.E 91), false)⟩, ⟨(some (.E 95)), .un .not (.E 94), some ((.E 91), false)⟩, oE 96 (.pick (.E 91) (kb true) (.E 95)), oE 97 (.mv (.E 96)), ⟨(some (.E 98)), .mv (.V 14), some ((.E 97), false)⟩, ⟨(some (.E 99)), .mv (.V 9), some ((.E 97), false)⟩, ⟨(some (.E 100)), .eqb true [.b] (.E 98) (.E 99), some ((.E 97), false)⟩, oE 101 (.pick (.E 97) (kb true) (.E 100))]) (.cond (.E 101) (.seq (.reg [oV 6 (.mv (kb false))]) .ret) .skip)) (.seq (.reg [oV 16 (.mv (ki 1))]) (.seq (.reg [oE 102 (.load true 1 (.V 13)), oE 103 (.mv (.V 16)), oE 104 (.call k_laws_markTree [([5], (.E 102)), ([0], (.E 103))]), oV 16 (.mv (.E 104))]) (.seq (.reg [oV 17 (.mv (ki 1))]) (.seq (.reg [oE 105 (.load true 1 (.V 13)), oE 106 (.mv (.V 17)), oE 107 (.call k_laws_heldTree [([5], (.E 105)), ([0], (.E 106))]), oV 17 (.mv (.E 107))]) (.seq (.seq (.reg [oE 108 (.mv (.V 17)), oE 109 (.bin .lss (.E 108) (ki 0))]) (.cond (.E 109) (.seq (.reg [oV 6 (.mv (kb false))]) .ret) .skip)) (.seq (.seq (.reg [oE 110 (.mv (.V 17)), oE 111 (.mv (.V 16)), oE 112 (.bin .neq (.E 110) (.E 111))]) (.cond (.E 112) (.seq (.reg [oV 6 (.mv (kb false))]) .ret) .skip)) (.seq (.regD [(oE 114 (.load true 2 (.V 3)), 0, 0), (oE 115 (.call k_laws_toGrid [([1, 1], (.E 114))]), 0, 0), (oE 116 (.mv (.V 1)), 0, 0), (oE 117 (.call k_laws_toIntS [([1], (.E 116))]), 0, 0), (oE 118 (.load true 8 (.V 5)), 2, 0), (oE 119 (.call k_laws_toConfig [([0, 0, 0, 0, 0, 0, 0, 1], (.E 118))]), 0, 0), (oE 120 (.call k_impl_GrowTree [([1, 1], (.E 115)), ([1], (.E 117)), ([0, 0, 0, 0, 0, 0, 0, 1], (.E 119))]), 0, 0), (oE 113 (.mv (.E 120)), 0, 0), (oE 121 (.ext 0 (.E 113)), 0, 0), (oE 122 (.ext 1 (.E 113)), 0, 0), (oV 18 (.allocL [.e0]), 0, 0), (oN (.store [5] (.V 18) (.E 121)), 0, 0), (oV 19 (.mv (.E 122)), 0, 0)]) (.seq (.seq (.reg [oE 123 (.load true 1 (.V 18)), oE 124 (.load true 1 (.V 8)), oE 125 (.call k_laws_eqTree [([5], (.E 123)), ([5], (.E 124))]), oE 126 (.un .not (.E 125)), oE 127 (.mv (.E 126)), ⟨(some (.E 128)), .mv (.V 19), some ((.E 127), false)⟩, ⟨(some (.E 129)), .mv (.V 9), some ((.E 127), false)⟩, ⟨(some (.E 130)), .eqb true [.b] (.E 128) (.E 129), some ((.E 127), false)⟩, oE 131 (.pick (.E 127) (kb true) (.E 130))]) (.cond (.E 131) (.seq (.reg [oV 6 (.mv (kb false))]) .ret) .skip)) (.seq (.reg [oV 17 (.mv (ki 1))]) (.seq (.reg [oE 132 (.load true 1 (.V 13)), oE 133 (.mv (.V 17)), oE 134 (.call k_laws_heldTree [([5], (.E 132)), ([0], (.E 133))]), oV 17 (.mv (.E 134))]) (.seq (.seq (.reg [oE 135 (.mv (.V 17)), oE 136 (.bin .lss (.E 135) (ki 0))]) (.cond (.E 136) (.seq (.reg [oV 6 (.mv (kb false))]) .ret) .skip)) (.seq (.seq (.reg [oE 137 (.mv (.V 17)), oE 138 (.mv (.V 16)), oE 139 (.bin .neq (.E 137) (.E 138))]) (.cond (.E 139) (.seq (.reg [oV 6 (.mv (kb false))]) .ret) .skip)) (.seq (.reg [oV 6 (.mv (kb true))]) .ret)))))))))))))))))))))))))))))))))

def k_laws_FnExactGrowTree_rv : List RV := [.tmp [0] 6]

def k_impl_BestOf_vars : List Nat := [0, 1, 2, 19, 18, 17, 3, 4, 10, 8, 34, 33, 32, 41, 40, 39, 13, 14, 11, 15, 12, 6, 7]

def k_impl_BestOf_b0 : IC := .seq (.reg [oE 20 (.bin .lss (.V 19) (.V 18))]) (.seq (.cond (.E 20) .skip (.exit 0)) (.seq (.block 1 (.seq (.reg [oE 21 (.iaddr 6 (.V 17) (.V 19)), oE 22 (.load true 6 (.E 21)), oV 10 (.alloc [iv 0, iv 0, iv 0, iv 0, iv 0, iv 0]), oN (.store [0, 0, 0, 0, 0, 0] (.V 10) (.E 22))]) (.seq (.reg [oE 23 (.load true 8 (.V 3)), oE 24 (.load true 2 (.V 4)), oE 25 (.load true 6 (.V 10)), oE 26 (.call k_impl_MayPart [([0, 0, 0, 0, 0, 0, 0, 1], (.E 23)), ([0, 0], (.E 24)), ([0, 0, 0, 0, 0, 0], (.E 25))])]) (.cond (.E 26) (.reg [oE 27 (.mv (.V 8)), oE 28 (.load true 6 (.V 10)), oE 29 (.bslice 1 6 [iv 0, iv 0, iv 0, iv 0, iv 0, iv 0] [(0, (.E 28))]), oE 30 (.app 48 6 (.E 27) (.E 29)), oV 8 (.mv (.E 30))]) .skip)))) (.reg [oE 31 (.bin .add (.V 19) (ki 1)), oV 19 (.mv (.E 31))])))

def k_impl_BestOf_b1 : IC := .seq (.reg [oE 42 (.bin .lss (.V 41) (.V 40))]) (.seq (.cond (.E 42) .skip (.exit 4)) (.seq (.block 5 (.seq (.reg [oE 43 (.mv (.V 41)), oE 44 (.iaddr 6 (.V 39) (.V 41)), oE 45 (.load true 6 (.E 44)), oV 15 (.alloc [iv 0, iv 0, iv 0, iv 0, iv 0, iv 0]), oV 14 (.mv (.E 43)), oN (.store [0, 0, 0, 0, 0, 0] (.V 15) (.E 45))]) (.reg [oE 46 (.mv (.V 13)), oE 47 (.mv (.E 46)), ⟨(some (.E 48)), .mv (.V 14), some ((.E 47), true)⟩, ⟨(some (.E 49)), .mv (.V 11), some ((.E 47), true)⟩, ⟨(some (.E 50)), .bin .eql (.E 48) (.E 49), some ((.E 47), true)⟩, ⟨(some (.E 51)), .mv (.E 50), some ((.E 47), true)⟩, ⟨(some (.E 52)), .load true 6 (.V 15), some ((.E 51), false)⟩, ⟨(some (.E 53)), .load true 6 (.V 12), some ((.E 51), false)⟩, ⟨(some (.E 54)), .faddr 3 (.V 3), some ((.E 51), false)⟩, ⟨(some (.E 55)), .load false 1 (.E 54), some ((.E 51), false)⟩, ⟨(some (.E 56)), .call k_impl_Better [([0, 0, 0, 0, 0, 0], (.E 52)), ([0, 0, 0, 0, 0, 0], (.E 53)), ([0], (.E 55))], some ((.E 51), false)⟩, ⟨(some (.E 57)), .un .not (.E 56), some ((.E 51), false)⟩, ⟨(some (.E 58)), .pick (.E 51) (kb true) (.E 57), some ((.E 47), true)⟩, oE 59 (.pick (.E 47) (.E 58) (kb false)), oV 13 (.mv (.E 59))]))) (.reg [oE 60 (.bin .add (.V 41) (ki 1)), oV 41 (.mv (.E 60))])))

def k_impl_BestOf_b2 : IC := .seq (.reg [oE 35 (.bin .lss (.V 34) (.V 33))]) (.seq (.cond (.E 35) .skip (.exit 2)) (.seq (.block 3 (.seq (.reg [oE 36 (.mv (.V 34)), oE 37 (.iaddr 6 (.V 32) (.V 34)), oE 38 (.load true 6 (.E 37)), oV 12 (.alloc [iv 0, iv 0, iv 0, iv 0, iv 0, iv 0]), oV 11 (.mv (.E 36)), oN (.store [0, 0, 0, 0, 0, 0] (.V 12) (.E 38))]) (.seq (.reg [oV 13 (.mv (kb true))]) (.seq (.seq (.reg [oV 39 (.mv (.V 8)), oV 40 (.len (.V 39)), oV 41 (.mv (ki 0))]) (.block 4 (.loop k_impl_BestOf_b1))) (.seq (.reg [oE 61 (.mv (.V 13))]) (.cond (.E 61) (.seq (.reg [oE 62 (.load true 6 (.V 12)), oN (.store [0, 0, 0, 0, 0, 0] (.V 6) (.E 62)), oV 7 (.mv (kb true))]) .ret) .skip)))))) (.reg [oE 63 (.bin .add (.V 34) (ki 1)), oV 34 (.mv (.E 63))])))

def k_impl_BestOf_ic : IC := .seq (.reg [oV 3 (.box (.V 0)), oV 4 (.box (.V 1)), oV 6 (.alloc [iv 0, iv 0, iv 0, iv 0, iv 0, iv 0]), oV 7 (.mv (kb false))]) (.seq (.reg [oE 16 (.bslice 0 6 [iv 0, iv 0, iv 0, iv 0, iv 0, iv 0] []), oV 8 (.mv (.E 16))]) (.seq (.seq (.reg [oV 17 (.mv (.V 2)), oV 18 (.len (.V 17)), oV 19 (.mv (ki 0))]) (.block 0 (.loop k_impl_BestOf_b0))) (.seq (.seq (.reg [oV 32 (.mv (.V 8)), oV 33 (.len (.V 32)), oV 34 (.mv (ki 0))]) (.block 2 (.loop k_impl_BestOf_b2))) (.seq (.reg [oE 64 (.build [iv 0, iv 0, iv 0, iv 0, iv 0, iv 0] []), oN (.store [0, 0, 0, 0, 0, 0] (.V 6) (.E 64)), oV 7 (.mv (kb false))]) .ret))))

def k_impl_BestOf_rv : List RV := [.cell [0, 0, 0, 0, 0, 0] 6 true, .tmp [0] 7]

def k_spec_BestOf_vars : List Nat := [0, 1, 2, 8, 3, 4, 10, 9, 6, 7]

def k_spec_BestOf_b0 : IC := .seq (.seq (.reg [oE 24 (.mv (.V 10)), oE 25 (.mv (.V 2)), oE 26 (.len (.E 25)), oE 27 (.bin .lss (.E 24) (.E 26)), oE 28 (.mv (.E 27)), ⟨(some (.E 29)), .mv (.V 9), some ((.E 28), true)⟩, oE 30 (.pick (.E 28) (.E 29) (kb false))]) (.cond (.E 30) .skip (.exit 2))) (.seq (.block 3 (.regD [(oE 33 (.load true 8 (.V 3)), 0, 0), (oE 34 (.load true 2 (.V 4)), 0, 0), (oE 35 (.mv (.V 2)), 0, 0), (oE 36 (.mv (.V 10)), 0, 0), (oE 37 (.iaddr 6 (.E 35) (.E 36)), 0, 0), (oE 38 (.load true 6 (.E 37)), 0, 0), (oE 39 (.call k_spec_MayPart [([0, 0, 0, 0, 0, 0, 0, 1], (.E 33)), ([0, 0], (.E 34)), ([0, 0, 0, 0, 0, 0], (.E 38))]), 0, 0), (oE 40 (.un .not (.E 39)), 0, 0), (oE 41 (.mv (.E 40)), 0, 0), (⟨(some (.E 42)), .mv (.V 2), some ((.E 41), false)⟩, 0, 0), (⟨(some (.E 43)), .mv (.V 10), some ((.E 41), false)⟩, 0, 0), (⟨(some (.E 44)), .iaddr 6 (.E 42) (.E 43), some ((.E 41), false)⟩, 0, 0), (⟨(some (.E 45)), .load true 6 (.E 44), some ((.E 41), false)⟩, 0, 0), (⟨(some (.E 46)), .mv (.V 2), some ((.E 41), false)⟩, 0, 0), (⟨(some (.E 47)), .mv (.V 8), some ((.E 41), false)⟩, 0, 0), (⟨(some (.E 48)), .iaddr 6 (.E 46) (.E 47), some ((.E 41), false)⟩, 0, 0), (⟨(some (.E 49)), .load true 6 (.E 48), some ((.E 41), false)⟩, 0, 0), (⟨(some (.E 50)), .faddr 3 (.V 3), some ((.E 41), false)⟩, 0, 0), (⟨(some (.E 51)), .load false 1 (.E 50), some ((.E 41), false)⟩, 0, 0), (⟨(some (.E 52)), .call k_spec_Better [([0, 0, 0, 0, 0, 0], (.E 45)), ([0, 0, 0, 0, 0, 0], (.E 49)), ([0], (.E 51))], some ((.E 41), false)⟩, 0, 0), (⟨(some (.E 53)), .un .not (.E 52), some ((.E 41), false)⟩, 0, 0), (oE 54 (.pick (.E 41) (kb true) (.E 53)), 0, 0), (oV 9 (.mv (.E 54)), 0, 0)])) (.reg [oE 31 (.mv (.V 10)), oE 32 (.bin .add (.E 31) (ki 1)), oV 10 (.mv (.E 32))]))

def k_spec_BestOf_b1 : IC := .seq (.seq (.reg [oE 11 (.mv (.V 8)), oE 12 (.mv (.V 2)), oE 13 (.len (.E 12)), oE 14 (.bin .lss (.E 11) (.E 13))]) (.cond (.E 14) .skip (.exit 0))) (.seq (.block 1 (.seq (.regD [(oE 17 (.load true 8 (.V 3)), 0, 0), (oE 18 (.load true 2 (.V 4)), 0, 0), (oE 19 (.mv (.V 2)), 0, 0), (oE 20 (.mv (.V 8)), 0, 0), (oE 21 (.iaddr 6 (.E 19) (.E 20)), 0, 0), (oE 22 (.load true 6 (.E 21)), 0, 0), (oE 23 (.call k_spec_MayPart [([0, 0, 0, 0, 0, 0, 0, 1], (.E 17)), ([0, 0], (.E 18)), ([0, 0, 0, 0, 0, 0], (.E 22))]), 0, 0), (oV 9 (.mv (.E 23)), 0, 0)]) (.seq (.seq (.reg [oV 10 (.mv (ki 0))]) (.block 2 (.loop k_spec_BestOf_b0))) (.seq (.reg [oE 55 (.mv (.V 9))]) (.cond (.E 55) (.seq (.reg [oE 56 (.mv (.V 2)), oE 57 (.mv (.V 8)), oE 58 (.iaddr 6 (.E 56) (.E 57)), oE 59 (.load true 6 (.E 58)), oN (.store [0, 0, 0, 0, 0, 0] (.V 6) (.E 59)), oV 7 (.mv (kb true))]) .ret) .skip))))) (.reg [oE 15 (.mv (.V 8)), oE 16 (.bin .add (.E 15) (ki 1)), oV 8 (.mv (.E 16))]))

def k_spec_BestOf_ic : IC := .seq (.reg [oV 3 (.box (.V 0)), oV 4 (.box (.V 1)), oV 6 (.alloc [iv 0, iv 0, iv 0, iv 0, iv 0, iv 0]), oV 7 (.mv (kb false))]) (.seq (.seq (.reg [oV 8 (.mv (ki 0))]) (.block 0 (.loop k_spec_BestOf_b1))) (.seq (.reg [oE 60 (.build [iv 0, iv 0, iv 0, iv 0, iv 0, iv 0] []), oN (.store [0, 0, 0, 0, 0, 0] (.V 6) (.E 60)), oV 7 (.mv (kb false))]) .ret))

def k_spec_BestOf_rv : List RV := [.cell [0, 0, 0, 0, 0, 0] 6 true, .tmp [0] 7]

def k_impl_MayPart_vars : List Nat := [0, 1, 2, 3, 4, 5, 9, 7, 8, 6]

def k_impl_MayPart_ic : IC := .seq (.reg [oV 3 (.box (.V 0)), oV 4 (.box (.V 1)), oV 5 (.box (.V 2)), oV 6 (.mv (kb false))]) (.seq (.reg [oE 11 (.load true 8 (.V 3)), oE 12 (.load true 2 (.V 4)), oE 13 (.load true 6 (.V 5)), oE 14 (.call k_impl_SideValues [([0, 0, 0, 0, 0, 0, 0, 1], (.E 11)), ([0, 0], (.E 12)), ([0, 0, 0, 0, 0, 0], (.E 13))]), oE 10 (.mv (.E 14)), oE 15 (.ext 0 (.E 10)), oE 16 (.ext 1 (.E 10)), oE 17 (.ext 2 (.E 10)), oV 7 (.mv (.E 15)), oV 8 (.mv (.E 16)), oV 9 (.mv (.E 17))]) (.seq (.reg [oE 18 (.load true 8 (.V 3)), oE 19 (.call k_impl_ConfigOk [([0, 0, 0, 0, 0, 0, 0, 1], (.E 18))]), oE 20 (.mv (.E 19)), ⟨(some (.E 21)), .mv (.V 9), some ((.E 20), true)⟩, oE 22 (.pick (.E 20) (.E 21) (kb false)), oE 23 (.mv (.E 22)), ⟨(some (.E 24)), .faddr 2 (.V 5), some ((.E 23), true)⟩, ⟨(some (.E 25)), .faddr 0 (.E 24), some ((.E 23), true)⟩, ⟨(some (.E 26)), .load false 1 (.E 25), some ((.E 23), true)⟩, ⟨(some (.E 27)), .faddr 4 (.V 3), some ((.E 23), true)⟩, ⟨(some (.E 28)), .load false 1 (.E 27), some ((.E 23), true)⟩, ⟨(some (.E 29)), .bin .geq (.E 26) (.E 28), some ((.E 23), true)⟩, oE 30 (.pick (.E 23) (.E 29) (kb false)), oE 31 (.mv (.E 30)), ⟨(some (.E 32)), .faddr 4 (.V 5), some ((.E 31), true)⟩, ⟨(some (.E 33)), .faddr 0 (.E 32), some ((.E 31), true)⟩, ⟨(some (.E 34)), .load false 1 (.E 33), some ((.E 31), true)⟩, ⟨(some (.E 35)), .faddr 4 (.V 3), some ((.E 31), true)⟩, ⟨(some (.E 36)), .load false 1 (.E 35), some ((.E 31), true)⟩, ⟨(some (.E 37)), .bin .geq (.E 34) (.E 36), some ((.E 31), true)⟩, oE 38 (.pick (.E 31) (.E 37) (kb false)), oE 39 (.mv (.E 38)), ⟨(some (.E 40)), .load true 8 (.V 3), some ((.E 39), true)⟩, ⟨(some (.E 41)), .faddr 0 (.V 5), some ((.E 39), true)⟩, ⟨(some (.E 42)), .load false 1 (.E 41), some ((.E 39), true)⟩, ⟨(some (.E 43)), .call k_impl_SignFor [([0, 0, 0, 0, 0, 0, 0, 1], (.E 40)), ([0], (.E 42))], some ((.E 39), true)⟩, ⟨(some (.E 44)), .mv (.V 7), some ((.E 39), true)⟩, ⟨(some (.E 45)), .mv (.V 8), some ((.E 39), true)⟩, ⟨(some (.E 46)), .call k_impl_Agrees [([0], (.E 43)), ([0], (.E 44)), ([0], (.E 45))], some ((.E 39), true)⟩, oE 47 (.pick (.E 39) (.E 46) (kb false)), oE 48 (.mv (.E 47)), ⟨(some (.E 49)), .load true 6 (.V 5), some ((.E 48), true)⟩, ⟨(some (.E 50)), .faddr 3 (.V 3), some ((.E 48), true)⟩, ⟨(some (.E 51)), .load false 1 (.E 50), some ((.E 48), true)⟩, ⟨(some (.E 52)), .call k_impl_Improves [([0, 0, 0, 0, 0, 0], (.E 49)), ([0], (.E 51))], some ((.E 48), true)⟩, oE 53 (.pick (.E 48) (.E 52) (kb false)), oV 6 (.mv (.E 53))]) .ret))

def k_impl_MayPart_rv : List RV := [.tmp [0] 6]

def k_spec_MayPart_vars : List Nat := [0, 1, 2, 3, 4, 5, 9, 7, 8, 6]

def k_spec_MayPart_ic : IC := .seq (.reg [oV 3 (.box (.V 0)), oV 4 (.box (.V 1)), oV 5 (.box (.V 2)), oV 6 (.mv (kb false))]) (.seq (.reg [oE 11 (.load true 8 (.V 3)), oE 12 (.load true 2 (.V 4)), oE 13 (.load true 6 (.V 5)), oE 14 (.call k_spec_SideValues [([0, 0, 0, 0, 0, 0, 0, 1], (.E 11)), ([0, 0], (.E 12)), ([0, 0, 0, 0, 0, 0], (.E 13))]), oE 10 (.mv (.E 14)), oE 15 (.ext 0 (.E 10)), oE 16 (.ext 1 (.E 10)), oE 17 (.ext 2 (.E 10)), oV 7 (.mv (.E 15)), oV 8 (.mv (.E 16)), oV 9 (.mv (.E 17))]) (.seq (.reg [oE 18 (.load true 8 (.V 3)), oE 19 (.call k_spec_ConfigOk [([0, 0, 0, 0, 0, 0, 0, 1], (.E 18))]), oE 20 (.mv (.E 19)), ⟨(some (.E 21)), .mv (.V 9), some ((.E 20), true)⟩, oE 22 (.pick (.E 20) (.E 21) (kb false)), oE 23 (.mv (.E 22)), ⟨(some (.E 24)), .faddr 2 (.V 5), some ((.E 23), true)⟩, ⟨(some (.E 25)), .faddr 0 (.E 24), some ((.E 23), true)⟩, ⟨(some (.E 26)), .load false 1 (.E 25), some ((.E 23), true)⟩, ⟨(some (.E 27)), .faddr 4 (.V 3), some ((.E 23), true)⟩, ⟨(some (.E 28)), .load false 1 (.E 27), some ((.E 23), true)⟩, ⟨(some (.E 29)), .bin .geq (.E 26) (.E 28), some ((.E 23), true)⟩, oE 30 (.pick (.E 23) (.E 29) (kb false)), oE 31 (.mv (.E 30)), ⟨(some (.E 32)), .faddr 4 (.V 5), some ((.E 31), true)⟩, ⟨(some (.E 33)), .faddr 0 (.E 32), some ((.E 31), true)⟩, ⟨(some (.E 34)), .load false 1 (.E 33), some ((.E 31), true)⟩, ⟨(some (.E 35)), .faddr 4 (.V 3), some ((.E 31), true)⟩, ⟨(some (.E 36)), .load false 1 (.E 35), some ((.E 31), true)⟩, ⟨(some (.E 37)), .bin .geq (.E 34) (.E 36), some ((.E 31), true)⟩, oE 38 (.pick (.E 31) (.E 37) (kb false)), oE 39 (.mv (.E 38)), ⟨(some (.E 40)), .load true 8 (.V 3), some ((.E 39), true)⟩, ⟨(some (.E 41)), .faddr 0 (.V 5), some ((.E 39), true)⟩, ⟨(some (.E 42)), .load false 1 (.E 41), some ((.E 39), true)⟩, ⟨(some (.E 43)), .call k_spec_SignFor [([0, 0, 0, 0, 0, 0, 0, 1], (.E 40)), ([0], (.E 42))], some ((.E 39), true)⟩, ⟨(some (.E 44)), .mv (.V 7), some ((.E 39), true)⟩, ⟨(some (.E 45)), .mv (.V 8), some ((.E 39), true)⟩, ⟨(some (.E 46)), .call k_spec_Agrees [([0], (.E 43)), ([0], (.E 44)), ([0], (.E 45))], some ((.E 39), true)⟩, oE 47 (.pick (.E 39) (.E 46) (kb false)), oE 48 (.mv (.E 47)), ⟨(some (.E 49)), .load true 6 (.V 5), some ((.E 48), true)⟩, ⟨(some (.E 50)), .faddr 3 (.V 3), some ((.E 48), true)⟩, ⟨(some (.E 51)), .load false 1 (.E 50), some ((.E 48), true)⟩, ⟨(some (.E 52)), .call k_spec_Improves [([0, 0, 0, 0, 0, 0], (.E 49)), ([0], (.E 51))], some ((.E 48), true)⟩, oE 53 (.pick (.E 48) (.E 52) (kb false)), oV 6 (.mv (.E 53))]) .ret))

def k_spec_MayPart_rv : List RV := [.tmp [0] 6]

def k_impl_Better_vars : List Nat := [0, 1, 2, 3, 4, 7, 9, 8, 10, 12, 11, 6]

def k_impl_Better_ic : IC := .seq (.reg [oV 3 (.box (.V 0)), oV 4 (.box (.V 1)), oV 6 (.mv (kb false))]) (.seq (.reg [oE 14 (.load true 6 (.V 3)), oE 15 (.mv (.V 2)), oE 16 (.call k_impl_GainOf [([0, 0, 0, 0, 0, 0], (.E 14)), ([0], (.E 15))]), oE 13 (.mv (.E 16)), oE 17 (.ext 0 (.E 13)), oE 18 (.ext 1 (.E 13)), oV 7 (.alloc [(.v (.bool false)), (.v (.int .u64 0)), (.v (.int .u64 0)), iv 0]), oN (.store [0, 0, 0, 0] (.V 7) (.E 17)), oV 8 (.mv (.E 18))]) (.seq (.reg [oE 20 (.load true 6 (.V 4)), oE 21 (.mv (.V 2)), oE 22 (.call k_impl_GainOf [([0, 0, 0, 0, 0, 0], (.E 20)), ([0], (.E 21))]), oE 19 (.mv (.E 22)), oE 23 (.ext 0 (.E 19)), oE 24 (.ext 1 (.E 19)), oV 9 (.alloc [(.v (.bool false)), (.v (.int .u64 0)), (.v (.int .u64 0)), iv 0]), oN (.store [0, 0, 0, 0] (.V 9) (.E 23)), oV 10 (.mv (.E 24))]) (.seq (.reg [oE 26 (.load true 4 (.V 7)), oE 27 (.load true 4 (.V 9)), oE 28 (.call k_impl_CompareFrac [([0, 0, 0, 0], (.E 26)), ([0, 0, 0, 0], (.E 27))]), oE 25 (.mv (.E 28)), oE 29 (.ext 0 (.E 25)), oE 30 (.ext 1 (.E 25)), oV 11 (.mv (.E 29)), oV 12 (.mv (.E 30))]) (.seq (.reg [oE 31 (.mv (.V 8)), oE 32 (.mv (.E 31)), ⟨(some (.E 33)), .mv (.V 10), some ((.E 32), true)⟩, oE 34 (.pick (.E 32) (.E 33) (kb false)), oE 35 (.mv (.E 34)), ⟨(some (.E 36)), .mv (.V 12), some ((.E 35), true)⟩, oE 37 (.pick (.E 35) (.E 36) (kb false)), oE 38 (.mv (.E 37)), ⟨(some (.E 39)), .mv (.V 11), some ((.E 38), true)⟩, ⟨(some (.E 40)), .bin .gtr (.E 39) (ki 0), some ((.E 38), true)⟩, ⟨(some (.E 41)), .mv (.E 40), some ((.E 38), true)⟩, ⟨(some (.E 42)), .mv (.V 11), some ((.E 41), false)⟩, ⟨(some (.E 43)), .bin .eql (.E 42) (ki 0), some ((.E 41), false)⟩, ⟨(some (.E 44)), .mv (.E 43), some ((.E 41), false)⟩, ⟨(some (.E 45)), .load true 6 (.V 3), some ((.E 44), true)⟩, ⟨(some (.E 46)), .load true 6 (.V 4), some ((.E 44), true)⟩, ⟨(some (.E 47)), .call k_impl_CandLess [([0, 0, 0, 0, 0, 0], (.E 45)), ([0, 0, 0, 0, 0, 0], (.E 46))], some ((.E 44), true)⟩, ⟨(some (.E 48)), .pick (.E 44) (.E 47) (kb false), some ((.E 41), false)⟩, ⟨(some (.E 49)), .pick (.E 41) (kb true) (.E 48), some ((.E 38), true)⟩, oE 50 (.pick (.E 38) (.E 49) (kb false)), oV 6 (.mv (.E 50))]) .ret))))

def k_impl_Better_rv : List RV := [.tmp [0] 6]

def k_spec_GainOf_vars : List Nat := [0, 1, 2, 7, 9, 4, 6, 8, 5]

def k_spec_GainOf_ic : IC := .seq (.reg [oV 2 (.box (.V 0)), oV 4 (.alloc [(.v (.bool false)), (.v (.int .u64 0)), (.v (.int .u64 0)), iv 0]), oV 5 (.mv (kb false))]) (.seq (.reg [oE 11 (.faddr 2 (.V 2)), oE 12 (.load true 2 (.E 11)), oE 13 (.mv (.V 1)), oE 14 (.call k_spec_PlainGain [([0, 0], (.E 12)), ([0], (.E 13))]), oE 10 (.mv (.E 14)), oE 15 (.ext 0 (.E 10)), oE 16 (.ext 1 (.E 10)), oV 6 (.alloc [(.v (.bool false)), (.v (.int .u64 0)), (.v (.int .u64 0)), iv 0]), oN (.store [0, 0, 0, 0] (.V 6) (.E 15)), oV 7 (.mv (.E 16))]) (.seq (.reg [oE 18 (.faddr 4 (.V 2)), oE 19 (.load true 2 (.E 18)), oE 20 (.mv (.V 1)), oE 21 (.call k_spec_PlainGain [([0, 0], (.E 19)), ([0], (.E 20))]), oE 17 (.mv (.E 21)), oE 22 (.ext 0 (.E 17)), oE 23 (.ext 1 (.E 17)), oV 8 (.alloc [(.v (.bool false)), (.v (.int .u64 0)), (.v (.int .u64 0)), iv 0]), oN (.store [0, 0, 0, 0] (.V 8) (.E 22)), oV 9 (.mv (.E 23))]) (.seq (.seq (.reg [oE 24 (.mv (.V 7)), oE 25 (.un .not (.E 24)), oE 26 (.mv (.E 25)), ⟨(some (.E 27)), .mv (.V 9), some ((.E 26), false)⟩, ⟨(some (.E 28)), .un .not (.E 27), some ((.E 26), false)⟩, oE 29 (.pick (.E 26) (kb true) (.E 28))]) (.cond (.E 29) (.seq (.reg [oE 30 (.build [(.v (.bool false)), (.v (.int .u64 0)), (.v (.int .u64 0)), iv 0] []), oN (.store [0, 0, 0, 0] (.V 4) (.E 30)), oV 5 (.mv (kb false))]) .ret) .skip)) (.seq (.reg [oE 31 (.load true 4 (.V 6)), oE 32 (.load true 4 (.V 8)), oE 33 (.call k_spec_AddFrac [([0, 0, 0, 0], (.E 31)), ([0, 0, 0, 0], (.E 32))]), oE 34 (.ext 0 (.E 33)), oE 35 (.ext 1 (.E 33)), oN (.store [0, 0, 0, 0] (.V 4) (.E 34)), oV 5 (.mv (.E 35))]) .ret))))

def k_spec_GainOf_rv : List RV := [.cell [0, 0, 0, 0] 4 true, .tmp [0] 5]

def k_spec_CompareFrac_vars : List Nat := [0, 1, 2, 3, 8, 6, 7, 4, 5]

def k_spec_CompareFrac_ic : IC := .seq (.reg [oV 2 (.box (.V 0)), oV 3 (.box (.V 1)), oV 4 (.mv (ki 0)), oV 5 (.mv (kb false))]) (.seq (.reg [oE 10 (.load true 4 (.V 2)), oE 11 (.load true 4 (.V 3)), oE 12 (.call k_spec_l5Cross [([0, 0, 0, 0], (.E 10)), ([0, 0, 0, 0], (.E 11))]), oE 9 (.mv (.E 12)), oE 13 (.ext 0 (.E 9)), oE 14 (.ext 1 (.E 9)), oE 15 (.ext 2 (.E 9)), oV 6 (.alloc [(.v (.bool false)), (.v (.int .u64 0)), (.v (.int .u64 0))]), oV 7 (.alloc [(.v (.bool false)), (.v (.int .u64 0)), (.v (.int .u64 0))]), oN (.store [0, 0, 0] (.V 6) (.E 13)), oN (.store [0, 0, 0] (.V 7) (.E 14)), oV 8 (.mv (.E 15))]) (.seq (.seq (.reg [oE 16 (.mv (.V 8)), oE 17 (.un .not (.E 16))]) (.cond (.E 17) (.seq (.reg [oV 4 (.mv (ki 0)), oV 5 (.mv (kb false))]) .ret) .skip)) (.seq (.reg [oE 18 (.load true 3 (.V 6)), oE 19 (.load true 3 (.V 7)), oE 20 (.call k_spec_CompareWide [([0, 0, 0], (.E 18)), ([0, 0, 0], (.E 19))]), oV 4 (.mv (.E 20)), oV 5 (.mv (kb true))]) .ret)))

def k_spec_CompareFrac_rv : List RV := [.tmp [0] 4, .tmp [0] 5]

def k_laws_szConfig_vars : List Nat := [0, 1, 2, 4]

def k_laws_szConfig_ic : IC := .seq (.reg [oV 2 (.box (.V 0)), oV 4 (.mv (ki 0))]) (.seq (.reg [oE 5 (.faddr 7 (.V 2)), oE 6 (.load false 1 (.E 5)), oE 7 (.mv (.V 1)), oE 8 (.call k_laws_szIntS [([1], (.E 6)), ([0], (.E 7))]), oV 1 (.mv (.E 8))]) (.seq (.seq (.reg [oE 9 (.mv (.V 1)), oE 10 (.bin .lss (.E 9) (ki 0))]) (.cond (.E 10) (.seq (.reg [oV 4 (.mv (ki (-1)))]) .ret) .skip)) (.seq (.reg [oE 11 (.mv (.V 1)), oV 4 (.mv (.E 11))]) .ret)))

def k_laws_szConfig_rv : List RV := [.tmp [0] 4]

def k_laws_toConfig_vars : List Nat := [0, 1, 3, 2]

def k_laws_toConfig_ic : IC := .seq (.reg [oV 1 (.box (.V 0)), oV 2 (.alloc [iv 0, iv 0, iv 0, iv 0, iv 0, iv 0, iv 0, .e0])]) (.seq (.reg [oV 3 (.alloc [iv 0, iv 0, iv 0, iv 0, iv 0, iv 0, iv 0, .e0])]) (.seq (.reg [oE 4 (.faddr 0 (.V 1)), oE 5 (.load false 1 (.E 4)), oE 6 (.faddr 0 (.V 3)), oN (.store [0] (.E 6) (.E 5))]) (.seq (.reg [oE 7 (.faddr 1 (.V 1)), oE 8 (.load false 1 (.E 7)), oE 9 (.faddr 1 (.V 3)), oN (.store [0] (.E 9) (.E 8))]) (.seq (.reg [oE 10 (.faddr 2 (.V 1)), oE 11 (.load false 1 (.E 10)), oE 12 (.faddr 2 (.V 3)), oN (.store [0] (.E 12) (.E 11))]) (.seq (.reg [oE 13 (.faddr 3 (.V 1)), oE 14 (.load false 1 (.E 13)), oE 15 (.faddr 3 (.V 3)), oN (.store [0] (.E 15) (.E 14))]) (.seq (.reg [oE 16 (.faddr 4 (.V 1)), oE 17 (.load false 1 (.E 16)), oE 18 (.faddr 4 (.V 3)), oN (.store [0] (.E 18) (.E 17))]) (.seq (.reg [oE 19 (.faddr 5 (.V 1)), oE 20 (.load false 1 (.E 19)), oE 21 (.faddr 5 (.V 3)), oN (.store [0] (.E 21) (.E 20))]) (.seq (.reg [oE 22 (.faddr 6 (.V 1)), oE 23 (.load false 1 (.E 22)), oE 24 (.faddr 6 (.V 3)), oN (.store [0] (.E 24) (.E 23))]) (.seq (.reg [oE 25 (.faddr 7 (.V 1)), oE 26 (.load false 1 (.E 25)), oE 27 (.call k_laws_toIntS [([1], (.E 26))]), oE 28 (.faddr 7 (.V 3)), oN (.store [1] (.E 28) (.E 27))]) (.seq (.reg [oE 29 (.load true 8 (.V 3)), oN (.store [0, 0, 0, 0, 0, 0, 0, 1] (.V 2) (.E 29))]) .ret))))))))))

def k_laws_toConfig_rv : List RV := [.cell [0, 0, 0, 0, 0, 0, 0, 1] 2 true]

def k_laws_eqConfig_vars : List Nat := [0, 1, 2, 3, 4]

def k_laws_eqConfig_ic : IC := .seq (.reg [oV 2 (.box (.V 0)), oV 3 (.box (.V 1)), oV 4 (.mv (kb false))]) (.seq (.seq (.reg [oE 5 (.faddr 0 (.V 2)), oE 6 (.load false 1 (.E 5)), oE 7 (.faddr 0 (.V 3)), oE 8 (.load false 1 (.E 7)), oE 9 (.bin .neq (.E 6) (.E 8))]) (.cond (.E 9) (.seq (.reg [oV 4 (.mv (kb false))]) .ret) .skip)) (.seq (.seq (.reg [oE 10 (.faddr 1 (.V 2)), oE 11 (.load false 1 (.E 10)), oE 12 (.faddr 1 (.V 3)), oE 13 (.load false 1 (.E 12)), oE 14 (.bin .neq (.E 11) (.E 13))]) (.cond (.E 14) (.seq (.reg [oV 4 (.mv (kb false))]) .ret) .skip)) (.seq (.seq (.reg [oE 15 (.faddr 2 (.V 2)), oE 16 (.load false 1 (.E 15)), oE 17 (.faddr 2 (.V 3)), oE 18 (.load false 1 (.E 17)), oE 19 (.bin .neq (.E 16) (.E 18))]) (.cond (.E 19) (.seq (.reg [oV 4 (.mv (kb false))]) .ret) .skip)) (.seq (.seq (.reg [oE 20 (.faddr 3 (.V 2)), oE 21 (.load false 1 (.E 20)), oE 22 (.faddr 3 (.V 3)), oE 23 (.load false 1 (.E 22)), oE 24 (.bin .neq (.E 21) (.E 23))]) (.cond (.E 24) (.seq (.reg [oV 4 (.mv (kb false))]) .ret) .skip)) (.seq (.seq (.reg [oE 25 (.faddr 4 (.V 2)), oE 26 (.load false 1 (.E 25)), oE 27 (.faddr 4 (.V 3)), oE 28 (.load false 1 (.E 27)), oE 29 (.bin .neq (.E 26) (.E 28))]) (.cond (.E 29) (.seq (.reg [oV 4 (.mv (kb false))]) .ret) .skip)) (.seq (.seq (.reg [oE 30 (.faddr 5 (.V 2)), oE 31 (.load false 1 (.E 30)), oE 32 (.faddr 5 (.V 3)), oE 33 (.load false 1 (.E 32)), oE 34 (.bin .neq (.E 31) (.E 33))]) (.cond (.E 34) (.seq (.reg [oV 4 (.mv (kb false))]) .ret) .skip)) (.seq (.seq (.reg [oE 35 (.faddr 6 (.V 2)), oE 36 (.load false 1 (.E 35)), oE 37 (.faddr 6 (.V 3)), oE 38 (.load false 1 (.E 37)), oE 39 (.bin .neq (.E 36) (.E 38))]) (.cond (.E 39) (.seq (.reg [oV 4 (.mv (kb false))]) .ret) .skip)) (.seq (.seq (.reg [oE 40 (.faddr 7 (.V 2)), oE 41 (.load false 1 (.E 40)), oE 42 (.faddr 7 (.V 3)), oE 43 (.load false 1 (.E 42)), oE 44 (.call k_laws_eqIntS [([1], (.E 41)), ([1], (.E 43))]), oE 45 (.un .not (.E 44))]) (.cond (.E 45) (.seq (.reg [oV 4 (.mv (kb false))]) .ret) .skip)) (.seq (.reg [oV 4 (.mv (kb true))]) .ret)))))))))

def k_laws_eqConfig_rv : List RV := [.tmp [0] 4]

def k_laws_markConfig_vars : List Nat := [0, 1, 2, 4]

def k_laws_markConfig_ic : IC := .seq (.reg [oV 2 (.box (.V 0)), oV 4 (.mv (ki 0))]) (.seq (.reg [oE 5 (.faddr 7 (.V 2)), oE 6 (.load false 1 (.E 5)), oE 7 (.mv (.V 1)), oE 8 (.call k_laws_markIntS [([1], (.E 6)), ([0], (.E 7))]), oV 1 (.mv (.E 8))]) (.seq (.reg [oE 9 (.mv (.V 1)), oV 4 (.mv (.E 9))]) .ret))

def k_laws_markConfig_rv : List RV := [.tmp [0] 4]

def k_laws_szGrid_vars : List Nat := [0, 1, 2, 4]

def k_laws_szGrid_ic : IC := .seq (.reg [oV 2 (.box (.V 0)), oV 4 (.mv (ki 0))]) (.seq (.reg [oE 5 (.faddr 0 (.V 2)), oE 6 (.load false 1 (.E 5)), oE 7 (.mv (.V 1)), oE 8 (.call k_laws_szIntSS [([1], (.E 6)), ([0], (.E 7))]), oV 1 (.mv (.E 8))]) (.seq (.seq (.reg [oE 9 (.mv (.V 1)), oE 10 (.bin .lss (.E 9) (ki 0))]) (.cond (.E 10) (.seq (.reg [oV 4 (.mv (ki (-1)))]) .ret) .skip)) (.seq (.reg [oE 11 (.faddr 1 (.V 2)), oE 12 (.load false 1 (.E 11)), oE 13 (.mv (.V 1)), oE 14 (.call k_laws_szIntSS [([1], (.E 12)), ([0], (.E 13))]), oV 1 (.mv (.E 14))]) (.seq (.seq (.reg [oE 15 (.mv (.V 1)), oE 16 (.bin .lss (.E 15) (ki 0))]) (.cond (.E 16) (.seq (.reg [oV 4 (.mv (ki (-1)))]) .ret) .skip)) (.seq (.reg [oE 17 (.mv (.V 1)), oV 4 (.mv (.E 17))]) .ret)))))

def k_laws_szGrid_rv : List RV := [.tmp [0] 4]

def k_laws_toGrid_vars : List Nat := [0, 1, 3, 2]

def k_laws_toGrid_ic : IC := .seq (.reg [oV 1 (.box (.V 0)), oV 2 (.alloc [.e0, .e0])]) (.seq (.reg [oV 3 (.alloc [.e0, .e0])]) (.seq (.reg [oE 4 (.faddr 0 (.V 1)), oE 5 (.load false 1 (.E 4)), oE 6 (.call k_laws_toIntSS [([1], (.E 5))]), oE 7 (.faddr 0 (.V 3)), oN (.store [1] (.E 7) (.E 6))]) (.seq (.reg [oE 8 (.faddr 1 (.V 1)), oE 9 (.load false 1 (.E 8)), oE 10 (.call k_laws_toIntSS [([1], (.E 9))]), oE 11 (.faddr 1 (.V 3)), oN (.store [1] (.E 11) (.E 10))]) (.seq (.reg [oE 12 (.load true 2 (.V 3)), oN (.store [1, 1] (.V 2) (.E 12))]) .ret))))

def k_laws_toGrid_rv : List RV := [.cell [1, 1] 2 true]

def k_laws_toIntS_vars : List Nat := [0, 4, 3, 2]

def k_laws_toIntS_b0 : IC := .seq (.seq (.reg [oE 8 (.mv (.V 4)), oE 9 (.mv (.V 0)), oE 10 (.len (.E 9)), oE 11 (.bin .lss (.E 8) (.E 10))]) (.cond (.E 11) .skip (.exit 0))) (.seq (.block 1 (.reg [oE 14 (.mv (.V 3)), oE 15 (.mv (.V 4)), oE 16 (.mv (.V 0)), oE 17 (.mv (.V 4)), oE 18 (.iaddr 1 (.E 16) (.E 17)), oE 19 (.load false 1 (.E 18)), oE 20 (.iaddr 1 (.E 14) (.E 15)), oN (.store [0] (.E 20) (.E 19))])) (.reg [oE 12 (.mv (.V 4)), oE 13 (.bin .add (.E 12) (ki 1)), oV 4 (.mv (.E 13))]))

def k_laws_toIntS_ic : IC := .seq (.reg [oV 2 (.mv (.C .e0))]) (.seq (.reg [oE 5 (.mv (.V 0)), oE 6 (.len (.E 5)), oE 7 (.mksl 8 1 [iv 0] (.E 6) (.E 6)), oV 3 (.mv (.E 7))]) (.seq (.seq (.reg [oV 4 (.mv (ki 0))]) (.block 0 (.loop k_laws_toIntS_b0))) (.seq (.reg [oE 21 (.mv (.V 3)), oV 2 (.mv (.E 21))]) .ret)))

def k_laws_toIntS_rv : List RV := [.tmp [1] 2]

def k_laws_eqGrid_vars : List Nat := [0, 1, 2, 3, 4]

def k_laws_eqGrid_ic : IC := .seq (.reg [oV 2 (.box (.V 0)), oV 3 (.box (.V 1)), oV 4 (.mv (kb false))]) (.seq (.seq (.reg [oE 5 (.faddr 0 (.V 2)), oE 6 (.load false 1 (.E 5)), oE 7 (.faddr 0 (.V 3)), oE 8 (.load false 1 (.E 7)), oE 9 (.call k_laws_eqIntSS [([1], (.E 6)), ([1], (.E 8))]), oE 10 (.un .not (.E 9))]) (.cond (.E 10) (.seq (.reg [oV 4 (.mv (kb false))]) .ret) .skip)) (.seq (.seq (.reg [oE 11 (.faddr 1 (.V 2)), oE 12 (.load false 1 (.E 11)), oE 13 (.faddr 1 (.V 3)), oE 14 (.load false 1 (.E 13)), oE 15 (.call k_laws_eqIntSS [([1], (.E 12)), ([1], (.E 14))]), oE 16 (.un .not (.E 15))]) (.cond (.E 16) (.seq (.reg [oV 4 (.mv (kb false))]) .ret) .skip)) (.seq (.reg [oV 4 (.mv (kb true))]) .ret)))

def k_laws_eqGrid_rv : List RV := [.tmp [0] 4]

def k_laws_eqIntS_vars : List Nat := [0, 1, 5, 4]

def k_laws_eqIntS_b0 : IC := .seq (.seq (.reg [oE 11 (.mv (.V 5)), oE 12 (.mv (.V 0)), oE 13 (.len (.E 12)), oE 14 (.bin .lss (.E 11) (.E 13))]) (.cond (.E 14) .skip (.exit 0))) (.seq (.block 1 (.seq (.regD [(oE 17 (.mv (.V 0)), 0, 0), (oE 18 (.mv (.V 5)), 0, 0), (oE 19 (.iaddr 1 (.E 17) (.E 18)), 0, 0), (oE 20 (.load false 1 (.E 19)), 0, 0), (oE 21 (.mv (.V 1)), 0, 0), (oE 22 (.mv (.V 5)), 0, 0), (oE 23 (.iaddr 1 (.E 21) (.E 22)), 0, 0), (oE 24 (.load false 1 (.E 23)), 0, 0), (oE 25 (.bin .neq (.E 20) (.E 24)), 0, 0)]) (.cond (.E 25) (.seq (.reg [oV 4 (.mv (kb false))]) .ret) .skip))) (.reg [oE 15 (.mv (.V 5)), oE 16 (.bin .add (.E 15) (ki 1)), oV 5 (.mv (.E 16))]))

def k_laws_eqIntS_ic : IC := .seq (.reg [oV 4 (.mv (kb false))]) (.seq (.seq (.reg [oE 6 (.mv (.V 0)), oE 7 (.len (.E 6)), oE 8 (.mv (.V 1)), oE 9 (.len (.E 8)), oE 10 (.bin .neq (.E 7) (.E 9))]) (.cond (.E 10) (.seq (.reg [oV 4 (.mv (kb false))]) .ret) .skip)) (.seq (.seq (.reg [oV 5 (.mv (ki 0))]) (.block 0 (.loop k_laws_eqIntS_b0))) (.seq (.reg [oV 4 (.mv (kb true))]) .ret)))

def k_laws_eqIntS_rv : List RV := [.tmp [0] 4]

def k_laws_markGrid_vars : List Nat := [0, 1, 2, 4]

def k_laws_markGrid_ic : IC := .seq (.reg [oV 2 (.box (.V 0)), oV 4 (.mv (ki 0))]) (.seq (.reg [oE 5 (.faddr 0 (.V 2)), oE 6 (.load false 1 (.E 5)), oE 7 (.mv (.V 1)), oE 8 (.call k_laws_markIntSS [([1], (.E 6)), ([0], (.E 7))]), oV 1 (.mv (.E 8))]) (.seq (.reg [oE 9 (.faddr 1 (.V 2)), oE 10 (.load false 1 (.E 9)), oE 11 (.mv (.V 1)), oE 12 (.call k_laws_markIntSS [([1], (.E 10)), ([0], (.E 11))]), oV 1 (.mv (.E 12))]) (.seq (.reg [oE 13 (.mv (.V 1)), oV 4 (.mv (.E 13))]) .ret)))

def k_laws_markGrid_rv : List RV := [.tmp [0] 4]

def k_laws_markIntS_vars : List Nat := [0, 1, 5, 4]

def k_laws_markIntS_b0 : IC := .seq (.seq (.reg [oE 6 (.mv (.V 5)), oE 7 (.mv (.V 0)), oE 8 (.len (.E 7)), oE 9 (.bin .lss (.E 6) (.E 8))]) (.cond (.E 9) .skip (.exit 0))) (.seq (.block 1 (.seq (.reg [oE 12 (.mv (.V 0)), oE 13 (.mv (.V 5)), oE 14 (.mv (.V 1)), oE 15 (.iaddr 1 (.E 12) (.E 13)), oN (.store [0] (.E 15) (.E 14))]) (.reg [oE 16 (.mv (.V 1)), oE 17 (.bin .add (.E 16) (ki 1)), oV 1 (.mv (.E 17))]))) (.reg [oE 10 (.mv (.V 5)), oE 11 (.bin .add (.E 10) (ki 1)), oV 5 (.mv (.E 11))]))

def k_laws_markIntS_ic : IC := .seq (.reg [oV 4 (.mv (ki 0))]) (.seq (.seq (.reg [oV 5 (.mv (ki 0))]) (.block 0 (.loop k_laws_markIntS_b0))) (.seq (.reg [oE 18 (.mv (.V 1)), oV 4 (.mv (.E 18))]) .ret))

def k_laws_markIntS_rv : List RV := [.tmp [0] 4]

def k_spec_PartOf_vars : List Nat := [0, 1, 2, 3, 4, 5, 7, 10, 13, 9, 12, 11]

def k_spec_PartOf_ic : IC := .seq (.reg [oV 5 (.box (.V 0)), oV 7 (.box (.V 2)), oV 9 (.box (.V 4)), oV 10 (.alloc [iv 0, iv 0, iv 0, iv 0, iv 0, iv 0]), oV 11 (.mv (kb false))]) (.seq (.seq (.reg [oE 14 (.load true 2 (.V 5)), oE 15 (.mv (.V 1)), oE 16 (.load true 8 (.V 7)), oE 17 (.call k_spec_TaskOk [([1, 1], (.E 14)), ([1], (.E 15)), ([0, 0, 0, 0, 0, 0, 0, 1], (.E 16))]), oE 18 (.un .not (.E 17))]) (.cond (.E 18) (.seq (.reg [oE 19 (.build [iv 0, iv 0, iv 0, iv 0, iv 0, iv 0] []), oN (.store [0, 0, 0, 0, 0, 0] (.V 10) (.E 19)), oV 11 (.mv (kb false))]) .ret) .skip)) (.seq (.reg [oE 21 (.load true 2 (.V 5)), oE 22 (.mv (.V 1)), oE 23 (.mv (.V 3)), oE 24 (.call k_spec_NodeHists [([1, 1], (.E 21)), ([1], (.E 22)), ([1], (.E 23))]), oE 20 (.mv (.E 24)), oE 25 (.ext 0 (.E 20)), oE 26 (.ext 1 (.E 20)), oV 12 (.mv (.E 25)), oV 13 (.mv (.E 26))]) (.seq (.seq (.reg [oE 27 (.mv (.V 13)), oE 28 (.un .not (.E 27))]) (.cond (.E 28) (.seq (.reg [oE 29 (.build [iv 0, iv 0, iv 0, iv 0, iv 0, iv 0] []), oN (.store [0, 0, 0, 0, 0, 0] (.V 10) (.E 29)), oV 11 (.mv (kb false))]) .ret) .skip)) (.seq (.regD [(oE 30 (.load true 8 (.V 7)), 0, 1), (oE 31 (.load true 2 (.V 9)), 0, 1), (oE 32 (.mv (.V 12)), 0, 0), (oE 33 (.faddr 4 (.V 7)), 0, 0), (oE 34 (.load false 1 (.E 33)), 0, 0), (oE 35 (.call k_spec_CandsOf [([1], (.E 32)), ([0], (.E 34))]), 0, 0), (oE 36 (.call k_spec_BestOf [([0, 0, 0, 0, 0, 0, 0, 1], (.E 30)), ([0, 0], (.E 31)), ([6], (.E 35))]), 0, 0), (oE 37 (.ext 0 (.E 36)), 0, 0), (oE 38 (.ext 1 (.E 36)), 0, 0), (oN (.store [0, 0, 0, 0, 0, 0] (.V 10) (.E 37)), 0, 0), (oV 11 (.mv (.E 38)), 0, 0)]) .ret))))

def k_spec_PartOf_rv : List RV := [.cell [0, 0, 0, 0, 0, 0] 10 true, .tmp [0] 11]

def k_impl_PartOf_vars : List Nat := [0, 1, 2, 3, 4, 5, 7, 10, 13, 9, 12, 11]

def k_impl_PartOf_ic : IC := .seq (.reg [oV 5 (.box (.V 0)), oV 7 (.box (.V 2)), oV 9 (.box (.V 4)), oV 10 (.alloc [iv 0, iv 0, iv 0, iv 0, iv 0, iv 0]), oV 11 (.mv (kb false))]) (.seq (.seq (.reg [oE 14 (.load true 2 (.V 5)), oE 15 (.mv (.V 1)), oE 16 (.load true 8 (.V 7)), oE 17 (.call k_impl_TaskOk [([1, 1], (.E 14)), ([1], (.E 15)), ([0, 0, 0, 0, 0, 0, 0, 1], (.E 16))]), oE 18 (.un .not (.E 17))]) (.cond (.E 18) (.seq (.reg [oE 19 (.build [iv 0, iv 0, iv 0, iv 0, iv 0, iv 0] []), oN (.store [0, 0, 0, 0, 0, 0] (.V 10) (.E 19)), oV 11 (.mv (kb false))]) .ret) .skip)) (.seq (.reg [oE 21 (.load true 2 (.V 5)), oE 22 (.mv (.V 1)), oE 23 (.mv (.V 3)), oE 24 (.call k_impl_NodeHists [([1, 1], (.E 21)), ([1], (.E 22)), ([1], (.E 23))]), oE 20 (.mv (.E 24)), oE 25 (.ext 0 (.E 20)), oE 26 (.ext 1 (.E 20)), oV 12 (.mv (.E 25)), oV 13 (.mv (.E 26))]) (.seq (.seq (.reg [oE 27 (.mv (.V 13)), oE 28 (.un .not (.E 27))]) (.cond (.E 28) (.seq (.reg [oE 29 (.build [iv 0, iv 0, iv 0, iv 0, iv 0, iv 0] []), oN (.store [0, 0, 0, 0, 0, 0] (.V 10) (.E 29)), oV 11 (.mv (kb false))]) .ret) .skip)) (.seq (.regD [(oE 30 (.load true 8 (.V 7)), 0, 1), (oE 31 (.load true 2 (.V 9)), 0, 1), (oE 32 (.mv (.V 12)), 0, 0), (oE 33 (.faddr 4 (.V 7)), 0, 0), (oE 34 (.load false 1 (.E 33)), 0, 0), (oE 35 (.call k_impl_CandsOf [([1], (.E 32)), ([0], (.E 34))]), 0, 0), (oE 36 (.call k_impl_BestOf [([0, 0, 0, 0, 0, 0, 0, 1], (.E 30)), ([0, 0], (.E 31)), ([6], (.E 35))]), 0, 0), (oE 37 (.ext 0 (.E 36)), 0, 0), (oE 38 (.ext 1 (.E 36)), 0, 0), (oN (.store [0, 0, 0, 0, 0, 0] (.V 10) (.E 37)), 0, 0), (oV 11 (.mv (.E 38)), 0, 0)]) .ret))))

def k_impl_PartOf_rv : List RV := [.cell [0, 0, 0, 0, 0, 0] 10 true, .tmp [0] 11]

def k_spec_SplitRows_vars : List Nat := [0, 1, 2, 10, 8, 9, 6, 7]

def k_spec_SplitRows_b0 : IC := .seq (.seq (.reg [oE 13 (.mv (.V 10)), oE 14 (.mv (.V 1)), oE 15 (.len (.E 14)), oE 16 (.bin .lss (.E 13) (.E 15))]) (.cond (.E 16) .skip (.exit 0))) (.seq (.block 1 (.block 2 (.seq (.reg [oE 27 (.mv (.V 1)), oE 28 (.mv (.V 10)), oE 29 (.iaddr 1 (.E 27) (.E 28)), oE 30 (.load false 1 (.E 29)), oE 31 (.mv (.V 0)), oE 32 (.len (.E 31)), oE 33 (.bin .sub (.E 32) (ki 1)), oE 34 (.call k_spec_l1In [([0], (.E 30)), ([0], (ki 0)), ([0], (.E 33))]), oE 35 (.un .not (.E 34)), oE 26 (.mv (.E 35))]) (.cond (.E 26) .skip (.seq (.reg [oE 37 (.mv (.V 0)), oE 38 (.mv (.V 1)), oE 39 (.mv (.V 10)), oE 40 (.iaddr 1 (.E 38) (.E 39)), oE 41 (.load false 1 (.E 40)), oE 42 (.iaddr 1 (.E 37) (.E 41)), oE 43 (.load false 1 (.E 42)), oE 44 (.mv (.V 2)), oE 45 (.bin .leq (.E 43) (.E 44)), oE 36 (.mv (.E 45))]) (.cond (.E 36) (.reg [oE 46 (.mv (.V 8)), oE 47 (.mv (.V 1)), oE 48 (.mv (.V 10)), oE 49 (.iaddr 1 (.E 47) (.E 48)), oE 50 (.load false 1 (.E 49)), oE 51 (.bslice 1 1 [iv 0] [(0, (.E 50))]), oE 52 (.app 8 1 (.E 46) (.E 51)), oV 8 (.mv (.E 52))]) (.reg [oE 19 (.mv (.V 9)), oE 20 (.mv (.V 1)), oE 21 (.mv (.V 10)), oE 22 (.iaddr 1 (.E 20) (.E 21)), oE 23 (.load false 1 (.E 22)), oE 24 (.bslice 1 1 [iv 0] [(0, (.E 23))]), oE 25 (.app 8 1 (.E 19) (.E 24)), oV 9 (.mv (.E 25))]))))))) (.reg [oE 17 (.mv (.V 10)), oE 18 (.bin .add (.E 17) (ki 1)), oV 10 (.mv (.E 18))]))

def k_spec_SplitRows_ic : IC := .seq (.reg [oV 6 (.mv (.C .e0)), oV 7 (.mv (.C .e0))]) (.seq (.reg [oE 11 (.bslice 0 1 [iv 0] []), oV 8 (.mv (.E 11))]) (.seq (.reg [oE 12 (.bslice 0 1 [iv 0] []), oV 9 (.mv (.E 12))]) (.seq (.seq (.reg [oV 10 (.mv (ki 0))]) (.block 0 (.loop k_spec_SplitRows_b0))) (.seq (.reg [oE 53 (.mv (.V 8)), oE 54 (.mv (.V 9)), oV 6 (.mv (.E 53)), oV 7 (.mv (.E 54))]) .ret))))

def k_spec_SplitRows_rv : List RV := [.tmp [1] 6, .tmp [1] 7]

def k_spec_GrowTree_vars : List Nat := [0, 1, 2, 3, 5, 8, 6, 10, 9, 11, 13, 14, 12, 18, 19, 16, 21, 17, 22, 7]

def k_spec_GrowTree_b0 : IC := .seq (.seq (.reg [oE 36 (.mv (.V 10)), oE 37 (.mv (.V 9)), oE 38 (.len (.E 37)), oE 39 (.bin .lss (.E 36) (.E 38))]) (.cond (.E 39) .skip (.exit 0))) (.seq (.block 1 (.seq (.reg [oE 42 (.mv (.V 9)), oE 43 (.mv (.V 10)), oE 44 (.iaddr 4 (.E 42) (.E 43)), oE 45 (.load true 4 (.E 44)), oV 11 (.alloc [.e0, iv 0, iv 0, iv 0]), oN (.store [1, 0, 0, 0] (.V 11) (.E 45))]) (.seq (.reg [oE 47 (.load true 2 (.V 3)), oE 48 (.mv (.V 1)), oE 49 (.load true 8 (.V 5)), oE 50 (.faddr 0 (.V 11)), oE 51 (.load false 1 (.E 50)), oE 52 (.faddr 1 (.V 11)), oE 53 (.load true 2 (.E 52)), oE 54 (.call k_spec_PartOf [([1, 1], (.E 47)), ([1], (.E 48)), ([0, 0, 0, 0, 0, 0, 0, 1], (.E 49)), ([1], (.E 51)), ([0, 0], (.E 53))]), oE 46 (.mv (.E 54)), oE 55 (.ext 0 (.E 46)), oE 56 (.ext 1 (.E 46)), oV 12 (.alloc [iv 0, iv 0, iv 0, iv 0, iv 0, iv 0]), oN (.store [0, 0, 0, 0, 0, 0] (.V 12) (.E 55)), oV 13 (.mv (.E 56))]) (.seq (.seq (.reg [oE 57 (.faddr 3 (.V 11)), oE 58 (.load false 1 (.E 57)), oE 59 (.faddr 1 (.V 5)), oE 60 (.load false 1 (.E 59)), oE 61 (.bin .geq (.E 58) (.E 60)), oE 62 (.mv (.E 61)), ⟨(some (.E 63)), .mv (.V 13), some ((.E 62), false)⟩, ⟨(some (.E 64)), .un .not (.E 63), some ((.E 62), false)⟩, oE 65 (.pick (.E 62) (kb true) (.E 64))]) (.cond (.E 65) (.seq (.regD [(oE 67 (.mv (.V 1)), 0, 0), (oE 68 (.faddr 0 (.V 11)), 0, 0), (oE 69 (.load false 1 (.E 68)), 0, 0), (oE 70 (.call k_spec_l19Sum [([1], (.E 67)), ([1], (.E 69))]), 0, 0), (oE 71 (.faddr 3 (.V 5)), 1, 0), (oE 72 (.load false 1 (.E 71)), 1, 0), (oE 73 (.faddr 1 (.V 11)), 1, 0), (oE 74 (.load true 2 (.E 73)), 1, 0), (oE 75 (.call k_spec_LeafOf [([0, 0], (.E 70)), ([0], (.E 72)), ([0, 0], (.E 74))]), 0, 0), (oE 66 (.mv (.E 75)), 0, 0), (oE 76 (.ext 0 (.E 66)), 0, 0), (oE 77 (.ext 1 (.E 66)), 0, 0), (oV 14 (.mv (.E 76)), 0, 0), (oE 15 (.mv (.E 77)), 0, 0)]) (.seq (.reg [oE 78 (.faddr 0 (.V 8)), oE 79 (.load false 1 (.E 78)), oE 80 (.mv (.V 14)), oE 81 (.build [iv 0, iv 0, iv 0, iv 0, iv 0] [(0, 1, (ki (-1))), (4, 1, (.E 80))]), oE 82 (.bslice 1 5 [iv 0, iv 0, iv 0, iv 0, iv 0] [(0, (.E 81))]), oE 83 (.app 40 5 (.E 79) (.E 82)), oE 84 (.faddr 0 (.V 8)), oN (.store [5] (.E 84) (.E 83))]) (.exit 1))) .skip)) (.seq (.regD [(oE 86 (.faddr 1 (.V 3)), 0, 0), (oE 87 (.load false 1 (.E 86)), 0, 0), (oE 88 (.faddr 0 (.V 12)), 0, 0), (oE 89 (.load false 1 (.E 88)), 0, 0), (oE 90 (.iaddr 1 (.E 87) (.E 89)), 0, 0), (oE 91 (.load false 1 (.E 90)), 0, 0), (oE 92 (.faddr 0 (.V 11)), 0, 0), (oE 93 (.load false 1 (.E 92)), 0, 0), (oE 94 (.faddr 1 (.V 12)), 0, 0), (oE 95 (.load false 1 (.E 94)), 0, 0), (oE 96 (.call k_spec_SplitRows [([1], (.E 91)), ([1], (.E 93)), ([0], (.E 95))]), 0, 0), (oE 85 (.mv (.E 96)), 0, 0), (oE 97 (.ext 0 (.E 85)), 0, 0), (oE 98 (.ext 1 (.E 85)), 0, 0), (oV 16 (.mv (.E 97)), 0, 0), (oV 17 (.mv (.E 98)), 0, 0)]) (.seq (.reg [oE 100 (.load true 8 (.V 5)), oE 101 (.faddr 1 (.V 11)), oE 102 (.load true 2 (.E 101)), oE 103 (.load true 6 (.V 12)), oE 104 (.call k_spec_SideValues [([0, 0, 0, 0, 0, 0, 0, 1], (.E 100)), ([0, 0], (.E 102)), ([0, 0, 0, 0, 0, 0], (.E 103))]), oE 99 (.mv (.E 104)), oE 105 (.ext 0 (.E 99)), oE 106 (.ext 1 (.E 99)), oE 107 (.ext 2 (.E 99)), oV 18 (.mv (.E 105)), oV 19 (.mv (.E 106)), oE 20 (.mv (.E 107))]) (.seq (.regD [(oE 109 (.load true 8 (.V 5)), 0, 0), (oE 110 (.faddr 0 (.V 12)), 0, 0), (oE 111 (.load false 1 (.E 110)), 0, 0), (oE 112 (.call k_spec_SignFor [([0, 0, 0, 0, 0, 0, 0, 1], (.E 109)), ([0], (.E 111))]), 0, 0), (oE 113 (.faddr 1 (.V 11)), 1, 0), (oE 114 (.load true 2 (.E 113)), 1, 0), (oE 115 (.mv (.V 18)), 0, 0), (oE 116 (.mv (.V 19)), 0, 0), (oE 117 (.call k_spec_SidesOf [([0], (.E 112)), ([0, 0], (.E 114)), ([0], (.E 115)), ([0], (.E 116))]), 0, 0), (oE 108 (.mv (.E 117)), 0, 0), (oE 118 (.ext 0 (.E 108)), 0, 0), (oE 119 (.ext 1 (.E 108)), 0, 0), (oV 21 (.allocL [iv 0, iv 0]), 0, 0), (oV 22 (.allocL [iv 0, iv 0]), 0, 0), (oN (.store [0, 0] (.V 21) (.E 118)), 0, 0), (oN (.store [0, 0] (.V 22) (.E 119)), 0, 0)]) (.seq (.regD [(oE 120 (.faddr 0 (.V 8)), 0, 1), (oE 121 (.load false 1 (.E 120)), 0, 1), (oE 122 (.faddr 0 (.V 12)), 0, 0), (oE 123 (.load false 1 (.E 122)), 0, 0), (oE 124 (.faddr 0 (.V 3)), 0, 0), (oE 125 (.load false 1 (.E 124)), 0, 0), (oE 126 (.faddr 0 (.V 12)), 0, 0), (oE 127 (.load false 1 (.E 126)), 0, 0), (oE 128 (.iaddr 1 (.E 125) (.E 127)), 0, 0), (oE 129 (.load false 1 (.E 128)), 0, 0), (oE 130 (.faddr 1 (.V 12)), 0, 0), (oE 131 (.load false 1 (.E 130)), 0, 0), (oE 132 (.iaddr 1 (.E 129) (.E 131)), 0, 0), (oE 133 (.load false 1 (.E 132)), 0, 0), (oE 134 (.mv (.V 9)), 0, 0), (oE 135 (.len (.E 134)), 0, 0), (oE 136 (.mv (.V 9)), 0, 0), (oE 137 (.len (.E 136)), 0, 0), (oE 138 (.bin .add (.E 137) (ki 1)), 0, 0), (oE 139 (.build [iv 0, iv 0, iv 0, iv 0, iv 0] [(0, 1, (.E 123)), (1, 1, (.E 133)), (2, 1, (.E 135)), (3, 1, (.E 138))]), 0, 0), (oE 140 (.bslice 1 5 [iv 0, iv 0, iv 0, iv 0, iv 0] [(0, (.E 139))]), 0, 0), (oE 141 (.app 40 5 (.E 121) (.E 140)), 0, 0), (oE 142 (.faddr 0 (.V 8)), 0, 0), (oN (.store [5] (.E 142) (.E 141)), 0, 0)]) (.reg [oE 143 (.mv (.V 9)), oE 144 (.mv (.V 16)), oE 145 (.load true 2 (.V 21)), oE 146 (.faddr 3 (.V 11)), oE 147 (.load false 1 (.E 146)), oE 148 (.bin .add (.E 147) (ki 1)), oE 149 (.build [.e0, iv 0, iv 0, iv 0] [(0, 1, (.E 144)), (1, 2, (.E 145)), (3, 1, (.E 148))]), oE 150 (.mv (.V 17)), oE 151 (.load true 2 (.V 22)), oE 152 (.faddr 3 (.V 11)), oE 153 (.load false 1 (.E 152)), oE 154 (.bin .add (.E 153) (ki 1)), oE 155 (.build [.e0, iv 0, iv 0, iv 0] [(0, 1, (.E 150)), (1, 2, (.E 151)), (3, 1, (.E 154))]), oE 156 (.bslice 2 4 [(.own 1 []), iv 0, iv 0, iv 0] [(0, (.E 149)), (1, (.E 155))]), oE 157 (.app 48 4 (.E 143) (.E 156)), oV 9 (.mv (.E 157))]))))))))) (.reg [oE 40 (.mv (.V 10)), oE 41 (.bin .add (.E 40) (ki 1)), oV 10 (.mv (.E 41))]))

def k_spec_GrowTree_ic : IC := .seq (.reg [oV 3 (.box (.V 0)), oV 5 (.box (.V 2)), oV 6 (.alloc [.e0]), oV 7 (.mv (kb false))]) (.seq (.reg [oE 23 (.build [.e0] []), oV 8 (.alloc [.e0]), oN (.store [5] (.V 8) (.E 23))]) (.seq (.seq (.reg [oE 24 (.load true 2 (.V 3)), oE 25 (.mv (.V 1)), oE 26 (.load true 8 (.V 5)), oE 27 (.call k_spec_TaskOk [([1, 1], (.E 24)), ([1], (.E 25)), ([0, 0, 0, 0, 0, 0, 0, 1], (.E 26))]), oE 28 (.un .not (.E 27))]) (.cond (.E 28) (.seq (.reg [oE 29 (.load true 1 (.V 8)), oN (.store [5] (.V 6) (.E 29)), oV 7 (.mv (kb false))]) .ret) .skip)) (.seq (.reg [oE 30 (.mv (.V 1)), oE 31 (.len (.E 30)), oE 32 (.call k_spec_AllRows [([0], (.E 31))]), oE 33 (.call k_spec_Free []), oE 34 (.build [.e0, iv 0, iv 0, iv 0] [(0, 1, (.E 32)), (1, 2, (.E 33))]), oE 35 (.bslice 1 4 [(.own 1 []), iv 0, iv 0, iv 0] [(0, (.E 34))]), oV 9 (.mv (.E 35))]) (.seq (.seq (.reg [oV 10 (.mv (ki 0))]) (.block 0 (.loop k_spec_GrowTree_b0))) (.seq (.reg [oE 158 (.load true 1 (.V 8)), oN (.store [5] (.V 6) (.E 158)), oV 7 (.mv (kb true))]) .ret)))))

def k_spec_GrowTree_rv : List RV := [.cell [5] 6 true, .tmp [0] 7]

def k_impl_GrowTree_vars : List Nat := [0, 1, 2, 3, 5, 6, 10, 8, 11, 12, 13, 9, 14, 16, 17, 21, 19, 22, 20, 7]

def k_impl_GrowTree_b0 : IC := .seq (.seq (.reg [oE 36 (.mv (.V 10)), oE 37 (.mv (.V 8)), oE 38 (.len (.E 37)), oE 39 (.bin .lss (.E 36) (.E 38))]) (.cond (.E 39) .skip (.exit 0))) (.seq (.block 1 (.seq (.reg [oE 42 (.mv (.V 8)), oE 43 (.mv (.V 10)), oE 44 (.iaddr 4 (.E 42) (.E 43)), oE 45 (.load true 4 (.E 44)), oV 11 (.alloc [.e0, iv 0, iv 0, iv 0]), oN (.store [1, 0, 0, 0] (.V 11) (.E 45))]) (.seq (.reg [oE 46 (.build [iv 0, iv 0, iv 0, iv 0, iv 0, iv 0] []), oV 12 (.alloc [iv 0, iv 0, iv 0, iv 0, iv 0, iv 0]), oN (.store [0, 0, 0, 0, 0, 0] (.V 12) (.E 46)), oV 13 (.mv (kb false))]) (.seq (.seq (.reg [oE 47 (.faddr 3 (.V 11)), oE 48 (.load false 1 (.E 47)), oE 49 (.faddr 1 (.V 5)), oE 50 (.load false 1 (.E 49)), oE 51 (.bin .lss (.E 48) (.E 50))]) (.cond (.E 51) (.reg [oE 53 (.load true 2 (.V 3)), oE 54 (.mv (.V 1)), oE 55 (.load true 8 (.V 5)), oE 56 (.faddr 0 (.V 11)), oE 57 (.load false 1 (.E 56)), oE 58 (.faddr 1 (.V 11)), oE 59 (.load true 2 (.E 58)), oE 60 (.call k_impl_PartOf [([1, 1], (.E 53)), ([1], (.E 54)), ([0, 0, 0, 0, 0, 0, 0, 1], (.E 55)), ([1], (.E 57)), ([0, 0], (.E 59))]), oE 52 (.mv (.E 60)), oE 61 (.ext 0 (.E 52)), oE 62 (.ext 1 (.E 52)), oN (.store [0, 0, 0, 0, 0, 0] (.V 12) (.E 61)), oV 13 (.mv (.E 62))]) .skip)) (.seq (.seq (.reg [oE 63 (.mv (.V 13)), oE 64 (.un .not (.E 63))]) (.cond (.E 64) (.seq (.regD [(oE 66 (.mv (.V 1)), 0, 0), (oE 67 (.faddr 0 (.V 11)), 0, 0), (oE 68 (.load false 1 (.E 67)), 0, 0), (oE 69 (.call k_impl_slotOf [([1], (.E 66)), ([1], (.E 68))]), 0, 0), (oE 70 (.faddr 3 (.V 5)), 1, 0), (oE 71 (.load false 1 (.E 70)), 1, 0), (oE 72 (.faddr 1 (.V 11)), 1, 0), (oE 73 (.load true 2 (.E 72)), 1, 0), (oE 74 (.call k_impl_LeafOf [([0, 0], (.E 69)), ([0], (.E 71)), ([0, 0], (.E 73))]), 0, 0), (oE 65 (.mv (.E 74)), 0, 0), (oE 75 (.ext 0 (.E 65)), 0, 0), (oE 76 (.ext 1 (.E 65)), 0, 0), (oV 14 (.mv (.E 75)), 0, 0), (oE 15 (.mv (.E 76)), 0, 0)]) (.seq (.reg [oE 77 (.faddr 0 (.V 9)), oE 78 (.load false 1 (.E 77)), oE 79 (.mv (.V 14)), oE 80 (.build [iv 0, iv 0, iv 0, iv 0, iv 0] [(0, 1, (ki (-1))), (4, 1, (.E 79))]), oE 81 (.bslice 1 5 [iv 0, iv 0, iv 0, iv 0, iv 0] [(0, (.E 80))]), oE 82 (.app 40 5 (.E 78) (.E 81)), oE 83 (.faddr 0 (.V 9)), oN (.store [5] (.E 83) (.E 82))]) (.exit 1))) .skip)) (.seq (.reg [oE 85 (.load true 8 (.V 5)), oE 86 (.faddr 1 (.V 11)), oE 87 (.load true 2 (.E 86)), oE 88 (.load true 6 (.V 12)), oE 89 (.call k_impl_SideValues [([0, 0, 0, 0, 0, 0, 0, 1], (.E 85)), ([0, 0], (.E 87)), ([0, 0, 0, 0, 0, 0], (.E 88))]), oE 84 (.mv (.E 89)), oE 90 (.ext 0 (.E 84)), oE 91 (.ext 1 (.E 84)), oE 92 (.ext 2 (.E 84)), oV 16 (.mv (.E 90)), oV 17 (.mv (.E 91)), oE 18 (.mv (.E 92))]) (.seq (.regD [(oE 94 (.load true 8 (.V 5)), 0, 0), (oE 95 (.faddr 0 (.V 12)), 0, 0), (oE 96 (.load false 1 (.E 95)), 0, 0), (oE 97 (.call k_impl_SignFor [([0, 0, 0, 0, 0, 0, 0, 1], (.E 94)), ([0], (.E 96))]), 0, 0), (oE 98 (.faddr 1 (.V 11)), 1, 0), (oE 99 (.load true 2 (.E 98)), 1, 0), (oE 100 (.mv (.V 16)), 0, 0), (oE 101 (.mv (.V 17)), 0, 0), (oE 102 (.call k_impl_SidesOf [([0], (.E 97)), ([0, 0], (.E 99)), ([0], (.E 100)), ([0], (.E 101))]), 0, 0), (oE 93 (.mv (.E 102)), 0, 0), (oE 103 (.ext 0 (.E 93)), 0, 0), (oE 104 (.ext 1 (.E 93)), 0, 0), (oV 19 (.allocL [iv 0, iv 0]), 0, 0), (oV 20 (.allocL [iv 0, iv 0]), 0, 0), (oN (.store [0, 0] (.V 19) (.E 103)), 0, 0), (oN (.store [0, 0] (.V 20) (.E 104)), 0, 0)]) (.seq (.regD [(oE 106 (.faddr 1 (.V 3)), 0, 0), (oE 107 (.load false 1 (.E 106)), 0, 0), (oE 108 (.faddr 0 (.V 12)), 0, 0), (oE 109 (.load false 1 (.E 108)), 0, 0), (oE 110 (.iaddr 1 (.E 107) (.E 109)), 0, 0), (oE 111 (.load false 1 (.E 110)), 0, 0), (oE 112 (.faddr 0 (.V 11)), 0, 0), (oE 113 (.load false 1 (.E 112)), 0, 0), (oE 114 (.faddr 1 (.V 12)), 0, 0), (oE 115 (.load false 1 (.E 114)), 0, 0), (oE 116 (.call k_impl_SplitRows [([1], (.E 111)), ([1], (.E 113)), ([0], (.E 115))]), 0, 0), (oE 105 (.mv (.E 116)), 0, 0), (oE 117 (.ext 0 (.E 105)), 0, 0), (oE 118 (.ext 1 (.E 105)), 0, 0), (oV 21 (.mv (.E 117)), 0, 0), (oV 22 (.mv (.E 118)), 0, 0)]) (.seq (.regD [(oE 119 (.faddr 0 (.V 9)), 0, 1), (oE 120 (.load false 1 (.E 119)), 0, 1), (oE 121 (.faddr 0 (.V 12)), 0, 0), (oE 122 (.load false 1 (.E 121)), 0, 0), (oE 123 (.faddr 0 (.V 3)), 0, 0), (oE 124 (.load false 1 (.E 123)), 0, 0), (oE 125 (.faddr 0 (.V 12)), 0, 0), (oE 126 (.load false 1 (.E 125)), 0, 0), (oE 127 (.iaddr 1 (.E 124) (.E 126)), 0, 0), (oE 128 (.load false 1 (.E 127)), 0, 0), (oE 129 (.faddr 1 (.V 12)), 0, 0), (oE 130 (.load false 1 (.E 129)), 0, 0), (oE 131 (.iaddr 1 (.E 128) (.E 130)), 0, 0), (oE 132 (.load false 1 (.E 131)), 0, 0), (oE 133 (.mv (.V 8)), 0, 0), (oE 134 (.len (.E 133)), 0, 0), (oE 135 (.mv (.V 8)), 0, 0), (oE 136 (.len (.E 135)), 0, 0), (oE 137 (.bin .add (.E 136) (ki 1)), 0, 0), (oE 138 (.build [iv 0, iv 0, iv 0, iv 0, iv 0] [(0, 1, (.E 122)), (1, 1, (.E 132)), (2, 1, (.E 134)), (3, 1, (.E 137))]), 0, 0), (oE 139 (.bslice 1 5 [iv 0, iv 0, iv 0, iv 0, iv 0] [(0, (.E 138))]), 0, 0), (oE 140 (.app 40 5 (.E 120) (.E 139)), 0, 0), (oE 141 (.faddr 0 (.V 9)), 0, 0), (oN (.store [5] (.E 141) (.E 140)), 0, 0)]) (.reg [oE 142 (.mv (.V 8)), oE 143 (.mv (.V 21)), oE 144 (.load true 2 (.V 19)), oE 145 (.faddr 3 (.V 11)), oE 146 (.load false 1 (.E 145)), oE 147 (.bin .add (.E 146) (ki 1)), oE 148 (.build [.e0, iv 0, iv 0, iv 0] [(0, 1, (.E 143)), (1, 2, (.E 144)), (3, 1, (.E 147))]), oE 149 (.mv (.V 22)), oE 150 (.load true 2 (.V 20)), oE 151 (.faddr 3 (.V 11)), oE 152 (.load false 1 (.E 151)), oE 153 (.bin .add (.E 152) (ki 1)), oE 154 (.build [.e0, iv 0, iv 0, iv 0] [(0, 1, (.E 149)), (1, 2, (.E 150)), (3, 1, (.E 153))]), oE 155 (.bslice 2 4 [(.own 1 []), iv 0, iv 0, iv 0] [(0, (.E 148)), (1, (.E 154))]), oE 156 (.app 48 4 (.E 142) (.E 155)), oV 8 (.mv (.E 156))])))))))))) (.reg [oE 40 (.mv (.V 10)), oE 41 (.bin .add (.E 40) (ki 1)), oV 10 (.mv (.E 41))]))

def k_impl_GrowTree_ic : IC := .seq (.reg [oV 3 (.box (.V 0)), oV 5 (.box (.V 2)), oV 6 (.alloc [.e0]), oV 7 (.mv (kb false))]) (.seq (.seq (.reg [oE 23 (.load true 2 (.V 3)), oE 24 (.mv (.V 1)), oE 25 (.load true 8 (.V 5)), oE 26 (.call k_impl_TaskOk [([1, 1], (.E 23)), ([1], (.E 24)), ([0, 0, 0, 0, 0, 0, 0, 1], (.E 25))]), oE 27 (.un .not (.E 26))]) (.cond (.E 27) (.seq (.reg [oE 28 (.build [.e0] []), oN (.store [5] (.V 6) (.E 28)), oV 7 (.mv (kb false))]) .ret) .skip)) (.seq (.reg [oE 29 (.load true 2 (.V 3)), oE 30 (.call k_impl_RowsIn [([1, 1], (.E 29))]), oE 31 (.call k_impl_AllRows [([0], (.E 30))]), oE 32 (.call k_impl_Free []), oE 33 (.build [.e0, iv 0, iv 0, iv 0] [(0, 1, (.E 31)), (1, 2, (.E 32))]), oE 34 (.bslice 1 4 [(.own 1 []), iv 0, iv 0, iv 0] [(0, (.E 33))]), oE 35 (.build [.e0] []), oV 9 (.alloc [.e0]), oV 8 (.mv (.E 34)), oN (.store [5] (.V 9) (.E 35))]) (.seq (.seq (.reg [oV 10 (.mv (ki 0))]) (.block 0 (.loop k_impl_GrowTree_b0))) (.seq (.reg [oE 157 (.load true 1 (.V 9)), oN (.store [5] (.V 6) (.E 157)), oV 7 (.mv (kb true))]) .ret))))

def k_impl_GrowTree_rv : List RV := [.cell [5] 6 true, .tmp [0] 7]

def k_laws_eqTree_vars : List Nat := [0, 1, 2, 3, 4]

def k_laws_eqTree_ic : IC := .seq (.reg [oV 2 (.box (.V 0)), oV 3 (.box (.V 1)), oV 4 (.mv (kb false))]) (.seq (.seq (.reg [oE 5 (.faddr 0 (.V 2)), oE 6 (.load false 1 (.E 5)), oE 7 (.faddr 0 (.V 3)), oE 8 (.load false 1 (.E 7)), oE 9 (.call k_laws_eqNodeS [([5], (.E 6)), ([5], (.E 8))]), oE 10 (.un .not (.E 9))]) (.cond (.E 10) (.seq (.reg [oV 4 (.mv (kb false))]) .ret) .skip)) (.seq (.reg [oV 4 (.mv (kb true))]) .ret))

def k_laws_eqTree_rv : List RV := [.tmp [0] 4]

def k_laws_markTree_vars : List Nat := [0, 1, 2, 4]

def k_laws_markTree_ic : IC := .seq (.reg [oV 2 (.box (.V 0)), oV 4 (.mv (ki 0))]) (.seq (.reg [oE 5 (.faddr 0 (.V 2)), oE 6 (.load false 1 (.E 5)), oE 7 (.mv (.V 1)), oE 8 (.call k_laws_markNodeS [([5], (.E 6)), ([0], (.E 7))]), oV 1 (.mv (.E 8))]) (.seq (.reg [oE 9 (.mv (.V 1)), oV 4 (.mv (.E 9))]) .ret))

def k_laws_markTree_rv : List RV := [.tmp [0] 4]

def k_laws_heldTree_vars : List Nat := [0, 1, 2, 4]

def k_laws_heldTree_ic : IC := .seq (.reg [oV 2 (.box (.V 0)), oV 4 (.mv (ki 0))]) (.seq (.reg [oE 5 (.faddr 0 (.V 2)), oE 6 (.load false 1 (.E 5)), oE 7 (.mv (.V 1)), oE 8 (.call k_laws_heldNodeS [([5], (.E 6)), ([0], (.E 7))]), oV 1 (.mv (.E 8))]) (.seq (.seq (.reg [oE 9 (.mv (.V 1)), oE 10 (.bin .lss (.E 9) (ki 0))]) (.cond (.E 10) (.seq (.reg [oV 4 (.mv (ki (-1)))]) .ret) .skip)) (.seq (.reg [oE 11 (.mv (.V 1)), oV 4 (.mv (.E 11))]) .ret)))

def k_laws_heldTree_rv : List RV := [.tmp [0] 4]

def k_spec_Better_vars : List Nat := [0, 1, 2, 3, 4, 8, 10, 7, 9, 12, 11, 6]

def k_spec_Better_ic : IC := .seq (.reg [oV 3 (.box (.V 0)), oV 4 (.box (.V 1)), oV 6 (.mv (kb false))]) (.seq (.reg [oE 14 (.load true 6 (.V 3)), oE 15 (.mv (.V 2)), oE 16 (.call k_spec_GainOf [([0, 0, 0, 0, 0, 0], (.E 14)), ([0], (.E 15))]), oE 13 (.mv (.E 16)), oE 17 (.ext 0 (.E 13)), oE 18 (.ext 1 (.E 13)), oV 7 (.alloc [(.v (.bool false)), (.v (.int .u64 0)), (.v (.int .u64 0)), iv 0]), oN (.store [0, 0, 0, 0] (.V 7) (.E 17)), oV 8 (.mv (.E 18))]) (.seq (.reg [oE 20 (.load true 6 (.V 4)), oE 21 (.mv (.V 2)), oE 22 (.call k_spec_GainOf [([0, 0, 0, 0, 0, 0], (.E 20)), ([0], (.E 21))]), oE 19 (.mv (.E 22)), oE 23 (.ext 0 (.E 19)), oE 24 (.ext 1 (.E 19)), oV 9 (.alloc [(.v (.bool false)), (.v (.int .u64 0)), (.v (.int .u64 0)), iv 0]), oN (.store [0, 0, 0, 0] (.V 9) (.E 23)), oV 10 (.mv (.E 24))]) (.seq (.seq (.reg [oE 25 (.mv (.V 8)), oE 26 (.un .not (.E 25)), oE 27 (.mv (.E 26)), ⟨(some (.E 28)), .mv (.V 10), some ((.E 27), false)⟩, ⟨(some (.E 29)), .un .not (.E 28), some ((.E 27), false)⟩, oE 30 (.pick (.E 27) (kb true) (.E 29))]) (.cond (.E 30) (.seq (.reg [oV 6 (.mv (kb false))]) .ret) .skip)) (.seq (.reg [oE 32 (.load true 4 (.V 7)), oE 33 (.load true 4 (.V 9)), oE 34 (.call k_spec_CompareFrac [([0, 0, 0, 0], (.E 32)), ([0, 0, 0, 0], (.E 33))]), oE 31 (.mv (.E 34)), oE 35 (.ext 0 (.E 31)), oE 36 (.ext 1 (.E 31)), oV 11 (.mv (.E 35)), oV 12 (.mv (.E 36))]) (.seq (.reg [oE 37 (.mv (.V 12)), oE 38 (.mv (.E 37)), ⟨(some (.E 39)), .mv (.V 11), some ((.E 38), true)⟩, ⟨(some (.E 40)), .bin .gtr (.E 39) (ki 0), some ((.E 38), true)⟩, ⟨(some (.E 41)), .mv (.E 40), some ((.E 38), true)⟩, ⟨(some (.E 42)), .mv (.V 11), some ((.E 41), false)⟩, ⟨(some (.E 43)), .bin .eql (.E 42) (ki 0), some ((.E 41), false)⟩, ⟨(some (.E 44)), .mv (.E 43), some ((.E 41), false)⟩, ⟨(some (.E 45)), .load true 6 (.V 3), some ((.E 44), true)⟩, ⟨(some (.E 46)), .load true 6 (.V 4), some ((.E 44), true)⟩, ⟨(some (.E 47)), .call k_spec_CandLess [([0, 0, 0, 0, 0, 0], (.E 45)), ([0, 0, 0, 0, 0, 0], (.E 46))], some ((.E 44), true)⟩, ⟨(some (.E 48)), .pick (.E 44) (.E 47) (kb false), some ((.E 41), false)⟩, ⟨(some (.E 49)), .pick (.E 41) (kb true) (.E 48), some ((.E 38), true)⟩, oE 50 (.pick (.E 38) (.E 49) (kb false)), oV 6 (.mv (.E 50))]) .ret)))))

def k_spec_Better_rv : List RV := [.tmp [0] 6]

def k_impl_SideValues_vars : List Nat := [0, 1, 2, 5, 3, 4, 10, 12, 9, 11, 6, 7, 8]

def k_impl_SideValues_ic : IC := .seq (.reg [oV 3 (.box (.V 0)), oV 4 (.box (.V 1)), oV 5 (.box (.V 2)), oV 6 (.mv (ki 0)), oV 7 (.mv (ki 0)), oV 8 (.mv (kb false))]) (.seq (.reg [oE 14 (.faddr 2 (.V 5)), oE 15 (.load true 2 (.E 14)), oE 16 (.faddr 3 (.V 3)), oE 17 (.load false 1 (.E 16)), oE 18 (.load true 2 (.V 4)), oE 19 (.call k_impl_LeafOf [([0, 0], (.E 15)), ([0], (.E 17)), ([0, 0], (.E 18))]), oE 13 (.mv (.E 19)), oE 20 (.ext 0 (.E 13)), oE 21 (.ext 1 (.E 13)), oV 9 (.mv (.E 20)), oV 10 (.mv (.E 21))]) (.seq (.reg [oE 23 (.faddr 4 (.V 5)), oE 24 (.load true 2 (.E 23)), oE 25 (.faddr 3 (.V 3)), oE 26 (.load false 1 (.E 25)), oE 27 (.load true 2 (.V 4)), oE 28 (.call k_impl_LeafOf [([0, 0], (.E 24)), ([0], (.E 26)), ([0, 0], (.E 27))]), oE 22 (.mv (.E 28)), oE 29 (.ext 0 (.E 22)), oE 30 (.ext 1 (.E 22)), oV 11 (.mv (.E 29)), oV 12 (.mv (.E 30))]) (.seq (.seq (.reg [oE 31 (.mv (.V 10)), oE 32 (.un .not (.E 31)), oE 33 (.mv (.E 32)), ⟨(some (.E 34)), .mv (.V 12), some ((.E 33), false)⟩, ⟨(some (.E 35)), .un .not (.E 34), some ((.E 33), false)⟩, oE 36 (.pick (.E 33) (kb true) (.E 35))]) (.cond (.E 36) (.seq (.reg [oV 6 (.mv (ki 0)), oV 7 (.mv (ki 0)), oV 8 (.mv (kb false))]) .ret) .skip)) (.seq (.reg [oE 37 (.mv (.V 9)), oE 38 (.mv (.V 11)), oV 6 (.mv (.E 37)), oV 7 (.mv (.E 38)), oV 8 (.mv (kb true))]) .ret))))

def k_impl_SideValues_rv : List RV := [.tmp [0] 6, .tmp [0] 7, .tmp [0] 8]

def k_impl_ConfigOk_vars : List Nat := [0, 1, 2]

def k_impl_ConfigOk_ic : IC := .seq (.reg [oV 1 (.box (.V 0)), oV 2 (.mv (kb false))]) (.seq (.reg [oE 3 (.faddr 0 (.V 1)), oE 4 (.load false 1 (.E 3)), oE 5 (.call k_impl_within [([0], (.E 4)), ([0], (ki 1)), ([0], (ki 8))]), oE 6 (.mv (.E 5)), ⟨(some (.E 7)), .faddr 1 (.V 1), some ((.E 6), true)⟩, ⟨(some (.E 8)), .load false 1 (.E 7), some ((.E 6), true)⟩, ⟨(some (.E 9)), .call k_impl_within [([0], (.E 8)), ([0], (ki 0)), ([0], (ki 4))], some ((.E 6), true)⟩, oE 10 (.pick (.E 6) (.E 9) (kb false)), oE 11 (.mv (.E 10)), ⟨(some (.E 12)), .faddr 2 (.V 1), some ((.E 11), true)⟩, ⟨(some (.E 13)), .load false 1 (.E 12), some ((.E 11), true)⟩, ⟨(some (.E 14)), .call k_impl_within [([0], (.E 13)), ([0], (ki 2)), ([0], (ki 8))], some ((.E 11), true)⟩, oE 15 (.pick (.E 11) (.E 14) (kb false)), oE 16 (.mv (.E 15)), ⟨(some (.E 17)), .faddr 3 (.V 1), some ((.E 16), true)⟩, ⟨(some (.E 18)), .load false 1 (.E 17), some ((.E 16), true)⟩, ⟨(some (.E 19)), .call k_impl_within [([0], (.E 18)), ([0], (ki 1)), ([0], (ki 100))], some ((.E 16), true)⟩, oE 20 (.pick (.E 16) (.E 19) (kb false)), oE 21 (.mv (.E 20)), ⟨(some (.E 22)), .faddr 4 (.V 1), some ((.E 21), true)⟩, ⟨(some (.E 23)), .load false 1 (.E 22), some ((.E 21), true)⟩, ⟨(some (.E 24)), .call k_impl_within [([0], (.E 23)), ([0], (ki 1)), ([0], (ki 20))], some ((.E 21), true)⟩, oE 25 (.pick (.E 21) (.E 24) (kb false)), oE 26 (.mv (.E 25)), ⟨(some (.E 27)), .faddr 6 (.V 1), some ((.E 26), true)⟩, ⟨(some (.E 28)), .load false 1 (.E 27), some ((.E 26), true)⟩, ⟨(some (.E 29)), .call k_impl_within [([0], (.E 28)), ([0], (ki 1)), ([0], (ki 1000))], some ((.E 26), true)⟩, oE 30 (.pick (.E 26) (.E 29) (kb false)), oE 31 (.mv (.E 30)), ⟨(some (.E 32)), .faddr 5 (.V 1), some ((.E 31), true)⟩, ⟨(some (.E 33)), .load false 1 (.E 32), some ((.E 31), true)⟩, ⟨(some (.E 34)), .faddr 6 (.V 1), some ((.E 31), true)⟩, ⟨(some (.E 35)), .load false 1 (.E 34), some ((.E 31), true)⟩, ⟨(some (.E 36)), .call k_impl_within [([0], (.E 33)), ([0], (ki 1)), ([0], (.E 35))], some ((.E 31), true)⟩, oE 37 (.pick (.E 31) (.E 36) (kb false)), oE 38 (.mv (.E 37)), ⟨(some (.E 39)), .faddr 7 (.V 1), some ((.E 38), true)⟩, ⟨(some (.E 40)), .load false 1 (.E 39), some ((.E 38), true)⟩, ⟨(some (.E 41)), .len (.E 40), some ((.E 38), true)⟩, ⟨(some (.E 42)), .bin .leq (.E 41) (ki 4), some ((.E 38), true)⟩, oE 43 (.pick (.E 38) (.E 42) (kb false)), oE 44 (.mv (.E 43)), ⟨(some (.E 45)), .faddr 7 (.V 1), some ((.E 44), true)⟩, ⟨(some (.E 46)), .load false 1 (.E 45), some ((.E 44), true)⟩, ⟨(some (.E 47)), .call k_slices_ContainsFunc___int_int_ [([1], (.E 46)), ([0], (.C (.fn k_impl_ConfigOk_1 [])))], some ((.E 44), true)⟩, ⟨(some (.E 48)), .un .not (.E 47), some ((.E 44), true)⟩, oE 49 (.pick (.E 44) (.E 48) (kb false)), oV 2 (.mv (.E 49))]) .ret)

def k_impl_ConfigOk_rv : List RV := [.tmp [0] 2]

def k_impl_Agrees_vars : List Nat := [0, 1, 2, 7, 6]

def k_impl_Agrees_ic : IC := .seq (.reg [oV 6 (.mv (kb false))]) (.seq (.seq (.reg [oV 7 (.mv (.V 0))]) (.block 0 (.seq (.reg [oE 9 (.bin .eql (.V 7) (ki 1)), oE 8 (.mv (.E 9))]) (.cond (.E 8) (.seq (.reg [oE 10 (.mv (.V 1)), oE 11 (.mv (.V 2)), oE 12 (.bin .leq (.E 10) (.E 11)), oV 6 (.mv (.E 12))]) .ret) (.seq (.reg [oE 14 (.bin .eql (.V 7) (ki (-1))), oE 13 (.mv (.E 14))]) (.cond (.E 13) (.seq (.reg [oE 15 (.mv (.V 1)), oE 16 (.mv (.V 2)), oE 17 (.bin .geq (.E 15) (.E 16)), oV 6 (.mv (.E 17))]) .ret) .skip)))))) (.seq (.reg [oV 6 (.mv (kb true))]) .ret))

def k_impl_Agrees_rv : List RV := [.tmp [0] 6]

def k_impl_SignFor_vars : List Nat := [0, 1, 2, 4]

def k_impl_SignFor_ic : IC := .seq (.reg [oV 2 (.box (.V 0)), oV 4 (.mv (ki 0))]) (.seq (.seq (.reg [oE 5 (.mv (.V 1)), oE 6 (.faddr 7 (.V 2)), oE 7 (.load false 1 (.E 6)), oE 8 (.len (.E 7)), oE 9 (.bin .sub (.E 8) (ki 1)), oE 10 (.call k_impl_within [([0], (.E 5)), ([0], (ki 0)), ([0], (.E 9))]), oE 11 (.un .not (.E 10))]) (.cond (.E 11) (.seq (.reg [oV 4 (.mv (ki 0))]) .ret) .skip)) (.seq (.reg [oE 12 (.faddr 7 (.V 2)), oE 13 (.load false 1 (.E 12)), oE 14 (.mv (.V 1)), oE 15 (.iaddr 1 (.E 13) (.E 14)), oE 16 (.load false 1 (.E 15)), oV 4 (.mv (.E 16))]) .ret))

def k_impl_SignFor_rv : List RV := [.tmp [0] 4]

def k_impl_Improves_vars : List Nat := [0, 1, 2, 7, 5, 9, 6, 8, 10, 12, 11, 4]

def k_impl_Improves_ic : IC := .seq (.reg [oV 2 (.box (.V 0)), oV 4 (.mv (kb false))]) (.seq (.reg [oE 14 (.load true 6 (.V 2)), oE 15 (.mv (.V 1)), oE 16 (.call k_impl_GainOf [([0, 0, 0, 0, 0, 0], (.E 14)), ([0], (.E 15))]), oE 13 (.mv (.E 16)), oE 17 (.ext 0 (.E 13)), oE 18 (.ext 1 (.E 13)), oV 5 (.alloc [(.v (.bool false)), (.v (.int .u64 0)), (.v (.int .u64 0)), iv 0]), oN (.store [0, 0, 0, 0] (.V 5) (.E 17)), oV 6 (.mv (.E 18))]) (.seq (.reg [oE 20 (.load true 6 (.V 2)), oE 21 (.call k_impl_BothOf [([0, 0, 0, 0, 0, 0], (.E 20))]), oE 19 (.mv (.E 21)), oE 22 (.ext 0 (.E 19)), oE 23 (.ext 1 (.E 19)), oV 7 (.alloc [iv 0, iv 0]), oN (.store [0, 0] (.V 7) (.E 22)), oV 8 (.mv (.E 23))]) (.seq (.reg [oE 25 (.load true 2 (.V 7)), oE 26 (.mv (.V 1)), oE 27 (.call k_impl_PlainGain [([0, 0], (.E 25)), ([0], (.E 26))]), oE 24 (.mv (.E 27)), oE 28 (.ext 0 (.E 24)), oE 29 (.ext 1 (.E 24)), oV 9 (.alloc [(.v (.bool false)), (.v (.int .u64 0)), (.v (.int .u64 0)), iv 0]), oN (.store [0, 0, 0, 0] (.V 9) (.E 28)), oV 10 (.mv (.E 29))]) (.seq (.reg [oE 31 (.load true 4 (.V 5)), oE 32 (.load true 4 (.V 9)), oE 33 (.call k_impl_CompareFrac [([0, 0, 0, 0], (.E 31)), ([0, 0, 0, 0], (.E 32))]), oE 30 (.mv (.E 33)), oE 34 (.ext 0 (.E 30)), oE 35 (.ext 1 (.E 30)), oV 11 (.mv (.E 34)), oV 12 (.mv (.E 35))]) (.seq (.reg [oE 36 (.mv (.V 6)), oE 37 (.mv (.E 36)), ⟨(some (.E 38)), .mv (.V 8), some ((.E 37), true)⟩, oE 39 (.pick (.E 37) (.E 38) (kb false)), oE 40 (.mv (.E 39)), ⟨(some (.E 41)), .mv (.V 10), some ((.E 40), true)⟩, oE 42 (.pick (.E 40) (.E 41) (kb false)), oE 43 (.mv (.E 42)), ⟨(some (.E 44)), .mv (.V 12), some ((.E 43), true)⟩, oE 45 (.pick (.E 43) (.E 44) (kb false)), oE 46 (.mv (.E 45)), ⟨(some (.E 47)), .mv (.V 11), some ((.E 46), true)⟩, ⟨(some (.E 48)), .bin .gtr (.E 47) (ki 0), some ((.E 46), true)⟩, oE 49 (.pick (.E 46) (.E 48) (kb false)), oV 4 (.mv (.E 49))]) .ret)))))

def k_impl_Improves_rv : List RV := [.tmp [0] 4]

def k_spec_SideValues_vars : List Nat := [0, 1, 2, 5, 3, 4, 10, 12, 9, 11, 6, 7, 8]

def k_spec_SideValues_ic : IC := .seq (.reg [oV 3 (.box (.V 0)), oV 4 (.box (.V 1)), oV 5 (.box (.V 2)), oV 6 (.mv (ki 0)), oV 7 (.mv (ki 0)), oV 8 (.mv (kb false))]) (.seq (.reg [oE 14 (.faddr 2 (.V 5)), oE 15 (.load true 2 (.E 14)), oE 16 (.faddr 3 (.V 3)), oE 17 (.load false 1 (.E 16)), oE 18 (.load true 2 (.V 4)), oE 19 (.call k_spec_LeafOf [([0, 0], (.E 15)), ([0], (.E 17)), ([0, 0], (.E 18))]), oE 13 (.mv (.E 19)), oE 20 (.ext 0 (.E 13)), oE 21 (.ext 1 (.E 13)), oV 9 (.mv (.E 20)), oV 10 (.mv (.E 21))]) (.seq (.reg [oE 23 (.faddr 4 (.V 5)), oE 24 (.load true 2 (.E 23)), oE 25 (.faddr 3 (.V 3)), oE 26 (.load false 1 (.E 25)), oE 27 (.load true 2 (.V 4)), oE 28 (.call k_spec_LeafOf [([0, 0], (.E 24)), ([0], (.E 26)), ([0, 0], (.E 27))]), oE 22 (.mv (.E 28)), oE 29 (.ext 0 (.E 22)), oE 30 (.ext 1 (.E 22)), oV 11 (.mv (.E 29)), oV 12 (.mv (.E 30))]) (.seq (.seq (.reg [oE 31 (.mv (.V 10)), oE 32 (.un .not (.E 31)), oE 33 (.mv (.E 32)), ⟨(some (.E 34)), .mv (.V 12), some ((.E 33), false)⟩, ⟨(some (.E 35)), .un .not (.E 34), some ((.E 33), false)⟩, oE 36 (.pick (.E 33) (kb true) (.E 35))]) (.cond (.E 36) (.seq (.reg [oV 6 (.mv (ki 0)), oV 7 (.mv (ki 0)), oV 8 (.mv (kb false))]) .ret) .skip)) (.seq (.reg [oE 37 (.mv (.V 9)), oE 38 (.mv (.V 11)), oV 6 (.mv (.E 37)), oV 7 (.mv (.E 38)), oV 8 (.mv (kb true))]) .ret))))

def k_spec_SideValues_rv : List RV := [.tmp [0] 6, .tmp [0] 7, .tmp [0] 8]

def k_spec_ConfigOk_vars : List Nat := [0, 1, 4, 3, 5, 2]

def k_spec_ConfigOk_b0 : IC := .seq (.seq (.reg [oE 8 (.mv (.V 4)), oE 9 (.bin .lss (.E 8) (ki 5))]) (.cond (.E 9) .skip (.exit 0))) (.seq (.block 1 (.seq (.regD [(oE 12 (.mv (.V 3)), 0, 0), (oE 13 (.mv (.V 4)), 0, 0), (oE 14 (.iaddr 1 (.E 12) (.E 13)), 0, 2), (oE 15 (.load false 1 (.E 14)), 0, 2), (oE 16 (.call k_spec_l8Least []), 0, 0), (oE 17 (.mv (.V 4)), 0, 0), (oE 18 (.iaddr 1 (.E 16) (.E 17)), 0, 1), (oE 19 (.load false 1 (.E 18)), 0, 1), (oE 20 (.call k_spec_l8Most []), 0, 0), (oE 21 (.mv (.V 4)), 0, 0), (oE 22 (.iaddr 1 (.E 20) (.E 21)), 0, 0), (oE 23 (.load false 1 (.E 22)), 0, 0), (oE 24 (.call k_spec_l1In [([0], (.E 15)), ([0], (.E 19)), ([0], (.E 23))]), 0, 0), (oE 25 (.un .not (.E 24)), 0, 0)]) (.cond (.E 25) (.seq (.reg [oV 2 (.mv (kb false))]) .ret) .skip))) (.reg [oE 10 (.mv (.V 4)), oE 11 (.bin .add (.E 10) (ki 1)), oV 4 (.mv (.E 11))]))

def k_spec_ConfigOk_b1 : IC := .seq (.seq (.reg [oE 26 (.mv (.V 5)), oE 27 (.faddr 7 (.V 1)), oE 28 (.load false 1 (.E 27)), oE 29 (.len (.E 28)), oE 30 (.bin .lss (.E 26) (.E 29))]) (.cond (.E 30) .skip (.exit 2))) (.seq (.block 3 (.seq (.reg [oE 33 (.faddr 7 (.V 1)), oE 34 (.load false 1 (.E 33)), oE 35 (.mv (.V 5)), oE 36 (.iaddr 1 (.E 34) (.E 35)), oE 37 (.load false 1 (.E 36)), oE 38 (.call k_spec_l1In [([0], (.E 37)), ([0], (ki (-1))), ([0], (ki 1))]), oE 39 (.un .not (.E 38))]) (.cond (.E 39) (.seq (.reg [oV 2 (.mv (kb false))]) .ret) .skip))) (.reg [oE 31 (.mv (.V 5)), oE 32 (.bin .add (.E 31) (ki 1)), oV 5 (.mv (.E 32))]))

def k_spec_ConfigOk_ic : IC := .seq (.reg [oV 1 (.box (.V 0)), oV 2 (.mv (kb false))]) (.seq (.reg [oE 6 (.load true 8 (.V 1)), oE 7 (.call k_spec_l8Numbers [([0, 0, 0, 0, 0, 0, 0, 1], (.E 6))]), oV 3 (.mv (.E 7))]) (.seq (.seq (.reg [oV 4 (.mv (ki 0))]) (.block 0 (.loop k_spec_ConfigOk_b0))) (.seq (.seq (.reg [oV 5 (.mv (ki 0))]) (.block 2 (.loop k_spec_ConfigOk_b1))) (.seq (.reg [oE 40 (.faddr 6 (.V 1)), oE 41 (.load false 1 (.E 40)), oE 42 (.call k_spec_l1In [([0], (.E 41)), ([0], (ki 1)), ([0], (ki 1000))]), oE 43 (.mv (.E 42)), ⟨(some (.E 44)), .faddr 5 (.V 1), some ((.E 43), true)⟩, ⟨(some (.E 45)), .load false 1 (.E 44), some ((.E 43), true)⟩, ⟨(some (.E 46)), .faddr 6 (.V 1), some ((.E 43), true)⟩, ⟨(some (.E 47)), .load false 1 (.E 46), some ((.E 43), true)⟩, ⟨(some (.E 48)), .call k_spec_l1In [([0], (.E 45)), ([0], (ki 1)), ([0], (.E 47))], some ((.E 43), true)⟩, oE 49 (.pick (.E 43) (.E 48) (kb false)), oE 50 (.mv (.E 49)), ⟨(some (.E 51)), .faddr 7 (.V 1), some ((.E 50), true)⟩, ⟨(some (.E 52)), .load false 1 (.E 51), some ((.E 50), true)⟩, ⟨(some (.E 53)), .len (.E 52), some ((.E 50), true)⟩, ⟨(some (.E 54)), .bin .leq (.E 53) (ki 4), some ((.E 50), true)⟩, oE 55 (.pick (.E 50) (.E 54) (kb false)), oV 2 (.mv (.E 55))]) .ret))))

def k_spec_ConfigOk_rv : List RV := [.tmp [0] 2]

def k_spec_Agrees_vars : List Nat := [0, 1, 2, 6]

def k_spec_Agrees_ic : IC := .seq (.reg [oV 6 (.mv (kb false))]) (.seq (.reg [oE 7 (.mv (.V 0)), oE 8 (.bin .neq (.E 7) (ki 1)), oE 9 (.mv (.E 8)), ⟨(some (.E 10)), .mv (.V 0), some ((.E 9), true)⟩, ⟨(some (.E 11)), .bin .neq (.E 10) (ki (-1)), some ((.E 9), true)⟩, oE 12 (.pick (.E 9) (.E 11) (kb false)), oE 13 (.mv (.E 12)), ⟨(some (.E 14)), .mv (.V 0), some ((.E 13), false)⟩, ⟨(some (.E 15)), .bin .eql (.E 14) (ki 1), some ((.E 13), false)⟩, ⟨(some (.E 16)), .mv (.E 15), some ((.E 13), false)⟩, ⟨(some (.E 17)), .mv (.V 1), some ((.E 16), true)⟩, ⟨(some (.E 18)), .mv (.V 2), some ((.E 16), true)⟩, ⟨(some (.E 19)), .bin .leq (.E 17) (.E 18), some ((.E 16), true)⟩, ⟨(some (.E 20)), .pick (.E 16) (.E 19) (kb false), some ((.E 13), false)⟩, oE 21 (.pick (.E 13) (kb true) (.E 20)), oE 22 (.mv (.E 21)), ⟨(some (.E 23)), .mv (.V 0), some ((.E 22), false)⟩, ⟨(some (.E 24)), .bin .eql (.E 23) (ki (-1)), some ((.E 22), false)⟩, ⟨(some (.E 25)), .mv (.E 24), some ((.E 22), false)⟩, ⟨(some (.E 26)), .mv (.V 1), some ((.E 25), true)⟩, ⟨(some (.E 27)), .mv (.V 2), some ((.E 25), true)⟩, ⟨(some (.E 28)), .bin .geq (.E 26) (.E 27), some ((.E 25), true)⟩, ⟨(some (.E 29)), .pick (.E 25) (.E 28) (kb false), some ((.E 22), false)⟩, oE 30 (.pick (.E 22) (kb true) (.E 29)), oV 6 (.mv (.E 30))]) .ret)

def k_spec_Agrees_rv : List RV := [.tmp [0] 6]

def k_spec_SignFor_vars : List Nat := [0, 1, 2, 4]

def k_spec_SignFor_ic : IC := .seq (.reg [oV 2 (.box (.V 0)), oV 4 (.mv (ki 0))]) (.seq (.seq (.reg [oE 5 (.mv (.V 1)), oE 6 (.faddr 7 (.V 2)), oE 7 (.load false 1 (.E 6)), oE 8 (.len (.E 7)), oE 9 (.bin .sub (.E 8) (ki 1)), oE 10 (.call k_spec_l1In [([0], (.E 5)), ([0], (ki 0)), ([0], (.E 9))]), oE 11 (.un .not (.E 10))]) (.cond (.E 11) (.seq (.reg [oV 4 (.mv (ki 0))]) .ret) .skip)) (.seq (.reg [oE 12 (.faddr 7 (.V 2)), oE 13 (.load false 1 (.E 12)), oE 14 (.mv (.V 1)), oE 15 (.iaddr 1 (.E 13) (.E 14)), oE 16 (.load false 1 (.E 15)), oV 4 (.mv (.E 16))]) .ret))

def k_spec_SignFor_rv : List RV := [.tmp [0] 4]

def k_spec_Improves_vars : List Nat := [0, 1, 2, 5, 6, 8, 10, 7, 9, 12, 11, 4]

def k_spec_Improves_ic : IC := .seq (.reg [oV 2 (.box (.V 0)), oV 4 (.mv (kb false))]) (.seq (.reg [oE 14 (.load true 6 (.V 2)), oE 15 (.call k_spec_BothOf [([0, 0, 0, 0, 0, 0], (.E 14))]), oE 13 (.mv (.E 15)), oE 16 (.ext 0 (.E 13)), oE 17 (.ext 1 (.E 13)), oV 5 (.alloc [iv 0, iv 0]), oN (.store [0, 0] (.V 5) (.E 16)), oV 6 (.mv (.E 17))]) (.seq (.reg [oE 19 (.load true 6 (.V 2)), oE 20 (.mv (.V 1)), oE 21 (.call k_spec_GainOf [([0, 0, 0, 0, 0, 0], (.E 19)), ([0], (.E 20))]), oE 18 (.mv (.E 21)), oE 22 (.ext 0 (.E 18)), oE 23 (.ext 1 (.E 18)), oV 7 (.alloc [(.v (.bool false)), (.v (.int .u64 0)), (.v (.int .u64 0)), iv 0]), oN (.store [0, 0, 0, 0] (.V 7) (.E 22)), oV 8 (.mv (.E 23))]) (.seq (.reg [oE 25 (.load true 2 (.V 5)), oE 26 (.mv (.V 1)), oE 27 (.call k_spec_PlainGain [([0, 0], (.E 25)), ([0], (.E 26))]), oE 24 (.mv (.E 27)), oE 28 (.ext 0 (.E 24)), oE 29 (.ext 1 (.E 24)), oV 9 (.alloc [(.v (.bool false)), (.v (.int .u64 0)), (.v (.int .u64 0)), iv 0]), oN (.store [0, 0, 0, 0] (.V 9) (.E 28)), oV 10 (.mv (.E 29))]) (.seq (.seq (.reg [oE 30 (.mv (.V 6)), oE 31 (.un .not (.E 30)), oE 32 (.mv (.E 31)), ⟨(some (.E 33)), .mv (.V 8), some ((.E 32), false)⟩, ⟨(some (.E 34)), .un .not (.E 33), some ((.E 32), false)⟩, oE 35 (.pick (.E 32) (kb true) (.E 34)), oE 36 (.mv (.E 35)), ⟨(some (.E 37)), .mv (.V 10), some ((.E 36), false)⟩, ⟨(some (.E 38)), .un .not (.E 37), some ((.E 36), false)⟩, oE 39 (.pick (.E 36) (kb true) (.E 38))]) (.cond (.E 39) (.seq (.reg [oV 4 (.mv (kb false))]) .ret) .skip)) (.seq (.reg [oE 41 (.load true 4 (.V 7)), oE 42 (.load true 4 (.V 9)), oE 43 (.call k_spec_CompareFrac [([0, 0, 0, 0], (.E 41)), ([0, 0, 0, 0], (.E 42))]), oE 40 (.mv (.E 43)), oE 44 (.ext 0 (.E 40)), oE 45 (.ext 1 (.E 40)), oV 11 (.mv (.E 44)), oV 12 (.mv (.E 45))]) (.seq (.reg [oE 46 (.mv (.V 12)), oE 47 (.mv (.E 46)), ⟨(some (.E 48)), .mv (.V 11), some ((.E 47), true)⟩, ⟨(some (.E 49)), .bin .gtr (.E 48) (ki 0), some ((.E 47), true)⟩, oE 50 (.pick (.E 47) (.E 49) (kb false)), oV 4 (.mv (.E 50))]) .ret))))))

def k_spec_Improves_rv : List RV := [.tmp [0] 4]

def k_impl_GainOf_vars : List Nat := [0, 1, 2, 7, 9, 4, 6, 8, 5]

def k_impl_GainOf_ic : IC := .seq (.reg [oV 2 (.box (.V 0)), oV 4 (.alloc [(.v (.bool false)), (.v (.int .u64 0)), (.v (.int .u64 0)), iv 0]), oV 5 (.mv (kb false))]) (.seq (.reg [oE 11 (.faddr 2 (.V 2)), oE 12 (.load true 2 (.E 11)), oE 13 (.mv (.V 1)), oE 14 (.call k_impl_PlainGain [([0, 0], (.E 12)), ([0], (.E 13))]), oE 10 (.mv (.E 14)), oE 15 (.ext 0 (.E 10)), oE 16 (.ext 1 (.E 10)), oV 6 (.alloc [(.v (.bool false)), (.v (.int .u64 0)), (.v (.int .u64 0)), iv 0]), oN (.store [0, 0, 0, 0] (.V 6) (.E 15)), oV 7 (.mv (.E 16))]) (.seq (.reg [oE 18 (.faddr 4 (.V 2)), oE 19 (.load true 2 (.E 18)), oE 20 (.mv (.V 1)), oE 21 (.call k_impl_PlainGain [([0, 0], (.E 19)), ([0], (.E 20))]), oE 17 (.mv (.E 21)), oE 22 (.ext 0 (.E 17)), oE 23 (.ext 1 (.E 17)), oV 8 (.alloc [(.v (.bool false)), (.v (.int .u64 0)), (.v (.int .u64 0)), iv 0]), oN (.store [0, 0, 0, 0] (.V 8) (.E 22)), oV 9 (.mv (.E 23))]) (.seq (.seq (.reg [oE 24 (.mv (.V 7)), oE 25 (.un .not (.E 24)), oE 26 (.mv (.E 25)), ⟨(some (.E 27)), .mv (.V 9), some ((.E 26), false)⟩, ⟨(some (.E 28)), .un .not (.E 27), some ((.E 26), false)⟩, oE 29 (.pick (.E 26) (kb true) (.E 28))]) (.cond (.E 29) (.seq (.reg [oE 30 (.build [(.v (.bool false)), (.v (.int .u64 0)), (.v (.int .u64 0)), iv 0] []), oN (.store [0, 0, 0, 0] (.V 4) (.E 30)), oV 5 (.mv (kb false))]) .ret) .skip)) (.seq (.reg [oE 31 (.load true 4 (.V 6)), oE 32 (.load true 4 (.V 8)), oE 33 (.call k_impl_AddFrac [([0, 0, 0, 0], (.E 31)), ([0, 0, 0, 0], (.E 32))]), oE 34 (.ext 0 (.E 33)), oE 35 (.ext 1 (.E 33)), oN (.store [0, 0, 0, 0] (.V 4) (.E 34)), oV 5 (.mv (.E 35))]) .ret))))

def k_impl_GainOf_rv : List RV := [.cell [0, 0, 0, 0] 4 true, .tmp [0] 5]

def k_impl_CompareFrac_vars : List Nat := [0, 1, 2, 3, 8, 6, 7, 4, 5]

def k_impl_CompareFrac_ic : IC := .seq (.reg [oV 2 (.box (.V 0)), oV 3 (.box (.V 1)), oV 4 (.mv (ki 0)), oV 5 (.mv (kb false))]) (.seq (.reg [oE 10 (.load true 4 (.V 2)), oE 11 (.load true 4 (.V 3)), oE 12 (.call k_impl_crossed [([0, 0, 0, 0], (.E 10)), ([0, 0, 0, 0], (.E 11))]), oE 9 (.mv (.E 12)), oE 13 (.ext 0 (.E 9)), oE 14 (.ext 1 (.E 9)), oE 15 (.ext 2 (.E 9)), oV 6 (.alloc [(.v (.bool false)), (.v (.int .u64 0)), (.v (.int .u64 0))]), oV 7 (.alloc [(.v (.bool false)), (.v (.int .u64 0)), (.v (.int .u64 0))]), oN (.store [0, 0, 0] (.V 6) (.E 13)), oN (.store [0, 0, 0] (.V 7) (.E 14)), oV 8 (.mv (.E 15))]) (.seq (.seq (.reg [oE 16 (.mv (.V 8)), oE 17 (.un .not (.E 16))]) (.cond (.E 17) (.seq (.reg [oV 4 (.mv (ki 0)), oV 5 (.mv (kb false))]) .ret) .skip)) (.seq (.reg [oE 18 (.load true 3 (.V 6)), oE 19 (.load true 3 (.V 7)), oE 20 (.call k_impl_CompareWide [([0, 0, 0], (.E 18)), ([0, 0, 0], (.E 19))]), oV 4 (.mv (.E 20)), oV 5 (.mv (kb true))]) .ret)))

def k_impl_CompareFrac_rv : List RV := [.tmp [0] 4, .tmp [0] 5]

def k_impl_CandLess_vars : List Nat := [0, 1, 2, 3, 4]

def k_impl_CandLess_ic : IC := .seq (.reg [oV 2 (.box (.V 0)), oV 3 (.box (.V 1)), oV 4 (.mv (kb false))]) (.seq (.regD [(oE 5 (.faddr 0 (.V 2)), 0, 0), (oE 6 (.load false 1 (.E 5)), 0, 0), (oE 7 (.faddr 0 (.V 3)), 0, 0), (oE 8 (.load false 1 (.E 7)), 0, 0), (oE 9 (.call k_cmp_Compare_int_ [([0], (.E 6)), ([0], (.E 8))]), 0, 0), (oE 10 (.faddr 1 (.V 2)), 1, 0), (oE 11 (.load false 1 (.E 10)), 1, 0), (oE 12 (.faddr 1 (.V 3)), 1, 0), (oE 13 (.load false 1 (.E 12)), 1, 0), (oE 14 (.call k_cmp_Compare_int_ [([0], (.E 11)), ([0], (.E 13))]), 0, 0), (oE 15 (.bslice 2 1 [iv 0] [(0, (.E 9)), (1, (.E 14))]), 0, 0), (oE 16 (.call k_cmp_Or_int_ [([1], (.E 15))]), 0, 0), (oE 17 (.bin .lss (.E 16) (ki 0)), 0, 0), (oV 4 (.mv (.E 17)), 0, 0)]) .ret)

def k_impl_CandLess_rv : List RV := [.tmp [0] 4]

def k_spec_PlainGain_vars : List Nat := [0, 1, 2, 4, 5]

def k_spec_PlainGain_ic : IC := .seq (.reg [oV 2 (.box (.V 0)), oV 4 (.alloc [(.v (.bool false)), (.v (.int .u64 0)), (.v (.int .u64 0)), iv 0]), oV 5 (.mv (kb false))]) (.seq (.seq (.reg [oE 6 (.faddr 0 (.V 2)), oE 7 (.load false 1 (.E 6)), oE 8 (.call k_spec_l1In [([0], (.E 7)), ([0], (ki 0)), ([0], (ki 40))]), oE 9 (.un .not (.E 8)), oE 10 (.mv (.E 9)), ⟨(some (.E 11)), .mv (.V 1), some ((.E 10), false)⟩, ⟨(some (.E 12)), .call k_spec_l1In [([0], (.E 11)), ([0], (ki 1)), ([0], (ki 100))], some ((.E 10), false)⟩, ⟨(some (.E 13)), .un .not (.E 12), some ((.E 10), false)⟩, oE 14 (.pick (.E 10) (kb true) (.E 13))]) (.cond (.E 14) (.seq (.reg [oE 15 (.build [(.v (.bool false)), (.v (.int .u64 0)), (.v (.int .u64 0)), iv 0] []), oN (.store [0, 0, 0, 0] (.V 4) (.E 15)), oV 5 (.mv (kb false))]) .ret) .skip)) (.seq (.reg [oE 16 (.faddr 1 (.V 2)), oE 17 (.load false 1 (.E 16)), oE 18 (.faddr 0 (.V 2)), oE 19 (.load false 1 (.E 18)), oE 20 (.mv (.V 1)), oE 21 (.bin .add (.E 19) (.E 20)), oE 22 (.call k_spec_SquareOver [([0], (.E 17)), ([0], (.E 21))]), oE 23 (.ext 0 (.E 22)), oE 24 (.ext 1 (.E 22)), oN (.store [0, 0, 0, 0] (.V 4) (.E 23)), oV 5 (.mv (.E 24))]) .ret))

def k_spec_PlainGain_rv : List RV := [.cell [0, 0, 0, 0] 4 true, .tmp [0] 5]

def k_spec_AddFrac_vars : List Nat := [0, 1, 2, 3, 8, 4, 6, 7, 9, 10, 11, 5]

def k_spec_AddFrac_ic : IC := .seq (.reg [oV 2 (.box (.V 0)), oV 3 (.box (.V 1)), oV 4 (.alloc [(.v (.bool false)), (.v (.int .u64 0)), (.v (.int .u64 0)), iv 0]), oV 5 (.mv (kb false))]) (.seq (.reg [oE 13 (.load true 4 (.V 2)), oE 14 (.load true 4 (.V 3)), oE 15 (.call k_spec_l5Cross [([0, 0, 0, 0], (.E 13)), ([0, 0, 0, 0], (.E 14))]), oE 12 (.mv (.E 15)), oE 16 (.ext 0 (.E 12)), oE 17 (.ext 1 (.E 12)), oE 18 (.ext 2 (.E 12)), oV 6 (.alloc [(.v (.bool false)), (.v (.int .u64 0)), (.v (.int .u64 0))]), oV 7 (.alloc [(.v (.bool false)), (.v (.int .u64 0)), (.v (.int .u64 0))]), oN (.store [0, 0, 0] (.V 6) (.E 16)), oN (.store [0, 0, 0] (.V 7) (.E 17)), oV 8 (.mv (.E 18))]) (.seq (.seq (.reg [oE 19 (.mv (.V 8)), oE 20 (.un .not (.E 19))]) (.cond (.E 20) (.seq (.reg [oE 21 (.build [(.v (.bool false)), (.v (.int .u64 0)), (.v (.int .u64 0)), iv 0] []), oN (.store [0, 0, 0, 0] (.V 4) (.E 21)), oV 5 (.mv (kb false))]) .ret) .skip)) (.seq (.reg [oE 23 (.load true 3 (.V 6)), oE 24 (.load true 3 (.V 7)), oE 25 (.call k_spec_AddWide [([0, 0, 0], (.E 23)), ([0, 0, 0], (.E 24))]), oE 22 (.mv (.E 25)), oE 26 (.ext 0 (.E 22)), oE 27 (.ext 1 (.E 22)), oV 9 (.alloc [(.v (.bool false)), (.v (.int .u64 0)), (.v (.int .u64 0))]), oN (.store [0, 0, 0] (.V 9) (.E 26)), oV 10 (.mv (.E 27))]) (.seq (.reg [oE 28 (.load true 3 (.V 9)), oE 29 (.faddr 3 (.V 2)), oE 30 (.load false 1 (.E 29)), oE 31 (.faddr 3 (.V 3)), oE 32 (.load false 1 (.E 31)), oE 33 (.bin .mul (.E 30) (.E 32)), oE 34 (.build [(.v (.bool false)), (.v (.int .u64 0)), (.v (.int .u64 0)), iv 0] [(0, 3, (.E 28)), (3, 1, (.E 33))]), oV 11 (.alloc [(.v (.bool false)), (.v (.int .u64 0)), (.v (.int .u64 0)), iv 0]), oN (.store [0, 0, 0, 0] (.V 11) (.E 34))]) (.seq (.seq (.reg [oE 35 (.mv (.V 10)), oE 36 (.un .not (.E 35)), oE 37 (.mv (.E 36)), ⟨(some (.E 38)), .load true 4 (.V 11), some ((.E 37), false)⟩, ⟨(some (.E 39)), .call k_spec_FracOk [([0, 0, 0, 0], (.E 38))], some ((.E 37), false)⟩, ⟨(some (.E 40)), .un .not (.E 39), some ((.E 37), false)⟩, oE 41 (.pick (.E 37) (kb true) (.E 40))]) (.cond (.E 41) (.seq (.reg [oE 42 (.build [(.v (.bool false)), (.v (.int .u64 0)), (.v (.int .u64 0)), iv 0] []), oN (.store [0, 0, 0, 0] (.V 4) (.E 42)), oV 5 (.mv (kb false))]) .ret) .skip)) (.seq (.reg [oE 43 (.load true 4 (.V 11)), oN (.store [0, 0, 0, 0] (.V 4) (.E 43)), oV 5 (.mv (kb true))]) .ret))))))

def k_spec_AddFrac_rv : List RV := [.cell [0, 0, 0, 0] 4 true, .tmp [0] 5]

def k_spec_l5Cross_vars : List Nat := [0, 1, 2, 3, 4, 5, 7, 9, 8, 10, 6]

def k_spec_l5Cross_ic : IC := .seq (.reg [oV 2 (.box (.V 0)), oV 3 (.box (.V 1)), oV 4 (.alloc [(.v (.bool false)), (.v (.int .u64 0)), (.v (.int .u64 0))]), oV 5 (.alloc [(.v (.bool false)), (.v (.int .u64 0)), (.v (.int .u64 0))]), oV 6 (.mv (kb false))]) (.seq (.seq (.reg [oE 11 (.load true 4 (.V 2)), oE 12 (.call k_spec_FracOk [([0, 0, 0, 0], (.E 11))]), oE 13 (.un .not (.E 12)), oE 14 (.mv (.E 13)), ⟨(some (.E 15)), .load true 4 (.V 3), some ((.E 14), false)⟩, ⟨(some (.E 16)), .call k_spec_FracOk [([0, 0, 0, 0], (.E 15))], some ((.E 14), false)⟩, ⟨(some (.E 17)), .un .not (.E 16), some ((.E 14), false)⟩, oE 18 (.pick (.E 14) (kb true) (.E 17))]) (.cond (.E 18) (.seq (.reg [oE 19 (.build [(.v (.bool false)), (.v (.int .u64 0)), (.v (.int .u64 0))] []), oE 20 (.build [(.v (.bool false)), (.v (.int .u64 0)), (.v (.int .u64 0))] []), oN (.store [0, 0, 0] (.V 4) (.E 19)), oN (.store [0, 0, 0] (.V 5) (.E 20)), oV 6 (.mv (kb false))]) .ret) .skip)) (.seq (.reg [oE 22 (.faddr 0 (.V 2)), oE 23 (.load true 3 (.E 22)), oE 24 (.faddr 3 (.V 3)), oE 25 (.load false 1 (.E 24)), oE 26 (.call k_spec_ScaleWide [([0, 0, 0], (.E 23)), ([0], (.E 25))]), oE 21 (.mv (.E 26)), oE 27 (.ext 0 (.E 21)), oE 28 (.ext 1 (.E 21)), oV 7 (.alloc [(.v (.bool false)), (.v (.int .u64 0)), (.v (.int .u64 0))]), oN (.store [0, 0, 0] (.V 7) (.E 27)), oV 8 (.mv (.E 28))]) (.seq (.reg [oE 30 (.faddr 0 (.V 3)), oE 31 (.load true 3 (.E 30)), oE 32 (.faddr 3 (.V 2)), oE 33 (.load false 1 (.E 32)), oE 34 (.call k_spec_ScaleWide [([0, 0, 0], (.E 31)), ([0], (.E 33))]), oE 29 (.mv (.E 34)), oE 35 (.ext 0 (.E 29)), oE 36 (.ext 1 (.E 29)), oV 9 (.alloc [(.v (.bool false)), (.v (.int .u64 0)), (.v (.int .u64 0))]), oN (.store [0, 0, 0] (.V 9) (.E 35)), oV 10 (.mv (.E 36))]) (.seq (.regD [(oE 37 (.load true 3 (.V 7)), 0, 0), (oE 38 (.load true 3 (.V 9)), 0, 1), (oE 39 (.mv (.V 8)), 0, 0), (oE 40 (.mv (.E 39)), 0, 0), (⟨(some (.E 41)), .mv (.V 10), some ((.E 40), true)⟩, 0, 0), (oE 42 (.pick (.E 40) (.E 41) (kb false)), 0, 0), (oN (.store [0, 0, 0] (.V 4) (.E 37)), 0, 0), (oN (.store [0, 0, 0] (.V 5) (.E 38)), 0, 0), (oV 6 (.mv (.E 42)), 0, 0)]) .ret))))

def k_spec_l5Cross_rv : List RV := [.cell [0, 0, 0] 4 true, .cell [0, 0, 0] 5 true, .tmp [0] 6]

def k_spec_CompareWide_vars : List Nat := [0, 1, 2, 3, 5, 6, 4]

def k_spec_CompareWide_ic : IC := .seq (.reg [oV 2 (.box (.V 0)), oV 3 (.box (.V 1)), oV 4 (.mv (ki 0))]) (.seq (.reg [oE 7 (.faddr 0 (.V 2)), oE 8 (.load false 1 (.E 7)), oE 9 (.mv (.E 8)), ⟨(some (.E 10)), .load true 3 (.V 2), some ((.E 9), true)⟩, ⟨(some (.E 11)), .call k_spec_l3Zero [([0, 0, 0], (.E 10))], some ((.E 9), true)⟩, ⟨(some (.E 12)), .un .not (.E 11), some ((.E 9), true)⟩, oE 13 (.pick (.E 9) (.E 12) (kb false)), oV 5 (.mv (.E 13))]) (.seq (.reg [oE 14 (.faddr 0 (.V 3)), oE 15 (.load false 1 (.E 14)), oE 16 (.mv (.E 15)), ⟨(some (.E 17)), .load true 3 (.V 3), some ((.E 16), true)⟩, ⟨(some (.E 18)), .call k_spec_l3Zero [([0, 0, 0], (.E 17))], some ((.E 16), true)⟩, ⟨(some (.E 19)), .un .not (.E 18), some ((.E 16), true)⟩, oE 20 (.pick (.E 16) (.E 19) (kb false)), oV 6 (.mv (.E 20))]) (.seq (.block 0 (.seq (.reg [oE 22 (.mv (.V 5)), oE 23 (.mv (.E 22)), ⟨(some (.E 24)), .mv (.V 6), some ((.E 23), true)⟩, ⟨(some (.E 25)), .un .not (.E 24), some ((.E 23), true)⟩, oE 26 (.pick (.E 23) (.E 25) (kb false)), oE 21 (.mv (.E 26))]) (.cond (.E 21) (.seq (.reg [oV 4 (.mv (ki (-1)))]) .ret) (.seq (.reg [oE 28 (.mv (.V 6)), oE 29 (.mv (.E 28)), ⟨(some (.E 30)), .mv (.V 5), some ((.E 29), true)⟩, ⟨(some (.E 31)), .un .not (.E 30), some ((.E 29), true)⟩, oE 32 (.pick (.E 29) (.E 31) (kb false)), oE 27 (.mv (.E 32))]) (.cond (.E 27) (.seq (.reg [oV 4 (.mv (ki 1))]) .ret) (.seq (.reg [oE 34 (.mv (.V 5)), oE 33 (.mv (.E 34))]) (.cond (.E 33) (.seq (.reg [oE 35 (.load true 3 (.V 3)), oE 36 (.load true 3 (.V 2)), oE 37 (.call k_spec_l3Order [([0, 0, 0], (.E 35)), ([0, 0, 0], (.E 36))]), oV 4 (.mv (.E 37))]) .ret) .skip))))))) (.seq (.reg [oE 38 (.load true 3 (.V 2)), oE 39 (.load true 3 (.V 3)), oE 40 (.call k_spec_l3Order [([0, 0, 0], (.E 38)), ([0, 0, 0], (.E 39))]), oV 4 (.mv (.E 40))]) .ret))))

def k_spec_CompareWide_rv : List RV := [.tmp [0] 4]

def k_laws_szIntSS_vars : List Nat := [0, 1, 5, 4]

def k_laws_szIntSS_b0 : IC := .seq (.seq (.reg [oE 12 (.mv (.V 5)), oE 13 (.mv (.V 0)), oE 14 (.len (.E 13)), oE 15 (.bin .lss (.E 12) (.E 14))]) (.cond (.E 15) .skip (.exit 0))) (.seq (.block 1 (.seq (.reg [oE 18 (.mv (.V 0)), oE 19 (.mv (.V 5)), oE 20 (.iaddr 1 (.E 18) (.E 19)), oE 21 (.load false 1 (.E 20)), oE 22 (.mv (.V 1)), oE 23 (.call k_laws_szIntS [([1], (.E 21)), ([0], (.E 22))]), oV 1 (.mv (.E 23))]) (.seq (.reg [oE 24 (.mv (.V 1)), oE 25 (.bin .lss (.E 24) (ki 0))]) (.cond (.E 25) (.seq (.reg [oV 4 (.mv (ki (-1)))]) .ret) .skip)))) (.reg [oE 16 (.mv (.V 5)), oE 17 (.bin .add (.E 16) (ki 1)), oV 5 (.mv (.E 17))]))

def k_laws_szIntSS_ic : IC := .seq (.reg [oV 4 (.mv (ki 0))]) (.seq (.reg [oE 6 (.mv (.V 1)), oE 7 (.mv (.V 0)), oE 8 (.len (.E 7)), oE 9 (.bin .sub (.E 6) (.E 8)), oV 1 (.mv (.E 9))]) (.seq (.seq (.reg [oE 10 (.mv (.V 1)), oE 11 (.bin .lss (.E 10) (ki 0))]) (.cond (.E 11) (.seq (.reg [oV 4 (.mv (ki (-1)))]) .ret) .skip)) (.seq (.seq (.reg [oV 5 (.mv (ki 0))]) (.block 0 (.loop k_laws_szIntSS_b0))) (.seq (.reg [oE 26 (.mv (.V 1)), oV 4 (.mv (.E 26))]) .ret))))

def k_laws_szIntSS_rv : List RV := [.tmp [0] 4]

def k_laws_szIntS_vars : List Nat := [0, 1, 4]

def k_laws_szIntS_ic : IC := .seq (.reg [oV 4 (.mv (ki 0))]) (.seq (.reg [oE 5 (.mv (.V 1)), oE 6 (.mv (.V 0)), oE 7 (.len (.E 6)), oE 8 (.bin .sub (.E 5) (.E 7)), oV 1 (.mv (.E 8))]) (.seq (.seq (.reg [oE 9 (.mv (.V 1)), oE 10 (.bin .lss (.E 9) (ki 0))]) (.cond (.E 10) (.seq (.reg [oV 4 (.mv (ki (-1)))]) .ret) .skip)) (.seq (.reg [oE 11 (.mv (.V 1)), oV 4 (.mv (.E 11))]) .ret)))

def k_laws_szIntS_rv : List RV := [.tmp [0] 4]

def k_laws_toIntSS_vars : List Nat := [0, 4, 3, 2]

def k_laws_toIntSS_b0 : IC := .seq (.seq (.reg [oE 8 (.mv (.V 4)), oE 9 (.mv (.V 0)), oE 10 (.len (.E 9)), oE 11 (.bin .lss (.E 8) (.E 10))]) (.cond (.E 11) .skip (.exit 0))) (.seq (.block 1 (.reg [oE 14 (.mv (.V 3)), oE 15 (.mv (.V 4)), oE 16 (.mv (.V 0)), oE 17 (.mv (.V 4)), oE 18 (.iaddr 1 (.E 16) (.E 17)), oE 19 (.load false 1 (.E 18)), oE 20 (.call k_laws_toIntS [([1], (.E 19))]), oE 21 (.iaddr 1 (.E 14) (.E 15)), oN (.store [1] (.E 21) (.E 20))])) (.reg [oE 12 (.mv (.V 4)), oE 13 (.bin .add (.E 12) (ki 1)), oV 4 (.mv (.E 13))]))

def k_laws_toIntSS_ic : IC := .seq (.reg [oV 2 (.mv (.C .e0))]) (.seq (.reg [oE 5 (.mv (.V 0)), oE 6 (.len (.E 5)), oE 7 (.mksl 24 1 [(.own 1 [])] (.E 6) (.E 6)), oV 3 (.mv (.E 7))]) (.seq (.seq (.reg [oV 4 (.mv (ki 0))]) (.block 0 (.loop k_laws_toIntSS_b0))) (.seq (.reg [oE 22 (.mv (.V 3)), oV 2 (.mv (.E 22))]) .ret)))

def k_laws_toIntSS_rv : List RV := [.tmp [1] 2]

def k_laws_eqIntSS_vars : List Nat := [0, 1, 5, 4]

def k_laws_eqIntSS_b0 : IC := .seq (.seq (.reg [oE 11 (.mv (.V 5)), oE 12 (.mv (.V 0)), oE 13 (.len (.E 12)), oE 14 (.bin .lss (.E 11) (.E 13))]) (.cond (.E 14) .skip (.exit 0))) (.seq (.block 1 (.seq (.regD [(oE 17 (.mv (.V 0)), 0, 0), (oE 18 (.mv (.V 5)), 0, 0), (oE 19 (.iaddr 1 (.E 17) (.E 18)), 0, 0), (oE 20 (.load false 1 (.E 19)), 0, 0), (oE 21 (.mv (.V 1)), 0, 0), (oE 22 (.mv (.V 5)), 0, 0), (oE 23 (.iaddr 1 (.E 21) (.E 22)), 0, 0), (oE 24 (.load false 1 (.E 23)), 0, 0), (oE 25 (.call k_laws_eqIntS [([1], (.E 20)), ([1], (.E 24))]), 0, 0), (oE 26 (.un .not (.E 25)), 0, 0)]) (.cond (.E 26) (.seq (.reg [oV 4 (.mv (kb false))]) .ret) .skip))) (.reg [oE 15 (.mv (.V 5)), oE 16 (.bin .add (.E 15) (ki 1)), oV 5 (.mv (.E 16))]))

def k_laws_eqIntSS_ic : IC := .seq (.reg [oV 4 (.mv (kb false))]) (.seq (.seq (.reg [oE 6 (.mv (.V 0)), oE 7 (.len (.E 6)), oE 8 (.mv (.V 1)), oE 9 (.len (.E 8)), oE 10 (.bin .neq (.E 7) (.E 9))]) (.cond (.E 10) (.seq (.reg [oV 4 (.mv (kb false))]) .ret) .skip)) (.seq (.seq (.reg [oV 5 (.mv (ki 0))]) (.block 0 (.loop k_laws_eqIntSS_b0))) (.seq (.reg [oV 4 (.mv (kb true))]) .ret)))

def k_laws_eqIntSS_rv : List RV := [.tmp [0] 4]

def k_laws_markIntSS_vars : List Nat := [0, 1, 5, 4]

def k_laws_markIntSS_b0 : IC := .seq (.seq (.reg [oE 6 (.mv (.V 5)), oE 7 (.mv (.V 0)), oE 8 (.len (.E 7)), oE 9 (.bin .lss (.E 6) (.E 8))]) (.cond (.E 9) .skip (.exit 0))) (.seq (.block 1 (.reg [oE 12 (.mv (.V 0)), oE 13 (.mv (.V 5)), oE 14 (.iaddr 1 (.E 12) (.E 13)), oE 15 (.load false 1 (.E 14)), oE 16 (.mv (.V 1)), oE 17 (.call k_laws_markIntS [([1], (.E 15)), ([0], (.E 16))]), oV 1 (.mv (.E 17))])) (.reg [oE 10 (.mv (.V 5)), oE 11 (.bin .add (.E 10) (ki 1)), oV 5 (.mv (.E 11))]))

def k_laws_markIntSS_ic : IC := .seq (.reg [oV 4 (.mv (ki 0))]) (.seq (.seq (.reg [oV 5 (.mv (ki 0))]) (.block 0 (.loop k_laws_markIntSS_b0))) (.seq (.reg [oE 18 (.mv (.V 1)), oV 4 (.mv (.E 18))]) .ret))

def k_laws_markIntSS_rv : List RV := [.tmp [0] 4]

def k_spec_TaskOk_vars : List Nat := [0, 1, 2, 3, 5, 7, 6]

def k_spec_TaskOk_b0 : IC := .seq (.seq (.reg [oE 23 (.mv (.V 7)), oE 24 (.mv (.V 1)), oE 25 (.len (.E 24)), oE 26 (.bin .lss (.E 23) (.E 25))]) (.cond (.E 26) .skip (.exit 0))) (.seq (.block 1 (.seq (.reg [oE 29 (.mv (.V 1)), oE 30 (.mv (.V 7)), oE 31 (.iaddr 1 (.E 29) (.E 30)), oE 32 (.load false 1 (.E 31)), oE 33 (.call k_spec_l1In [([0], (.E 32)), ([0], (ki (-2199023255552))), ([0], (ki 2199023255552))]), oE 34 (.un .not (.E 33))]) (.cond (.E 34) (.seq (.reg [oV 6 (.mv (kb false))]) .ret) .skip))) (.reg [oE 27 (.mv (.V 7)), oE 28 (.bin .add (.E 27) (ki 1)), oV 7 (.mv (.E 28))]))

def k_spec_TaskOk_ic : IC := .seq (.reg [oV 3 (.box (.V 0)), oV 5 (.box (.V 2)), oV 6 (.mv (kb false))]) (.seq (.seq (.reg [oE 8 (.load true 2 (.V 3)), oE 9 (.call k_spec_GridOk [([1, 1], (.E 8))]), oE 10 (.un .not (.E 9)), oE 11 (.mv (.E 10)), ⟨(some (.E 12)), .load true 8 (.V 5), some ((.E 11), false)⟩, ⟨(some (.E 13)), .call k_spec_ConfigOk [([0, 0, 0, 0, 0, 0, 0, 1], (.E 12))], some ((.E 11), false)⟩, ⟨(some (.E 14)), .un .not (.E 13), some ((.E 11), false)⟩, oE 15 (.pick (.E 11) (kb true) (.E 14)), oE 16 (.mv (.E 15)), ⟨(some (.E 17)), .mv (.V 1), some ((.E 16), false)⟩, ⟨(some (.E 18)), .len (.E 17), some ((.E 16), false)⟩, ⟨(some (.E 19)), .load true 2 (.V 3), some ((.E 16), false)⟩, ⟨(some (.E 20)), .call k_spec_RowsIn [([1, 1], (.E 19))], some ((.E 16), false)⟩, ⟨(some (.E 21)), .bin .neq (.E 18) (.E 20), some ((.E 16), false)⟩, oE 22 (.pick (.E 16) (kb true) (.E 21))]) (.cond (.E 22) (.seq (.reg [oV 6 (.mv (kb false))]) .ret) .skip)) (.seq (.seq (.reg [oV 7 (.mv (ki 0))]) (.block 0 (.loop k_spec_TaskOk_b0))) (.seq (.reg [oV 6 (.mv (kb true))]) .ret)))

def k_spec_TaskOk_rv : List RV := [.tmp [0] 6]

def k_spec_AllRows_vars : List Nat := [0, 4, 3, 2]

def k_spec_AllRows_b0 : IC := .seq (.seq (.reg [oE 6 (.mv (.V 4)), oE 7 (.mv (.V 0)), oE 8 (.bin .lss (.E 6) (.E 7)), oE 9 (.mv (.E 8)), ⟨(some (.E 10)), .mv (.V 0), some ((.E 9), true)⟩, ⟨(some (.E 11)), .bin .leq (.E 10) (ki 40), some ((.E 9), true)⟩, oE 12 (.pick (.E 9) (.E 11) (kb false))]) (.cond (.E 12) .skip (.exit 0))) (.seq (.block 1 (.reg [oE 15 (.mv (.V 3)), oE 16 (.mv (.V 4)), oE 17 (.bslice 1 1 [iv 0] [(0, (.E 16))]), oE 18 (.app 8 1 (.E 15) (.E 17)), oV 3 (.mv (.E 18))])) (.reg [oE 13 (.mv (.V 4)), oE 14 (.bin .add (.E 13) (ki 1)), oV 4 (.mv (.E 14))]))

def k_spec_AllRows_ic : IC := .seq (.reg [oV 2 (.mv (.C .e0))]) (.seq (.reg [oE 5 (.bslice 0 1 [iv 0] []), oV 3 (.mv (.E 5))]) (.seq (.seq (.reg [oV 4 (.mv (ki 0))]) (.block 0 (.loop k_spec_AllRows_b0))) (.seq (.reg [oE 19 (.mv (.V 3)), oV 2 (.mv (.E 19))]) .ret)))

def k_spec_AllRows_rv : List RV := [.tmp [1] 2]

def k_spec_Free_vars : List Nat := [0]

def k_spec_Free_ic : IC := .seq (.reg [oV 0 (.alloc [iv 0, iv 0])]) (.seq (.reg [oE 1 (.build [iv 0, iv 0] [(0, 1, (ki (-1099511627776))), (1, 1, (ki 1099511627776))]), oN (.store [0, 0] (.V 0) (.E 1))]) .ret)

def k_spec_Free_rv : List RV := [.cell [0, 0] 0 true]

def k_impl_TaskOk_vars : List Nat := [0, 1, 2, 3, 5, 6]

def k_impl_TaskOk_ic : IC := .seq (.reg [oV 3 (.box (.V 0)), oV 5 (.box (.V 2)), oV 6 (.mv (kb false))]) (.seq (.reg [oE 7 (.load true 2 (.V 3)), oE 8 (.call k_impl_GridOk [([1, 1], (.E 7))]), oE 9 (.mv (.E 8)), ⟨(some (.E 10)), .load true 8 (.V 5), some ((.E 9), true)⟩, ⟨(some (.E 11)), .call k_impl_ConfigOk [([0, 0, 0, 0, 0, 0, 0, 1], (.E 10))], some ((.E 9), true)⟩, oE 12 (.pick (.E 9) (.E 11) (kb false)), oE 13 (.mv (.E 12)), ⟨(some (.E 14)), .mv (.V 1), some ((.E 13), true)⟩, ⟨(some (.E 15)), .len (.E 14), some ((.E 13), true)⟩, ⟨(some (.E 16)), .load true 2 (.V 3), some ((.E 13), true)⟩, ⟨(some (.E 17)), .call k_impl_RowsIn [([1, 1], (.E 16))], some ((.E 13), true)⟩, ⟨(some (.E 18)), .bin .eql (.E 15) (.E 17), some ((.E 13), true)⟩, oE 19 (.pick (.E 13) (.E 18) (kb false)), oE 20 (.mv (.E 19)), ⟨(some (.E 21)), .mv (.V 1), some ((.E 20), true)⟩, ⟨(some (.E 22)), .call k_slices_ContainsFunc___int_int_ [([1], (.E 21)), ([0], (.C (.fn k_impl_TaskOk_1 [])))], some ((.E 20), true)⟩, ⟨(some (.E 23)), .un .not (.E 22), some ((.E 20), true)⟩, oE 24 (.pick (.E 20) (.E 23) (kb false)), oV 6 (.mv (.E 24))]) .ret)

def k_impl_TaskOk_rv : List RV := [.tmp [0] 6]

def k_impl_AllRows_vars : List Nat := [0, 3, 11, 10, 4, 2]

def k_impl_AllRows_b0 : IC := .seq (.reg [oE 12 (.bin .lss (.V 11) (.V 10))]) (.seq (.cond (.E 12) .skip (.exit 0)) (.seq (.block 1 (.seq (.reg [oE 13 (.mv (.V 11)), oV 4 (.mv (.E 13))]) (.reg [oE 14 (.mv (.V 3)), oE 15 (.mv (.V 4)), oE 16 (.bslice 1 1 [iv 0] [(0, (.E 15))]), oE 17 (.app 8 1 (.E 14) (.E 16)), oV 3 (.mv (.E 17))]))) (.reg [oE 18 (.bin .add (.V 11) (ki 1)), oV 11 (.mv (.E 18))])))

def k_impl_AllRows_ic : IC := .seq (.reg [oV 2 (.mv (.C .e0))]) (.seq (.reg [oE 5 (.bslice 0 1 [iv 0] []), oV 3 (.mv (.E 5))]) (.seq (.seq (.reg [oE 6 (.mv (.V 0)), oE 7 (.call k_impl_within [([0], (.E 6)), ([0], (ki 1)), ([0], (ki 40))]), oE 8 (.un .not (.E 7))]) (.cond (.E 8) (.seq (.reg [oE 9 (.mv (.V 3)), oV 2 (.mv (.E 9))]) .ret) .skip)) (.seq (.seq (.reg [oV 10 (.mv (.V 0)), oV 11 (.mv (ki 0))]) (.block 0 (.loop k_impl_AllRows_b0))) (.seq (.reg [oE 19 (.mv (.V 3)), oV 2 (.mv (.E 19))]) .ret))))

def k_impl_AllRows_rv : List RV := [.tmp [1] 2]

def k_impl_RowsIn_vars : List Nat := [0, 1, 2]

def k_impl_RowsIn_ic : IC := .seq (.reg [oV 1 (.box (.V 0)), oV 2 (.mv (ki 0))]) (.seq (.seq (.reg [oE 3 (.faddr 1 (.V 1)), oE 4 (.load false 1 (.E 3)), oE 5 (.len (.E 4)), oE 6 (.bin .eql (.E 5) (ki 0))]) (.cond (.E 6) (.seq (.reg [oV 2 (.mv (ki 0))]) .ret) .skip)) (.seq (.reg [oE 7 (.faddr 1 (.V 1)), oE 8 (.load false 1 (.E 7)), oE 9 (.iaddr 1 (.E 8) (ki 0)), oE 10 (.load false 1 (.E 9)), oE 11 (.len (.E 10)), oV 2 (.mv (.E 11))]) .ret))

def k_impl_RowsIn_rv : List RV := [.tmp [0] 2]

def k_impl_Free_vars : List Nat := [0]

def k_impl_Free_ic : IC := .seq (.reg [oV 0 (.alloc [iv 0, iv 0])]) (.seq (.reg [oE 1 (.build [iv 0, iv 0] [(0, 1, (ki (-1099511627776))), (1, 1, (ki 1099511627776))]), oN (.store [0, 0] (.V 0) (.E 1))]) .ret)

def k_impl_Free_rv : List RV := [.cell [0, 0] 0 true]

def k_spec_NodeHists_vars : List Nat := [0, 1, 2, 3, 8, 9, 11, 10, 6, 7]

def k_spec_NodeHists_b0 : IC := .seq (.seq (.reg [oE 17 (.mv (.V 9)), oE 18 (.faddr 0 (.V 3)), oE 19 (.load false 1 (.E 18)), oE 20 (.len (.E 19)), oE 21 (.bin .lss (.E 17) (.E 20))]) (.cond (.E 21) .skip (.exit 0))) (.seq (.block 1 (.seq (.regD [(oE 25 (.faddr 1 (.V 3)), 0, 0), (oE 26 (.load false 1 (.E 25)), 0, 0), (oE 27 (.mv (.V 9)), 0, 0), (oE 28 (.iaddr 1 (.E 26) (.E 27)), 0, 0), (oE 29 (.load false 1 (.E 28)), 0, 0), (oE 30 (.mv (.V 1)), 0, 0), (oE 31 (.mv (.V 2)), 0, 0), (oE 32 (.faddr 0 (.V 3)), 0, 0), (oE 33 (.load false 1 (.E 32)), 0, 0), (oE 34 (.mv (.V 9)), 0, 0), (oE 35 (.iaddr 1 (.E 33) (.E 34)), 0, 0), (oE 36 (.load false 1 (.E 35)), 0, 0), (oE 37 (.len (.E 36)), 0, 0), (oE 38 (.bin .add (.E 37) (ki 1)), 0, 0), (oE 39 (.call k_spec_HistOf [([1], (.E 29)), ([1], (.E 30)), ([1], (.E 31)), ([0], (.E 38))]), 0, 0), (oE 24 (.mv (.E 39)), 0, 0), (oE 40 (.ext 0 (.E 24)), 0, 0), (oE 41 (.ext 1 (.E 24)), 0, 0), (oV 10 (.mv (.E 40)), 0, 0), (oV 11 (.mv (.E 41)), 0, 0)]) (.seq (.seq (.reg [oE 42 (.mv (.V 11)), oE 43 (.un .not (.E 42))]) (.cond (.E 43) (.seq (.reg [oE 44 (.bslice 0 1 [(.own 2 [])] []), oV 6 (.mv (.E 44)), oV 7 (.mv (kb false))]) .ret) .skip)) (.reg [oE 45 (.mv (.V 8)), oE 46 (.mv (.V 10)), oE 47 (.bslice 1 1 [(.own 2 [])] [(0, (.E 46))]), oE 48 (.app 24 1 (.E 45) (.E 47)), oV 8 (.mv (.E 48))])))) (.reg [oE 22 (.mv (.V 9)), oE 23 (.bin .add (.E 22) (ki 1)), oV 9 (.mv (.E 23))]))

def k_spec_NodeHists_ic : IC := .seq (.reg [oV 3 (.box (.V 0)), oV 6 (.mv (.C .e0)), oV 7 (.mv (kb false))]) (.seq (.reg [oE 12 (.bslice 0 1 [(.own 2 [])] []), oV 8 (.mv (.E 12))]) (.seq (.seq (.reg [oE 13 (.load true 2 (.V 3)), oE 14 (.call k_spec_GridOk [([1, 1], (.E 13))]), oE 15 (.un .not (.E 14))]) (.cond (.E 15) (.seq (.reg [oE 16 (.mv (.V 8)), oV 6 (.mv (.E 16)), oV 7 (.mv (kb false))]) .ret) .skip)) (.seq (.seq (.reg [oV 9 (.mv (ki 0))]) (.block 0 (.loop k_spec_NodeHists_b0))) (.seq (.reg [oE 49 (.mv (.V 8)), oV 6 (.mv (.E 49)), oV 7 (.mv (kb true))]) .ret))))

def k_spec_NodeHists_rv : List RV := [.tmp [1] 6, .tmp [0] 7]

def k_spec_CandsOf_vars : List Nat := [0, 1, 6, 8, 9, 7, 10, 12, 14, 11, 5, 13, 4]

def k_spec_CandsOf_b0 : IC := .seq (.seq (.reg [oE 33 (.mv (.V 9)), oE 34 (.bin .add (.E 33) (ki 1)), oE 35 (.mv (.V 7)), oE 36 (.len (.E 35)), oE 37 (.bin .lss (.E 34) (.E 36))]) (.cond (.E 37) .skip (.exit 2))) (.seq (.block 3 (.seq (.reg [oE 40 (.mv (.V 7)), oE 41 (.mv (.V 7)), oE 42 (.len (.E 41)), oE 43 (.bin .sub (.E 42) (ki 1)), oE 44 (.iaddr 2 (.E 40) (.E 43)), oE 45 (.load true 2 (.E 44)), oV 10 (.alloc [iv 0, iv 0]), oN (.store [0, 0] (.V 10) (.E 45))]) (.seq (.regD [(oE 47 (.faddr 0 (.V 10)), 0, 0), (oE 48 (.load false 1 (.E 47)), 0, 0), (oE 49 (.mv (.V 7)), 0, 0), (oE 50 (.mv (.V 9)), 0, 0), (oE 51 (.iaddr 2 (.E 49) (.E 50)), 0, 0), (oE 52 (.faddr 0 (.E 51)), 0, 0), (oE 53 (.load false 1 (.E 52)), 0, 0), (oE 54 (.call k_spec_SubInt [([0], (.E 48)), ([0], (.E 53))]), 0, 0), (oE 46 (.mv (.E 54)), 0, 0), (oE 55 (.ext 0 (.E 46)), 0, 0), (oE 56 (.ext 1 (.E 46)), 0, 0), (oV 11 (.mv (.E 55)), 0, 0), (oV 12 (.mv (.E 56)), 0, 0)]) (.seq (.regD [(oE 58 (.faddr 1 (.V 10)), 0, 0), (oE 59 (.load false 1 (.E 58)), 0, 0), (oE 60 (.mv (.V 7)), 0, 0), (oE 61 (.mv (.V 9)), 0, 0), (oE 62 (.iaddr 2 (.E 60) (.E 61)), 0, 0), (oE 63 (.faddr 1 (.E 62)), 0, 0), (oE 64 (.load false 1 (.E 63)), 0, 0), (oE 65 (.call k_spec_SubInt [([0], (.E 59)), ([0], (.E 64))]), 0, 0), (oE 57 (.mv (.E 65)), 0, 0), (oE 66 (.ext 0 (.E 57)), 0, 0), (oE 67 (.ext 1 (.E 57)), 0, 0), (oV 13 (.mv (.E 66)), 0, 0), (oV 14 (.mv (.E 67)), 0, 0)]) (.seq (.seq (.reg [oE 68 (.mv (.V 12)), oE 69 (.un .not (.E 68)), oE 70 (.mv (.E 69)), ⟨(some (.E 71)), .mv (.V 14), some ((.E 70), false)⟩, ⟨(some (.E 72)), .un .not (.E 71), some ((.E 70), false)⟩, oE 73 (.pick (.E 70) (kb true) (.E 72))]) (.cond (.E 73) (.seq (.reg [oE 74 (.bslice 0 6 [iv 0, iv 0, iv 0, iv 0, iv 0, iv 0] []), oV 4 (.mv (.E 74))]) .ret) .skip)) (.seq (.reg [oE 75 (.mv (.V 7)), oE 76 (.mv (.V 9)), oE 77 (.iaddr 2 (.E 75) (.E 76)), oE 78 (.faddr 0 (.E 77)), oE 79 (.load false 1 (.E 78)), oE 80 (.mv (.V 1)), oE 81 (.bin .geq (.E 79) (.E 80)), oE 82 (.mv (.E 81)), ⟨(some (.E 83)), .mv (.V 11), some ((.E 82), true)⟩, ⟨(some (.E 84)), .mv (.V 1), some ((.E 82), true)⟩, ⟨(some (.E 85)), .bin .geq (.E 83) (.E 84), some ((.E 82), true)⟩, oE 86 (.pick (.E 82) (.E 85) (kb false))]) (.cond (.E 86) (.reg [oE 87 (.mv (.V 5)), oE 88 (.mv (.V 6)), oE 89 (.mv (.V 9)), oE 90 (.mv (.V 7)), oE 91 (.mv (.V 9)), oE 92 (.iaddr 2 (.E 90) (.E 91)), oE 93 (.load true 2 (.E 92)), oE 94 (.mv (.V 11)), oE 95 (.mv (.V 13)), oE 96 (.build [iv 0, iv 0] [(0, 1, (.E 94)), (1, 1, (.E 95))]), oE 97 (.build [iv 0, iv 0, iv 0, iv 0, iv 0, iv 0] [(0, 1, (.E 88)), (1, 1, (.E 89)), (2, 2, (.E 93)), (4, 2, (.E 96))]), oE 98 (.bslice 1 6 [iv 0, iv 0, iv 0, iv 0, iv 0, iv 0] [(0, (.E 97))]), oE 99 (.app 48 6 (.E 87) (.E 98)), oV 5 (.mv (.E 99))]) .skip))))))) (.reg [oE 38 (.mv (.V 9)), oE 39 (.bin .add (.E 38) (ki 1)), oV 9 (.mv (.E 39))]))

def k_spec_CandsOf_b1 : IC := .seq (.seq (.reg [oE 16 (.mv (.V 6)), oE 17 (.mv (.V 0)), oE 18 (.len (.E 17)), oE 19 (.bin .lss (.E 16) (.E 18))]) (.cond (.E 19) .skip (.exit 0))) (.seq (.block 1 (.seq (.reg [oE 23 (.mv (.V 0)), oE 24 (.mv (.V 6)), oE 25 (.iaddr 1 (.E 23) (.E 24)), oE 26 (.load false 1 (.E 25)), oE 27 (.call k_spec_Prefix [([2], (.E 26))]), oE 22 (.mv (.E 27)), oE 28 (.ext 0 (.E 22)), oE 29 (.ext 1 (.E 22)), oV 7 (.mv (.E 28)), oV 8 (.mv (.E 29))]) (.seq (.seq (.reg [oE 30 (.mv (.V 8)), oE 31 (.un .not (.E 30))]) (.cond (.E 31) (.seq (.reg [oE 32 (.bslice 0 6 [iv 0, iv 0, iv 0, iv 0, iv 0, iv 0] []), oV 4 (.mv (.E 32))]) .ret) .skip)) (.seq (.reg [oV 9 (.mv (ki 0))]) (.block 2 (.loop k_spec_CandsOf_b0)))))) (.reg [oE 20 (.mv (.V 6)), oE 21 (.bin .add (.E 20) (ki 1)), oV 6 (.mv (.E 21))]))

def k_spec_CandsOf_ic : IC := .seq (.reg [oV 4 (.mv (.C .e0))]) (.seq (.reg [oE 15 (.bslice 0 6 [iv 0, iv 0, iv 0, iv 0, iv 0, iv 0] []), oV 5 (.mv (.E 15))]) (.seq (.seq (.reg [oV 6 (.mv (ki 0))]) (.block 0 (.loop k_spec_CandsOf_b1))) (.seq (.reg [oE 100 (.mv (.V 5)), oV 4 (.mv (.E 100))]) .ret)))

def k_spec_CandsOf_rv : List RV := [.tmp [6] 4]

def k_impl_NodeHists_vars : List Nat := [0, 1, 2, 3, 20, 19, 18, 9, 10, 12, 8, 11, 6, 7]

def k_impl_NodeHists_b0 : IC := .seq (.reg [oE 21 (.bin .lss (.V 20) (.V 19))]) (.seq (.cond (.E 21) .skip (.exit 0)) (.seq (.block 1 (.seq (.reg [oE 22 (.mv (.V 20)), oE 23 (.iaddr 1 (.V 18) (.V 20)), oE 24 (.load false 1 (.E 23)), oV 9 (.mv (.E 22)), oV 10 (.mv (.E 24))]) (.seq (.reg [oE 26 (.faddr 1 (.V 3)), oE 27 (.load false 1 (.E 26)), oE 28 (.mv (.V 9)), oE 29 (.iaddr 1 (.E 27) (.E 28)), oE 30 (.load false 1 (.E 29)), oE 31 (.mv (.V 1)), oE 32 (.mv (.V 2)), oE 33 (.mv (.V 10)), oE 34 (.len (.E 33)), oE 35 (.bin .add (.E 34) (ki 1)), oE 36 (.call k_impl_HistOf [([1], (.E 30)), ([1], (.E 31)), ([1], (.E 32)), ([0], (.E 35))]), oE 25 (.mv (.E 36)), oE 37 (.ext 0 (.E 25)), oE 38 (.ext 1 (.E 25)), oV 11 (.mv (.E 37)), oV 12 (.mv (.E 38))]) (.seq (.seq (.reg [oE 39 (.mv (.V 12)), oE 40 (.un .not (.E 39))]) (.cond (.E 40) (.seq (.reg [oV 6 (.mv (.C .e0)), oV 7 (.mv (kb false))]) .ret) .skip)) (.reg [oE 41 (.mv (.V 8)), oE 42 (.mv (.V 11)), oE 43 (.bslice 1 1 [(.own 2 [])] [(0, (.E 42))]), oE 44 (.app 24 1 (.E 41) (.E 43)), oV 8 (.mv (.E 44))]))))) (.reg [oE 45 (.bin .add (.V 20) (ki 1)), oV 20 (.mv (.E 45))])))

def k_impl_NodeHists_ic : IC := .seq (.reg [oV 3 (.box (.V 0)), oV 6 (.mv (.C .e0)), oV 7 (.mv (kb false))]) (.seq (.seq (.reg [oE 13 (.load true 2 (.V 3)), oE 14 (.call k_impl_GridOk [([1, 1], (.E 13))]), oE 15 (.un .not (.E 14))]) (.cond (.E 15) (.seq (.reg [oV 6 (.mv (.C .e0)), oV 7 (.mv (kb false))]) .ret) .skip)) (.seq (.reg [oE 16 (.bslice 0 1 [(.own 2 [])] []), oV 8 (.mv (.E 16))]) (.seq (.seq (.reg [oE 17 (.faddr 0 (.V 3)), oV 18 (.load false 1 (.E 17)), oV 19 (.len (.V 18)), oV 20 (.mv (ki 0))]) (.block 0 (.loop k_impl_NodeHists_b0))) (.seq (.reg [oE 46 (.mv (.V 8)), oV 6 (.mv (.E 46)), oV 7 (.mv (kb true))]) .ret))))

def k_impl_NodeHists_rv : List RV := [.tmp [1] 6, .tmp [0] 7]

def k_impl_CandsOf_vars : List Nat := [0, 1, 16, 15, 14, 7, 9, 10, 8, 12, 11, 5, 6, 4]

def k_impl_CandsOf_b0 : IC := .seq (.seq (.reg [oE 28 (.mv (.V 10)), oE 29 (.mv (.V 8)), oE 30 (.len (.E 29)), oE 31 (.bin .sub (.E 30) (ki 1)), oE 32 (.bin .lss (.E 28) (.E 31))]) (.cond (.E 32) .skip (.exit 2))) (.seq (.block 3 (.seq (.regD [(oE 36 (.mv (.V 8)), 0, 0), (oE 37 (.mv (.V 8)), 0, 0), (oE 38 (.len (.E 37)), 0, 0), (oE 39 (.bin .sub (.E 38) (ki 1)), 0, 0), (oE 40 (.iaddr 2 (.E 36) (.E 39)), 0, 0), (oE 41 (.load true 2 (.E 40)), 0, 0), (oE 42 (.mv (.V 8)), 0, 0), (oE 43 (.mv (.V 10)), 0, 0), (oE 44 (.iaddr 2 (.E 42) (.E 43)), 0, 0), (oE 45 (.load true 2 (.E 44)), 0, 0), (oE 46 (.call k__impl_Slot__minus [([0, 0], (.E 41)), ([0, 0], (.E 45))]), 0, 0), (oE 35 (.mv (.E 46)), 0, 0), (oE 47 (.ext 0 (.E 35)), 0, 0), (oE 48 (.ext 1 (.E 35)), 0, 0), (oV 11 (.allocL [iv 0, iv 0]), 0, 0), (oN (.store [0, 0] (.V 11) (.E 47)), 0, 0), (oV 12 (.mv (.E 48)), 0, 0)]) (.seq (.seq (.reg [oE 49 (.mv (.V 12)), oE 50 (.un .not (.E 49))]) (.cond (.E 50) (.seq (.reg [oV 4 (.mv (.C .e0))]) .ret) .skip)) (.seq (.reg [oE 51 (.mv (.V 8)), oE 52 (.mv (.V 10)), oE 53 (.iaddr 2 (.E 51) (.E 52)), oE 54 (.faddr 0 (.E 53)), oE 55 (.load false 1 (.E 54)), oE 56 (.mv (.V 1)), oE 57 (.bin .geq (.E 55) (.E 56)), oE 58 (.mv (.E 57)), ⟨(some (.E 59)), .faddr 0 (.V 11), some ((.E 58), true)⟩, ⟨(some (.E 60)), .load false 1 (.E 59), some ((.E 58), true)⟩, ⟨(some (.E 61)), .mv (.V 1), some ((.E 58), true)⟩, ⟨(some (.E 62)), .bin .geq (.E 60) (.E 61), some ((.E 58), true)⟩, oE 63 (.pick (.E 58) (.E 62) (kb false))]) (.cond (.E 63) (.regD [(oE 64 (.mv (.V 5)), 0, 0), (oE 65 (.mv (.V 6)), 0, 0), (oE 66 (.mv (.V 10)), 0, 0), (oE 67 (.mv (.V 8)), 0, 0), (oE 68 (.mv (.V 10)), 0, 0), (oE 69 (.iaddr 2 (.E 67) (.E 68)), 0, 0), (oE 70 (.load true 2 (.E 69)), 0, 0), (oE 71 (.load true 2 (.V 11)), 0, 0), (oE 72 (.build [iv 0, iv 0, iv 0, iv 0, iv 0, iv 0] [(0, 1, (.E 65)), (1, 1, (.E 66)), (2, 2, (.E 70)), (4, 2, (.E 71))]), 0, 0), (oE 73 (.bslice 1 6 [iv 0, iv 0, iv 0, iv 0, iv 0, iv 0] [(0, (.E 72))]), 0, 0), (oE 74 (.app 48 6 (.E 64) (.E 73)), 0, 0), (oV 5 (.mv (.E 74)), 0, 0)]) .skip))))) (.reg [oE 33 (.mv (.V 10)), oE 34 (.bin .add (.E 33) (ki 1)), oV 10 (.mv (.E 34))]))

def k_impl_CandsOf_b1 : IC := .seq (.reg [oE 17 (.bin .lss (.V 16) (.V 15))]) (.seq (.cond (.E 17) .skip (.exit 0)) (.seq (.block 1 (.seq (.reg [oE 18 (.mv (.V 16)), oE 19 (.iaddr 1 (.V 14) (.V 16)), oE 20 (.load false 1 (.E 19)), oV 6 (.mv (.E 18)), oV 7 (.mv (.E 20))]) (.seq (.reg [oE 22 (.mv (.V 7)), oE 23 (.call k_impl_Prefix [([2], (.E 22))]), oE 21 (.mv (.E 23)), oE 24 (.ext 0 (.E 21)), oE 25 (.ext 1 (.E 21)), oV 8 (.mv (.E 24)), oV 9 (.mv (.E 25))]) (.seq (.seq (.reg [oE 26 (.mv (.V 9)), oE 27 (.un .not (.E 26))]) (.cond (.E 27) (.seq (.reg [oV 4 (.mv (.C .e0))]) .ret) .skip)) (.seq (.reg [oV 10 (.mv (ki 0))]) (.block 2 (.loop k_impl_CandsOf_b0))))))) (.reg [oE 75 (.bin .add (.V 16) (ki 1)), oV 16 (.mv (.E 75))])))

def k_impl_CandsOf_ic : IC := .seq (.reg [oV 4 (.mv (.C .e0))]) (.seq (.reg [oE 13 (.bslice 0 6 [iv 0, iv 0, iv 0, iv 0, iv 0, iv 0] []), oV 5 (.mv (.E 13))]) (.seq (.seq (.reg [oV 14 (.mv (.V 0)), oV 15 (.len (.V 14)), oV 16 (.mv (ki 0))]) (.block 0 (.loop k_impl_CandsOf_b1))) (.seq (.reg [oE 76 (.mv (.V 5)), oV 4 (.mv (.E 76))]) .ret)))

def k_impl_CandsOf_rv : List RV := [.tmp [6] 4]

def k_spec_l1In_vars : List Nat := [0, 1, 2, 6]

def k_spec_l1In_ic : IC := .seq (.reg [oV 6 (.mv (kb false))]) (.seq (.reg [oE 7 (.mv (.V 0)), oE 8 (.mv (.V 1)), oE 9 (.bin .geq (.E 7) (.E 8)), oE 10 (.mv (.E 9)), ⟨(some (.E 11)), .mv (.V 0), some ((.E 10), true)⟩, ⟨(some (.E 12)), .mv (.V 2), some ((.E 10), true)⟩, ⟨(some (.E 13)), .bin .leq (.E 11) (.E 12), some ((.E 10), true)⟩, oE 14 (.pick (.E 10) (.E 13) (kb false)), oV 6 (.mv (.E 14))]) .ret)

def k_spec_l1In_rv : List RV := [.tmp [0] 6]

def k_spec_LeafOf_vars : List Nat := [0, 1, 2, 3, 5, 8, 6, 7]

def k_spec_LeafOf_ic : IC := .seq (.reg [oV 3 (.box (.V 0)), oV 5 (.box (.V 2)), oV 6 (.mv (ki 0)), oV 7 (.mv (kb false))]) (.seq (.seq (.reg [oE 10 (.faddr 0 (.V 3)), oE 11 (.load false 1 (.E 10)), oE 12 (.call k_spec_l1In [([0], (.E 11)), ([0], (ki 0)), ([0], (ki 40))]), oE 13 (.un .not (.E 12)), oE 14 (.mv (.E 13)), ⟨(some (.E 15)), .mv (.V 1), some ((.E 14), false)⟩, ⟨(some (.E 16)), .call k_spec_l1In [([0], (.E 15)), ([0], (ki 1)), ([0], (ki 100))], some ((.E 14), false)⟩, ⟨(some (.E 17)), .un .not (.E 16), some ((.E 14), false)⟩, oE 18 (.pick (.E 14) (kb true) (.E 17)), oE 19 (.mv (.E 18)), ⟨(some (.E 20)), .load true 2 (.V 5), some ((.E 19), false)⟩, ⟨(some (.E 21)), .call k_spec_BoundOk [([0, 0], (.E 20))], some ((.E 19), false)⟩, ⟨(some (.E 22)), .un .not (.E 21), some ((.E 19), false)⟩, oE 23 (.pick (.E 19) (kb true) (.E 22))]) (.cond (.E 23) (.seq (.reg [oV 6 (.mv (ki 0)), oV 7 (.mv (kb false))]) .ret) .skip)) (.seq (.reg [oE 25 (.faddr 1 (.V 3)), oE 26 (.load false 1 (.E 25)), oE 27 (.faddr 0 (.V 3)), oE 28 (.load false 1 (.E 27)), oE 29 (.mv (.V 1)), oE 30 (.bin .add (.E 28) (.E 29)), oE 31 (.call k_spec_FloorDiv [([0], (.E 26)), ([0], (.E 30))]), oE 24 (.mv (.E 31)), oE 32 (.ext 0 (.E 24)), oE 33 (.ext 1 (.E 24)), oV 8 (.mv (.E 32)), oE 9 (.mv (.E 33))]) (.seq (.reg [oE 34 (.mv (.V 8)), oE 35 (.faddr 0 (.V 5)), oE 36 (.load false 1 (.E 35)), oE 37 (.faddr 1 (.V 5)), oE 38 (.load false 1 (.E 37)), oE 39 (.call k_spec_Brought [([0], (.E 34)), ([0], (.E 36)), ([0], (.E 38))]), oV 6 (.mv (.E 39)), oV 7 (.mv (kb true))]) .ret)))

def k_spec_LeafOf_rv : List RV := [.tmp [0] 6, .tmp [0] 7]

def k_spec_l19Sum_vars : List Nat := [0, 1, 6, 5, 4]

def k_spec_l19Sum_b0 : IC := .seq (.seq (.reg [oE 8 (.mv (.V 6)), oE 9 (.mv (.V 1)), oE 10 (.len (.E 9)), oE 11 (.bin .lss (.E 8) (.E 10))]) (.cond (.E 11) .skip (.exit 0))) (.seq (.block 1 (.regD [(oE 14 (.faddr 0 (.V 5)), 0, 0), (oE 15 (.load false 1 (.E 14)), 0, 0), (oE 16 (.bin .add (.E 15) (ki 1)), 0, 0), (oE 17 (.faddr 1 (.V 5)), 0, 0), (oE 18 (.load false 1 (.E 17)), 0, 0), (oE 19 (.mv (.V 0)), 0, 0), (oE 20 (.mv (.V 1)), 0, 0), (oE 21 (.mv (.V 6)), 0, 0), (oE 22 (.iaddr 1 (.E 20) (.E 21)), 0, 0), (oE 23 (.load false 1 (.E 22)), 0, 0), (oE 24 (.iaddr 1 (.E 19) (.E 23)), 0, 0), (oE 25 (.load false 1 (.E 24)), 0, 0), (oE 26 (.bin .add (.E 18) (.E 25)), 0, 0), (oE 27 (.build [iv 0, iv 0] [(0, 1, (.E 16)), (1, 1, (.E 26))]), 0, 0), (oN (.store [0, 0] (.V 5) (.E 27)), 0, 0)])) (.reg [oE 12 (.mv (.V 6)), oE 13 (.bin .add (.E 12) (ki 1)), oV 6 (.mv (.E 13))]))

def k_spec_l19Sum_ic : IC := .seq (.reg [oV 4 (.alloc [iv 0, iv 0])]) (.seq (.reg [oE 7 (.build [iv 0, iv 0] []), oV 5 (.alloc [iv 0, iv 0]), oN (.store [0, 0] (.V 5) (.E 7))]) (.seq (.seq (.reg [oV 6 (.mv (ki 0))]) (.block 0 (.loop k_spec_l19Sum_b0))) (.seq (.reg [oE 28 (.load true 2 (.V 5)), oN (.store [0, 0] (.V 4) (.E 28))]) .ret)))

def k_spec_l19Sum_rv : List RV := [.cell [0, 0] 4 true]

def k_spec_SidesOf_vars : List Nat := [0, 1, 2, 3, 5, 8, 9, 24, 10]

def k_spec_SidesOf_ic : IC := .seq (.reg [oV 5 (.box (.V 1)), oV 8 (.alloc [iv 0, iv 0]), oV 9 (.alloc [iv 0, iv 0])]) (.seq (.seq (.reg [oE 11 (.load true 2 (.V 5)), oE 12 (.call k_spec_BoundOk [([0, 0], (.E 11))]), oE 13 (.un .not (.E 12))]) (.cond (.E 13) (.seq (.regD [(oE 14 (.load true 2 (.V 5)), 0, 0), (oE 15 (.load true 2 (.V 5)), 0, 1), (oN (.store [0, 0] (.V 8) (.E 14)), 0, 0), (oN (.store [0, 0] (.V 9) (.E 15)), 0, 0)]) .ret) .skip)) (.seq (.regD [(oE 16 (.mv (.V 2)), 0, 0), (oE 17 (.mv (.V 3)), 0, 0), (oE 18 (.call k_spec_HalfSum [([0], (.E 16)), ([0], (.E 17))]), 0, 0), (oE 19 (.faddr 0 (.V 5)), 1, 0), (oE 20 (.load false 1 (.E 19)), 1, 0), (oE 21 (.faddr 1 (.V 5)), 1, 0), (oE 22 (.load false 1 (.E 21)), 1, 0), (oE 23 (.call k_spec_Brought [([0], (.E 18)), ([0], (.E 20)), ([0], (.E 22))]), 0, 0), (oV 10 (.mv (.E 23)), 0, 0)]) (.seq (.seq (.reg [oV 24 (.mv (.V 0))]) (.block 0 (.seq (.reg [oE 26 (.bin .eql (.V 24) (ki 1)), oE 25 (.mv (.E 26))]) (.cond (.E 25) (.seq (.regD [(oE 27 (.faddr 0 (.V 5)), 0, 0), (oE 28 (.load false 1 (.E 27)), 0, 0), (oE 29 (.mv (.V 10)), 0, 0), (oE 30 (.build [iv 0, iv 0] [(0, 1, (.E 28)), (1, 1, (.E 29))]), 0, 0), (oE 31 (.mv (.V 10)), 0, 0), (oE 32 (.faddr 1 (.V 5)), 0, 1), (oE 33 (.load false 1 (.E 32)), 0, 1), (oE 34 (.build [iv 0, iv 0] [(0, 1, (.E 31)), (1, 1, (.E 33))]), 0, 0), (oN (.store [0, 0] (.V 8) (.E 30)), 0, 0), (oN (.store [0, 0] (.V 9) (.E 34)), 0, 0)]) .ret) (.seq (.reg [oE 36 (.bin .eql (.V 24) (ki (-1))), oE 35 (.mv (.E 36))]) (.cond (.E 35) (.seq (.regD [(oE 37 (.mv (.V 10)), 0, 0), (oE 38 (.faddr 1 (.V 5)), 0, 0), (oE 39 (.load false 1 (.E 38)), 0, 0), (oE 40 (.build [iv 0, iv 0] [(0, 1, (.E 37)), (1, 1, (.E 39))]), 0, 0), (oE 41 (.faddr 0 (.V 5)), 0, 1), (oE 42 (.load false 1 (.E 41)), 0, 1), (oE 43 (.mv (.V 10)), 0, 0), (oE 44 (.build [iv 0, iv 0] [(0, 1, (.E 42)), (1, 1, (.E 43))]), 0, 0), (oN (.store [0, 0] (.V 8) (.E 40)), 0, 0), (oN (.store [0, 0] (.V 9) (.E 44)), 0, 0)]) .ret) .skip)))))) (.seq (.regD [(oE 45 (.load true 2 (.V 5)), 0, 0), (oE 46 (.load true 2 (.V 5)), 0, 1), (oN (.store [0, 0] (.V 8) (.E 45)), 0, 0), (oN (.store [0, 0] (.V 9) (.E 46)), 0, 0)]) .ret))))

def k_spec_SidesOf_rv : List RV := [.cell [0, 0] 8 true, .cell [0, 0] 9 true]

def k_impl_LeafOf_vars : List Nat := [0, 1, 2, 3, 5, 8, 6, 7]

def k_impl_LeafOf_ic : IC := .seq (.reg [oV 3 (.box (.V 0)), oV 5 (.box (.V 2)), oV 6 (.mv (ki 0)), oV 7 (.mv (kb false))]) (.seq (.seq (.reg [oE 10 (.faddr 0 (.V 3)), oE 11 (.load false 1 (.E 10)), oE 12 (.mv (.V 1)), oE 13 (.call k_impl_isCount [([0], (.E 11)), ([0], (.E 12))]), oE 14 (.un .not (.E 13)), oE 15 (.mv (.E 14)), ⟨(some (.E 16)), .load true 2 (.V 5), some ((.E 15), false)⟩, ⟨(some (.E 17)), .call k_impl_BoundOk [([0, 0], (.E 16))], some ((.E 15), false)⟩, ⟨(some (.E 18)), .un .not (.E 17), some ((.E 15), false)⟩, oE 19 (.pick (.E 15) (kb true) (.E 18))]) (.cond (.E 19) (.seq (.reg [oV 6 (.mv (ki 0)), oV 7 (.mv (kb false))]) .ret) .skip)) (.seq (.reg [oE 21 (.faddr 1 (.V 3)), oE 22 (.load false 1 (.E 21)), oE 23 (.faddr 0 (.V 3)), oE 24 (.load false 1 (.E 23)), oE 25 (.mv (.V 1)), oE 26 (.bin .add (.E 24) (.E 25)), oE 27 (.call k_impl_FloorDiv [([0], (.E 22)), ([0], (.E 26))]), oE 20 (.mv (.E 27)), oE 28 (.ext 0 (.E 20)), oE 29 (.ext 1 (.E 20)), oV 8 (.mv (.E 28)), oE 9 (.mv (.E 29))]) (.seq (.reg [oE 30 (.mv (.V 8)), oE 31 (.faddr 0 (.V 5)), oE 32 (.load false 1 (.E 31)), oE 33 (.faddr 1 (.V 5)), oE 34 (.load false 1 (.E 33)), oE 35 (.call k_impl_Brought [([0], (.E 30)), ([0], (.E 32)), ([0], (.E 34))]), oV 6 (.mv (.E 35)), oV 7 (.mv (kb true))]) .ret)))

def k_impl_LeafOf_rv : List RV := [.tmp [0] 6, .tmp [0] 7]

def k_impl_slotOf_vars : List Nat := [0, 1, 13, 12, 11, 5, 7, 4]

def k_impl_slotOf_b0 : IC := .seq (.reg [oE 14 (.bin .lss (.V 13) (.V 12))]) (.seq (.cond (.E 14) .skip (.exit 0)) (.seq (.block 1 (.seq (.reg [oE 15 (.iaddr 1 (.V 11) (.V 13)), oE 16 (.load false 1 (.E 15)), oV 7 (.mv (.E 16))]) (.regD [(oE 17 (.faddr 1 (.V 5)), 0, 0), (oE 18 (.load false 1 (.E 17)), 0, 0), (oE 19 (.mv (.V 0)), 0, 0), (oE 20 (.mv (.V 7)), 0, 0), (oE 21 (.iaddr 1 (.E 19) (.E 20)), 0, 0), (oE 22 (.load false 1 (.E 21)), 0, 0), (oE 23 (.bin .add (.E 18) (.E 22)), 0, 0), (oE 24 (.faddr 1 (.V 5)), 0, 0), (oN (.store [0] (.E 24) (.E 23)), 0, 0)]))) (.reg [oE 25 (.bin .add (.V 13) (ki 1)), oV 13 (.mv (.E 25))])))

def k_impl_slotOf_ic : IC := .seq (.reg [oV 4 (.alloc [iv 0, iv 0])]) (.seq (.reg [oE 8 (.mv (.V 1)), oE 9 (.len (.E 8)), oE 10 (.build [iv 0, iv 0] [(0, 1, (.E 9))]), oV 5 (.alloc [iv 0, iv 0]), oN (.store [0, 0] (.V 5) (.E 10))]) (.seq (.seq (.reg [oV 11 (.mv (.V 1)), oV 12 (.len (.V 11)), oV 13 (.mv (ki 0))]) (.block 0 (.loop k_impl_slotOf_b0))) (.seq (.reg [oE 26 (.load true 2 (.V 5)), oN (.store [0, 0] (.V 4) (.E 26))]) .ret)))

def k_impl_slotOf_rv : List RV := [.cell [0, 0] 4 true]

def k_impl_SidesOf_vars : List Nat := [0, 1, 2, 3, 5, 10, 8, 9, 11, 12]

def k_impl_SidesOf_ic : IC := .seq (.reg [oV 5 (.box (.V 1)), oV 8 (.alloc [iv 0, iv 0]), oV 9 (.alloc [iv 0, iv 0])]) (.seq (.regD [(oE 13 (.mv (.V 2)), 0, 0), (oE 14 (.mv (.V 3)), 0, 0), (oE 15 (.call k_impl_HalfSum [([0], (.E 13)), ([0], (.E 14))]), 0, 0), (oE 16 (.faddr 0 (.V 5)), 1, 0), (oE 17 (.load false 1 (.E 16)), 1, 0), (oE 18 (.faddr 1 (.V 5)), 1, 0), (oE 19 (.load false 1 (.E 18)), 1, 0), (oE 20 (.call k_impl_Brought [([0], (.E 15)), ([0], (.E 17)), ([0], (.E 19))]), 0, 0), (oV 10 (.mv (.E 20)), 0, 0)]) (.seq (.regD [(oE 21 (.faddr 0 (.V 5)), 0, 1), (oE 22 (.load false 1 (.E 21)), 0, 1), (oE 23 (.mv (.V 10)), 0, 0), (oE 24 (.build [iv 0, iv 0] [(0, 1, (.E 22)), (1, 1, (.E 23))]), 0, 0), (oE 25 (.mv (.V 10)), 0, 0), (oE 26 (.faddr 1 (.V 5)), 0, 3), (oE 27 (.load false 1 (.E 26)), 0, 3), (oE 28 (.build [iv 0, iv 0] [(0, 1, (.E 25)), (1, 1, (.E 27))]), 0, 0), (oV 11 (.alloc [iv 0, iv 0]), 0, 0), (oV 12 (.allocL [iv 0, iv 0]), 0, 0), (oN (.store [0, 0] (.V 11) (.E 24)), 0, 0), (oN (.store [0, 0] (.V 12) (.E 28)), 0, 0)]) (.seq (.block 0 (.seq (.reg [oE 30 (.load true 2 (.V 5)), oE 31 (.call k_impl_BoundOk [([0, 0], (.E 30))]), oE 32 (.un .not (.E 31)), oE 29 (.mv (.E 32))]) (.cond (.E 29) (.seq (.regD [(oE 33 (.load true 2 (.V 5)), 0, 0), (oE 34 (.load true 2 (.V 5)), 0, 1), (oN (.store [0, 0] (.V 8) (.E 33)), 0, 0), (oN (.store [0, 0] (.V 9) (.E 34)), 0, 0)]) .ret) (.seq (.reg [oE 36 (.mv (.V 0)), oE 37 (.bin .eql (.E 36) (ki 1)), oE 35 (.mv (.E 37))]) (.cond (.E 35) (.seq (.regD [(oE 38 (.load true 2 (.V 11)), 0, 0), (oE 39 (.load true 2 (.V 12)), 0, 1), (oN (.store [0, 0] (.V 8) (.E 38)), 0, 0), (oN (.store [0, 0] (.V 9) (.E 39)), 0, 0)]) .ret) (.seq (.reg [oE 41 (.mv (.V 0)), oE 42 (.bin .eql (.E 41) (ki (-1))), oE 40 (.mv (.E 42))]) (.cond (.E 40) (.seq (.regD [(oE 43 (.load true 2 (.V 12)), 0, 0), (oE 44 (.load true 2 (.V 11)), 0, 1), (oN (.store [0, 0] (.V 8) (.E 43)), 0, 0), (oN (.store [0, 0] (.V 9) (.E 44)), 0, 0)]) .ret) .skip))))))) (.seq (.regD [(oE 45 (.load true 2 (.V 5)), 0, 0), (oE 46 (.load true 2 (.V 5)), 0, 1), (oN (.store [0, 0] (.V 8) (.E 45)), 0, 0), (oN (.store [0, 0] (.V 9) (.E 46)), 0, 0)]) .ret))))

def k_impl_SidesOf_rv : List RV := [.cell [0, 0] 8 true, .cell [0, 0] 9 true]

def k_impl_SplitRows_vars : List Nat := [0, 1, 2, 16, 15, 14, 11, 8, 9, 6, 7]

def k_impl_SplitRows_b0 : IC := .seq (.reg [oE 17 (.bin .lss (.V 16) (.V 15))]) (.seq (.cond (.E 17) .skip (.exit 0)) (.seq (.block 1 (.seq (.reg [oE 18 (.iaddr 1 (.V 14) (.V 16)), oE 19 (.load false 1 (.E 18)), oV 11 (.mv (.E 19))]) (.block 2 (.seq (.reg [oE 25 (.mv (.V 11)), oE 26 (.mv (.V 0)), oE 27 (.len (.E 26)), oE 28 (.bin .sub (.E 27) (ki 1)), oE 29 (.call k_impl_within [([0], (.E 25)), ([0], (ki 0)), ([0], (.E 28))]), oE 30 (.un .not (.E 29)), oE 24 (.mv (.E 30))]) (.cond (.E 24) .skip (.seq (.reg [oE 32 (.mv (.V 0)), oE 33 (.mv (.V 11)), oE 34 (.iaddr 1 (.E 32) (.E 33)), oE 35 (.load false 1 (.E 34)), oE 36 (.mv (.V 2)), oE 37 (.bin .leq (.E 35) (.E 36)), oE 31 (.mv (.E 37))]) (.cond (.E 31) (.reg [oE 38 (.mv (.V 8)), oE 39 (.mv (.V 11)), oE 40 (.bslice 1 1 [iv 0] [(0, (.E 39))]), oE 41 (.app 8 1 (.E 38) (.E 40)), oV 8 (.mv (.E 41))]) (.reg [oE 20 (.mv (.V 9)), oE 21 (.mv (.V 11)), oE 22 (.bslice 1 1 [iv 0] [(0, (.E 21))]), oE 23 (.app 8 1 (.E 20) (.E 22)), oV 9 (.mv (.E 23))])))))))) (.reg [oE 42 (.bin .add (.V 16) (ki 1)), oV 16 (.mv (.E 42))])))

def k_impl_SplitRows_ic : IC := .seq (.reg [oV 6 (.mv (.C .e0)), oV 7 (.mv (.C .e0))]) (.seq (.reg [oE 12 (.bslice 0 1 [iv 0] []), oE 13 (.bslice 0 1 [iv 0] []), oV 8 (.mv (.E 12)), oV 9 (.mv (.E 13))]) (.seq (.seq (.reg [oV 14 (.mv (.V 1)), oV 15 (.len (.V 14)), oV 16 (.mv (ki 0))]) (.block 0 (.loop k_impl_SplitRows_b0))) (.seq (.reg [oE 43 (.mv (.V 8)), oE 44 (.mv (.V 9)), oV 6 (.mv (.E 43)), oV 7 (.mv (.E 44))]) .ret)))

def k_impl_SplitRows_rv : List RV := [.tmp [1] 6, .tmp [1] 7]

def k_laws_eqNodeS_vars : List Nat := [0, 1, 5, 4]

def k_laws_eqNodeS_b0 : IC := .seq (.seq (.reg [oE 11 (.mv (.V 5)), oE 12 (.mv (.V 0)), oE 13 (.len (.E 12)), oE 14 (.bin .lss (.E 11) (.E 13))]) (.cond (.E 14) .skip (.exit 0))) (.seq (.block 1 (.seq (.regD [(oE 17 (.mv (.V 0)), 0, 0), (oE 18 (.mv (.V 5)), 0, 0), (oE 19 (.iaddr 5 (.E 17) (.E 18)), 0, 0), (oE 20 (.load true 5 (.E 19)), 0, 0), (oE 21 (.mv (.V 1)), 0, 0), (oE 22 (.mv (.V 5)), 0, 0), (oE 23 (.iaddr 5 (.E 21) (.E 22)), 0, 0), (oE 24 (.load true 5 (.E 23)), 0, 0), (oE 25 (.call k_laws_eqNode [([0, 0, 0, 0, 0], (.E 20)), ([0, 0, 0, 0, 0], (.E 24))]), 0, 0), (oE 26 (.un .not (.E 25)), 0, 0)]) (.cond (.E 26) (.seq (.reg [oV 4 (.mv (kb false))]) .ret) .skip))) (.reg [oE 15 (.mv (.V 5)), oE 16 (.bin .add (.E 15) (ki 1)), oV 5 (.mv (.E 16))]))

def k_laws_eqNodeS_ic : IC := .seq (.reg [oV 4 (.mv (kb false))]) (.seq (.seq (.reg [oE 6 (.mv (.V 0)), oE 7 (.len (.E 6)), oE 8 (.mv (.V 1)), oE 9 (.len (.E 8)), oE 10 (.bin .neq (.E 7) (.E 9))]) (.cond (.E 10) (.seq (.reg [oV 4 (.mv (kb false))]) .ret) .skip)) (.seq (.seq (.reg [oV 5 (.mv (ki 0))]) (.block 0 (.loop k_laws_eqNodeS_b0))) (.seq (.reg [oV 4 (.mv (kb true))]) .ret)))

def k_laws_eqNodeS_rv : List RV := [.tmp [0] 4]

def k_laws_markNodeS_vars : List Nat := [0, 1, 5, 4]

def k_laws_markNodeS_b0 : IC := .seq (.seq (.reg [oE 6 (.mv (.V 5)), oE 7 (.mv (.V 0)), oE 8 (.len (.E 7)), oE 9 (.bin .lss (.E 6) (.E 8))]) (.cond (.E 9) .skip (.exit 0))) (.seq (.block 1 (.seq (.reg [oE 12 (.mv (.V 0)), oE 13 (.mv (.V 5)), oE 14 (.mv (.V 1)), oE 15 (.iaddr 5 (.E 12) (.E 13)), oE 16 (.faddr 0 (.E 15)), oN (.store [0] (.E 16) (.E 14))]) (.seq (.reg [oE 17 (.mv (.V 1)), oE 18 (.bin .add (.E 17) (ki 1)), oV 1 (.mv (.E 18))]) (.seq (.reg [oE 19 (.mv (.V 0)), oE 20 (.mv (.V 5)), oE 21 (.mv (.V 1)), oE 22 (.iaddr 5 (.E 19) (.E 20)), oE 23 (.faddr 1 (.E 22)), oN (.store [0] (.E 23) (.E 21))]) (.seq (.reg [oE 24 (.mv (.V 1)), oE 25 (.bin .add (.E 24) (ki 1)), oV 1 (.mv (.E 25))]) (.seq (.reg [oE 26 (.mv (.V 0)), oE 27 (.mv (.V 5)), oE 28 (.mv (.V 1)), oE 29 (.iaddr 5 (.E 26) (.E 27)), oE 30 (.faddr 2 (.E 29)), oN (.store [0] (.E 30) (.E 28))]) (.seq (.reg [oE 31 (.mv (.V 1)), oE 32 (.bin .add (.E 31) (ki 1)), oV 1 (.mv (.E 32))]) (.seq (.reg [oE 33 (.mv (.V 0)), oE 34 (.mv (.V 5)), oE 35 (.mv (.V 1)), oE 36 (.iaddr 5 (.E 33) (.E 34)), oE 37 (.faddr 3 (.E 36)), oN (.store [0] (.E 37) (.E 35))]) (.seq (.reg [oE 38 (.mv (.V 1)), oE 39 (.bin .add (.E 38) (ki 1)), oV 1 (.mv (.E 39))]) (.seq (.reg [oE 40 (.mv (.V 0)), oE 41 (.mv (.V 5)), oE 42 (.mv (.V 1)), oE 43 (.iaddr 5 (.E 40) (.E 41)), oE 44 (.faddr 4 (.E 43)), oN (.store [0] (.E 44) (.E 42))]) (.reg [oE 45 (.mv (.V 1)), oE 46 (.bin .add (.E 45) (ki 1)), oV 1 (.mv (.E 46))]))))))))))) (.reg [oE 10 (.mv (.V 5)), oE 11 (.bin .add (.E 10) (ki 1)), oV 5 (.mv (.E 11))]))

def k_laws_markNodeS_ic : IC := .seq (.reg [oV 4 (.mv (ki 0))]) (.seq (.seq (.reg [oV 5 (.mv (ki 0))]) (.block 0 (.loop k_laws_markNodeS_b0))) (.seq (.reg [oE 47 (.mv (.V 1)), oV 4 (.mv (.E 47))]) .ret))

def k_laws_markNodeS_rv : List RV := [.tmp [0] 4]

def k_laws_heldNodeS_vars : List Nat := [0, 1, 5, 4]

def k_laws_heldNodeS_b0 : IC := .seq (.seq (.reg [oE 6 (.mv (.V 5)), oE 7 (.mv (.V 0)), oE 8 (.len (.E 7)), oE 9 (.bin .lss (.E 6) (.E 8))]) (.cond (.E 9) .skip (.exit 0))) (.seq (.block 1 (.seq (.seq (.reg [oE 12 (.mv (.V 0)), oE 13 (.mv (.V 5)), oE 14 (.iaddr 5 (.E 12) (.E 13)), oE 15 (.faddr 0 (.E 14)), oE 16 (.load false 1 (.E 15)), oE 17 (.mv (.V 1)), oE 18 (.bin .neq (.E 16) (.E 17))]) (.cond (.E 18) (.seq (.reg [oV 4 (.mv (ki (-1)))]) .ret) .skip)) (.seq (.reg [oE 19 (.mv (.V 1)), oE 20 (.bin .add (.E 19) (ki 1)), oV 1 (.mv (.E 20))]) (.seq (.seq (.reg [oE 21 (.mv (.V 0)), oE 22 (.mv (.V 5)), oE 23 (.iaddr 5 (.E 21) (.E 22)), oE 24 (.faddr 1 (.E 23)), oE 25 (.load false 1 (.E 24)), oE 26 (.mv (.V 1)), oE 27 (.bin .neq (.E 25) (.E 26))]) (.cond (.E 27) (.seq (.reg [oV 4 (.mv (ki (-1)))]) .ret) .skip)) (.seq (.reg [oE 28 (.mv (.V 1)), oE 29 (.bin .add (.E 28) (ki 1)), oV 1 (.mv (.E 29))]) (.seq (.seq (.reg [oE 30 (.mv (.V 0)), oE 31 (.mv (.V 5)), oE 32 (.iaddr 5 (.E 30) (.E 31)), oE 33 (.faddr 2 (.E 32)), oE 34 (.load false 1 (.E 33)), oE 35 (.mv (.V 1)), oE 36 (.bin .neq (.E 34) (.E 35))]) (.cond (.E 36) (.seq (.reg [oV 4 (.mv (ki (-1)))]) .ret) .skip)) (.seq (.reg [oE 37 (.mv (.V 1)), oE 38 (.bin .add (.E 37) (ki 1)), oV 1 (.mv (.E 38))]) (.seq (.seq (.reg [oE 39 (.mv (.V 0)), oE 40 (.mv (.V 5)), oE 41 (.iaddr 5 (.E 39) (.E 40)), oE 42 (.faddr 3 (.E 41)), oE 43 (.load false 1 (.E 42)), oE 44 (.mv (.V 1)), oE 45 (.bin .neq (.E 43) (.E 44))]) (.cond (.E 45) (.seq (.reg [oV 4 (.mv (ki (-1)))]) .ret) .skip)) (.seq (.reg [oE 46 (.mv (.V 1)), oE 47 (.bin .add (.E 46) (ki 1)), oV 1 (.mv (.E 47))]) (.seq (.seq (.reg [oE 48 (.mv (.V 0)), oE 49 (.mv (.V 5)), oE 50 (.iaddr 5 (.E 48) (.E 49)), oE 51 (.faddr 4 (.E 50)), oE 52 (.load false 1 (.E 51)), oE 53 (.mv (.V 1)), oE 54 (.bin .neq (.E 52) (.E 53))]) (.cond (.E 54) (.seq (.reg [oV 4 (.mv (ki (-1)))]) .ret) .skip)) (.reg [oE 55 (.mv (.V 1)), oE 56 (.bin .add (.E 55) (ki 1)), oV 1 (.mv (.E 56))]))))))))))) (.reg [oE 10 (.mv (.V 5)), oE 11 (.bin .add (.E 10) (ki 1)), oV 5 (.mv (.E 11))]))

def k_laws_heldNodeS_ic : IC := .seq (.reg [oV 4 (.mv (ki 0))]) (.seq (.seq (.reg [oV 5 (.mv (ki 0))]) (.block 0 (.loop k_laws_heldNodeS_b0))) (.seq (.reg [oE 57 (.mv (.V 1)), oV 4 (.mv (.E 57))]) .ret))

def k_laws_heldNodeS_rv : List RV := [.tmp [0] 4]

def k_spec_CandLess_vars : List Nat := [0, 1, 2, 3, 4]

def k_spec_CandLess_ic : IC := .seq (.reg [oV 2 (.box (.V 0)), oV 3 (.box (.V 1)), oV 4 (.mv (kb false))]) (.seq (.reg [oE 5 (.faddr 0 (.V 2)), oE 6 (.load false 1 (.E 5)), oE 7 (.faddr 0 (.V 3)), oE 8 (.load false 1 (.E 7)), oE 9 (.bin .lss (.E 6) (.E 8)), oE 10 (.mv (.E 9)), ⟨(some (.E 11)), .faddr 0 (.V 2), some ((.E 10), false)⟩, ⟨(some (.E 12)), .load false 1 (.E 11), some ((.E 10), false)⟩, ⟨(some (.E 13)), .faddr 0 (.V 3), some ((.E 10), false)⟩, ⟨(some (.E 14)), .load false 1 (.E 13), some ((.E 10), false)⟩, ⟨(some (.E 15)), .bin .eql (.E 12) (.E 14), some ((.E 10), false)⟩, ⟨(some (.E 16)), .mv (.E 15), some ((.E 10), false)⟩, ⟨(some (.E 17)), .faddr 1 (.V 2), some ((.E 16), true)⟩, ⟨(some (.E 18)), .load false 1 (.E 17), some ((.E 16), true)⟩, ⟨(some (.E 19)), .faddr 1 (.V 3), some ((.E 16), true)⟩, ⟨(some (.E 20)), .load false 1 (.E 19), some ((.E 16), true)⟩, ⟨(some (.E 21)), .bin .lss (.E 18) (.E 20), some ((.E 16), true)⟩, ⟨(some (.E 22)), .pick (.E 16) (.E 21) (kb false), some ((.E 10), false)⟩, oE 23 (.pick (.E 10) (kb true) (.E 22)), oV 4 (.mv (.E 23))]) .ret)

def k_spec_CandLess_rv : List RV := [.tmp [0] 4]

def k_impl_within_vars : List Nat := [0, 1, 2, 6]

def k_impl_within_ic : IC := .seq (.reg [oV 6 (.mv (kb false))]) (.seq (.reg [oE 7 (.mv (.V 0)), oE 8 (.mv (.V 1)), oE 9 (.bin .geq (.E 7) (.E 8)), oE 10 (.mv (.E 9)), ⟨(some (.E 11)), .mv (.V 0), some ((.E 10), true)⟩, ⟨(some (.E 12)), .mv (.V 2), some ((.E 10), true)⟩, ⟨(some (.E 13)), .bin .leq (.E 11) (.E 12), some ((.E 10), true)⟩, oE 14 (.pick (.E 10) (.E 13) (kb false)), oV 6 (.mv (.E 14))]) .ret)

def k_impl_within_rv : List RV := [.tmp [0] 6]

def k_slices_ContainsFunc___int_int__vars : List Nat := [0, 1, 4]

def k_slices_ContainsFunc___int_int__ic : IC := .seq (.reg [oV 4 (.mv (kb false))]) (.seq (.reg [oE 5 (.mv (.V 0)), oE 6 (.mv (.V 1)), oE 7 (.call k_slices_IndexFunc___int_int_ [([1], (.E 5)), ([0], (.E 6))]), oE 8 (.bin .geq (.E 7) (ki 0)), oV 4 (.mv (.E 8))]) .ret)

def k_slices_ContainsFunc___int_int__rv : List RV := [.tmp [0] 4]

def k_impl_ConfigOk_1_vars : List Nat := [0, 2]

def k_impl_ConfigOk_1_ic : IC := .seq (.reg [oV 2 (.mv (kb false))]) (.seq (.reg [oE 3 (.mv (.V 0)), oE 4 (.call k_impl_isSign [([0], (.E 3))]), oE 5 (.un .not (.E 4)), oV 2 (.mv (.E 5))]) .ret)

def k_impl_ConfigOk_1_rv : List RV := [.tmp [0] 2]

def k_impl_isSign_vars : List Nat := [0, 2]

def k_impl_isSign_ic : IC := .seq (.reg [oV 2 (.mv (kb false))]) (.seq (.reg [oE 3 (.mv (.V 0)), oE 4 (.call k_impl_within [([0], (.E 3)), ([0], (ki (-1))), ([0], (ki 1))]), oV 2 (.mv (.E 4))]) .ret)

def k_impl_isSign_rv : List RV := [.tmp [0] 2]

def k_impl_BothOf_vars : List Nat := [0, 1, 2, 3]

def k_impl_BothOf_ic : IC := .seq (.reg [oV 1 (.box (.V 0)), oV 2 (.alloc [iv 0, iv 0]), oV 3 (.mv (kb false))]) (.seq (.reg [oE 4 (.faddr 2 (.V 1)), oE 5 (.load true 2 (.E 4)), oE 6 (.faddr 4 (.V 1)), oE 7 (.load true 2 (.E 6)), oE 8 (.call k__impl_Slot__plus [([0, 0], (.E 5)), ([0, 0], (.E 7))]), oE 9 (.ext 0 (.E 8)), oE 10 (.ext 1 (.E 8)), oN (.store [0, 0] (.V 2) (.E 9)), oV 3 (.mv (.E 10))]) .ret)

def k_impl_BothOf_rv : List RV := [.cell [0, 0] 2 true, .tmp [0] 3]

def k_impl_PlainGain_vars : List Nat := [0, 1, 2, 4, 5]

def k_impl_PlainGain_ic : IC := .seq (.reg [oV 2 (.box (.V 0)), oV 4 (.alloc [(.v (.bool false)), (.v (.int .u64 0)), (.v (.int .u64 0)), iv 0]), oV 5 (.mv (kb false))]) (.seq (.seq (.reg [oE 6 (.faddr 0 (.V 2)), oE 7 (.load false 1 (.E 6)), oE 8 (.mv (.V 1)), oE 9 (.call k_impl_isCount [([0], (.E 7)), ([0], (.E 8))]), oE 10 (.un .not (.E 9))]) (.cond (.E 10) (.seq (.reg [oE 11 (.build [(.v (.bool false)), (.v (.int .u64 0)), (.v (.int .u64 0)), iv 0] []), oN (.store [0, 0, 0, 0] (.V 4) (.E 11)), oV 5 (.mv (kb false))]) .ret) .skip)) (.seq (.reg [oE 12 (.faddr 1 (.V 2)), oE 13 (.load false 1 (.E 12)), oE 14 (.faddr 0 (.V 2)), oE 15 (.load false 1 (.E 14)), oE 16 (.mv (.V 1)), oE 17 (.bin .add (.E 15) (.E 16)), oE 18 (.call k_impl_SquareOver [([0], (.E 13)), ([0], (.E 17))]), oE 19 (.ext 0 (.E 18)), oE 20 (.ext 1 (.E 18)), oN (.store [0, 0, 0, 0] (.V 4) (.E 19)), oV 5 (.mv (.E 20))]) .ret))

def k_impl_PlainGain_rv : List RV := [.cell [0, 0, 0, 0] 4 true, .tmp [0] 5]

def k_spec_l8Numbers_vars : List Nat := [0, 1, 2]

def k_spec_l8Numbers_ic : IC := .seq (.reg [oV 1 (.box (.V 0)), oV 2 (.mv (.C .e0))]) (.seq (.reg [oE 3 (.faddr 0 (.V 1)), oE 4 (.load false 1 (.E 3)), oE 5 (.faddr 1 (.V 1)), oE 6 (.load false 1 (.E 5)), oE 7 (.faddr 2 (.V 1)), oE 8 (.load false 1 (.E 7)), oE 9 (.faddr 3 (.V 1)), oE 10 (.load false 1 (.E 9)), oE 11 (.faddr 4 (.V 1)), oE 12 (.load false 1 (.E 11)), oE 13 (.bslice 5 1 [iv 0] [(0, (.E 4)), (1, (.E 6)), (2, (.E 8)), (3, (.E 10)), (4, (.E 12))]), oV 2 (.mv (.E 13))]) .ret)

def k_spec_l8Numbers_rv : List RV := [.tmp [1] 2]

def k_spec_l8Least_vars : List Nat := [0]

def k_spec_l8Least_ic : IC := .seq (.reg [oV 0 (.mv (.C .e0))]) (.seq (.reg [oE 1 (.bslice 5 1 [iv 0] [(0, (ki 1)), (1, (ki 0)), (2, (ki 2)), (3, (ki 1)), (4, (ki 1))]), oV 0 (.mv (.E 1))]) .ret)

def k_spec_l8Least_rv : List RV := [.tmp [1] 0]

def k_spec_l8Most_vars : List Nat := [0]

def k_spec_l8Most_ic : IC := .seq (.reg [oV 0 (.mv (.C .e0))]) (.seq (.reg [oE 1 (.bslice 5 1 [iv 0] [(0, (ki 8)), (1, (ki 4)), (2, (ki 8)), (3, (ki 100)), (4, (ki 20))]), oV 0 (.mv (.E 1))]) .ret)

def k_spec_l8Most_rv : List RV := [.tmp [1] 0]

def k_spec_BothOf_vars : List Nat := [0, 1, 2, 3]

def k_spec_BothOf_ic : IC := .seq (.reg [oV 1 (.box (.V 0)), oV 2 (.alloc [iv 0, iv 0]), oV 3 (.mv (kb false))]) (.seq (.reg [oE 4 (.faddr 2 (.V 1)), oE 5 (.load true 2 (.E 4)), oE 6 (.faddr 4 (.V 1)), oE 7 (.load true 2 (.E 6)), oE 8 (.call k_spec_l13Add [([0, 0], (.E 5)), ([0, 0], (.E 7))]), oE 9 (.ext 0 (.E 8)), oE 10 (.ext 1 (.E 8)), oN (.store [0, 0] (.V 2) (.E 9)), oV 3 (.mv (.E 10))]) .ret)

def k_spec_BothOf_rv : List RV := [.cell [0, 0] 2 true, .tmp [0] 3]

def k_impl_AddFrac_vars : List Nat := [0, 1, 2, 3, 8, 4, 6, 7, 9, 5]

def k_impl_AddFrac_ic : IC := .seq (.reg [oV 2 (.box (.V 0)), oV 3 (.box (.V 1)), oV 4 (.alloc [(.v (.bool false)), (.v (.int .u64 0)), (.v (.int .u64 0)), iv 0]), oV 5 (.mv (kb false))]) (.seq (.reg [oE 11 (.load true 4 (.V 2)), oE 12 (.load true 4 (.V 3)), oE 13 (.call k_impl_crossed [([0, 0, 0, 0], (.E 11)), ([0, 0, 0, 0], (.E 12))]), oE 10 (.mv (.E 13)), oE 14 (.ext 0 (.E 10)), oE 15 (.ext 1 (.E 10)), oE 16 (.ext 2 (.E 10)), oV 6 (.alloc [(.v (.bool false)), (.v (.int .u64 0)), (.v (.int .u64 0))]), oV 7 (.alloc [(.v (.bool false)), (.v (.int .u64 0)), (.v (.int .u64 0))]), oN (.store [0, 0, 0] (.V 6) (.E 14)), oN (.store [0, 0, 0] (.V 7) (.E 15)), oV 8 (.mv (.E 16))]) (.seq (.seq (.reg [oE 17 (.mv (.V 8)), oE 18 (.un .not (.E 17))]) (.cond (.E 18) (.seq (.reg [oE 19 (.build [(.v (.bool false)), (.v (.int .u64 0)), (.v (.int .u64 0)), iv 0] []), oN (.store [0, 0, 0, 0] (.V 4) (.E 19)), oV 5 (.mv (kb false))]) .ret) .skip)) (.seq (.reg [oE 21 (.load true 3 (.V 6)), oE 22 (.load true 3 (.V 7)), oE 23 (.call k_impl_AddWide [([0, 0, 0], (.E 21)), ([0, 0, 0], (.E 22))]), oE 20 (.mv (.E 23)), oE 24 (.ext 0 (.E 20)), oE 25 (.ext 1 (.E 20)), oV 9 (.alloc [(.v (.bool false)), (.v (.int .u64 0)), (.v (.int .u64 0))]), oN (.store [0, 0, 0] (.V 9) (.E 24)), oV 8 (.mv (.E 25))]) (.seq (.seq (.reg [oE 26 (.mv (.V 8)), oE 27 (.un .not (.E 26))]) (.cond (.E 27) (.seq (.reg [oE 28 (.build [(.v (.bool false)), (.v (.int .u64 0)), (.v (.int .u64 0)), iv 0] []), oN (.store [0, 0, 0, 0] (.V 4) (.E 28)), oV 5 (.mv (kb false))]) .ret) .skip)) (.seq (.reg [oE 29 (.load true 3 (.V 9)), oE 30 (.faddr 3 (.V 2)), oE 31 (.load false 1 (.E 30)), oE 32 (.faddr 3 (.V 3)), oE 33 (.load false 1 (.E 32)), oE 34 (.bin .mul (.E 31) (.E 33)), oE 35 (.call k_impl_fracOf [([0, 0, 0], (.E 29)), ([0], (.E 34))]), oE 36 (.ext 0 (.E 35)), oE 37 (.ext 1 (.E 35)), oN (.store [0, 0, 0, 0] (.V 4) (.E 36)), oV 5 (.mv (.E 37))]) .ret)))))

def k_impl_AddFrac_rv : List RV := [.cell [0, 0, 0, 0] 4 true, .tmp [0] 5]

def k_impl_crossed_vars : List Nat := [0, 1, 2, 3, 4, 5, 7, 9, 8, 10, 6]

def k_impl_crossed_ic : IC := .seq (.reg [oV 2 (.box (.V 0)), oV 3 (.box (.V 1)), oV 4 (.alloc [(.v (.bool false)), (.v (.int .u64 0)), (.v (.int .u64 0))]), oV 5 (.alloc [(.v (.bool false)), (.v (.int .u64 0)), (.v (.int .u64 0))]), oV 6 (.mv (kb false))]) (.seq (.seq (.reg [oE 11 (.load true 4 (.V 2)), oE 12 (.call k_impl_FracOk [([0, 0, 0, 0], (.E 11))]), oE 13 (.un .not (.E 12)), oE 14 (.mv (.E 13)), ⟨(some (.E 15)), .load true 4 (.V 3), some ((.E 14), false)⟩, ⟨(some (.E 16)), .call k_impl_FracOk [([0, 0, 0, 0], (.E 15))], some ((.E 14), false)⟩, ⟨(some (.E 17)), .un .not (.E 16), some ((.E 14), false)⟩, oE 18 (.pick (.E 14) (kb true) (.E 17))]) (.cond (.E 18) (.seq (.reg [oE 19 (.build [(.v (.bool false)), (.v (.int .u64 0)), (.v (.int .u64 0))] []), oE 20 (.build [(.v (.bool false)), (.v (.int .u64 0)), (.v (.int .u64 0))] []), oN (.store [0, 0, 0] (.V 4) (.E 19)), oN (.store [0, 0, 0] (.V 5) (.E 20)), oV 6 (.mv (kb false))]) .ret) .skip)) (.seq (.reg [oE 22 (.faddr 0 (.V 2)), oE 23 (.load true 3 (.E 22)), oE 24 (.faddr 3 (.V 3)), oE 25 (.load false 1 (.E 24)), oE 26 (.call k_impl_ScaleWide [([0, 0, 0], (.E 23)), ([0], (.E 25))]), oE 21 (.mv (.E 26)), oE 27 (.ext 0 (.E 21)), oE 28 (.ext 1 (.E 21)), oV 7 (.alloc [(.v (.bool false)), (.v (.int .u64 0)), (.v (.int .u64 0))]), oN (.store [0, 0, 0] (.V 7) (.E 27)), oV 8 (.mv (.E 28))]) (.seq (.reg [oE 30 (.faddr 0 (.V 3)), oE 31 (.load true 3 (.E 30)), oE 32 (.faddr 3 (.V 2)), oE 33 (.load false 1 (.E 32)), oE 34 (.call k_impl_ScaleWide [([0, 0, 0], (.E 31)), ([0], (.E 33))]), oE 29 (.mv (.E 34)), oE 35 (.ext 0 (.E 29)), oE 36 (.ext 1 (.E 29)), oV 9 (.alloc [(.v (.bool false)), (.v (.int .u64 0)), (.v (.int .u64 0))]), oN (.store [0, 0, 0] (.V 9) (.E 35)), oV 10 (.mv (.E 36))]) (.seq (.regD [(oE 37 (.load true 3 (.V 7)), 0, 0), (oE 38 (.load true 3 (.V 9)), 0, 1), (oE 39 (.mv (.V 8)), 0, 0), (oE 40 (.mv (.E 39)), 0, 0), (⟨(some (.E 41)), .mv (.V 10), some ((.E 40), true)⟩, 0, 0), (oE 42 (.pick (.E 40) (.E 41) (kb false)), 0, 0), (oN (.store [0, 0, 0] (.V 4) (.E 37)), 0, 0), (oN (.store [0, 0, 0] (.V 5) (.E 38)), 0, 0), (oV 6 (.mv (.E 42)), 0, 0)]) .ret))))

def k_impl_crossed_rv : List RV := [.cell [0, 0, 0] 4 true, .cell [0, 0, 0] 5 true, .tmp [0] 6]

def k_impl_CompareWide_vars : List Nat := [0, 1, 2, 3, 4]

def k_impl_CompareWide_ic : IC := .seq (.reg [oV 2 (.box (.V 0)), oV 3 (.box (.V 1)), oV 4 (.mv (ki 0))]) (.seq (.regD [(oE 5 (.faddr 0 (.V 2)), 0, 0), (oE 6 (.load false 1 (.E 5)), 0, 0), (oE 7 (.faddr 1 (.V 2)), 0, 0), (oE 8 (.load false 1 (.E 7)), 0, 0), (oE 9 (.faddr 2 (.V 2)), 0, 0), (oE 10 (.load false 1 (.E 9)), 0, 0), (oE 11 (.call k_impl_wideOf [([0], (.E 6)), ([0], (.E 8)), ([0], (.E 10))]), 0, 0), (oE 12 (.faddr 0 (.V 3)), 1, 0), (oE 13 (.load false 1 (.E 12)), 1, 0), (oE 14 (.faddr 1 (.V 3)), 1, 0), (oE 15 (.load false 1 (.E 14)), 1, 0), (oE 16 (.faddr 2 (.V 3)), 1, 0), (oE 17 (.load false 1 (.E 16)), 1, 0), (oE 18 (.call k_impl_wideOf [([0], (.E 13)), ([0], (.E 15)), ([0], (.E 17))]), 0, 0), (oN (.store [0, 0, 0] (.V 2) (.E 11)), 0, 0), (oN (.store [0, 0, 0] (.V 3) (.E 18)), 0, 0)]) (.seq (.block 0 (.seq (.reg [oE 20 (.faddr 0 (.V 2)), oE 21 (.load false 1 (.E 20)), oE 22 (.mv (.E 21)), ⟨(some (.E 23)), .faddr 0 (.V 3), some ((.E 22), true)⟩, ⟨(some (.E 24)), .load false 1 (.E 23), some ((.E 22), true)⟩, ⟨(some (.E 25)), .un .not (.E 24), some ((.E 22), true)⟩, oE 26 (.pick (.E 22) (.E 25) (kb false)), oE 19 (.mv (.E 26))]) (.cond (.E 19) (.seq (.reg [oV 4 (.mv (ki (-1)))]) .ret) (.seq (.reg [oE 28 (.faddr 0 (.V 3)), oE 29 (.load false 1 (.E 28)), oE 30 (.mv (.E 29)), ⟨(some (.E 31)), .faddr 0 (.V 2), some ((.E 30), true)⟩, ⟨(some (.E 32)), .load false 1 (.E 31), some ((.E 30), true)⟩, ⟨(some (.E 33)), .un .not (.E 32), some ((.E 30), true)⟩, oE 34 (.pick (.E 30) (.E 33) (kb false)), oE 27 (.mv (.E 34))]) (.cond (.E 27) (.seq (.reg [oV 4 (.mv (ki 1))]) .ret) (.seq (.reg [oE 36 (.faddr 0 (.V 2)), oE 37 (.load false 1 (.E 36)), oE 35 (.mv (.E 37))]) (.cond (.E 35) (.seq (.reg [oE 38 (.load true 3 (.V 3)), oE 39 (.load true 3 (.V 2)), oE 40 (.call k_impl_compareSizes [([0, 0, 0], (.E 38)), ([0, 0, 0], (.E 39))]), oV 4 (.mv (.E 40))]) .ret) .skip))))))) (.seq (.reg [oE 41 (.load true 3 (.V 2)), oE 42 (.load true 3 (.V 3)), oE 43 (.call k_impl_compareSizes [([0, 0, 0], (.E 41)), ([0, 0, 0], (.E 42))]), oV 4 (.mv (.E 43))]) .ret)))

def k_impl_CompareWide_rv : List RV := [.tmp [0] 4]

def k_cmp_Or_int__vars : List Nat := [0, 8, 7, 6, 5, 3, 2]

def k_cmp_Or_int__b0 : IC := .seq (.reg [oE 9 (.bin .lss (.V 8) (.V 7))]) (.seq (.cond (.E 9) .skip (.exit 0)) (.seq (.block 1 (.seq (.reg [oE 10 (.iaddr 1 (.V 6) (.V 8)), oE 11 (.load false 1 (.E 10)), oV 5 (.mv (.E 11))]) (.seq (.reg [oE 12 (.mv (.V 5)), oE 13 (.mv (.V 3)), oE 14 (.bin .neq (.E 12) (.E 13))]) (.cond (.E 14) (.seq (.reg [oE 15 (.mv (.V 5)), oV 2 (.mv (.E 15))]) .ret) .skip)))) (.reg [oE 16 (.bin .add (.V 8) (ki 1)), oV 8 (.mv (.E 16))])))

def k_cmp_Or_int__ic : IC := .seq (.reg [oV 2 (.mv (ki 0))]) (.seq (.reg [oV 3 (.mv (ki 0))]) (.seq (.seq (.reg [oV 6 (.mv (.V 0)), oV 7 (.len (.V 6)), oV 8 (.mv (ki 0))]) (.block 0 (.loop k_cmp_Or_int__b0))) (.seq (.reg [oE 17 (.mv (.V 3)), oV 2 (.mv (.E 17))]) .ret)))

def k_cmp_Or_int__rv : List RV := [.tmp [0] 2]

def k_cmp_Compare_int__vars : List Nat := [0, 1, 5, 6, 4]

def k_cmp_Compare_int__ic : IC := .seq (.reg [oV 4 (.mv (ki 0))]) (.seq (.reg [oE 7 (.mv (.V 0)), oE 8 (.call k_cmp_isNaN_int_ [([0], (.E 7))]), oV 5 (.mv (.E 8))]) (.seq (.reg [oE 9 (.mv (.V 1)), oE 10 (.call k_cmp_isNaN_int_ [([0], (.E 9))]), oV 6 (.mv (.E 10))]) (.seq (.seq (.reg [oE 11 (.mv (.V 5))]) (.cond (.E 11) (.seq (.seq (.reg [oE 12 (.mv (.V 6))]) (.cond (.E 12) (.seq (.reg [oV 4 (.mv (ki 0))]) .ret) .skip)) (.seq (.reg [oV 4 (.mv (ki (-1)))]) .ret)) .skip)) (.seq (.seq (.reg [oE 13 (.mv (.V 6))]) (.cond (.E 13) (.seq (.reg [oV 4 (.mv (ki 1))]) .ret) .skip)) (.seq (.seq (.reg [oE 14 (.mv (.V 0)), oE 15 (.mv (.V 1)), oE 16 (.bin .lss (.E 14) (.E 15))]) (.cond (.E 16) (.seq (.reg [oV 4 (.mv (ki (-1)))]) .ret) .skip)) (.seq (.seq (.reg [oE 17 (.mv (.V 0)), oE 18 (.mv (.V 1)), oE 19 (.bin .gtr (.E 17) (.E 18))]) (.cond (.E 19) (.seq (.reg [oV 4 (.mv (ki 1))]) .ret) .skip)) (.seq (.reg [oV 4 (.mv (ki 0))]) .ret)))))))

def k_cmp_Compare_int__rv : List RV := [.tmp [0] 4]

def k_spec_SquareOver_vars : List Nat := [0, 1, 6, 4, 5]

def k_spec_SquareOver_ic : IC := .seq (.reg [oV 4 (.alloc [(.v (.bool false)), (.v (.int .u64 0)), (.v (.int .u64 0)), iv 0]), oV 5 (.mv (kb false))]) (.seq (.reg [oE 7 (.mv (.V 0)), oE 8 (.mv (.V 0)), oE 9 (.call k_spec_MulWide [([0], (.E 7)), ([0], (.E 8))]), oE 10 (.mv (.V 1)), oE 11 (.build [(.v (.bool false)), (.v (.int .u64 0)), (.v (.int .u64 0)), iv 0] [(0, 3, (.E 9)), (3, 1, (.E 10))]), oV 6 (.alloc [(.v (.bool false)), (.v (.int .u64 0)), (.v (.int .u64 0)), iv 0]), oN (.store [0, 0, 0, 0] (.V 6) (.E 11))]) (.seq (.seq (.reg [oE 12 (.load true 4 (.V 6)), oE 13 (.call k_spec_FracOk [([0, 0, 0, 0], (.E 12))]), oE 14 (.un .not (.E 13))]) (.cond (.E 14) (.seq (.reg [oE 15 (.build [(.v (.bool false)), (.v (.int .u64 0)), (.v (.int .u64 0)), iv 0] []), oN (.store [0, 0, 0, 0] (.V 4) (.E 15)), oV 5 (.mv (kb false))]) .ret) .skip)) (.seq (.reg [oE 16 (.load true 4 (.V 6)), oN (.store [0, 0, 0, 0] (.V 4) (.E 16)), oV 5 (.mv (kb true))]) .ret)))

def k_spec_SquareOver_rv : List RV := [.cell [0, 0, 0, 0] 4 true, .tmp [0] 5]

def k_spec_AddWide_vars : List Nat := [0, 1, 2, 3, 4, 6, 7, 8, 9, 5]

def k_spec_AddWide_ic : IC := .seq (.reg [oV 2 (.box (.V 0)), oV 3 (.box (.V 1)), oV 4 (.alloc [(.v (.bool false)), (.v (.int .u64 0)), (.v (.int .u64 0))]), oV 5 (.mv (kb false))]) (.seq (.seq (.reg [oE 10 (.load true 3 (.V 2)), oE 11 (.call k_spec_WideOk [([0, 0, 0], (.E 10))]), oE 12 (.un .not (.E 11)), oE 13 (.mv (.E 12)), ⟨(some (.E 14)), .load true 3 (.V 3), some ((.E 13), false)⟩, ⟨(some (.E 15)), .call k_spec_WideOk [([0, 0, 0], (.E 14))], some ((.E 13), false)⟩, ⟨(some (.E 16)), .un .not (.E 15), some ((.E 13), false)⟩, oE 17 (.pick (.E 13) (kb true) (.E 16))]) (.cond (.E 17) (.seq (.reg [oE 18 (.build [(.v (.bool false)), (.v (.int .u64 0)), (.v (.int .u64 0))] []), oN (.store [0, 0, 0] (.V 4) (.E 18)), oV 5 (.mv (kb false))]) .ret) .skip)) (.seq (.seq (.reg [oE 19 (.faddr 0 (.V 2)), oE 20 (.load false 1 (.E 19)), oE 21 (.faddr 0 (.V 3)), oE 22 (.load false 1 (.E 21)), oE 23 (.eqb false [.b] (.E 20) (.E 22))]) (.cond (.E 23) (.seq (.reg [oE 24 (.faddr 0 (.V 2)), oE 25 (.load false 1 (.E 24)), oE 26 (.faddr 1 (.V 2)), oE 27 (.load false 1 (.E 26)), oE 28 (.faddr 1 (.V 3)), oE 29 (.load false 1 (.E 28)), oE 30 (.bin .add (.E 27) (.E 29)), oE 31 (.faddr 2 (.V 2)), oE 32 (.load false 1 (.E 31)), oE 33 (.faddr 2 (.V 3)), oE 34 (.load false 1 (.E 33)), oE 35 (.bin .add (.E 32) (.E 34)), oE 36 (.build [(.v (.bool false)), (.v (.int .u64 0)), (.v (.int .u64 0))] [(0, 1, (.E 25)), (1, 1, (.E 30)), (2, 1, (.E 35))]), oV 6 (.alloc [(.v (.bool false)), (.v (.int .u64 0)), (.v (.int .u64 0))]), oN (.store [0, 0, 0] (.V 6) (.E 36))]) (.seq (.seq (.reg [oE 37 (.faddr 2 (.V 6)), oE 38 (.load false 1 (.E 37)), oE 39 (.faddr 2 (.V 2)), oE 40 (.load false 1 (.E 39)), oE 41 (.bin .lss (.E 38) (.E 40))]) (.cond (.E 41) (.reg [oE 42 (.faddr 1 (.V 6)), oE 43 (.load false 1 (.E 42)), oE 44 (.bin .add (.E 43) (.C (.v (.int .u64 1)))), oE 45 (.faddr 1 (.V 6)), oN (.store [0] (.E 45) (.E 44))]) .skip)) (.seq (.seq (.reg [oE 46 (.load true 3 (.V 6)), oE 47 (.call k_spec_WideOk [([0, 0, 0], (.E 46))]), oE 48 (.un .not (.E 47))]) (.cond (.E 48) (.seq (.reg [oE 49 (.build [(.v (.bool false)), (.v (.int .u64 0)), (.v (.int .u64 0))] []), oN (.store [0, 0, 0] (.V 4) (.E 49)), oV 5 (.mv (kb false))]) .ret) .skip)) (.seq (.reg [oE 50 (.load true 3 (.V 6)), oN (.store [0, 0, 0] (.V 4) (.E 50)), oV 5 (.mv (kb true))]) .ret)))) .skip)) (.seq (.reg [oE 51 (.load true 3 (.V 2)), oV 7 (.alloc [(.v (.bool false)), (.v (.int .u64 0)), (.v (.int .u64 0))]), oN (.store [0, 0, 0] (.V 7) (.E 51))]) (.seq (.reg [oE 52 (.load true 3 (.V 3)), oV 8 (.alloc [(.v (.bool false)), (.v (.int .u64 0)), (.v (.int .u64 0))]), oN (.store [0, 0, 0] (.V 8) (.E 52))]) (.seq (.seq (.reg [oE 53 (.load true 3 (.V 2)), oE 54 (.load true 3 (.V 3)), oE 55 (.call k_spec_l3Order [([0, 0, 0], (.E 53)), ([0, 0, 0], (.E 54))]), oE 56 (.bin .lss (.E 55) (ki 0))]) (.cond (.E 56) (.seq (.reg [oE 57 (.load true 3 (.V 3)), oN (.store [0, 0, 0] (.V 7) (.E 57))]) (.reg [oE 58 (.load true 3 (.V 2)), oN (.store [0, 0, 0] (.V 8) (.E 58))])) .skip)) (.seq (.reg [oE 59 (.faddr 0 (.V 7)), oE 60 (.load false 1 (.E 59)), oE 61 (.faddr 1 (.V 7)), oE 62 (.load false 1 (.E 61)), oE 63 (.faddr 1 (.V 8)), oE 64 (.load false 1 (.E 63)), oE 65 (.bin .sub (.E 62) (.E 64)), oE 66 (.faddr 2 (.V 7)), oE 67 (.load false 1 (.E 66)), oE 68 (.faddr 2 (.V 8)), oE 69 (.load false 1 (.E 68)), oE 70 (.bin .sub (.E 67) (.E 69)), oE 71 (.build [(.v (.bool false)), (.v (.int .u64 0)), (.v (.int .u64 0))] [(0, 1, (.E 60)), (1, 1, (.E 65)), (2, 1, (.E 70))]), oV 9 (.alloc [(.v (.bool false)), (.v (.int .u64 0)), (.v (.int .u64 0))]), oN (.store [0, 0, 0] (.V 9) (.E 71))]) (.seq (.seq (.reg [oE 72 (.faddr 2 (.V 7)), oE 73 (.load false 1 (.E 72)), oE 74 (.faddr 2 (.V 8)), oE 75 (.load false 1 (.E 74)), oE 76 (.bin .lss (.E 73) (.E 75))]) (.cond (.E 76) (.reg [oE 77 (.faddr 1 (.V 9)), oE 78 (.load false 1 (.E 77)), oE 79 (.bin .sub (.E 78) (.C (.v (.int .u64 1)))), oE 80 (.faddr 1 (.V 9)), oN (.store [0] (.E 80) (.E 79))]) .skip)) (.seq (.seq (.reg [oE 81 (.load true 3 (.V 9)), oE 82 (.call k_spec_l3Zero [([0, 0, 0], (.E 81))])]) (.cond (.E 82) (.reg [oE 83 (.faddr 0 (.V 9)), oN (.store [0] (.E 83) (kb false))]) .skip)) (.seq (.reg [oE 84 (.load true 3 (.V 9)), oN (.store [0, 0, 0] (.V 4) (.E 84)), oV 5 (.mv (kb true))]) .ret)))))))))

def k_spec_AddWide_rv : List RV := [.cell [0, 0, 0] 4 true, .tmp [0] 5]

def k_spec_FracOk_vars : List Nat := [0, 1, 2]

def k_spec_FracOk_ic : IC := .seq (.reg [oV 1 (.box (.V 0)), oV 2 (.mv (kb false))]) (.seq (.reg [oE 3 (.faddr 0 (.V 1)), oE 4 (.load true 3 (.E 3)), oE 5 (.call k_spec_WideOk [([0, 0, 0], (.E 4))]), oE 6 (.mv (.E 5)), ⟨(some (.E 7)), .faddr 3 (.V 1), some ((.E 6), true)⟩, ⟨(some (.E 8)), .load false 1 (.E 7), some ((.E 6), true)⟩, ⟨(some (.E 9)), .call k_spec_l1In [([0], (.E 8)), ([0], (ki 1)), ([0], (ki 1000000))], some ((.E 6), true)⟩, oE 10 (.pick (.E 6) (.E 9) (kb false)), oV 2 (.mv (.E 10))]) .ret)

def k_spec_FracOk_rv : List RV := [.tmp [0] 2]

def k_spec_ScaleWide_vars : List Nat := [0, 1, 2, 4, 6, 8, 9, 11, 10, 12, 7, 5]

def k_spec_ScaleWide_ic : IC := .seq (.reg [oV 2 (.box (.V 0)), oV 4 (.alloc [(.v (.bool false)), (.v (.int .u64 0)), (.v (.int .u64 0))]), oV 5 (.mv (kb false))]) (.seq (.seq (.reg [oE 13 (.load true 3 (.V 2)), oE 14 (.call k_spec_WideOk [([0, 0, 0], (.E 13))]), oE 15 (.un .not (.E 14))]) (.cond (.E 15) (.seq (.reg [oE 16 (.build [(.v (.bool false)), (.v (.int .u64 0)), (.v (.int .u64 0))] []), oN (.store [0, 0, 0] (.V 4) (.E 16)), oV 5 (.mv (kb false))]) .ret) .skip)) (.seq (.reg [oE 17 (.mv (.V 1)), oE 18 (.call k_spec_l3Abs [([0], (.E 17))]), oV 6 (.mv (.E 18))]) (.seq (.reg [oE 20 (.faddr 1 (.V 2)), oE 21 (.load false 1 (.E 20)), oE 22 (.mv (.V 6)), oE 23 (.call k_spec_l3Product [([0], (.E 21)), ([0], (.E 22))]), oE 19 (.mv (.E 23)), oE 24 (.ext 0 (.E 19)), oE 25 (.ext 1 (.E 19)), oV 7 (.mv (.E 24)), oV 8 (.mv (.E 25))]) (.seq (.reg [oE 27 (.faddr 2 (.V 2)), oE 28 (.load false 1 (.E 27)), oE 29 (.mv (.V 6)), oE 30 (.call k_spec_l3Product [([0], (.E 28)), ([0], (.E 29))]), oE 26 (.mv (.E 30)), oE 31 (.ext 0 (.E 26)), oE 32 (.ext 1 (.E 26)), oV 9 (.mv (.E 31)), oV 10 (.mv (.E 32))]) (.seq (.reg [oE 33 (.mv (.V 8)), oE 34 (.mv (.V 9)), oE 35 (.bin .add (.E 33) (.E 34)), oV 11 (.mv (.E 35))]) (.seq (.reg [oE 36 (.faddr 0 (.V 2)), oE 37 (.load false 1 (.E 36)), oE 38 (.mv (.V 1)), oE 39 (.bin .lss (.E 38) (ki 0)), oE 40 (.eqb true [.b] (.E 37) (.E 39)), oE 41 (.mv (.V 11)), oE 42 (.mv (.V 10)), oE 43 (.build [(.v (.bool false)), (.v (.int .u64 0)), (.v (.int .u64 0))] [(0, 1, (.E 40)), (1, 1, (.E 41)), (2, 1, (.E 42))]), oV 12 (.alloc [(.v (.bool false)), (.v (.int .u64 0)), (.v (.int .u64 0))]), oN (.store [0, 0, 0] (.V 12) (.E 43))]) (.seq (.seq (.reg [oE 44 (.load true 3 (.V 12)), oE 45 (.call k_spec_l3Zero [([0, 0, 0], (.E 44))])]) (.cond (.E 45) (.reg [oE 46 (.faddr 0 (.V 12)), oN (.store [0] (.E 46) (kb false))]) .skip)) (.seq (.seq (.reg [oE 47 (.mv (.V 7)), oE 48 (.bin .gtr (.E 47) (.C (.v (.int .u64 0)))), oE 49 (.mv (.E 48)), ⟨(some (.E 50)), .mv (.V 11), some ((.E 49), false)⟩, ⟨(some (.E 51)), .mv (.V 8), some ((.E 49), false)⟩, ⟨(some (.E 52)), .bin .lss (.E 50) (.E 51), some ((.E 49), false)⟩, oE 53 (.pick (.E 49) (kb true) (.E 52)), oE 54 (.mv (.E 53)), ⟨(some (.E 55)), .load true 3 (.V 12), some ((.E 54), false)⟩, ⟨(some (.E 56)), .call k_spec_WideOk [([0, 0, 0], (.E 55))], some ((.E 54), false)⟩, ⟨(some (.E 57)), .un .not (.E 56), some ((.E 54), false)⟩, oE 58 (.pick (.E 54) (kb true) (.E 57))]) (.cond (.E 58) (.seq (.reg [oE 59 (.build [(.v (.bool false)), (.v (.int .u64 0)), (.v (.int .u64 0))] []), oN (.store [0, 0, 0] (.V 4) (.E 59)), oV 5 (.mv (kb false))]) .ret) .skip)) (.seq (.reg [oE 60 (.load true 3 (.V 12)), oN (.store [0, 0, 0] (.V 4) (.E 60)), oV 5 (.mv (kb true))]) .ret)))))))))

def k_spec_ScaleWide_rv : List RV := [.cell [0, 0, 0] 4 true, .tmp [0] 5]

def k_spec_l3Zero_vars : List Nat := [0, 1, 2]

def k_spec_l3Zero_ic : IC := .seq (.reg [oV 1 (.box (.V 0)), oV 2 (.mv (kb false))]) (.seq (.reg [oE 3 (.faddr 1 (.V 1)), oE 4 (.load false 1 (.E 3)), oE 5 (.bin .eql (.E 4) (.C (.v (.int .u64 0)))), oE 6 (.mv (.E 5)), ⟨(some (.E 7)), .faddr 2 (.V 1), some ((.E 6), true)⟩, ⟨(some (.E 8)), .load false 1 (.E 7), some ((.E 6), true)⟩, ⟨(some (.E 9)), .bin .eql (.E 8) (.C (.v (.int .u64 0))), some ((.E 6), true)⟩, oE 10 (.pick (.E 6) (.E 9) (kb false)), oV 2 (.mv (.E 10))]) .ret)

def k_spec_l3Zero_rv : List RV := [.tmp [0] 2]

def k_spec_l3Order_vars : List Nat := [0, 1, 2, 3, 4]

def k_spec_l3Order_ic : IC := .seq (.reg [oV 2 (.box (.V 0)), oV 3 (.box (.V 1)), oV 4 (.mv (ki 0))]) (.seq (.block 0 (.seq (.reg [oE 6 (.faddr 1 (.V 2)), oE 7 (.load false 1 (.E 6)), oE 8 (.faddr 1 (.V 3)), oE 9 (.load false 1 (.E 8)), oE 10 (.bin .lss (.E 7) (.E 9)), oE 11 (.mv (.E 10)), ⟨(some (.E 12)), .faddr 1 (.V 2), some ((.E 11), false)⟩, ⟨(some (.E 13)), .load false 1 (.E 12), some ((.E 11), false)⟩, ⟨(some (.E 14)), .faddr 1 (.V 3), some ((.E 11), false)⟩, ⟨(some (.E 15)), .load false 1 (.E 14), some ((.E 11), false)⟩, ⟨(some (.E 16)), .bin .eql (.E 13) (.E 15), some ((.E 11), false)⟩, ⟨(some (.E 17)), .mv (.E 16), some ((.E 11), false)⟩, ⟨(some (.E 18)), .faddr 2 (.V 2), some ((.E 17), true)⟩, ⟨(some (.E 19)), .load false 1 (.E 18), some ((.E 17), true)⟩, ⟨(some (.E 20)), .faddr 2 (.V 3), some ((.E 17), true)⟩, ⟨(some (.E 21)), .load false 1 (.E 20), some ((.E 17), true)⟩, ⟨(some (.E 22)), .bin .lss (.E 19) (.E 21), some ((.E 17), true)⟩, ⟨(some (.E 23)), .pick (.E 17) (.E 22) (kb false), some ((.E 11), false)⟩, oE 24 (.pick (.E 11) (kb true) (.E 23)), oE 5 (.mv (.E 24))]) (.cond (.E 5) (.seq (.reg [oV 4 (.mv (ki (-1)))]) .ret) (.seq (.reg [oE 26 (.faddr 1 (.V 2)), oE 27 (.load false 1 (.E 26)), oE 28 (.faddr 1 (.V 3)), oE 29 (.load false 1 (.E 28)), oE 30 (.bin .gtr (.E 27) (.E 29)), oE 31 (.mv (.E 30)), ⟨(some (.E 32)), .faddr 2 (.V 2), some ((.E 31), false)⟩, ⟨(some (.E 33)), .load false 1 (.E 32), some ((.E 31), false)⟩, ⟨(some (.E 34)), .faddr 2 (.V 3), some ((.E 31), false)⟩, ⟨(some (.E 35)), .load false 1 (.E 34), some ((.E 31), false)⟩, ⟨(some (.E 36)), .bin .gtr (.E 33) (.E 35), some ((.E 31), false)⟩, oE 37 (.pick (.E 31) (kb true) (.E 36)), oE 25 (.mv (.E 37))]) (.cond (.E 25) (.seq (.reg [oV 4 (.mv (ki 1))]) .ret) .skip))))) (.seq (.reg [oV 4 (.mv (ki 0))]) .ret))

def k_spec_l3Order_rv : List RV := [.tmp [0] 4]

def k_spec_l6Value_vars : List Nat := [0, 2]

def k_spec_l6Value_ic : IC := .seq (.reg [oV 2 (.mv (kb false))]) (.seq (.reg [oE 3 (.mv (.V 0)), oE 4 (.call k_spec_l1In [([0], (.E 3)), ([0], (ki (-2147483647))), ([0], (ki 2147483647))]), oV 2 (.mv (.E 4))]) .ret)

def k_spec_l6Value_rv : List RV := [.tmp [0] 2]

def k_spec_AddInt_vars : List Nat := [0, 1, 4, 5]

def k_spec_AddInt_ic : IC := .seq (.reg [oV 4 (.mv (ki 0)), oV 5 (.mv (kb false))]) (.seq (.seq (.reg [oE 6 (.mv (.V 1)), oE 7 (.bin .gtr (.E 6) (ki 0)), oE 8 (.mv (.E 7)), ⟨(some (.E 9)), .mv (.V 0), some ((.E 8), true)⟩, ⟨(some (.E 10)), .mv (.V 1), some ((.E 8), true)⟩, ⟨(some (.E 11)), .bin .sub (ki 9223372036854775807) (.E 10), some ((.E 8), true)⟩, ⟨(some (.E 12)), .bin .gtr (.E 9) (.E 11), some ((.E 8), true)⟩, oE 13 (.pick (.E 8) (.E 12) (kb false)), oE 14 (.mv (.E 13)), ⟨(some (.E 15)), .mv (.V 1), some ((.E 14), false)⟩, ⟨(some (.E 16)), .bin .lss (.E 15) (ki 0), some ((.E 14), false)⟩, ⟨(some (.E 17)), .mv (.E 16), some ((.E 14), false)⟩, ⟨(some (.E 18)), .mv (.V 0), some ((.E 17), true)⟩, ⟨(some (.E 19)), .mv (.V 1), some ((.E 17), true)⟩, ⟨(some (.E 20)), .bin .sub (ki (-9223372036854775808)) (.E 19), some ((.E 17), true)⟩, ⟨(some (.E 21)), .bin .lss (.E 18) (.E 20), some ((.E 17), true)⟩, ⟨(some (.E 22)), .pick (.E 17) (.E 21) (kb false), some ((.E 14), false)⟩, oE 23 (.pick (.E 14) (kb true) (.E 22))]) (.cond (.E 23) (.seq (.reg [oV 4 (.mv (ki 0)), oV 5 (.mv (kb false))]) .ret) .skip)) (.seq (.reg [oE 24 (.mv (.V 0)), oE 25 (.mv (.V 1)), oE 26 (.bin .add (.E 24) (.E 25)), oV 4 (.mv (.E 26)), oV 5 (.mv (kb true))]) .ret))

def k_spec_AddInt_rv : List RV := [.tmp [0] 4, .tmp [0] 5]

def k_spec_FloorDiv_vars : List Nat := [0, 1, 6, 4, 5]

def k_spec_FloorDiv_ic : IC := .seq (.reg [oV 4 (.mv (ki 0)), oV 5 (.mv (kb false))]) (.seq (.seq (.reg [oE 7 (.mv (.V 1)), oE 8 (.bin .eql (.E 7) (ki 0)), oE 9 (.mv (.E 8)), ⟨(some (.E 10)), .mv (.V 1), some ((.E 9), false)⟩, ⟨(some (.E 11)), .bin .eql (.E 10) (ki (-1)), some ((.E 9), false)⟩, ⟨(some (.E 12)), .mv (.E 11), some ((.E 9), false)⟩, ⟨(some (.E 13)), .mv (.V 0), some ((.E 12), true)⟩, ⟨(some (.E 14)), .bin .eql (.E 13) (ki (-9223372036854775808)), some ((.E 12), true)⟩, ⟨(some (.E 15)), .pick (.E 12) (.E 14) (kb false), some ((.E 9), false)⟩, oE 16 (.pick (.E 9) (kb true) (.E 15))]) (.cond (.E 16) (.seq (.reg [oV 4 (.mv (ki 0)), oV 5 (.mv (kb false))]) .ret) .skip)) (.seq (.reg [oE 17 (.mv (.V 0)), oE 18 (.mv (.V 1)), oE 19 (.bin .quo (.E 17) (.E 18)), oV 6 (.mv (.E 19))]) (.seq (.seq (.reg [oE 20 (.mv (.V 0)), oE 21 (.mv (.V 1)), oE 22 (.bin .rem (.E 20) (.E 21)), oE 23 (.bin .neq (.E 22) (ki 0)), oE 24 (.mv (.E 23)), ⟨(some (.E 25)), .mv (.V 0), some ((.E 24), true)⟩, ⟨(some (.E 26)), .bin .lss (.E 25) (ki 0), some ((.E 24), true)⟩, ⟨(some (.E 27)), .mv (.V 1), some ((.E 24), true)⟩, ⟨(some (.E 28)), .bin .lss (.E 27) (ki 0), some ((.E 24), true)⟩, ⟨(some (.E 29)), .eqb true [.b] (.E 26) (.E 28), some ((.E 24), true)⟩, oE 30 (.pick (.E 24) (.E 29) (kb false))]) (.cond (.E 30) (.reg [oE 31 (.mv (.V 6)), oE 32 (.bin .sub (.E 31) (ki 1)), oV 6 (.mv (.E 32))]) .skip)) (.seq (.reg [oE 33 (.mv (.V 6)), oV 4 (.mv (.E 33)), oV 5 (.mv (kb true))]) .ret))))

def k_spec_FloorDiv_rv : List RV := [.tmp [0] 4, .tmp [0] 5]

def k_impl_areDecimals_vars : List Nat := [0, 2]

def k_impl_areDecimals_ic : IC := .seq (.reg [oV 2 (.mv (kb false))]) (.seq (.reg [oE 3 (.mv (.V 0)), oE 4 (.call k_slices_ContainsFunc___int_int_ [([1], (.E 3)), ([0], (.C (.fn k_impl_areDecimals_1 [])))]), oE 5 (.un .not (.E 4)), oV 2 (.mv (.E 5))]) .ret)

def k_impl_areDecimals_rv : List RV := [.tmp [0] 2]

def k_impl_AddInt_vars : List Nat := [0, 1, 6, 4, 5]

def k_impl_AddInt_ic : IC := .seq (.reg [oV 4 (.mv (ki 0)), oV 5 (.mv (kb false))]) (.seq (.reg [oE 7 (.mv (.V 0)), oE 8 (.mv (.V 1)), oE 9 (.bin .add (.E 7) (.E 8)), oV 6 (.mv (.E 9))]) (.seq (.seq (.reg [oE 10 (.mv (.V 0)), oE 11 (.bin .lss (.E 10) (ki 0)), oE 12 (.mv (.V 1)), oE 13 (.bin .lss (.E 12) (ki 0)), oE 14 (.eqb false [.b] (.E 11) (.E 13)), oE 15 (.mv (.E 14)), ⟨(some (.E 16)), .mv (.V 6), some ((.E 15), true)⟩, ⟨(some (.E 17)), .bin .lss (.E 16) (ki 0), some ((.E 15), true)⟩, ⟨(some (.E 18)), .mv (.V 0), some ((.E 15), true)⟩, ⟨(some (.E 19)), .bin .lss (.E 18) (ki 0), some ((.E 15), true)⟩, ⟨(some (.E 20)), .eqb true [.b] (.E 17) (.E 19), some ((.E 15), true)⟩, oE 21 (.pick (.E 15) (.E 20) (kb false))]) (.cond (.E 21) (.seq (.reg [oV 4 (.mv (ki 0)), oV 5 (.mv (kb false))]) .ret) .skip)) (.seq (.reg [oE 22 (.mv (.V 6)), oV 4 (.mv (.E 22)), oV 5 (.mv (kb true))]) .ret)))

def k_impl_AddInt_rv : List RV := [.tmp [0] 4, .tmp [0] 5]

def k_impl_FloorDiv_vars : List Nat := [0, 1, 6, 4, 5]

def k_impl_FloorDiv_ic : IC := .seq (.reg [oV 4 (.mv (ki 0)), oV 5 (.mv (kb false))]) (.seq (.seq (.reg [oE 7 (.mv (.V 1)), oE 8 (.bin .eql (.E 7) (ki 0)), oE 9 (.mv (.E 8)), ⟨(some (.E 10)), .mv (.V 0), some ((.E 9), false)⟩, ⟨(some (.E 11)), .bin .eql (.E 10) (ki (-9223372036854775808)), some ((.E 9), false)⟩, ⟨(some (.E 12)), .mv (.E 11), some ((.E 9), false)⟩, ⟨(some (.E 13)), .mv (.V 1), some ((.E 12), true)⟩, ⟨(some (.E 14)), .bin .eql (.E 13) (ki (-1)), some ((.E 12), true)⟩, ⟨(some (.E 15)), .pick (.E 12) (.E 14) (kb false), some ((.E 9), false)⟩, oE 16 (.pick (.E 9) (kb true) (.E 15))]) (.cond (.E 16) (.seq (.reg [oV 4 (.mv (ki 0)), oV 5 (.mv (kb false))]) .ret) .skip)) (.seq (.reg [oE 17 (.mv (.V 0)), oE 18 (.mv (.V 1)), oE 19 (.bin .quo (.E 17) (.E 18)), oV 6 (.mv (.E 19))]) (.seq (.seq (.reg [oE 20 (.mv (.V 0)), oE 21 (.mv (.V 1)), oE 22 (.bin .rem (.E 20) (.E 21)), oE 23 (.bin .neq (.E 22) (ki 0)), oE 24 (.mv (.E 23)), ⟨(some (.E 25)), .mv (.V 0), some ((.E 24), true)⟩, ⟨(some (.E 26)), .bin .lss (.E 25) (ki 0), some ((.E 24), true)⟩, ⟨(some (.E 27)), .mv (.V 1), some ((.E 24), true)⟩, ⟨(some (.E 28)), .bin .lss (.E 27) (ki 0), some ((.E 24), true)⟩, ⟨(some (.E 29)), .eqb true [.b] (.E 26) (.E 28), some ((.E 24), true)⟩, oE 30 (.pick (.E 24) (.E 29) (kb false))]) (.cond (.E 30) (.reg [oE 31 (.mv (.V 6)), oE 32 (.bin .sub (.E 31) (ki 1)), oV 6 (.mv (.E 32))]) .skip)) (.seq (.reg [oE 33 (.mv (.V 6)), oV 4 (.mv (.E 33)), oV 5 (.mv (kb true))]) .ret))))

def k_impl_FloorDiv_rv : List RV := [.tmp [0] 4, .tmp [0] 5]

def k_impl_isDecimal_vars : List Nat := [0, 2]

def k_impl_isDecimal_ic : IC := .seq (.reg [oV 2 (.mv (kb false))]) (.seq (.reg [oE 3 (.mv (.V 0)), oE 4 (.call k_impl_within [([0], (.E 3)), ([0], (ki (-2147483647))), ([0], (ki 2147483647))]), oV 2 (.mv (.E 4))]) .ret)

def k_impl_isDecimal_rv : List RV := [.tmp [0] 2]

def k_spec_GridOk_vars : List Nat := [0, 1, 3, 4, 2]

def k_spec_GridOk_b0 : IC := .seq (.seq (.reg [oE 50 (.mv (.V 4)), oE 51 (.faddr 1 (.V 1)), oE 52 (.load false 1 (.E 51)), oE 53 (.mv (.V 3)), oE 54 (.iaddr 1 (.E 52) (.E 53)), oE 55 (.load false 1 (.E 54)), oE 56 (.len (.E 55)), oE 57 (.bin .lss (.E 50) (.E 56))]) (.cond (.E 57) .skip (.exit 2))) (.seq (.block 3 (.seq (.regD [(oE 60 (.faddr 1 (.V 1)), 0, 0), (oE 61 (.load false 1 (.E 60)), 0, 0), (oE 62 (.mv (.V 3)), 0, 0), (oE 63 (.iaddr 1 (.E 61) (.E 62)), 0, 0), (oE 64 (.load false 1 (.E 63)), 0, 0), (oE 65 (.mv (.V 4)), 0, 0), (oE 66 (.iaddr 1 (.E 64) (.E 65)), 0, 0), (oE 67 (.load false 1 (.E 66)), 0, 0), (oE 68 (.faddr 0 (.V 1)), 0, 0), (oE 69 (.load false 1 (.E 68)), 0, 0), (oE 70 (.mv (.V 3)), 0, 0), (oE 71 (.iaddr 1 (.E 69) (.E 70)), 0, 0), (oE 72 (.load false 1 (.E 71)), 0, 0), (oE 73 (.len (.E 72)), 0, 0), (oE 74 (.call k_spec_l1In [([0], (.E 67)), ([0], (ki 0)), ([0], (.E 73))]), 0, 0), (oE 75 (.un .not (.E 74)), 0, 0)]) (.cond (.E 75) (.seq (.reg [oV 2 (.mv (kb false))]) .ret) .skip))) (.reg [oE 58 (.mv (.V 4)), oE 59 (.bin .add (.E 58) (ki 1)), oV 4 (.mv (.E 59))]))

def k_spec_GridOk_b1 : IC := .seq (.seq (.reg [oE 25 (.mv (.V 3)), oE 26 (.faddr 0 (.V 1)), oE 27 (.load false 1 (.E 26)), oE 28 (.len (.E 27)), oE 29 (.bin .lss (.E 25) (.E 28))]) (.cond (.E 29) .skip (.exit 0))) (.seq (.block 1 (.seq (.seq (.regD [(oE 32 (.faddr 0 (.V 1)), 0, 0), (oE 33 (.load false 1 (.E 32)), 0, 0), (oE 34 (.mv (.V 3)), 0, 0), (oE 35 (.iaddr 1 (.E 33) (.E 34)), 0, 0), (oE 36 (.load false 1 (.E 35)), 0, 0), (oE 37 (.call k_spec_CutsOk [([1], (.E 36))]), 0, 0), (oE 38 (.un .not (.E 37)), 0, 0), (oE 39 (.mv (.E 38)), 0, 0), (⟨(some (.E 40)), .faddr 1 (.V 1), some ((.E 39), false)⟩, 0, 1), (⟨(some (.E 41)), .load false 1 (.E 40), some ((.E 39), false)⟩, 0, 1), (⟨(some (.E 42)), .mv (.V 3), some ((.E 39), false)⟩, 0, 0), (⟨(some (.E 43)), .iaddr 1 (.E 41) (.E 42), some ((.E 39), false)⟩, 0, 1), (⟨(some (.E 44)), .load false 1 (.E 43), some ((.E 39), false)⟩, 0, 1), (⟨(some (.E 45)), .len (.E 44), some ((.E 39), false)⟩, 0, 1), (⟨(some (.E 46)), .load true 2 (.V 1), some ((.E 39), false)⟩, 0, 0), (⟨(some (.E 47)), .call k_spec_RowsIn [([1, 1], (.E 46))], some ((.E 39), false)⟩, 0, 0), (⟨(some (.E 48)), .bin .neq (.E 45) (.E 47), some ((.E 39), false)⟩, 0, 0), (oE 49 (.pick (.E 39) (kb true) (.E 48)), 0, 0)]) (.cond (.E 49) (.seq (.reg [oV 2 (.mv (kb false))]) .ret) .skip)) (.seq (.reg [oV 4 (.mv (ki 0))]) (.block 2 (.loop k_spec_GridOk_b0))))) (.reg [oE 30 (.mv (.V 3)), oE 31 (.bin .add (.E 30) (ki 1)), oV 3 (.mv (.E 31))]))

def k_spec_GridOk_ic : IC := .seq (.reg [oV 1 (.box (.V 0)), oV 2 (.mv (kb false))]) (.seq (.seq (.reg [oE 5 (.faddr 0 (.V 1)), oE 6 (.load false 1 (.E 5)), oE 7 (.len (.E 6)), oE 8 (.call k_spec_l1In [([0], (.E 7)), ([0], (ki 1)), ([0], (ki 4))]), oE 9 (.un .not (.E 8)), oE 10 (.mv (.E 9)), ⟨(some (.E 11)), .faddr 1 (.V 1), some ((.E 10), false)⟩, ⟨(some (.E 12)), .load false 1 (.E 11), some ((.E 10), false)⟩, ⟨(some (.E 13)), .len (.E 12), some ((.E 10), false)⟩, ⟨(some (.E 14)), .faddr 0 (.V 1), some ((.E 10), false)⟩, ⟨(some (.E 15)), .load false 1 (.E 14), some ((.E 10), false)⟩, ⟨(some (.E 16)), .len (.E 15), some ((.E 10), false)⟩, ⟨(some (.E 17)), .bin .neq (.E 13) (.E 16), some ((.E 10), false)⟩, oE 18 (.pick (.E 10) (kb true) (.E 17)), oE 19 (.mv (.E 18)), ⟨(some (.E 20)), .load true 2 (.V 1), some ((.E 19), false)⟩, ⟨(some (.E 21)), .call k_spec_RowsIn [([1, 1], (.E 20))], some ((.E 19), false)⟩, ⟨(some (.E 22)), .call k_spec_l1In [([0], (.E 21)), ([0], (ki 1)), ([0], (ki 40))], some ((.E 19), false)⟩, ⟨(some (.E 23)), .un .not (.E 22), some ((.E 19), false)⟩, oE 24 (.pick (.E 19) (kb true) (.E 23))]) (.cond (.E 24) (.seq (.reg [oV 2 (.mv (kb false))]) .ret) .skip)) (.seq (.seq (.reg [oV 3 (.mv (ki 0))]) (.block 0 (.loop k_spec_GridOk_b1))) (.seq (.reg [oV 2 (.mv (kb true))]) .ret)))

def k_spec_GridOk_rv : List RV := [.tmp [0] 2]

def k_spec_RowsIn_vars : List Nat := [0, 1, 2]

def k_spec_RowsIn_ic : IC := .seq (.reg [oV 1 (.box (.V 0)), oV 2 (.mv (ki 0))]) (.seq (.seq (.reg [oE 3 (.faddr 1 (.V 1)), oE 4 (.load false 1 (.E 3)), oE 5 (.len (.E 4)), oE 6 (.bin .eql (.E 5) (ki 0))]) (.cond (.E 6) (.seq (.reg [oV 2 (.mv (ki 0))]) .ret) .skip)) (.seq (.reg [oE 7 (.faddr 1 (.V 1)), oE 8 (.load false 1 (.E 7)), oE 9 (.iaddr 1 (.E 8) (ki 0)), oE 10 (.load false 1 (.E 9)), oE 11 (.len (.E 10)), oV 2 (.mv (.E 11))]) .ret))

def k_spec_RowsIn_rv : List RV := [.tmp [0] 2]

def k_impl_GridOk_vars : List Nat := [0, 1, 28, 27, 26, 4, 3, 2]

def k_impl_GridOk_b0 : IC := .seq (.reg [oE 29 (.bin .lss (.V 28) (.V 27))]) (.seq (.cond (.E 29) .skip (.exit 0)) (.seq (.block 1 (.seq (.reg [oE 30 (.mv (.V 28)), oE 31 (.iaddr 1 (.V 26) (.V 28)), oE 32 (.load false 1 (.E 31)), oV 4 (.alloc [.e0]), oV 3 (.mv (.E 30)), oN (.store [1] (.V 4) (.E 32))]) (.seq (.regD [(oE 33 (.load false 1 (.V 4)), 0, 0), (oE 34 (.call k_impl_CutsOk [([1], (.E 33))]), 0, 0), (oE 35 (.un .not (.E 34)), 0, 0), (oE 36 (.mv (.E 35)), 0, 0), (⟨(some (.E 37)), .faddr 1 (.V 1), some ((.E 36), false)⟩, 0, 1), (⟨(some (.E 38)), .load false 1 (.E 37), some ((.E 36), false)⟩, 0, 1), (⟨(some (.E 39)), .mv (.V 3), some ((.E 36), false)⟩, 0, 0), (⟨(some (.E 40)), .iaddr 1 (.E 38) (.E 39), some ((.E 36), false)⟩, 0, 1), (⟨(some (.E 41)), .load false 1 (.E 40), some ((.E 36), false)⟩, 0, 1), (⟨(some (.E 42)), .len (.E 41), some ((.E 36), false)⟩, 0, 1), (⟨(some (.E 43)), .load true 2 (.V 1), some ((.E 36), false)⟩, 0, 0), (⟨(some (.E 44)), .call k_impl_RowsIn [([1, 1], (.E 43))], some ((.E 36), false)⟩, 0, 0), (⟨(some (.E 45)), .bin .neq (.E 42) (.E 44), some ((.E 36), false)⟩, 0, 0), (oE 46 (.pick (.E 36) (kb true) (.E 45)), 0, 0), (oE 47 (.mv (.E 46)), 0, 0), (⟨(some (.E 48)), .faddr 1 (.V 1), some ((.E 47), false)⟩, 0, 0), (⟨(some (.E 49)), .load false 1 (.E 48), some ((.E 47), false)⟩, 0, 0), (⟨(some (.E 50)), .mv (.V 3), some ((.E 47), false)⟩, 0, 0), (⟨(some (.E 51)), .iaddr 1 (.E 49) (.E 50), some ((.E 47), false)⟩, 0, 0), (⟨(some (.E 52)), .load false 1 (.E 51), some ((.E 47), false)⟩, 0, 0), (⟨(some (.E 53)), .mkfn k_impl_GridOk_1 [(.V 4)], some ((.E 47), false)⟩, 0, 0), (⟨(some (.E 54)), .call k_slices_ContainsFunc___int_int_ [([1], (.E 52)), ([0], (.E 53))], some ((.E 47), false)⟩, 0, 0), (oE 55 (.pick (.E 47) (kb true) (.E 54)), 0, 0)]) (.cond (.E 55) (.seq (.reg [oV 2 (.mv (kb false))]) .ret) .skip)))) (.reg [oE 56 (.bin .add (.V 28) (ki 1)), oV 28 (.mv (.E 56))])))

def k_impl_GridOk_ic : IC := .seq (.reg [oV 1 (.box (.V 0)), oV 2 (.mv (kb false))]) (.seq (.seq (.reg [oE 5 (.faddr 0 (.V 1)), oE 6 (.load false 1 (.E 5)), oE 7 (.len (.E 6)), oE 8 (.call k_impl_within [([0], (.E 7)), ([0], (ki 1)), ([0], (ki 4))]), oE 9 (.un .not (.E 8)), oE 10 (.mv (.E 9)), ⟨(some (.E 11)), .faddr 1 (.V 1), some ((.E 10), false)⟩, ⟨(some (.E 12)), .load false 1 (.E 11), some ((.E 10), false)⟩, ⟨(some (.E 13)), .len (.E 12), some ((.E 10), false)⟩, ⟨(some (.E 14)), .faddr 0 (.V 1), some ((.E 10), false)⟩, ⟨(some (.E 15)), .load false 1 (.E 14), some ((.E 10), false)⟩, ⟨(some (.E 16)), .len (.E 15), some ((.E 10), false)⟩, ⟨(some (.E 17)), .bin .neq (.E 13) (.E 16), some ((.E 10), false)⟩, oE 18 (.pick (.E 10) (kb true) (.E 17)), oE 19 (.mv (.E 18)), ⟨(some (.E 20)), .load true 2 (.V 1), some ((.E 19), false)⟩, ⟨(some (.E 21)), .call k_impl_RowsIn [([1, 1], (.E 20))], some ((.E 19), false)⟩, ⟨(some (.E 22)), .call k_impl_within [([0], (.E 21)), ([0], (ki 1)), ([0], (ki 40))], some ((.E 19), false)⟩, ⟨(some (.E 23)), .un .not (.E 22), some ((.E 19), false)⟩, oE 24 (.pick (.E 19) (kb true) (.E 23))]) (.cond (.E 24) (.seq (.reg [oV 2 (.mv (kb false))]) .ret) .skip)) (.seq (.seq (.reg [oE 25 (.faddr 0 (.V 1)), oV 26 (.load false 1 (.E 25)), oV 27 (.len (.V 26)), oV 28 (.mv (ki 0))]) (.block 0 (.loop k_impl_GridOk_b0))) (.seq (.reg [oV 2 (.mv (kb true))]) .ret)))

def k_impl_GridOk_rv : List RV := [.tmp [0] 2]

def k_impl_TaskOk_1_vars : List Nat := [0, 2]

def k_impl_TaskOk_1_ic : IC := .seq (.reg [oV 2 (.mv (kb false))]) (.seq (.reg [oE 3 (.mv (.V 0)), oE 4 (.call k_impl_within [([0], (.E 3)), ([0], (ki (-2199023255552))), ([0], (ki 2199023255552))]), oE 5 (.un .not (.E 4)), oV 2 (.mv (.E 5))]) .ret)

def k_impl_TaskOk_1_rv : List RV := [.tmp [0] 2]

def k_spec_HistOf_vars : List Nat := [0, 1, 2, 3, 10, 12, 13, 11, 15, 14, 8, 9]

def k_spec_HistOf_b0 : IC := .seq (.seq (.reg [oE 23 (.mv (.V 12)), oE 24 (.mv (.V 2)), oE 25 (.len (.E 24)), oE 26 (.bin .lss (.E 23) (.E 25))]) (.cond (.E 26) .skip (.exit 0))) (.seq (.block 1 (.seq (.reg [oE 29 (.mv (.V 2)), oE 30 (.mv (.V 12)), oE 31 (.iaddr 1 (.E 29) (.E 30)), oE 32 (.load false 1 (.E 31)), oV 13 (.mv (.E 32))]) (.seq (.seq (.reg [oE 33 (.mv (.V 13)), oE 34 (.mv (.V 0)), oE 35 (.len (.E 34)), oE 36 (.bin .sub (.E 35) (ki 1)), oE 37 (.call k_spec_l1In [([0], (.E 33)), ([0], (ki 0)), ([0], (.E 36))]), oE 38 (.un .not (.E 37)), oE 39 (.mv (.E 38)), ⟨(some (.E 40)), .mv (.V 13), some ((.E 39), false)⟩, ⟨(some (.E 41)), .mv (.V 1), some ((.E 39), false)⟩, ⟨(some (.E 42)), .len (.E 41), some ((.E 39), false)⟩, ⟨(some (.E 43)), .bin .sub (.E 42) (ki 1), some ((.E 39), false)⟩, ⟨(some (.E 44)), .call k_spec_l1In [([0], (.E 40)), ([0], (ki 0)), ([0], (.E 43))], some ((.E 39), false)⟩, ⟨(some (.E 45)), .un .not (.E 44), some ((.E 39), false)⟩, oE 46 (.pick (.E 39) (kb true) (.E 45)), oE 47 (.mv (.E 46)), ⟨(some (.E 48)), .mv (.V 0), some ((.E 47), false)⟩, ⟨(some (.E 49)), .mv (.V 13), some ((.E 47), false)⟩, ⟨(some (.E 50)), .iaddr 1 (.E 48) (.E 49), some ((.E 47), false)⟩, ⟨(some (.E 51)), .load false 1 (.E 50), some ((.E 47), false)⟩, ⟨(some (.E 52)), .mv (.V 3), some ((.E 47), false)⟩, ⟨(some (.E 53)), .bin .sub (.E 52) (ki 1), some ((.E 47), false)⟩, ⟨(some (.E 54)), .call k_spec_l1In [([0], (.E 51)), ([0], (ki 0)), ([0], (.E 53))], some ((.E 47), false)⟩, ⟨(some (.E 55)), .un .not (.E 54), some ((.E 47), false)⟩, oE 56 (.pick (.E 47) (kb true) (.E 55))]) (.cond (.E 56) (.seq (.reg [oE 57 (.mv (.V 10)), oV 8 (.mv (.E 57)), oV 9 (.mv (kb false))]) .ret) .skip)) (.seq (.regD [(oE 59 (.mv (.V 11)), 0, 0), (oE 60 (.mv (.V 0)), 0, 0), (oE 61 (.mv (.V 13)), 0, 0), (oE 62 (.iaddr 1 (.E 60) (.E 61)), 0, 0), (oE 63 (.load false 1 (.E 62)), 0, 0), (oE 64 (.iaddr 2 (.E 59) (.E 63)), 0, 0), (oE 65 (.load true 2 (.E 64)), 0, 0), (oE 66 (.mv (.V 1)), 0, 0), (oE 67 (.mv (.V 13)), 0, 0), (oE 68 (.iaddr 1 (.E 66) (.E 67)), 0, 0), (oE 69 (.load false 1 (.E 68)), 0, 0), (oE 70 (.build [iv 0, iv 0] [(0, 1, (ki 1)), (1, 1, (.E 69))]), 0, 0), (oE 71 (.call k_spec_l13Add [([0, 0], (.E 65)), ([0, 0], (.E 70))]), 0, 0), (oE 58 (.mv (.E 71)), 0, 0), (oE 72 (.ext 0 (.E 58)), 0, 0), (oE 73 (.ext 1 (.E 58)), 0, 0), (oV 14 (.allocL [iv 0, iv 0]), 0, 0), (oN (.store [0, 0] (.V 14) (.E 72)), 0, 0), (oV 15 (.mv (.E 73)), 0, 0)]) (.seq (.seq (.reg [oE 74 (.mv (.V 15)), oE 75 (.un .not (.E 74))]) (.cond (.E 75) (.seq (.reg [oE 76 (.mv (.V 10)), oV 8 (.mv (.E 76)), oV 9 (.mv (kb false))]) .ret) .skip)) (.regD [(oE 77 (.mv (.V 11)), 0, 0), (oE 78 (.mv (.V 0)), 0, 0), (oE 79 (.mv (.V 13)), 0, 0), (oE 80 (.iaddr 1 (.E 78) (.E 79)), 0, 0), (oE 81 (.load false 1 (.E 80)), 0, 0), (oE 82 (.load true 2 (.V 14)), 0, 0), (oE 83 (.iaddr 2 (.E 77) (.E 81)), 0, 0), (oN (.store [0, 0] (.E 83) (.E 82)), 0, 0)])))))) (.reg [oE 27 (.mv (.V 12)), oE 28 (.bin .add (.E 27) (ki 1)), oV 12 (.mv (.E 28))]))

def k_spec_HistOf_ic : IC := .seq (.reg [oV 8 (.mv (.C .e0)), oV 9 (.mv (kb false))]) (.seq (.reg [oE 16 (.bslice 0 2 [iv 0, iv 0] []), oV 10 (.mv (.E 16))]) (.seq (.seq (.reg [oE 17 (.mv (.V 3)), oE 18 (.call k_spec_l1In [([0], (.E 17)), ([0], (ki 1)), ([0], (ki 8))]), oE 19 (.un .not (.E 18))]) (.cond (.E 19) (.seq (.reg [oE 20 (.mv (.V 10)), oV 8 (.mv (.E 20)), oV 9 (.mv (kb false))]) .ret) .skip)) (.seq (.reg [oE 21 (.mv (.V 3)), oE 22 (.mksl 16 2 [iv 0, iv 0] (.E 21) (.E 21)), oV 11 (.mv (.E 22))]) (.seq (.seq (.reg [oV 12 (.mv (ki 0))]) (.block 0 (.loop k_spec_HistOf_b0))) (.seq (.reg [oE 84 (.mv (.V 11)), oV 8 (.mv (.E 84)), oV 9 (.mv (kb true))]) .ret)))))

def k_spec_HistOf_rv : List RV := [.tmp [2] 8, .tmp [0] 9]

def k_spec_Prefix_vars : List Nat := [0, 6, 5, 8, 7, 4, 2, 3]

def k_spec_Prefix_b0 : IC := .seq (.seq (.reg [oE 11 (.mv (.V 6)), oE 12 (.mv (.V 0)), oE 13 (.len (.E 12)), oE 14 (.bin .lss (.E 11) (.E 13))]) (.cond (.E 14) .skip (.exit 0))) (.seq (.block 1 (.seq (.regD [(oE 18 (.load true 2 (.V 5)), 0, 0), (oE 19 (.mv (.V 0)), 0, 0), (oE 20 (.mv (.V 6)), 0, 0), (oE 21 (.iaddr 2 (.E 19) (.E 20)), 0, 0), (oE 22 (.load true 2 (.E 21)), 0, 0), (oE 23 (.call k_spec_l13Add [([0, 0], (.E 18)), ([0, 0], (.E 22))]), 0, 0), (oE 17 (.mv (.E 23)), 0, 0), (oE 24 (.ext 0 (.E 17)), 0, 0), (oE 25 (.ext 1 (.E 17)), 0, 0), (oV 7 (.allocL [iv 0, iv 0]), 0, 0), (oN (.store [0, 0] (.V 7) (.E 24)), 0, 0), (oV 8 (.mv (.E 25)), 0, 0)]) (.seq (.seq (.reg [oE 26 (.mv (.V 8)), oE 27 (.un .not (.E 26))]) (.cond (.E 27) (.seq (.reg [oE 28 (.bslice 0 2 [iv 0, iv 0] []), oV 2 (.mv (.E 28)), oV 3 (.mv (kb false))]) .ret) .skip)) (.seq (.reg [oE 29 (.load true 2 (.V 7)), oN (.store [0, 0] (.V 5) (.E 29))]) (.reg [oE 30 (.mv (.V 4)), oE 31 (.load true 2 (.V 5)), oE 32 (.bslice 1 2 [iv 0, iv 0] [(0, (.E 31))]), oE 33 (.app 16 2 (.E 30) (.E 32)), oV 4 (.mv (.E 33))]))))) (.reg [oE 15 (.mv (.V 6)), oE 16 (.bin .add (.E 15) (ki 1)), oV 6 (.mv (.E 16))]))

def k_spec_Prefix_ic : IC := .seq (.reg [oV 2 (.mv (.C .e0)), oV 3 (.mv (kb false))]) (.seq (.reg [oE 9 (.bslice 0 2 [iv 0, iv 0] []), oV 4 (.mv (.E 9))]) (.seq (.reg [oE 10 (.build [iv 0, iv 0] []), oV 5 (.alloc [iv 0, iv 0]), oN (.store [0, 0] (.V 5) (.E 10))]) (.seq (.seq (.reg [oV 6 (.mv (ki 0))]) (.block 0 (.loop k_spec_Prefix_b0))) (.seq (.reg [oE 34 (.mv (.V 4)), oV 2 (.mv (.E 34)), oV 3 (.mv (kb true))]) .ret))))

def k_spec_Prefix_rv : List RV := [.tmp [2] 2, .tmp [0] 3]

def k_spec_SubInt_vars : List Nat := [0, 1, 4, 5]

def k_spec_SubInt_ic : IC := .seq (.reg [oV 4 (.mv (ki 0)), oV 5 (.mv (kb false))]) (.seq (.seq (.reg [oE 6 (.mv (.V 1)), oE 7 (.bin .lss (.E 6) (ki 0)), oE 8 (.mv (.E 7)), ⟨(some (.E 9)), .mv (.V 0), some ((.E 8), true)⟩, ⟨(some (.E 10)), .mv (.V 1), some ((.E 8), true)⟩, ⟨(some (.E 11)), .bin .add (ki 9223372036854775807) (.E 10), some ((.E 8), true)⟩, ⟨(some (.E 12)), .bin .gtr (.E 9) (.E 11), some ((.E 8), true)⟩, oE 13 (.pick (.E 8) (.E 12) (kb false)), oE 14 (.mv (.E 13)), ⟨(some (.E 15)), .mv (.V 1), some ((.E 14), false)⟩, ⟨(some (.E 16)), .bin .gtr (.E 15) (ki 0), some ((.E 14), false)⟩, ⟨(some (.E 17)), .mv (.E 16), some ((.E 14), false)⟩, ⟨(some (.E 18)), .mv (.V 0), some ((.E 17), true)⟩, ⟨(some (.E 19)), .mv (.V 1), some ((.E 17), true)⟩, ⟨(some (.E 20)), .bin .add (ki (-9223372036854775808)) (.E 19), some ((.E 17), true)⟩, ⟨(some (.E 21)), .bin .lss (.E 18) (.E 20), some ((.E 17), true)⟩, ⟨(some (.E 22)), .pick (.E 17) (.E 21) (kb false), some ((.E 14), false)⟩, oE 23 (.pick (.E 14) (kb true) (.E 22))]) (.cond (.E 23) (.seq (.reg [oV 4 (.mv (ki 0)), oV 5 (.mv (kb false))]) .ret) .skip)) (.seq (.reg [oE 24 (.mv (.V 0)), oE 25 (.mv (.V 1)), oE 26 (.bin .sub (.E 24) (.E 25)), oV 4 (.mv (.E 26)), oV 5 (.mv (kb true))]) .ret))

def k_spec_SubInt_rv : List RV := [.tmp [0] 4, .tmp [0] 5]

def k_impl_HistOf_vars : List Nat := [0, 1, 2, 3, 22, 21, 20, 12, 10, 14, 13, 8, 9]

def k_impl_HistOf_b0 : IC := .seq (.reg [oE 23 (.bin .lss (.V 22) (.V 21))]) (.seq (.cond (.E 23) .skip (.exit 0)) (.seq (.block 1 (.seq (.reg [oE 24 (.iaddr 1 (.V 20) (.V 22)), oE 25 (.load false 1 (.E 24)), oV 12 (.mv (.E 25))]) (.seq (.seq (.reg [oE 26 (.mv (.V 12)), oE 27 (.mv (.V 0)), oE 28 (.len (.E 27)), oE 29 (.mv (.V 1)), oE 30 (.len (.E 29)), oE 31 (.mx false (.E 28) (.E 30)), oE 32 (.bin .sub (.E 31) (ki 1)), oE 33 (.call k_impl_within [([0], (.E 26)), ([0], (ki 0)), ([0], (.E 32))]), oE 34 (.un .not (.E 33)), oE 35 (.mv (.E 34)), ⟨(some (.E 36)), .mv (.V 0), some ((.E 35), false)⟩, ⟨(some (.E 37)), .mv (.V 12), some ((.E 35), false)⟩, ⟨(some (.E 38)), .iaddr 1 (.E 36) (.E 37), some ((.E 35), false)⟩, ⟨(some (.E 39)), .load false 1 (.E 38), some ((.E 35), false)⟩, ⟨(some (.E 40)), .mv (.V 3), some ((.E 35), false)⟩, ⟨(some (.E 41)), .bin .sub (.E 40) (ki 1), some ((.E 35), false)⟩, ⟨(some (.E 42)), .call k_impl_within [([0], (.E 39)), ([0], (ki 0)), ([0], (.E 41))], some ((.E 35), false)⟩, ⟨(some (.E 43)), .un .not (.E 42), some ((.E 35), false)⟩, oE 44 (.pick (.E 35) (kb true) (.E 43))]) (.cond (.E 44) (.seq (.reg [oV 8 (.mv (.C .e0)), oV 9 (.mv (kb false))]) .ret) .skip)) (.seq (.regD [(oE 46 (.mv (.V 10)), 0, 0), (oE 47 (.mv (.V 0)), 0, 0), (oE 48 (.mv (.V 12)), 0, 0), (oE 49 (.iaddr 1 (.E 47) (.E 48)), 0, 0), (oE 50 (.load false 1 (.E 49)), 0, 0), (oE 51 (.iaddr 2 (.E 46) (.E 50)), 0, 0), (oE 52 (.load true 2 (.E 51)), 0, 0), (oE 53 (.mv (.V 1)), 0, 0), (oE 54 (.mv (.V 12)), 0, 0), (oE 55 (.iaddr 1 (.E 53) (.E 54)), 0, 0), (oE 56 (.load false 1 (.E 55)), 0, 0), (oE 57 (.build [iv 0, iv 0] [(0, 1, (ki 1)), (1, 1, (.E 56))]), 0, 0), (oE 58 (.call k__impl_Slot__plus [([0, 0], (.E 52)), ([0, 0], (.E 57))]), 0, 0), (oE 45 (.mv (.E 58)), 0, 0), (oE 59 (.ext 0 (.E 45)), 0, 0), (oE 60 (.ext 1 (.E 45)), 0, 0), (oV 13 (.allocL [iv 0, iv 0]), 0, 0), (oN (.store [0, 0] (.V 13) (.E 59)), 0, 0), (oV 14 (.mv (.E 60)), 0, 0)]) (.seq (.seq (.reg [oE 61 (.mv (.V 14)), oE 62 (.un .not (.E 61))]) (.cond (.E 62) (.seq (.reg [oV 8 (.mv (.C .e0)), oV 9 (.mv (kb false))]) .ret) .skip)) (.regD [(oE 63 (.mv (.V 10)), 0, 0), (oE 64 (.mv (.V 0)), 0, 0), (oE 65 (.mv (.V 12)), 0, 0), (oE 66 (.iaddr 1 (.E 64) (.E 65)), 0, 0), (oE 67 (.load false 1 (.E 66)), 0, 0), (oE 68 (.load true 2 (.V 13)), 0, 0), (oE 69 (.iaddr 2 (.E 63) (.E 67)), 0, 0), (oN (.store [0, 0] (.E 69) (.E 68)), 0, 0)])))))) (.reg [oE 70 (.bin .add (.V 22) (ki 1)), oV 22 (.mv (.E 70))])))

def k_impl_HistOf_ic : IC := .seq (.reg [oV 8 (.mv (.C .e0)), oV 9 (.mv (kb false))]) (.seq (.seq (.reg [oE 15 (.mv (.V 3)), oE 16 (.call k_impl_within [([0], (.E 15)), ([0], (ki 1)), ([0], (ki 8))]), oE 17 (.un .not (.E 16))]) (.cond (.E 17) (.seq (.reg [oV 8 (.mv (.C .e0)), oV 9 (.mv (kb false))]) .ret) .skip)) (.seq (.reg [oE 18 (.mv (.V 3)), oE 19 (.mksl 16 2 [iv 0, iv 0] (.E 18) (.E 18)), oV 10 (.mv (.E 19))]) (.seq (.seq (.reg [oV 20 (.mv (.V 2)), oV 21 (.len (.V 20)), oV 22 (.mv (ki 0))]) (.block 0 (.loop k_impl_HistOf_b0))) (.seq (.reg [oE 71 (.mv (.V 10)), oV 8 (.mv (.E 71)), oV 9 (.mv (kb true))]) .ret))))

def k_impl_HistOf_rv : List RV := [.tmp [2] 8, .tmp [0] 9]

def k_impl_Prefix_vars : List Nat := [0, 14, 13, 12, 5, 7, 9, 8, 4, 2, 3]

def k_impl_Prefix_b0 : IC := .seq (.reg [oE 15 (.bin .lss (.V 14) (.V 13))]) (.seq (.cond (.E 15) .skip (.exit 0)) (.seq (.block 1 (.seq (.reg [oE 16 (.iaddr 2 (.V 12) (.V 14)), oE 17 (.load true 2 (.E 16)), oV 7 (.alloc [iv 0, iv 0]), oN (.store [0, 0] (.V 7) (.E 17))]) (.seq (.reg [oE 19 (.load true 2 (.V 5)), oE 20 (.load true 2 (.V 7)), oE 21 (.call k__impl_Slot__plus [([0, 0], (.E 19)), ([0, 0], (.E 20))]), oE 18 (.mv (.E 21)), oE 22 (.ext 0 (.E 18)), oE 23 (.ext 1 (.E 18)), oV 8 (.alloc [iv 0, iv 0]), oN (.store [0, 0] (.V 8) (.E 22)), oV 9 (.mv (.E 23))]) (.seq (.seq (.reg [oE 24 (.mv (.V 9)), oE 25 (.un .not (.E 24))]) (.cond (.E 25) (.seq (.reg [oV 2 (.mv (.C .e0)), oV 3 (.mv (kb false))]) .ret) .skip)) (.regD [(oE 26 (.load true 2 (.V 8)), 0, 2), (oE 27 (.mv (.V 4)), 0, 0), (oE 28 (.load true 2 (.V 8)), 0, 0), (oE 29 (.bslice 1 2 [iv 0, iv 0] [(0, (.E 28))]), 0, 0), (oE 30 (.app 16 2 (.E 27) (.E 29)), 0, 0), (oN (.store [0, 0] (.V 5) (.E 26)), 0, 0), (oV 4 (.mv (.E 30)), 0, 0)]))))) (.reg [oE 31 (.bin .add (.V 14) (ki 1)), oV 14 (.mv (.E 31))])))

def k_impl_Prefix_ic : IC := .seq (.reg [oV 2 (.mv (.C .e0)), oV 3 (.mv (kb false))]) (.seq (.reg [oE 10 (.bslice 0 2 [iv 0, iv 0] []), oE 11 (.build [iv 0, iv 0] []), oV 5 (.alloc [iv 0, iv 0]), oV 4 (.mv (.E 10)), oN (.store [0, 0] (.V 5) (.E 11))]) (.seq (.seq (.reg [oV 12 (.mv (.V 0)), oV 13 (.len (.V 12)), oV 14 (.mv (ki 0))]) (.block 0 (.loop k_impl_Prefix_b0))) (.seq (.reg [oE 32 (.mv (.V 4)), oV 2 (.mv (.E 32)), oV 3 (.mv (kb true))]) .ret)))

def k_impl_Prefix_rv : List RV := [.tmp [2] 2, .tmp [0] 3]

def k__impl_Slot__minus_vars : List Nat := [0, 1, 2, 3, 7, 9, 4, 6, 8, 5]

def k__impl_Slot__minus_ic : IC := .seq (.reg [oV 2 (.box (.V 0)), oV 3 (.box (.V 1)), oV 4 (.alloc [iv 0, iv 0]), oV 5 (.mv (kb false))]) (.seq (.reg [oE 11 (.faddr 0 (.V 2)), oE 12 (.load false 1 (.E 11)), oE 13 (.faddr 0 (.V 3)), oE 14 (.load false 1 (.E 13)), oE 15 (.call k_impl_SubInt [([0], (.E 12)), ([0], (.E 14))]), oE 10 (.mv (.E 15)), oE 16 (.ext 0 (.E 10)), oE 17 (.ext 1 (.E 10)), oV 6 (.mv (.E 16)), oV 7 (.mv (.E 17))]) (.seq (.reg [oE 19 (.faddr 1 (.V 2)), oE 20 (.load false 1 (.E 19)), oE 21 (.faddr 1 (.V 3)), oE 22 (.load false 1 (.E 21)), oE 23 (.call k_impl_SubInt [([0], (.E 20)), ([0], (.E 22))]), oE 18 (.mv (.E 23)), oE 24 (.ext 0 (.E 18)), oE 25 (.ext 1 (.E 18)), oV 8 (.mv (.E 24)), oV 9 (.mv (.E 25))]) (.seq (.seq (.reg [oE 26 (.mv (.V 7)), oE 27 (.un .not (.E 26)), oE 28 (.mv (.E 27)), ⟨(some (.E 29)), .mv (.V 9), some ((.E 28), false)⟩, ⟨(some (.E 30)), .un .not (.E 29), some ((.E 28), false)⟩, oE 31 (.pick (.E 28) (kb true) (.E 30))]) (.cond (.E 31) (.seq (.reg [oE 32 (.build [iv 0, iv 0] []), oN (.store [0, 0] (.V 4) (.E 32)), oV 5 (.mv (kb false))]) .ret) .skip)) (.seq (.reg [oE 33 (.mv (.V 6)), oE 34 (.mv (.V 8)), oE 35 (.build [iv 0, iv 0] [(0, 1, (.E 33)), (1, 1, (.E 34))]), oN (.store [0, 0] (.V 4) (.E 35)), oV 5 (.mv (kb true))]) .ret))))

def k__impl_Slot__minus_rv : List RV := [.cell [0, 0] 4 true, .tmp [0] 5]

def k_spec_BoundOk_vars : List Nat := [0, 1, 2]

def k_spec_BoundOk_ic : IC := .seq (.reg [oV 1 (.box (.V 0)), oV 2 (.mv (kb false))]) (.seq (.reg [oE 3 (.faddr 0 (.V 1)), oE 4 (.load false 1 (.E 3)), oE 5 (.faddr 1 (.V 1)), oE 6 (.load false 1 (.E 5)), oE 7 (.bin .leq (.E 4) (.E 6)), oE 8 (.mv (.E 7)), ⟨(some (.E 9)), .faddr 0 (.V 1), some ((.E 8), true)⟩, ⟨(some (.E 10)), .load false 1 (.E 9), some ((.E 8), true)⟩, ⟨(some (.E 11)), .call k_spec_l14Leaf [([0], (.E 10))], some ((.E 8), true)⟩, oE 12 (.pick (.E 8) (.E 11) (kb false)), oE 13 (.mv (.E 12)), ⟨(some (.E 14)), .faddr 1 (.V 1), some ((.E 13), true)⟩, ⟨(some (.E 15)), .load false 1 (.E 14), some ((.E 13), true)⟩, ⟨(some (.E 16)), .call k_spec_l14Leaf [([0], (.E 15))], some ((.E 13), true)⟩, oE 17 (.pick (.E 13) (.E 16) (kb false)), oV 2 (.mv (.E 17))]) .ret)

def k_spec_BoundOk_rv : List RV := [.tmp [0] 2]

def k_spec_Brought_vars : List Nat := [0, 1, 2, 6]

def k_spec_Brought_ic : IC := .seq (.reg [oV 6 (.mv (ki 0))]) (.seq (.seq (.reg [oE 7 (.mv (.V 0)), oE 8 (.mv (.V 1)), oE 9 (.bin .lss (.E 7) (.E 8))]) (.cond (.E 9) (.seq (.reg [oE 10 (.mv (.V 1)), oV 6 (.mv (.E 10))]) .ret) .skip)) (.seq (.seq (.reg [oE 11 (.mv (.V 0)), oE 12 (.mv (.V 2)), oE 13 (.bin .gtr (.E 11) (.E 12))]) (.cond (.E 13) (.seq (.reg [oE 14 (.mv (.V 2)), oV 6 (.mv (.E 14))]) .ret) .skip)) (.seq (.reg [oE 15 (.mv (.V 0)), oV 6 (.mv (.E 15))]) .ret)))

def k_spec_Brought_rv : List RV := [.tmp [0] 6]

def k_spec_HalfSum_vars : List Nat := [0, 1, 4]

def k_spec_HalfSum_ic : IC := .seq (.reg [oV 4 (.mv (ki 0))]) (.seq (.reg [oE 5 (.mv (.V 0)), oE 6 (.mv (.V 1)), oE 7 (.bin .and (.E 5) (.E 6)), oE 8 (.mv (.V 0)), oE 9 (.mv (.V 1)), oE 10 (.bin .xor (.E 8) (.E 9)), oE 11 (.bin .shr (.E 10) (.C (.v (.int .u64 1)))), oE 12 (.bin .add (.E 7) (.E 11)), oV 4 (.mv (.E 12))]) .ret)

def k_spec_HalfSum_rv : List RV := [.tmp [0] 4]

def k_impl_isCount_vars : List Nat := [0, 1, 4]

def k_impl_isCount_ic : IC := .seq (.reg [oV 4 (.mv (kb false))]) (.seq (.reg [oE 5 (.mv (.V 0)), oE 6 (.call k_impl_within [([0], (.E 5)), ([0], (ki 0)), ([0], (ki 40))]), oE 7 (.mv (.E 6)), ⟨(some (.E 8)), .mv (.V 1), some ((.E 7), true)⟩, ⟨(some (.E 9)), .call k_impl_within [([0], (.E 8)), ([0], (ki 1)), ([0], (ki 100))], some ((.E 7), true)⟩, oE 10 (.pick (.E 7) (.E 9) (kb false)), oV 4 (.mv (.E 10))]) .ret)

def k_impl_isCount_rv : List RV := [.tmp [0] 4]

def k_impl_BoundOk_vars : List Nat := [0, 1, 2]

def k_impl_BoundOk_ic : IC := .seq (.reg [oV 1 (.box (.V 0)), oV 2 (.mv (kb false))]) (.seq (.reg [oE 3 (.faddr 0 (.V 1)), oE 4 (.load false 1 (.E 3)), oE 5 (.faddr 1 (.V 1)), oE 6 (.load false 1 (.E 5)), oE 7 (.bin .leq (.E 4) (.E 6)), oE 8 (.mv (.E 7)), ⟨(some (.E 9)), .faddr 0 (.V 1), some ((.E 8), true)⟩, ⟨(some (.E 10)), .load false 1 (.E 9), some ((.E 8), true)⟩, ⟨(some (.E 11)), .call k_impl_isLeafValue [([0], (.E 10))], some ((.E 8), true)⟩, oE 12 (.pick (.E 8) (.E 11) (kb false)), oE 13 (.mv (.E 12)), ⟨(some (.E 14)), .faddr 1 (.V 1), some ((.E 13), true)⟩, ⟨(some (.E 15)), .load false 1 (.E 14), some ((.E 13), true)⟩, ⟨(some (.E 16)), .call k_impl_isLeafValue [([0], (.E 15))], some ((.E 13), true)⟩, oE 17 (.pick (.E 13) (.E 16) (kb false)), oV 2 (.mv (.E 17))]) .ret)

def k_impl_BoundOk_rv : List RV := [.tmp [0] 2]

def k_impl_Brought_vars : List Nat := [0, 1, 2, 6]

def k_impl_Brought_ic : IC := .seq (.reg [oV 6 (.mv (ki 0))]) (.seq (.block 0 (.seq (.reg [oE 8 (.mv (.V 0)), oE 9 (.mv (.V 1)), oE 10 (.bin .lss (.E 8) (.E 9)), oE 7 (.mv (.E 10))]) (.cond (.E 7) (.seq (.reg [oE 11 (.mv (.V 1)), oV 6 (.mv (.E 11))]) .ret) (.seq (.reg [oE 13 (.mv (.V 0)), oE 14 (.mv (.V 2)), oE 15 (.bin .gtr (.E 13) (.E 14)), oE 12 (.mv (.E 15))]) (.cond (.E 12) (.seq (.reg [oE 16 (.mv (.V 2)), oV 6 (.mv (.E 16))]) .ret) .skip))))) (.seq (.reg [oE 17 (.mv (.V 0)), oV 6 (.mv (.E 17))]) .ret))

def k_impl_Brought_rv : List RV := [.tmp [0] 6]

def k_impl_HalfSum_vars : List Nat := [0, 1, 4]

def k_impl_HalfSum_ic : IC := .seq (.reg [oV 4 (.mv (ki 0))]) (.seq (.reg [oE 5 (.mv (.V 0)), oE 6 (.bin .shr (.E 5) (.C (.v (.int .u64 1)))), oE 7 (.mv (.V 1)), oE 8 (.bin .shr (.E 7) (.C (.v (.int .u64 1)))), oE 9 (.bin .add (.E 6) (.E 8)), oE 10 (.mv (.V 0)), oE 11 (.mv (.V 1)), oE 12 (.bin .and (.E 10) (.E 11)), oE 13 (.bin .and (.E 12) (ki 1)), oE 14 (.bin .add (.E 9) (.E 13)), oV 4 (.mv (.E 14))]) .ret)

def k_impl_HalfSum_rv : List RV := [.tmp [0] 4]

def k_laws_eqNode_vars : List Nat := [0, 1, 2, 3, 4]

def k_laws_eqNode_ic : IC := .seq (.reg [oV 2 (.box (.V 0)), oV 3 (.box (.V 1)), oV 4 (.mv (kb false))]) (.seq (.seq (.reg [oE 5 (.faddr 0 (.V 2)), oE 6 (.load false 1 (.E 5)), oE 7 (.faddr 0 (.V 3)), oE 8 (.load false 1 (.E 7)), oE 9 (.bin .neq (.E 6) (.E 8))]) (.cond (.E 9) (.seq (.reg [oV 4 (.mv (kb false))]) .ret) .skip)) (.seq (.seq (.reg [oE 10 (.faddr 1 (.V 2)), oE 11 (.load false 1 (.E 10)), oE 12 (.faddr 1 (.V 3)), oE 13 (.load false 1 (.E 12)), oE 14 (.bin .neq (.E 11) (.E 13))]) (.cond (.E 14) (.seq (.reg [oV 4 (.mv (kb false))]) .ret) .skip)) (.seq (.seq (.reg [oE 15 (.faddr 2 (.V 2)), oE 16 (.load false 1 (.E 15)), oE 17 (.faddr 2 (.V 3)), oE 18 (.load false 1 (.E 17)), oE 19 (.bin .neq (.E 16) (.E 18))]) (.cond (.E 19) (.seq (.reg [oV 4 (.mv (kb false))]) .ret) .skip)) (.seq (.seq (.reg [oE 20 (.faddr 3 (.V 2)), oE 21 (.load false 1 (.E 20)), oE 22 (.faddr 3 (.V 3)), oE 23 (.load false 1 (.E 22)), oE 24 (.bin .neq (.E 21) (.E 23))]) (.cond (.E 24) (.seq (.reg [oV 4 (.mv (kb false))]) .ret) .skip)) (.seq (.seq (.reg [oE 25 (.faddr 4 (.V 2)), oE 26 (.load false 1 (.E 25)), oE 27 (.faddr 4 (.V 3)), oE 28 (.load false 1 (.E 27)), oE 29 (.bin .neq (.E 26) (.E 28))]) (.cond (.E 29) (.seq (.reg [oV 4 (.mv (kb false))]) .ret) .skip)) (.seq (.reg [oV 4 (.mv (kb true))]) .ret))))))

def k_laws_eqNode_rv : List RV := [.tmp [0] 4]

def k_slices_IndexFunc___int_int__vars : List Nat := [0, 1, 8, 7, 5, 4]

def k_slices_IndexFunc___int_int__b0 : IC := .seq (.reg [oE 9 (.bin .lss (.V 8) (.V 7))]) (.seq (.cond (.E 9) .skip (.exit 0)) (.seq (.block 1 (.seq (.reg [oE 10 (.mv (.V 8)), oV 5 (.mv (.E 10))]) (.seq (.reg [oE 11 (.mv (.V 1)), oE 12 (.mv (.V 0)), oE 13 (.mv (.V 5)), oE 14 (.iaddr 1 (.E 12) (.E 13)), oE 15 (.load false 1 (.E 14)), oE 16 (.callv (.E 11) [([0], (.E 15))])]) (.cond (.E 16) (.seq (.reg [oE 17 (.mv (.V 5)), oV 4 (.mv (.E 17))]) .ret) .skip)))) (.reg [oE 18 (.bin .add (.V 8) (ki 1)), oV 8 (.mv (.E 18))])))

def k_slices_IndexFunc___int_int__ic : IC := .seq (.reg [oV 4 (.mv (ki 0))]) (.seq (.seq (.reg [oE 6 (.mv (.V 0)), oV 7 (.len (.E 6)), oV 8 (.mv (ki 0))]) (.block 0 (.loop k_slices_IndexFunc___int_int__b0))) (.seq (.reg [oV 4 (.mv (ki (-1)))]) .ret))

def k_slices_IndexFunc___int_int__rv : List RV := [.tmp [0] 4]

def k__impl_Slot__plus_vars : List Nat := [0, 1, 2, 3, 7, 9, 4, 6, 8, 5]

def k__impl_Slot__plus_ic : IC := .seq (.reg [oV 2 (.box (.V 0)), oV 3 (.box (.V 1)), oV 4 (.alloc [iv 0, iv 0]), oV 5 (.mv (kb false))]) (.seq (.reg [oE 11 (.faddr 0 (.V 2)), oE 12 (.load false 1 (.E 11)), oE 13 (.faddr 0 (.V 3)), oE 14 (.load false 1 (.E 13)), oE 15 (.call k_impl_AddInt [([0], (.E 12)), ([0], (.E 14))]), oE 10 (.mv (.E 15)), oE 16 (.ext 0 (.E 10)), oE 17 (.ext 1 (.E 10)), oV 6 (.mv (.E 16)), oV 7 (.mv (.E 17))]) (.seq (.reg [oE 19 (.faddr 1 (.V 2)), oE 20 (.load false 1 (.E 19)), oE 21 (.faddr 1 (.V 3)), oE 22 (.load false 1 (.E 21)), oE 23 (.call k_impl_AddInt [([0], (.E 20)), ([0], (.E 22))]), oE 18 (.mv (.E 23)), oE 24 (.ext 0 (.E 18)), oE 25 (.ext 1 (.E 18)), oV 8 (.mv (.E 24)), oV 9 (.mv (.E 25))]) (.seq (.seq (.reg [oE 26 (.mv (.V 7)), oE 27 (.un .not (.E 26)), oE 28 (.mv (.E 27)), ⟨(some (.E 29)), .mv (.V 9), some ((.E 28), false)⟩, ⟨(some (.E 30)), .un .not (.E 29), some ((.E 28), false)⟩, oE 31 (.pick (.E 28) (kb true) (.E 30))]) (.cond (.E 31) (.seq (.reg [oE 32 (.build [iv 0, iv 0] []), oN (.store [0, 0] (.V 4) (.E 32)), oV 5 (.mv (kb false))]) .ret) .skip)) (.seq (.reg [oE 33 (.mv (.V 6)), oE 34 (.mv (.V 8)), oE 35 (.build [iv 0, iv 0] [(0, 1, (.E 33)), (1, 1, (.E 34))]), oN (.store [0, 0] (.V 4) (.E 35)), oV 5 (.mv (kb true))]) .ret))))

def k__impl_Slot__plus_rv : List RV := [.cell [0, 0] 4 true, .tmp [0] 5]

def k_impl_SquareOver_vars : List Nat := [0, 1, 4, 5]

def k_impl_SquareOver_ic : IC := .seq (.reg [oV 4 (.alloc [(.v (.bool false)), (.v (.int .u64 0)), (.v (.int .u64 0)), iv 0]), oV 5 (.mv (kb false))]) (.seq (.reg [oE 6 (.mv (.V 0)), oE 7 (.mv (.V 0)), oE 8 (.call k_impl_MulWide [([0], (.E 6)), ([0], (.E 7))]), oE 9 (.mv (.V 1)), oE 10 (.call k_impl_fracOf [([0, 0, 0], (.E 8)), ([0], (.E 9))]), oE 11 (.ext 0 (.E 10)), oE 12 (.ext 1 (.E 10)), oN (.store [0, 0, 0, 0] (.V 4) (.E 11)), oV 5 (.mv (.E 12))]) .ret)

def k_impl_SquareOver_rv : List RV := [.cell [0, 0, 0, 0] 4 true, .tmp [0] 5]

def k_spec_l13Add_vars : List Nat := [0, 1, 2, 3, 7, 9, 4, 6, 8, 5]

def k_spec_l13Add_ic : IC := .seq (.reg [oV 2 (.box (.V 0)), oV 3 (.box (.V 1)), oV 4 (.alloc [iv 0, iv 0]), oV 5 (.mv (kb false))]) (.seq (.reg [oE 11 (.faddr 0 (.V 2)), oE 12 (.load false 1 (.E 11)), oE 13 (.faddr 0 (.V 3)), oE 14 (.load false 1 (.E 13)), oE 15 (.call k_spec_AddInt [([0], (.E 12)), ([0], (.E 14))]), oE 10 (.mv (.E 15)), oE 16 (.ext 0 (.E 10)), oE 17 (.ext 1 (.E 10)), oV 6 (.mv (.E 16)), oV 7 (.mv (.E 17))]) (.seq (.reg [oE 19 (.faddr 1 (.V 2)), oE 20 (.load false 1 (.E 19)), oE 21 (.faddr 1 (.V 3)), oE 22 (.load false 1 (.E 21)), oE 23 (.call k_spec_AddInt [([0], (.E 20)), ([0], (.E 22))]), oE 18 (.mv (.E 23)), oE 24 (.ext 0 (.E 18)), oE 25 (.ext 1 (.E 18)), oV 8 (.mv (.E 24)), oV 9 (.mv (.E 25))]) (.seq (.seq (.reg [oE 26 (.mv (.V 7)), oE 27 (.un .not (.E 26)), oE 28 (.mv (.E 27)), ⟨(some (.E 29)), .mv (.V 9), some ((.E 28), false)⟩, ⟨(some (.E 30)), .un .not (.E 29), some ((.E 28), false)⟩, oE 31 (.pick (.E 28) (kb true) (.E 30))]) (.cond (.E 31) (.seq (.reg [oE 32 (.build [iv 0, iv 0] []), oN (.store [0, 0] (.V 4) (.E 32)), oV 5 (.mv (kb false))]) .ret) .skip)) (.seq (.reg [oE 33 (.mv (.V 6)), oE 34 (.mv (.V 8)), oE 35 (.build [iv 0, iv 0] [(0, 1, (.E 33)), (1, 1, (.E 34))]), oN (.store [0, 0] (.V 4) (.E 35)), oV 5 (.mv (kb true))]) .ret))))

def k_spec_l13Add_rv : List RV := [.cell [0, 0] 4 true, .tmp [0] 5]

def k_impl_AddWide_vars : List Nat := [0, 1, 2, 3, 4, 7, 8, 6, 11, 12, 10, 14, 5]

def k_impl_AddWide_ic : IC := .seq (.reg [oV 2 (.box (.V 0)), oV 3 (.box (.V 1)), oV 4 (.alloc [(.v (.bool false)), (.v (.int .u64 0)), (.v (.int .u64 0))]), oV 5 (.mv (kb false))]) (.seq (.seq (.reg [oE 15 (.load true 3 (.V 2)), oE 16 (.call k_impl_WideOk [([0, 0, 0], (.E 15))]), oE 17 (.un .not (.E 16)), oE 18 (.mv (.E 17)), ⟨(some (.E 19)), .load true 3 (.V 3), some ((.E 18), false)⟩, ⟨(some (.E 20)), .call k_impl_WideOk [([0, 0, 0], (.E 19))], some ((.E 18), false)⟩, ⟨(some (.E 21)), .un .not (.E 20), some ((.E 18), false)⟩, oE 22 (.pick (.E 18) (kb true) (.E 21))]) (.cond (.E 22) (.seq (.reg [oE 23 (.build [(.v (.bool false)), (.v (.int .u64 0)), (.v (.int .u64 0))] []), oN (.store [0, 0, 0] (.V 4) (.E 23)), oV 5 (.mv (kb false))]) .ret) .skip)) (.seq (.seq (.reg [oE 24 (.faddr 0 (.V 2)), oE 25 (.load false 1 (.E 24)), oE 26 (.faddr 0 (.V 3)), oE 27 (.load false 1 (.E 26)), oE 28 (.eqb true [.b] (.E 25) (.E 27))]) (.cond (.E 28) (.seq (.seq (.reg [oE 29 (.load true 3 (.V 2)), oE 30 (.load true 3 (.V 3)), oE 31 (.call k_impl_compareSizes [([0, 0, 0], (.E 29)), ([0, 0, 0], (.E 30))]), oE 32 (.bin .lss (.E 31) (ki 0))]) (.cond (.E 32) (.reg [oE 33 (.load true 3 (.V 3)), oE 34 (.load true 3 (.V 2)), oN (.store [0, 0, 0] (.V 2) (.E 33)), oN (.store [0, 0, 0] (.V 3) (.E 34))]) .skip)) (.seq (.reg [oE 36 (.faddr 2 (.V 2)), oE 37 (.load false 1 (.E 36)), oE 38 (.faddr 2 (.V 3)), oE 39 (.load false 1 (.E 38)), oE 40 (.call k_math_bits_Sub64 [([0], (.E 37)), ([0], (.E 39)), ([0], (.C (.v (.int .u64 0))))]), oE 35 (.mv (.E 40)), oE 41 (.ext 0 (.E 35)), oE 42 (.ext 1 (.E 35)), oV 6 (.mv (.E 41)), oV 7 (.mv (.E 42))]) (.seq (.reg [oE 44 (.faddr 1 (.V 2)), oE 45 (.load false 1 (.E 44)), oE 46 (.faddr 1 (.V 3)), oE 47 (.load false 1 (.E 46)), oE 48 (.mv (.V 7)), oE 49 (.call k_math_bits_Sub64 [([0], (.E 45)), ([0], (.E 47)), ([0], (.E 48))]), oE 43 (.mv (.E 49)), oE 50 (.ext 0 (.E 43)), oE 51 (.ext 1 (.E 43)), oV 8 (.mv (.E 50)), oE 9 (.mv (.E 51))]) (.seq (.reg [oE 52 (.faddr 0 (.V 2)), oE 53 (.load false 1 (.E 52)), oE 54 (.mv (.V 8)), oE 55 (.mv (.V 6)), oE 56 (.call k_impl_wideOf [([0], (.E 53)), ([0], (.E 54)), ([0], (.E 55))]), oN (.store [0, 0, 0] (.V 4) (.E 56)), oV 5 (.mv (kb true))]) .ret)))) .skip)) (.seq (.reg [oE 58 (.faddr 2 (.V 2)), oE 59 (.load false 1 (.E 58)), oE 60 (.faddr 2 (.V 3)), oE 61 (.load false 1 (.E 60)), oE 62 (.call k_math_bits_Add64 [([0], (.E 59)), ([0], (.E 61)), ([0], (.C (.v (.int .u64 0))))]), oE 57 (.mv (.E 62)), oE 63 (.ext 0 (.E 57)), oE 64 (.ext 1 (.E 57)), oV 10 (.mv (.E 63)), oV 11 (.mv (.E 64))]) (.seq (.reg [oE 66 (.faddr 1 (.V 2)), oE 67 (.load false 1 (.E 66)), oE 68 (.faddr 1 (.V 3)), oE 69 (.load false 1 (.E 68)), oE 70 (.mv (.V 11)), oE 71 (.call k_math_bits_Add64 [([0], (.E 67)), ([0], (.E 69)), ([0], (.E 70))]), oE 65 (.mv (.E 71)), oE 72 (.ext 0 (.E 65)), oE 73 (.ext 1 (.E 65)), oV 12 (.mv (.E 72)), oE 13 (.mv (.E 73))]) (.seq (.reg [oE 74 (.faddr 0 (.V 2)), oE 75 (.load false 1 (.E 74)), oE 76 (.mv (.V 12)), oE 77 (.mv (.V 10)), oE 78 (.call k_impl_wideOf [([0], (.E 75)), ([0], (.E 76)), ([0], (.E 77))]), oV 14 (.alloc [(.v (.bool false)), (.v (.int .u64 0)), (.v (.int .u64 0))]), oN (.store [0, 0, 0] (.V 14) (.E 78))]) (.seq (.seq (.reg [oE 79 (.load true 3 (.V 14)), oE 80 (.call k_impl_WideOk [([0, 0, 0], (.E 79))]), oE 81 (.un .not (.E 80))]) (.cond (.E 81) (.seq (.reg [oE 82 (.build [(.v (.bool false)), (.v (.int .u64 0)), (.v (.int .u64 0))] []), oN (.store [0, 0, 0] (.V 4) (.E 82)), oV 5 (.mv (kb false))]) .ret) .skip)) (.seq (.reg [oE 83 (.load true 3 (.V 14)), oN (.store [0, 0, 0] (.V 4) (.E 83)), oV 5 (.mv (kb true))]) .ret)))))))

def k_impl_AddWide_rv : List RV := [.cell [0, 0, 0] 4 true, .tmp [0] 5]

def k_impl_fracOf_vars : List Nat := [0, 1, 2, 6, 4, 5]

def k_impl_fracOf_ic : IC := .seq (.reg [oV 2 (.box (.V 0)), oV 4 (.alloc [(.v (.bool false)), (.v (.int .u64 0)), (.v (.int .u64 0)), iv 0]), oV 5 (.mv (kb false))]) (.seq (.reg [oE 7 (.load true 3 (.V 2)), oE 8 (.mv (.V 1)), oE 9 (.build [(.v (.bool false)), (.v (.int .u64 0)), (.v (.int .u64 0)), iv 0] [(0, 3, (.E 7)), (3, 1, (.E 8))]), oV 6 (.alloc [(.v (.bool false)), (.v (.int .u64 0)), (.v (.int .u64 0)), iv 0]), oN (.store [0, 0, 0, 0] (.V 6) (.E 9))]) (.seq (.seq (.reg [oE 10 (.load true 4 (.V 6)), oE 11 (.call k_impl_FracOk [([0, 0, 0, 0], (.E 10))]), oE 12 (.un .not (.E 11))]) (.cond (.E 12) (.seq (.reg [oE 13 (.build [(.v (.bool false)), (.v (.int .u64 0)), (.v (.int .u64 0)), iv 0] []), oN (.store [0, 0, 0, 0] (.V 4) (.E 13)), oV 5 (.mv (kb false))]) .ret) .skip)) (.seq (.reg [oE 14 (.load true 4 (.V 6)), oN (.store [0, 0, 0, 0] (.V 4) (.E 14)), oV 5 (.mv (kb true))]) .ret)))

def k_impl_fracOf_rv : List RV := [.cell [0, 0, 0, 0] 4 true, .tmp [0] 5]

def k_impl_FracOk_vars : List Nat := [0, 1, 2]

def k_impl_FracOk_ic : IC := .seq (.reg [oV 1 (.box (.V 0)), oV 2 (.mv (kb false))]) (.seq (.reg [oE 3 (.faddr 0 (.V 1)), oE 4 (.load true 3 (.E 3)), oE 5 (.call k_impl_WideOk [([0, 0, 0], (.E 4))]), oE 6 (.mv (.E 5)), ⟨(some (.E 7)), .faddr 3 (.V 1), some ((.E 6), true)⟩, ⟨(some (.E 8)), .load false 1 (.E 7), some ((.E 6), true)⟩, ⟨(some (.E 9)), .call k_impl_within [([0], (.E 8)), ([0], (ki 1)), ([0], (ki 1000000))], some ((.E 6), true)⟩, oE 10 (.pick (.E 6) (.E 9) (kb false)), oV 2 (.mv (.E 10))]) .ret)

def k_impl_FracOk_rv : List RV := [.tmp [0] 2]

def k_impl_ScaleWide_vars : List Nat := [0, 1, 2, 4, 6, 8, 9, 10, 7, 11, 12, 5]

def k_impl_ScaleWide_ic : IC := .seq (.reg [oV 2 (.box (.V 0)), oV 4 (.alloc [(.v (.bool false)), (.v (.int .u64 0)), (.v (.int .u64 0))]), oV 5 (.mv (kb false))]) (.seq (.seq (.reg [oE 13 (.load true 3 (.V 2)), oE 14 (.call k_impl_WideOk [([0, 0, 0], (.E 13))]), oE 15 (.un .not (.E 14))]) (.cond (.E 15) (.seq (.reg [oE 16 (.build [(.v (.bool false)), (.v (.int .u64 0)), (.v (.int .u64 0))] []), oN (.store [0, 0, 0] (.V 4) (.E 16)), oV 5 (.mv (kb false))]) .ret) .skip)) (.seq (.reg [oE 17 (.mv (.V 1)), oE 18 (.call k_impl_size [([0], (.E 17))]), oV 6 (.mv (.E 18))]) (.seq (.reg [oE 20 (.faddr 1 (.V 2)), oE 21 (.load false 1 (.E 20)), oE 22 (.mv (.V 6)), oE 23 (.call k_math_bits_Mul64 [([0], (.E 21)), ([0], (.E 22))]), oE 19 (.mv (.E 23)), oE 24 (.ext 0 (.E 19)), oE 25 (.ext 1 (.E 19)), oV 7 (.mv (.E 24)), oV 8 (.mv (.E 25))]) (.seq (.reg [oE 27 (.faddr 2 (.V 2)), oE 28 (.load false 1 (.E 27)), oE 29 (.mv (.V 6)), oE 30 (.call k_math_bits_Mul64 [([0], (.E 28)), ([0], (.E 29))]), oE 26 (.mv (.E 30)), oE 31 (.ext 0 (.E 26)), oE 32 (.ext 1 (.E 26)), oV 9 (.mv (.E 31)), oV 10 (.mv (.E 32))]) (.seq (.reg [oE 34 (.mv (.V 8)), oE 35 (.mv (.V 9)), oE 36 (.call k_math_bits_Add64 [([0], (.E 34)), ([0], (.E 35)), ([0], (.C (.v (.int .u64 0))))]), oE 33 (.mv (.E 36)), oE 37 (.ext 0 (.E 33)), oE 38 (.ext 1 (.E 33)), oV 8 (.mv (.E 37)), oV 11 (.mv (.E 38))]) (.seq (.reg [oE 39 (.faddr 0 (.V 2)), oE 40 (.load false 1 (.E 39)), oE 41 (.mv (.V 1)), oE 42 (.bin .lss (.E 41) (ki 0)), oE 43 (.eqb true [.b] (.E 40) (.E 42)), oE 44 (.mv (.V 8)), oE 45 (.mv (.V 10)), oE 46 (.call k_impl_wideOf [([0], (.E 43)), ([0], (.E 44)), ([0], (.E 45))]), oV 12 (.alloc [(.v (.bool false)), (.v (.int .u64 0)), (.v (.int .u64 0))]), oN (.store [0, 0, 0] (.V 12) (.E 46))]) (.seq (.seq (.reg [oE 47 (.mv (.V 7)), oE 48 (.bin .gtr (.E 47) (.C (.v (.int .u64 0)))), oE 49 (.mv (.E 48)), ⟨(some (.E 50)), .mv (.V 11), some ((.E 49), false)⟩, ⟨(some (.E 51)), .bin .gtr (.E 50) (.C (.v (.int .u64 0))), some ((.E 49), false)⟩, oE 52 (.pick (.E 49) (kb true) (.E 51)), oE 53 (.mv (.E 52)), ⟨(some (.E 54)), .load true 3 (.V 12), some ((.E 53), false)⟩, ⟨(some (.E 55)), .call k_impl_WideOk [([0, 0, 0], (.E 54))], some ((.E 53), false)⟩, ⟨(some (.E 56)), .un .not (.E 55), some ((.E 53), false)⟩, oE 57 (.pick (.E 53) (kb true) (.E 56))]) (.cond (.E 57) (.seq (.reg [oE 58 (.build [(.v (.bool false)), (.v (.int .u64 0)), (.v (.int .u64 0))] []), oN (.store [0, 0, 0] (.V 4) (.E 58)), oV 5 (.mv (kb false))]) .ret) .skip)) (.seq (.reg [oE 59 (.load true 3 (.V 12)), oN (.store [0, 0, 0] (.V 4) (.E 59)), oV 5 (.mv (kb true))]) .ret))))))))

def k_impl_ScaleWide_rv : List RV := [.cell [0, 0, 0] 4 true, .tmp [0] 5]

def k_impl_wideOf_vars : List Nat := [0, 1, 2, 6]

def k_impl_wideOf_ic : IC := .seq (.reg [oV 6 (.alloc [(.v (.bool false)), (.v (.int .u64 0)), (.v (.int .u64 0))])]) (.seq (.reg [oE 7 (.mv (.V 0)), oE 8 (.mv (.E 7)), ⟨(some (.E 9)), .mv (.V 1), some ((.E 8), true)⟩, ⟨(some (.E 10)), .bin .gtr (.E 9) (.C (.v (.int .u64 0))), some ((.E 8), true)⟩, ⟨(some (.E 11)), .mv (.E 10), some ((.E 8), true)⟩, ⟨(some (.E 12)), .mv (.V 2), some ((.E 11), false)⟩, ⟨(some (.E 13)), .bin .gtr (.E 12) (.C (.v (.int .u64 0))), some ((.E 11), false)⟩, ⟨(some (.E 14)), .pick (.E 11) (kb true) (.E 13), some ((.E 8), true)⟩, oE 15 (.pick (.E 8) (.E 14) (kb false)), oE 16 (.mv (.V 1)), oE 17 (.mv (.V 2)), oE 18 (.build [(.v (.bool false)), (.v (.int .u64 0)), (.v (.int .u64 0))] [(0, 1, (.E 15)), (1, 1, (.E 16)), (2, 1, (.E 17))]), oN (.store [0, 0, 0] (.V 6) (.E 18))]) .ret)

def k_impl_wideOf_rv : List RV := [.cell [0, 0, 0] 6 true]

def k_impl_compareSizes_vars : List Nat := [0, 1, 2, 3, 4]

def k_impl_compareSizes_ic : IC := .seq (.reg [oV 2 (.box (.V 0)), oV 3 (.box (.V 1)), oV 4 (.mv (ki 0))]) (.seq (.regD [(oE 5 (.faddr 1 (.V 2)), 0, 0), (oE 6 (.load false 1 (.E 5)), 0, 0), (oE 7 (.faddr 1 (.V 3)), 0, 0), (oE 8 (.load false 1 (.E 7)), 0, 0), (oE 9 (.call k_cmp_Compare_uint64_ [([0], (.E 6)), ([0], (.E 8))]), 0, 0), (oE 10 (.faddr 2 (.V 2)), 1, 0), (oE 11 (.load false 1 (.E 10)), 1, 0), (oE 12 (.faddr 2 (.V 3)), 1, 0), (oE 13 (.load false 1 (.E 12)), 1, 0), (oE 14 (.call k_cmp_Compare_uint64_ [([0], (.E 11)), ([0], (.E 13))]), 0, 0), (oE 15 (.bslice 2 1 [iv 0] [(0, (.E 9)), (1, (.E 14))]), 0, 0), (oE 16 (.call k_cmp_Or_int_ [([1], (.E 15))]), 0, 0), (oV 4 (.mv (.E 16)), 0, 0)]) .ret)

def k_impl_compareSizes_rv : List RV := [.tmp [0] 4]

def k_cmp_isNaN_int__vars : List Nat := [0, 2]

def k_cmp_isNaN_int__ic : IC := .seq (.reg [oV 2 (.mv (kb false))]) (.seq (.reg [oE 3 (.mv (.V 0)), oE 4 (.mv (.V 0)), oE 5 (.bin .neq (.E 3) (.E 4)), oV 2 (.mv (.E 5))]) .ret)

def k_cmp_isNaN_int__rv : List RV := [.tmp [0] 2]

def k_spec_MulWide_vars : List Nat := [0, 1, 5, 6, 4]

def k_spec_MulWide_ic : IC := .seq (.reg [oV 4 (.alloc [(.v (.bool false)), (.v (.int .u64 0)), (.v (.int .u64 0))])]) (.seq (.reg [oE 8 (.mv (.V 0)), oE 9 (.call k_spec_l3Abs [([0], (.E 8))]), oE 10 (.mv (.V 1)), oE 11 (.call k_spec_l3Abs [([0], (.E 10))]), oE 12 (.call k_spec_l3Product [([0], (.E 9)), ([0], (.E 11))]), oE 7 (.mv (.E 12)), oE 13 (.ext 0 (.E 7)), oE 14 (.ext 1 (.E 7)), oV 5 (.mv (.E 13)), oV 6 (.mv (.E 14))]) (.seq (.reg [oE 15 (.mv (.V 0)), oE 16 (.bin .lss (.E 15) (ki 0)), oE 17 (.mv (.V 1)), oE 18 (.bin .lss (.E 17) (ki 0)), oE 19 (.eqb true [.b] (.E 16) (.E 18)), oE 20 (.mv (.E 19)), ⟨(some (.E 21)), .mv (.V 0), some ((.E 20), true)⟩, ⟨(some (.E 22)), .bin .neq (.E 21) (ki 0), some ((.E 20), true)⟩, oE 23 (.pick (.E 20) (.E 22) (kb false)), oE 24 (.mv (.E 23)), ⟨(some (.E 25)), .mv (.V 1), some ((.E 24), true)⟩, ⟨(some (.E 26)), .bin .neq (.E 25) (ki 0), some ((.E 24), true)⟩, oE 27 (.pick (.E 24) (.E 26) (kb false)), oE 28 (.mv (.V 5)), oE 29 (.mv (.V 6)), oE 30 (.build [(.v (.bool false)), (.v (.int .u64 0)), (.v (.int .u64 0))] [(0, 1, (.E 27)), (1, 1, (.E 28)), (2, 1, (.E 29))]), oN (.store [0, 0, 0] (.V 4) (.E 30))]) .ret))

def k_spec_MulWide_rv : List RV := [.cell [0, 0, 0] 4 true]

def k_spec_WideOk_vars : List Nat := [0, 1, 2]

def k_spec_WideOk_ic : IC := .seq (.reg [oV 1 (.box (.V 0)), oV 2 (.mv (kb false))]) (.seq (.reg [oE 3 (.faddr 1 (.V 1)), oE 4 (.load false 1 (.E 3)), oE 5 (.bin .lss (.E 4) (.C (.v (.int .u64 9223372036854775808)))), oE 6 (.mv (.E 5)), ⟨(some (.E 7)), .faddr 0 (.V 1), some ((.E 6), true)⟩, ⟨(some (.E 8)), .load false 1 (.E 7), some ((.E 6), true)⟩, ⟨(some (.E 9)), .un .not (.E 8), some ((.E 6), true)⟩, ⟨(some (.E 10)), .mv (.E 9), some ((.E 6), true)⟩, ⟨(some (.E 11)), .faddr 1 (.V 1), some ((.E 10), false)⟩, ⟨(some (.E 12)), .load false 1 (.E 11), some ((.E 10), false)⟩, ⟨(some (.E 13)), .bin .gtr (.E 12) (.C (.v (.int .u64 0))), some ((.E 10), false)⟩, ⟨(some (.E 14)), .pick (.E 10) (kb true) (.E 13), some ((.E 6), true)⟩, ⟨(some (.E 15)), .mv (.E 14), some ((.E 6), true)⟩, ⟨(some (.E 16)), .faddr 2 (.V 1), some ((.E 15), false)⟩, ⟨(some (.E 17)), .load false 1 (.E 16), some ((.E 15), false)⟩, ⟨(some (.E 18)), .bin .gtr (.E 17) (.C (.v (.int .u64 0))), some ((.E 15), false)⟩, ⟨(some (.E 19)), .pick (.E 15) (kb true) (.E 18), some ((.E 6), true)⟩, oE 20 (.pick (.E 6) (.E 19) (kb false)), oV 2 (.mv (.E 20))]) .ret)

def k_spec_WideOk_rv : List RV := [.tmp [0] 2]

def k_spec_l3Abs_vars : List Nat := [0, 2]

def k_spec_l3Abs_ic : IC := .seq (.reg [oV 2 (.mv (.C (.v (.int .u64 0))))]) (.seq (.seq (.reg [oE 3 (.mv (.V 0)), oE 4 (.bin .lss (.E 3) (ki 0))]) (.cond (.E 4) (.seq (.reg [oE 5 (.mv (.V 0)), oE 6 (.bin .add (.E 5) (ki 1)), oE 7 (.un .neg (.E 6)), oE 8 (.convI .u64 (.E 7)), oE 9 (.bin .add (.E 8) (.C (.v (.int .u64 1)))), oV 2 (.mv (.E 9))]) .ret) .skip)) (.seq (.reg [oE 10 (.mv (.V 0)), oE 11 (.convI .u64 (.E 10)), oV 2 (.mv (.E 11))]) .ret))

def k_spec_l3Abs_rv : List RV := [.tmp [0] 2]

def k_spec_l3Product_vars : List Nat := [0, 1, 7, 9, 6, 10, 8, 11, 12, 4, 5]

def k_spec_l3Product_ic : IC := .seq (.reg [oV 4 (.mv (.C (.v (.int .u64 0)))), oV 5 (.mv (.C (.v (.int .u64 0))))]) (.seq (.reg [oE 13 (.mv (.V 0)), oE 14 (.bin .shr (.E 13) (.C (.v (.int .u64 32)))), oV 6 (.mv (.E 14))]) (.seq (.reg [oE 15 (.mv (.V 0)), oE 16 (.bin .and (.E 15) (.C (.v (.int .u64 4294967295)))), oV 7 (.mv (.E 16))]) (.seq (.reg [oE 17 (.mv (.V 1)), oE 18 (.bin .shr (.E 17) (.C (.v (.int .u64 32)))), oV 8 (.mv (.E 18))]) (.seq (.reg [oE 19 (.mv (.V 1)), oE 20 (.bin .and (.E 19) (.C (.v (.int .u64 4294967295)))), oV 9 (.mv (.E 20))]) (.seq (.reg [oE 21 (.mv (.V 7)), oE 22 (.mv (.V 9)), oE 23 (.bin .mul (.E 21) (.E 22)), oV 10 (.mv (.E 23))]) (.seq (.reg [oE 24 (.mv (.V 6)), oE 25 (.mv (.V 9)), oE 26 (.bin .mul (.E 24) (.E 25)), oE 27 (.mv (.V 10)), oE 28 (.bin .shr (.E 27) (.C (.v (.int .u64 32)))), oE 29 (.bin .add (.E 26) (.E 28)), oV 11 (.mv (.E 29))]) (.seq (.reg [oE 30 (.mv (.V 7)), oE 31 (.mv (.V 8)), oE 32 (.bin .mul (.E 30) (.E 31)), oE 33 (.mv (.V 11)), oE 34 (.bin .and (.E 33) (.C (.v (.int .u64 4294967295)))), oE 35 (.bin .add (.E 32) (.E 34)), oV 12 (.mv (.E 35))]) (.seq (.reg [oE 36 (.mv (.V 6)), oE 37 (.mv (.V 8)), oE 38 (.bin .mul (.E 36) (.E 37)), oE 39 (.mv (.V 11)), oE 40 (.bin .shr (.E 39) (.C (.v (.int .u64 32)))), oE 41 (.bin .add (.E 38) (.E 40)), oE 42 (.mv (.V 12)), oE 43 (.bin .shr (.E 42) (.C (.v (.int .u64 32)))), oE 44 (.bin .add (.E 41) (.E 43)), oE 45 (.mv (.V 12)), oE 46 (.bin .shl (.E 45) (.C (.v (.int .u64 32)))), oE 47 (.mv (.V 10)), oE 48 (.bin .and (.E 47) (.C (.v (.int .u64 4294967295)))), oE 49 (.bin .add (.E 46) (.E 48)), oV 4 (.mv (.E 44)), oV 5 (.mv (.E 49))]) .ret))))))))

def k_spec_l3Product_rv : List RV := [.tmp [0] 4, .tmp [0] 5]

def k_impl_areDecimals_1_vars : List Nat := [0, 2]

def k_impl_areDecimals_1_ic : IC := .seq (.reg [oV 2 (.mv (kb false))]) (.seq (.reg [oE 3 (.mv (.V 0)), oE 4 (.call k_impl_isDecimal [([0], (.E 3))]), oE 5 (.un .not (.E 4)), oV 2 (.mv (.E 5))]) .ret)

def k_impl_areDecimals_1_rv : List RV := [.tmp [0] 2]

def k_spec_CutsOk_vars : List Nat := [0, 3, 2]

def k_spec_CutsOk_b0 : IC := .seq (.seq (.reg [oE 4 (.mv (.V 3)), oE 5 (.mv (.V 0)), oE 6 (.len (.E 5)), oE 7 (.bin .lss (.E 4) (.E 6))]) (.cond (.E 7) .skip (.exit 0))) (.seq (.block 1 (.seq (.regD [(oE 10 (.mv (.V 0)), 0, 0), (oE 11 (.mv (.V 3)), 0, 0), (oE 12 (.iaddr 1 (.E 10) (.E 11)), 0, 0), (oE 13 (.load false 1 (.E 12)), 0, 0), (oE 14 (.call k_spec_l6Value [([0], (.E 13))]), 0, 0), (oE 15 (.un .not (.E 14)), 0, 0), (oE 16 (.mv (.E 15)), 0, 0), (⟨(some (.E 17)), .mv (.V 3), some ((.E 16), false)⟩, 0, 0), (⟨(some (.E 18)), .bin .gtr (.E 17) (ki 0), some ((.E 16), false)⟩, 0, 0), (⟨(some (.E 19)), .mv (.E 18), some ((.E 16), false)⟩, 0, 0), (⟨(some (.E 20)), .mv (.V 0), some ((.E 19), true)⟩, 0, 0), (⟨(some (.E 21)), .mv (.V 3), some ((.E 19), true)⟩, 0, 0), (⟨(some (.E 22)), .bin .sub (.E 21) (ki 1), some ((.E 19), true)⟩, 0, 0), (⟨(some (.E 23)), .iaddr 1 (.E 20) (.E 22), some ((.E 19), true)⟩, 0, 0), (⟨(some (.E 24)), .load false 1 (.E 23), some ((.E 19), true)⟩, 0, 0), (⟨(some (.E 25)), .mv (.V 0), some ((.E 19), true)⟩, 0, 0), (⟨(some (.E 26)), .mv (.V 3), some ((.E 19), true)⟩, 0, 0), (⟨(some (.E 27)), .iaddr 1 (.E 25) (.E 26), some ((.E 19), true)⟩, 0, 0), (⟨(some (.E 28)), .load false 1 (.E 27), some ((.E 19), true)⟩, 0, 0), (⟨(some (.E 29)), .bin .geq (.E 24) (.E 28), some ((.E 19), true)⟩, 0, 0), (⟨(some (.E 30)), .pick (.E 19) (.E 29) (kb false), some ((.E 16), false)⟩, 0, 0), (oE 31 (.pick (.E 16) (kb true) (.E 30)), 0, 0)]) (.cond (.E 31) (.seq (.reg [oV 2 (.mv (kb false))]) .ret) .skip))) (.reg [oE 8 (.mv (.V 3)), oE 9 (.bin .add (.E 8) (ki 1)), oV 3 (.mv (.E 9))]))

def k_spec_CutsOk_ic : IC := .seq (.reg [oV 2 (.mv (kb false))]) (.seq (.seq (.reg [oV 3 (.mv (ki 0))]) (.block 0 (.loop k_spec_CutsOk_b0))) (.seq (.reg [oE 32 (.mv (.V 0)), oE 33 (.len (.E 32)), oE 34 (.bin .leq (.E 33) (ki 7)), oV 2 (.mv (.E 34))]) .ret))

def k_spec_CutsOk_rv : List RV := [.tmp [0] 2]

def k_impl_CutsOk_vars : List Nat := [0, 3, 2]

def k_impl_CutsOk_b0 : IC := .seq (.seq (.reg [oE 4 (.mv (.V 3)), oE 5 (.mv (.V 0)), oE 6 (.len (.E 5)), oE 7 (.bin .lss (.E 4) (.E 6))]) (.cond (.E 7) .skip (.exit 0))) (.seq (.block 1 (.seq (.regD [(oE 10 (.mv (.V 0)), 0, 0), (oE 11 (.mv (.V 3)), 0, 0), (oE 12 (.bin .sub (.E 11) (ki 1)), 0, 0), (oE 13 (.iaddr 1 (.E 10) (.E 12)), 0, 0), (oE 14 (.load false 1 (.E 13)), 0, 0), (oE 15 (.mv (.V 0)), 0, 0), (oE 16 (.mv (.V 3)), 0, 0), (oE 17 (.iaddr 1 (.E 15) (.E 16)), 0, 0), (oE 18 (.load false 1 (.E 17)), 0, 0), (oE 19 (.bin .geq (.E 14) (.E 18)), 0, 0)]) (.cond (.E 19) (.seq (.reg [oV 2 (.mv (kb false))]) .ret) .skip))) (.reg [oE 8 (.mv (.V 3)), oE 9 (.bin .add (.E 8) (ki 1)), oV 3 (.mv (.E 9))]))

def k_impl_CutsOk_ic : IC := .seq (.reg [oV 2 (.mv (kb false))]) (.seq (.seq (.reg [oV 3 (.mv (ki 1))]) (.block 0 (.loop k_impl_CutsOk_b0))) (.seq (.reg [oE 20 (.mv (.V 0)), oE 21 (.len (.E 20)), oE 22 (.bin .leq (.E 21) (ki 7)), oE 23 (.mv (.E 22)), ⟨(some (.E 24)), .mv (.V 0), some ((.E 23), true)⟩, ⟨(some (.E 25)), .call k_impl_areDecimals [([1], (.E 24))], some ((.E 23), true)⟩, oE 26 (.pick (.E 23) (.E 25) (kb false)), oV 2 (.mv (.E 26))]) .ret))

def k_impl_CutsOk_rv : List RV := [.tmp [0] 2]

def k_impl_GridOk_1_vars : List Nat := [0, 1, 3]

def k_impl_GridOk_1_ic : IC := .seq (.reg [oV 3 (.mv (kb false))]) (.seq (.reg [oE 4 (.mv (.V 0)), oE 5 (.load false 1 (.V 1)), oE 6 (.len (.E 5)), oE 7 (.call k_impl_within [([0], (.E 4)), ([0], (ki 0)), ([0], (.E 6))]), oE 8 (.un .not (.E 7)), oV 3 (.mv (.E 8))]) .ret)

def k_impl_GridOk_1_rv : List RV := [.tmp [0] 3]

def k_impl_SubInt_vars : List Nat := [0, 1, 6, 4, 5]

def k_impl_SubInt_ic : IC := .seq (.reg [oV 4 (.mv (ki 0)), oV 5 (.mv (kb false))]) (.seq (.reg [oE 7 (.mv (.V 0)), oE 8 (.mv (.V 1)), oE 9 (.bin .sub (.E 7) (.E 8)), oV 6 (.mv (.E 9))]) (.seq (.seq (.reg [oE 10 (.mv (.V 0)), oE 11 (.bin .lss (.E 10) (ki 0)), oE 12 (.mv (.V 1)), oE 13 (.bin .lss (.E 12) (ki 0)), oE 14 (.eqb true [.b] (.E 11) (.E 13)), oE 15 (.mv (.E 14)), ⟨(some (.E 16)), .mv (.V 6), some ((.E 15), true)⟩, ⟨(some (.E 17)), .bin .lss (.E 16) (ki 0), some ((.E 15), true)⟩, ⟨(some (.E 18)), .mv (.V 0), some ((.E 15), true)⟩, ⟨(some (.E 19)), .bin .lss (.E 18) (ki 0), some ((.E 15), true)⟩, ⟨(some (.E 20)), .eqb true [.b] (.E 17) (.E 19), some ((.E 15), true)⟩, oE 21 (.pick (.E 15) (.E 20) (kb false))]) (.cond (.E 21) (.seq (.reg [oV 4 (.mv (ki 0)), oV 5 (.mv (kb false))]) .ret) .skip)) (.seq (.reg [oE 22 (.mv (.V 6)), oV 4 (.mv (.E 22)), oV 5 (.mv (kb true))]) .ret)))

def k_impl_SubInt_rv : List RV := [.tmp [0] 4, .tmp [0] 5]

def k_spec_l14Leaf_vars : List Nat := [0, 2]

def k_spec_l14Leaf_ic : IC := .seq (.reg [oV 2 (.mv (kb false))]) (.seq (.reg [oE 3 (.mv (.V 0)), oE 4 (.call k_spec_l1In [([0], (.E 3)), ([0], (ki (-1099511627776))), ([0], (ki 1099511627776))]), oV 2 (.mv (.E 4))]) .ret)

def k_spec_l14Leaf_rv : List RV := [.tmp [0] 2]

def k_impl_isLeafValue_vars : List Nat := [0, 2]

def k_impl_isLeafValue_ic : IC := .seq (.reg [oV 2 (.mv (kb false))]) (.seq (.reg [oE 3 (.mv (.V 0)), oE 4 (.call k_impl_within [([0], (.E 3)), ([0], (ki (-1099511627776))), ([0], (ki 1099511627776))]), oV 2 (.mv (.E 4))]) .ret)

def k_impl_isLeafValue_rv : List RV := [.tmp [0] 2]

def k_impl_MulWide_vars : List Nat := [0, 1, 5, 6, 4]

def k_impl_MulWide_ic : IC := .seq (.reg [oV 4 (.alloc [(.v (.bool false)), (.v (.int .u64 0)), (.v (.int .u64 0))])]) (.seq (.reg [oE 8 (.mv (.V 0)), oE 9 (.call k_impl_size [([0], (.E 8))]), oE 10 (.mv (.V 1)), oE 11 (.call k_impl_size [([0], (.E 10))]), oE 12 (.call k_math_bits_Mul64 [([0], (.E 9)), ([0], (.E 11))]), oE 7 (.mv (.E 12)), oE 13 (.ext 0 (.E 7)), oE 14 (.ext 1 (.E 7)), oV 5 (.mv (.E 13)), oV 6 (.mv (.E 14))]) (.seq (.reg [oE 15 (.mv (.V 0)), oE 16 (.bin .lss (.E 15) (ki 0)), oE 17 (.mv (.V 1)), oE 18 (.bin .lss (.E 17) (ki 0)), oE 19 (.eqb true [.b] (.E 16) (.E 18)), oE 20 (.mv (.V 5)), oE 21 (.mv (.V 6)), oE 22 (.call k_impl_wideOf [([0], (.E 19)), ([0], (.E 20)), ([0], (.E 21))]), oN (.store [0, 0, 0] (.V 4) (.E 22))]) .ret))

def k_impl_MulWide_rv : List RV := [.cell [0, 0, 0] 4 true]

def k_impl_WideOk_vars : List Nat := [0, 1, 2]

def k_impl_WideOk_ic : IC := .seq (.reg [oV 1 (.box (.V 0)), oV 2 (.mv (kb false))]) (.seq (.reg [oE 3 (.faddr 1 (.V 1)), oE 4 (.load false 1 (.E 3)), oE 5 (.bin .lss (.E 4) (.C (.v (.int .u64 9223372036854775808)))), oE 6 (.mv (.E 5)), ⟨(some (.E 7)), .faddr 0 (.V 1), some ((.E 6), true)⟩, ⟨(some (.E 8)), .load false 1 (.E 7), some ((.E 6), true)⟩, ⟨(some (.E 9)), .un .not (.E 8), some ((.E 6), true)⟩, ⟨(some (.E 10)), .mv (.E 9), some ((.E 6), true)⟩, ⟨(some (.E 11)), .faddr 1 (.V 1), some ((.E 10), false)⟩, ⟨(some (.E 12)), .load false 1 (.E 11), some ((.E 10), false)⟩, ⟨(some (.E 13)), .bin .gtr (.E 12) (.C (.v (.int .u64 0))), some ((.E 10), false)⟩, ⟨(some (.E 14)), .pick (.E 10) (kb true) (.E 13), some ((.E 6), true)⟩, ⟨(some (.E 15)), .mv (.E 14), some ((.E 6), true)⟩, ⟨(some (.E 16)), .faddr 2 (.V 1), some ((.E 15), false)⟩, ⟨(some (.E 17)), .load false 1 (.E 16), some ((.E 15), false)⟩, ⟨(some (.E 18)), .bin .gtr (.E 17) (.C (.v (.int .u64 0))), some ((.E 15), false)⟩, ⟨(some (.E 19)), .pick (.E 15) (kb true) (.E 18), some ((.E 6), true)⟩, oE 20 (.pick (.E 6) (.E 19) (kb false)), oV 2 (.mv (.E 20))]) .ret)

def k_impl_WideOk_rv : List RV := [.tmp [0] 2]

def k_impl_size_vars : List Nat := [0, 2]

def k_impl_size_ic : IC := .seq (.reg [oV 2 (.mv (.C (.v (.int .u64 0))))]) (.seq (.seq (.reg [oE 3 (.mv (.V 0)), oE 4 (.bin .lss (.E 3) (ki 0))]) (.cond (.E 4) (.seq (.reg [oE 5 (.mv (.V 0)), oE 6 (.convI .u64 (.E 5)), oE 7 (.un .neg (.E 6)), oV 2 (.mv (.E 7))]) .ret) .skip)) (.seq (.reg [oE 8 (.mv (.V 0)), oE 9 (.convI .u64 (.E 8)), oV 2 (.mv (.E 9))]) .ret))

def k_impl_size_rv : List RV := [.tmp [0] 2]

def k_math_bits_Mul64_vars : List Nat := [0, 1, 6, 8, 7, 10, 11, 12, 9, 13, 4, 5]

def k_math_bits_Mul64_ic : IC := .seq (.reg [oV 4 (.mv (.C (.v (.int .u64 0)))), oV 5 (.mv (.C (.v (.int .u64 0))))]) (.seq (.reg [oE 14 (.mv (.V 0)), oE 15 (.bin .and (.E 14) (.C (.v (.int .u64 4294967295)))), oV 6 (.mv (.E 15))]) (.seq (.reg [oE 16 (.mv (.V 0)), oE 17 (.bin .shr (.E 16) (.C (.v (.int .u64 32)))), oV 7 (.mv (.E 17))]) (.seq (.reg [oE 18 (.mv (.V 1)), oE 19 (.bin .and (.E 18) (.C (.v (.int .u64 4294967295)))), oV 8 (.mv (.E 19))]) (.seq (.reg [oE 20 (.mv (.V 1)), oE 21 (.bin .shr (.E 20) (.C (.v (.int .u64 32)))), oV 9 (.mv (.E 21))]) (.seq (.reg [oE 22 (.mv (.V 6)), oE 23 (.mv (.V 8)), oE 24 (.bin .mul (.E 22) (.E 23)), oV 10 (.mv (.E 24))]) (.seq (.reg [oE 25 (.mv (.V 7)), oE 26 (.mv (.V 8)), oE 27 (.bin .mul (.E 25) (.E 26)), oE 28 (.mv (.V 10)), oE 29 (.bin .shr (.E 28) (.C (.v (.int .u64 32)))), oE 30 (.bin .add (.E 27) (.E 29)), oV 11 (.mv (.E 30))]) (.seq (.reg [oE 31 (.mv (.V 11)), oE 32 (.bin .and (.E 31) (.C (.v (.int .u64 4294967295)))), oV 12 (.mv (.E 32))]) (.seq (.reg [oE 33 (.mv (.V 11)), oE 34 (.bin .shr (.E 33) (.C (.v (.int .u64 32)))), oV 13 (.mv (.E 34))]) (.seq (.reg [oE 35 (.mv (.V 12)), oE 36 (.mv (.V 6)), oE 37 (.mv (.V 9)), oE 38 (.bin .mul (.E 36) (.E 37)), oE 39 (.bin .add (.E 35) (.E 38)), oV 12 (.mv (.E 39))]) (.seq (.reg [oE 40 (.mv (.V 7)), oE 41 (.mv (.V 9)), oE 42 (.bin .mul (.E 40) (.E 41)), oE 43 (.mv (.V 13)), oE 44 (.bin .add (.E 42) (.E 43)), oE 45 (.mv (.V 12)), oE 46 (.bin .shr (.E 45) (.C (.v (.int .u64 32)))), oE 47 (.bin .add (.E 44) (.E 46)), oV 4 (.mv (.E 47))]) (.seq (.reg [oE 48 (.mv (.V 0)), oE 49 (.mv (.V 1)), oE 50 (.bin .mul (.E 48) (.E 49)), oV 5 (.mv (.E 50))]) .ret)))))))))))

def k_math_bits_Mul64_rv : List RV := [.tmp [0] 4, .tmp [0] 5]

def k_cmp_Compare_uint64__vars : List Nat := [0, 1, 5, 6, 4]

def k_cmp_Compare_uint64__ic : IC := .seq (.reg [oV 4 (.mv (ki 0))]) (.seq (.reg [oE 7 (.mv (.V 0)), oE 8 (.call k_cmp_isNaN_uint64_ [([0], (.E 7))]), oV 5 (.mv (.E 8))]) (.seq (.reg [oE 9 (.mv (.V 1)), oE 10 (.call k_cmp_isNaN_uint64_ [([0], (.E 9))]), oV 6 (.mv (.E 10))]) (.seq (.seq (.reg [oE 11 (.mv (.V 5))]) (.cond (.E 11) (.seq (.seq (.reg [oE 12 (.mv (.V 6))]) (.cond (.E 12) (.seq (.reg [oV 4 (.mv (ki 0))]) .ret) .skip)) (.seq (.reg [oV 4 (.mv (ki (-1)))]) .ret)) .skip)) (.seq (.seq (.reg [oE 13 (.mv (.V 6))]) (.cond (.E 13) (.seq (.reg [oV 4 (.mv (ki 1))]) .ret) .skip)) (.seq (.seq (.reg [oE 14 (.mv (.V 0)), oE 15 (.mv (.V 1)), oE 16 (.bin .lss (.E 14) (.E 15))]) (.cond (.E 16) (.seq (.reg [oV 4 (.mv (ki (-1)))]) .ret) .skip)) (.seq (.seq (.reg [oE 17 (.mv (.V 0)), oE 18 (.mv (.V 1)), oE 19 (.bin .gtr (.E 17) (.E 18))]) (.cond (.E 19) (.seq (.reg [oV 4 (.mv (ki 1))]) .ret) .skip)) (.seq (.reg [oV 4 (.mv (ki 0))]) .ret)))))))

def k_cmp_Compare_uint64__rv : List RV := [.tmp [0] 4]

def k_cmp_isNaN_uint64__vars : List Nat := [0, 2]

def k_cmp_isNaN_uint64__ic : IC := .seq (.reg [oV 2 (.mv (kb false))]) (.seq (.reg [oE 3 (.mv (.V 0)), oE 4 (.mv (.V 0)), oE 5 (.bin .neq (.E 3) (.E 4)), oV 2 (.mv (.E 5))]) .ret)

def k_cmp_isNaN_uint64__rv : List RV := [.tmp [0] 2]

def tbl : List (Nat × Fun) := [
  (k_laws_FnExactGrowTree, fnOf k_laws_FnExactGrowTree_ic k_laws_FnExactGrowTree_rv []),
  (k_impl_BestOf, fnOf k_impl_BestOf_ic k_impl_BestOf_rv []),
  (k_spec_BestOf, fnOf k_spec_BestOf_ic k_spec_BestOf_rv []),
  (k_impl_MayPart, fnOf k_impl_MayPart_ic k_impl_MayPart_rv []),
  (k_spec_MayPart, fnOf k_spec_MayPart_ic k_spec_MayPart_rv []),
  (k_impl_Better, fnOf k_impl_Better_ic k_impl_Better_rv []),
  (k_spec_GainOf, fnOf k_spec_GainOf_ic k_spec_GainOf_rv []),
  (k_spec_CompareFrac, fnOf k_spec_CompareFrac_ic k_spec_CompareFrac_rv []),
  (k_laws_szConfig, fnOf k_laws_szConfig_ic k_laws_szConfig_rv []),
  (k_laws_toConfig, fnOf k_laws_toConfig_ic k_laws_toConfig_rv []),
  (k_laws_eqConfig, fnOf k_laws_eqConfig_ic k_laws_eqConfig_rv []),
  (k_laws_markConfig, fnOf k_laws_markConfig_ic k_laws_markConfig_rv [true]),
  (k_laws_szGrid, fnOf k_laws_szGrid_ic k_laws_szGrid_rv []),
  (k_laws_toGrid, fnOf k_laws_toGrid_ic k_laws_toGrid_rv []),
  (k_laws_toIntS, fnOf k_laws_toIntS_ic k_laws_toIntS_rv []),
  (k_laws_eqGrid, fnOf k_laws_eqGrid_ic k_laws_eqGrid_rv []),
  (k_laws_eqIntS, fnOf k_laws_eqIntS_ic k_laws_eqIntS_rv []),
  (k_laws_markGrid, fnOf k_laws_markGrid_ic k_laws_markGrid_rv [true]),
  (k_laws_markIntS, fnOf k_laws_markIntS_ic k_laws_markIntS_rv [true]),
  (k_spec_PartOf, fnOf k_spec_PartOf_ic k_spec_PartOf_rv []),
  (k_impl_PartOf, fnOf k_impl_PartOf_ic k_impl_PartOf_rv []),
  (k_spec_SplitRows, fnOf k_spec_SplitRows_ic k_spec_SplitRows_rv []),
  (k_spec_GrowTree, fnOf k_spec_GrowTree_ic k_spec_GrowTree_rv []),
  (k_impl_GrowTree, fnOf k_impl_GrowTree_ic k_impl_GrowTree_rv []),
  (k_laws_eqTree, fnOf k_laws_eqTree_ic k_laws_eqTree_rv []),
  (k_laws_markTree, fnOf k_laws_markTree_ic k_laws_markTree_rv [true]),
  (k_laws_heldTree, fnOf k_laws_heldTree_ic k_laws_heldTree_rv []),
  (k_spec_Better, fnOf k_spec_Better_ic k_spec_Better_rv []),
  (k_impl_SideValues, fnOf k_impl_SideValues_ic k_impl_SideValues_rv []),
  (k_impl_ConfigOk, fnOf k_impl_ConfigOk_ic k_impl_ConfigOk_rv []),
  (k_impl_Agrees, fnOf k_impl_Agrees_ic k_impl_Agrees_rv []),
  (k_impl_SignFor, fnOf k_impl_SignFor_ic k_impl_SignFor_rv []),
  (k_impl_Improves, fnOf k_impl_Improves_ic k_impl_Improves_rv []),
  (k_spec_SideValues, fnOf k_spec_SideValues_ic k_spec_SideValues_rv []),
  (k_spec_ConfigOk, fnOf k_spec_ConfigOk_ic k_spec_ConfigOk_rv []),
  (k_spec_Agrees, fnOf k_spec_Agrees_ic k_spec_Agrees_rv []),
  (k_spec_SignFor, fnOf k_spec_SignFor_ic k_spec_SignFor_rv []),
  (k_spec_Improves, fnOf k_spec_Improves_ic k_spec_Improves_rv []),
  (k_impl_GainOf, fnOf k_impl_GainOf_ic k_impl_GainOf_rv []),
  (k_impl_CompareFrac, fnOf k_impl_CompareFrac_ic k_impl_CompareFrac_rv []),
  (k_impl_CandLess, fnOf k_impl_CandLess_ic k_impl_CandLess_rv []),
  (k_spec_PlainGain, fnOf k_spec_PlainGain_ic k_spec_PlainGain_rv []),
  (k_spec_AddFrac, fnOf k_spec_AddFrac_ic k_spec_AddFrac_rv []),
  (k_spec_l5Cross, fnOf k_spec_l5Cross_ic k_spec_l5Cross_rv []),
  (k_spec_CompareWide, fnOf k_spec_CompareWide_ic k_spec_CompareWide_rv []),
  (k_laws_szIntSS, fnOf k_laws_szIntSS_ic k_laws_szIntSS_rv []),
  (k_laws_szIntS, fnOf k_laws_szIntS_ic k_laws_szIntS_rv []),
  (k_laws_toIntSS, fnOf k_laws_toIntSS_ic k_laws_toIntSS_rv []),
  (k_laws_eqIntSS, fnOf k_laws_eqIntSS_ic k_laws_eqIntSS_rv []),
  (k_laws_markIntSS, fnOf k_laws_markIntSS_ic k_laws_markIntSS_rv [true]),
  (k_spec_TaskOk, fnOf k_spec_TaskOk_ic k_spec_TaskOk_rv []),
  (k_spec_AllRows, fnOf k_spec_AllRows_ic k_spec_AllRows_rv []),
  (k_spec_Free, fnOf k_spec_Free_ic k_spec_Free_rv []),
  (k_impl_TaskOk, fnOf k_impl_TaskOk_ic k_impl_TaskOk_rv []),
  (k_impl_AllRows, fnOf k_impl_AllRows_ic k_impl_AllRows_rv []),
  (k_impl_RowsIn, fnOf k_impl_RowsIn_ic k_impl_RowsIn_rv []),
  (k_impl_Free, fnOf k_impl_Free_ic k_impl_Free_rv []),
  (k_spec_NodeHists, fnOf k_spec_NodeHists_ic k_spec_NodeHists_rv []),
  (k_spec_CandsOf, fnOf k_spec_CandsOf_ic k_spec_CandsOf_rv []),
  (k_impl_NodeHists, fnOf k_impl_NodeHists_ic k_impl_NodeHists_rv []),
  (k_impl_CandsOf, fnOf k_impl_CandsOf_ic k_impl_CandsOf_rv []),
  (k_spec_l1In, fnOf k_spec_l1In_ic k_spec_l1In_rv []),
  (k_spec_LeafOf, fnOf k_spec_LeafOf_ic k_spec_LeafOf_rv []),
  (k_spec_l19Sum, fnOf k_spec_l19Sum_ic k_spec_l19Sum_rv []),
  (k_spec_SidesOf, fnOf k_spec_SidesOf_ic k_spec_SidesOf_rv []),
  (k_impl_LeafOf, fnOf k_impl_LeafOf_ic k_impl_LeafOf_rv []),
  (k_impl_slotOf, fnOf k_impl_slotOf_ic k_impl_slotOf_rv []),
  (k_impl_SidesOf, fnOf k_impl_SidesOf_ic k_impl_SidesOf_rv []),
  (k_impl_SplitRows, fnOf k_impl_SplitRows_ic k_impl_SplitRows_rv []),
  (k_laws_eqNodeS, fnOf k_laws_eqNodeS_ic k_laws_eqNodeS_rv []),
  (k_laws_markNodeS, fnOf k_laws_markNodeS_ic k_laws_markNodeS_rv [true]),
  (k_laws_heldNodeS, fnOf k_laws_heldNodeS_ic k_laws_heldNodeS_rv []),
  (k_spec_CandLess, fnOf k_spec_CandLess_ic k_spec_CandLess_rv []),
  (k_impl_within, fnOf k_impl_within_ic k_impl_within_rv []),
  (k_slices_ContainsFunc___int_int_, fnOf k_slices_ContainsFunc___int_int__ic k_slices_ContainsFunc___int_int__rv []),
  (k_impl_ConfigOk_1, fnOf k_impl_ConfigOk_1_ic k_impl_ConfigOk_1_rv []),
  (k_impl_isSign, fnOf k_impl_isSign_ic k_impl_isSign_rv []),
  (k_impl_BothOf, fnOf k_impl_BothOf_ic k_impl_BothOf_rv []),
  (k_impl_PlainGain, fnOf k_impl_PlainGain_ic k_impl_PlainGain_rv []),
  (k_spec_l8Numbers, fnOf k_spec_l8Numbers_ic k_spec_l8Numbers_rv []),
  (k_spec_l8Least, fnOf k_spec_l8Least_ic k_spec_l8Least_rv []),
  (k_spec_l8Most, fnOf k_spec_l8Most_ic k_spec_l8Most_rv []),
  (k_spec_BothOf, fnOf k_spec_BothOf_ic k_spec_BothOf_rv []),
  (k_impl_AddFrac, fnOf k_impl_AddFrac_ic k_impl_AddFrac_rv []),
  (k_impl_crossed, fnOf k_impl_crossed_ic k_impl_crossed_rv []),
  (k_impl_CompareWide, fnOf k_impl_CompareWide_ic k_impl_CompareWide_rv []),
  (k_cmp_Or_int_, fnOf k_cmp_Or_int__ic k_cmp_Or_int__rv []),
  (k_cmp_Compare_int_, fnOf k_cmp_Compare_int__ic k_cmp_Compare_int__rv []),
  (k_spec_SquareOver, fnOf k_spec_SquareOver_ic k_spec_SquareOver_rv []),
  (k_spec_AddWide, fnOf k_spec_AddWide_ic k_spec_AddWide_rv []),
  (k_spec_FracOk, fnOf k_spec_FracOk_ic k_spec_FracOk_rv []),
  (k_spec_ScaleWide, fnOf k_spec_ScaleWide_ic k_spec_ScaleWide_rv []),
  (k_spec_l3Zero, fnOf k_spec_l3Zero_ic k_spec_l3Zero_rv []),
  (k_spec_l3Order, fnOf k_spec_l3Order_ic k_spec_l3Order_rv []),
  (k_spec_l6Value, fnOf k_spec_l6Value_ic k_spec_l6Value_rv []),
  (k_spec_AddInt, fnOf k_spec_AddInt_ic k_spec_AddInt_rv []),
  (k_spec_FloorDiv, fnOf k_spec_FloorDiv_ic k_spec_FloorDiv_rv []),
  (k_impl_areDecimals, fnOf k_impl_areDecimals_ic k_impl_areDecimals_rv []),
  (k_impl_AddInt, fnOf k_impl_AddInt_ic k_impl_AddInt_rv []),
  (k_impl_FloorDiv, fnOf k_impl_FloorDiv_ic k_impl_FloorDiv_rv []),
  (k_impl_isDecimal, fnOf k_impl_isDecimal_ic k_impl_isDecimal_rv []),
  (k_spec_GridOk, fnOf k_spec_GridOk_ic k_spec_GridOk_rv []),
  (k_spec_RowsIn, fnOf k_spec_RowsIn_ic k_spec_RowsIn_rv []),
  (k_impl_GridOk, fnOf k_impl_GridOk_ic k_impl_GridOk_rv []),
  (k_impl_TaskOk_1, fnOf k_impl_TaskOk_1_ic k_impl_TaskOk_1_rv []),
  (k_spec_HistOf, fnOf k_spec_HistOf_ic k_spec_HistOf_rv []),
  (k_spec_Prefix, fnOf k_spec_Prefix_ic k_spec_Prefix_rv []),
  (k_spec_SubInt, fnOf k_spec_SubInt_ic k_spec_SubInt_rv []),
  (k_impl_HistOf, fnOf k_impl_HistOf_ic k_impl_HistOf_rv []),
  (k_impl_Prefix, fnOf k_impl_Prefix_ic k_impl_Prefix_rv []),
  (k__impl_Slot__minus, fnOf k__impl_Slot__minus_ic k__impl_Slot__minus_rv []),
  (k_spec_BoundOk, fnOf k_spec_BoundOk_ic k_spec_BoundOk_rv []),
  (k_spec_Brought, fnOf k_spec_Brought_ic k_spec_Brought_rv []),
  (k_spec_HalfSum, fnOf k_spec_HalfSum_ic k_spec_HalfSum_rv []),
  (k_impl_isCount, fnOf k_impl_isCount_ic k_impl_isCount_rv []),
  (k_impl_BoundOk, fnOf k_impl_BoundOk_ic k_impl_BoundOk_rv []),
  (k_impl_Brought, fnOf k_impl_Brought_ic k_impl_Brought_rv []),
  (k_impl_HalfSum, fnOf k_impl_HalfSum_ic k_impl_HalfSum_rv []),
  (k_laws_eqNode, fnOf k_laws_eqNode_ic k_laws_eqNode_rv []),
  (k_slices_IndexFunc___int_int_, fnOf k_slices_IndexFunc___int_int__ic k_slices_IndexFunc___int_int__rv []),
  (k__impl_Slot__plus, fnOf k__impl_Slot__plus_ic k__impl_Slot__plus_rv []),
  (k_impl_SquareOver, fnOf k_impl_SquareOver_ic k_impl_SquareOver_rv []),
  (k_spec_l13Add, fnOf k_spec_l13Add_ic k_spec_l13Add_rv []),
  (k_impl_AddWide, fnOf k_impl_AddWide_ic k_impl_AddWide_rv []),
  (k_impl_fracOf, fnOf k_impl_fracOf_ic k_impl_fracOf_rv []),
  (k_impl_FracOk, fnOf k_impl_FracOk_ic k_impl_FracOk_rv []),
  (k_impl_ScaleWide, fnOf k_impl_ScaleWide_ic k_impl_ScaleWide_rv []),
  (k_impl_wideOf, fnOf k_impl_wideOf_ic k_impl_wideOf_rv []),
  (k_impl_compareSizes, fnOf k_impl_compareSizes_ic k_impl_compareSizes_rv []),
  (k_cmp_isNaN_int_, fnOf k_cmp_isNaN_int__ic k_cmp_isNaN_int__rv []),
  (k_spec_MulWide, fnOf k_spec_MulWide_ic k_spec_MulWide_rv []),
  (k_spec_WideOk, fnOf k_spec_WideOk_ic k_spec_WideOk_rv []),
  (k_spec_l3Abs, fnOf k_spec_l3Abs_ic k_spec_l3Abs_rv []),
  (k_spec_l3Product, fnOf k_spec_l3Product_ic k_spec_l3Product_rv []),
  (k_impl_areDecimals_1, fnOf k_impl_areDecimals_1_ic k_impl_areDecimals_1_rv []),
  (k_spec_CutsOk, fnOf k_spec_CutsOk_ic k_spec_CutsOk_rv []),
  (k_impl_CutsOk, fnOf k_impl_CutsOk_ic k_impl_CutsOk_rv []),
  (k_impl_GridOk_1, fnOf k_impl_GridOk_1_ic k_impl_GridOk_1_rv []),
  (k_impl_SubInt, fnOf k_impl_SubInt_ic k_impl_SubInt_rv []),
  (k_spec_l14Leaf, fnOf k_spec_l14Leaf_ic k_spec_l14Leaf_rv []),
  (k_impl_isLeafValue, fnOf k_impl_isLeafValue_ic k_impl_isLeafValue_rv []),
  (k_impl_MulWide, fnOf k_impl_MulWide_ic k_impl_MulWide_rv []),
  (k_impl_WideOk, fnOf k_impl_WideOk_ic k_impl_WideOk_rv []),
  (k_math_bits_Sub64, .ext sub64G),
  (k_math_bits_Add64, .ext add64G),
  (k_impl_size, fnOf k_impl_size_ic k_impl_size_rv []),
  (k_math_bits_Mul64, fnOf k_math_bits_Mul64_ic k_math_bits_Mul64_rv []),
  (k_cmp_Compare_uint64_, fnOf k_cmp_Compare_uint64__ic k_cmp_Compare_uint64__rv []),
  (k_cmp_isNaN_uint64_, fnOf k_cmp_isNaN_uint64__ic k_cmp_isNaN_uint64__rv [])]

def T : Table := fun f => (tbl.find? fun q => q.1 == f).map fun q => q.2

theorem T_laws_FnExactGrowTree : T k_laws_FnExactGrowTree = some (fnOf k_laws_FnExactGrowTree_ic k_laws_FnExactGrowTree_rv []) := rfl

@[simp] theorem M_laws_FnExactGrowTree : modesOf T k_laws_FnExactGrowTree = [] := modesOf_code T_laws_FnExactGrowTree

theorem T_impl_BestOf : T k_impl_BestOf = some (fnOf k_impl_BestOf_ic k_impl_BestOf_rv []) := rfl

@[simp] theorem M_impl_BestOf : modesOf T k_impl_BestOf = [] := modesOf_code T_impl_BestOf

theorem T_spec_BestOf : T k_spec_BestOf = some (fnOf k_spec_BestOf_ic k_spec_BestOf_rv []) := rfl

@[simp] theorem M_spec_BestOf : modesOf T k_spec_BestOf = [] := modesOf_code T_spec_BestOf

theorem T_impl_MayPart : T k_impl_MayPart = some (fnOf k_impl_MayPart_ic k_impl_MayPart_rv []) := rfl

@[simp] theorem M_impl_MayPart : modesOf T k_impl_MayPart = [] := modesOf_code T_impl_MayPart

theorem T_spec_MayPart : T k_spec_MayPart = some (fnOf k_spec_MayPart_ic k_spec_MayPart_rv []) := rfl

@[simp] theorem M_spec_MayPart : modesOf T k_spec_MayPart = [] := modesOf_code T_spec_MayPart

theorem T_impl_Better : T k_impl_Better = some (fnOf k_impl_Better_ic k_impl_Better_rv []) := rfl

@[simp] theorem M_impl_Better : modesOf T k_impl_Better = [] := modesOf_code T_impl_Better

theorem T_spec_GainOf : T k_spec_GainOf = some (fnOf k_spec_GainOf_ic k_spec_GainOf_rv []) := rfl

@[simp] theorem M_spec_GainOf : modesOf T k_spec_GainOf = [] := modesOf_code T_spec_GainOf

theorem T_spec_CompareFrac : T k_spec_CompareFrac = some (fnOf k_spec_CompareFrac_ic k_spec_CompareFrac_rv []) := rfl

@[simp] theorem M_spec_CompareFrac : modesOf T k_spec_CompareFrac = [] := modesOf_code T_spec_CompareFrac

theorem T_laws_szConfig : T k_laws_szConfig = some (fnOf k_laws_szConfig_ic k_laws_szConfig_rv []) := rfl

@[simp] theorem M_laws_szConfig : modesOf T k_laws_szConfig = [] := modesOf_code T_laws_szConfig

theorem T_laws_toConfig : T k_laws_toConfig = some (fnOf k_laws_toConfig_ic k_laws_toConfig_rv []) := rfl

@[simp] theorem M_laws_toConfig : modesOf T k_laws_toConfig = [] := modesOf_code T_laws_toConfig

theorem T_laws_eqConfig : T k_laws_eqConfig = some (fnOf k_laws_eqConfig_ic k_laws_eqConfig_rv []) := rfl

@[simp] theorem M_laws_eqConfig : modesOf T k_laws_eqConfig = [] := modesOf_code T_laws_eqConfig

theorem T_laws_markConfig : T k_laws_markConfig = some (fnOf k_laws_markConfig_ic k_laws_markConfig_rv [true]) := rfl

@[simp] theorem M_laws_markConfig : modesOf T k_laws_markConfig = [true] := modesOf_code T_laws_markConfig

theorem T_laws_szGrid : T k_laws_szGrid = some (fnOf k_laws_szGrid_ic k_laws_szGrid_rv []) := rfl

@[simp] theorem M_laws_szGrid : modesOf T k_laws_szGrid = [] := modesOf_code T_laws_szGrid

theorem T_laws_toGrid : T k_laws_toGrid = some (fnOf k_laws_toGrid_ic k_laws_toGrid_rv []) := rfl

@[simp] theorem M_laws_toGrid : modesOf T k_laws_toGrid = [] := modesOf_code T_laws_toGrid

theorem T_laws_toIntS : T k_laws_toIntS = some (fnOf k_laws_toIntS_ic k_laws_toIntS_rv []) := rfl

@[simp] theorem M_laws_toIntS : modesOf T k_laws_toIntS = [] := modesOf_code T_laws_toIntS

theorem T_laws_eqGrid : T k_laws_eqGrid = some (fnOf k_laws_eqGrid_ic k_laws_eqGrid_rv []) := rfl

@[simp] theorem M_laws_eqGrid : modesOf T k_laws_eqGrid = [] := modesOf_code T_laws_eqGrid

theorem T_laws_eqIntS : T k_laws_eqIntS = some (fnOf k_laws_eqIntS_ic k_laws_eqIntS_rv []) := rfl

@[simp] theorem M_laws_eqIntS : modesOf T k_laws_eqIntS = [] := modesOf_code T_laws_eqIntS

theorem T_laws_markGrid : T k_laws_markGrid = some (fnOf k_laws_markGrid_ic k_laws_markGrid_rv [true]) := rfl

@[simp] theorem M_laws_markGrid : modesOf T k_laws_markGrid = [true] := modesOf_code T_laws_markGrid

theorem T_laws_markIntS : T k_laws_markIntS = some (fnOf k_laws_markIntS_ic k_laws_markIntS_rv [true]) := rfl

@[simp] theorem M_laws_markIntS : modesOf T k_laws_markIntS = [true] := modesOf_code T_laws_markIntS

theorem T_spec_PartOf : T k_spec_PartOf = some (fnOf k_spec_PartOf_ic k_spec_PartOf_rv []) := rfl

@[simp] theorem M_spec_PartOf : modesOf T k_spec_PartOf = [] := modesOf_code T_spec_PartOf

theorem T_impl_PartOf : T k_impl_PartOf = some (fnOf k_impl_PartOf_ic k_impl_PartOf_rv []) := rfl

@[simp] theorem M_impl_PartOf : modesOf T k_impl_PartOf = [] := modesOf_code T_impl_PartOf

theorem T_spec_SplitRows : T k_spec_SplitRows = some (fnOf k_spec_SplitRows_ic k_spec_SplitRows_rv []) := rfl

@[simp] theorem M_spec_SplitRows : modesOf T k_spec_SplitRows = [] := modesOf_code T_spec_SplitRows

theorem T_spec_GrowTree : T k_spec_GrowTree = some (fnOf k_spec_GrowTree_ic k_spec_GrowTree_rv []) := rfl

@[simp] theorem M_spec_GrowTree : modesOf T k_spec_GrowTree = [] := modesOf_code T_spec_GrowTree

theorem T_impl_GrowTree : T k_impl_GrowTree = some (fnOf k_impl_GrowTree_ic k_impl_GrowTree_rv []) := rfl

@[simp] theorem M_impl_GrowTree : modesOf T k_impl_GrowTree = [] := modesOf_code T_impl_GrowTree

theorem T_laws_eqTree : T k_laws_eqTree = some (fnOf k_laws_eqTree_ic k_laws_eqTree_rv []) := rfl

@[simp] theorem M_laws_eqTree : modesOf T k_laws_eqTree = [] := modesOf_code T_laws_eqTree

theorem T_laws_markTree : T k_laws_markTree = some (fnOf k_laws_markTree_ic k_laws_markTree_rv [true]) := rfl

@[simp] theorem M_laws_markTree : modesOf T k_laws_markTree = [true] := modesOf_code T_laws_markTree

theorem T_laws_heldTree : T k_laws_heldTree = some (fnOf k_laws_heldTree_ic k_laws_heldTree_rv []) := rfl

@[simp] theorem M_laws_heldTree : modesOf T k_laws_heldTree = [] := modesOf_code T_laws_heldTree

theorem T_spec_Better : T k_spec_Better = some (fnOf k_spec_Better_ic k_spec_Better_rv []) := rfl

@[simp] theorem M_spec_Better : modesOf T k_spec_Better = [] := modesOf_code T_spec_Better

theorem T_impl_SideValues : T k_impl_SideValues = some (fnOf k_impl_SideValues_ic k_impl_SideValues_rv []) := rfl

@[simp] theorem M_impl_SideValues : modesOf T k_impl_SideValues = [] := modesOf_code T_impl_SideValues

theorem T_impl_ConfigOk : T k_impl_ConfigOk = some (fnOf k_impl_ConfigOk_ic k_impl_ConfigOk_rv []) := rfl

@[simp] theorem M_impl_ConfigOk : modesOf T k_impl_ConfigOk = [] := modesOf_code T_impl_ConfigOk

theorem T_impl_Agrees : T k_impl_Agrees = some (fnOf k_impl_Agrees_ic k_impl_Agrees_rv []) := rfl

@[simp] theorem M_impl_Agrees : modesOf T k_impl_Agrees = [] := modesOf_code T_impl_Agrees

theorem T_impl_SignFor : T k_impl_SignFor = some (fnOf k_impl_SignFor_ic k_impl_SignFor_rv []) := rfl

@[simp] theorem M_impl_SignFor : modesOf T k_impl_SignFor = [] := modesOf_code T_impl_SignFor

theorem T_impl_Improves : T k_impl_Improves = some (fnOf k_impl_Improves_ic k_impl_Improves_rv []) := rfl

@[simp] theorem M_impl_Improves : modesOf T k_impl_Improves = [] := modesOf_code T_impl_Improves

theorem T_spec_SideValues : T k_spec_SideValues = some (fnOf k_spec_SideValues_ic k_spec_SideValues_rv []) := rfl

@[simp] theorem M_spec_SideValues : modesOf T k_spec_SideValues = [] := modesOf_code T_spec_SideValues

theorem T_spec_ConfigOk : T k_spec_ConfigOk = some (fnOf k_spec_ConfigOk_ic k_spec_ConfigOk_rv []) := rfl

@[simp] theorem M_spec_ConfigOk : modesOf T k_spec_ConfigOk = [] := modesOf_code T_spec_ConfigOk

theorem T_spec_Agrees : T k_spec_Agrees = some (fnOf k_spec_Agrees_ic k_spec_Agrees_rv []) := rfl

@[simp] theorem M_spec_Agrees : modesOf T k_spec_Agrees = [] := modesOf_code T_spec_Agrees

theorem T_spec_SignFor : T k_spec_SignFor = some (fnOf k_spec_SignFor_ic k_spec_SignFor_rv []) := rfl

@[simp] theorem M_spec_SignFor : modesOf T k_spec_SignFor = [] := modesOf_code T_spec_SignFor

theorem T_spec_Improves : T k_spec_Improves = some (fnOf k_spec_Improves_ic k_spec_Improves_rv []) := rfl

@[simp] theorem M_spec_Improves : modesOf T k_spec_Improves = [] := modesOf_code T_spec_Improves

theorem T_impl_GainOf : T k_impl_GainOf = some (fnOf k_impl_GainOf_ic k_impl_GainOf_rv []) := rfl

@[simp] theorem M_impl_GainOf : modesOf T k_impl_GainOf = [] := modesOf_code T_impl_GainOf

theorem T_impl_CompareFrac : T k_impl_CompareFrac = some (fnOf k_impl_CompareFrac_ic k_impl_CompareFrac_rv []) := rfl

@[simp] theorem M_impl_CompareFrac : modesOf T k_impl_CompareFrac = [] := modesOf_code T_impl_CompareFrac

theorem T_impl_CandLess : T k_impl_CandLess = some (fnOf k_impl_CandLess_ic k_impl_CandLess_rv []) := rfl

@[simp] theorem M_impl_CandLess : modesOf T k_impl_CandLess = [] := modesOf_code T_impl_CandLess

theorem T_spec_PlainGain : T k_spec_PlainGain = some (fnOf k_spec_PlainGain_ic k_spec_PlainGain_rv []) := rfl

@[simp] theorem M_spec_PlainGain : modesOf T k_spec_PlainGain = [] := modesOf_code T_spec_PlainGain

theorem T_spec_AddFrac : T k_spec_AddFrac = some (fnOf k_spec_AddFrac_ic k_spec_AddFrac_rv []) := rfl

@[simp] theorem M_spec_AddFrac : modesOf T k_spec_AddFrac = [] := modesOf_code T_spec_AddFrac

theorem T_spec_l5Cross : T k_spec_l5Cross = some (fnOf k_spec_l5Cross_ic k_spec_l5Cross_rv []) := rfl

@[simp] theorem M_spec_l5Cross : modesOf T k_spec_l5Cross = [] := modesOf_code T_spec_l5Cross

theorem T_spec_CompareWide : T k_spec_CompareWide = some (fnOf k_spec_CompareWide_ic k_spec_CompareWide_rv []) := rfl

@[simp] theorem M_spec_CompareWide : modesOf T k_spec_CompareWide = [] := modesOf_code T_spec_CompareWide

theorem T_laws_szIntSS : T k_laws_szIntSS = some (fnOf k_laws_szIntSS_ic k_laws_szIntSS_rv []) := rfl

@[simp] theorem M_laws_szIntSS : modesOf T k_laws_szIntSS = [] := modesOf_code T_laws_szIntSS

theorem T_laws_szIntS : T k_laws_szIntS = some (fnOf k_laws_szIntS_ic k_laws_szIntS_rv []) := rfl

@[simp] theorem M_laws_szIntS : modesOf T k_laws_szIntS = [] := modesOf_code T_laws_szIntS

theorem T_laws_toIntSS : T k_laws_toIntSS = some (fnOf k_laws_toIntSS_ic k_laws_toIntSS_rv []) := rfl

@[simp] theorem M_laws_toIntSS : modesOf T k_laws_toIntSS = [] := modesOf_code T_laws_toIntSS

theorem T_laws_eqIntSS : T k_laws_eqIntSS = some (fnOf k_laws_eqIntSS_ic k_laws_eqIntSS_rv []) := rfl

@[simp] theorem M_laws_eqIntSS : modesOf T k_laws_eqIntSS = [] := modesOf_code T_laws_eqIntSS

theorem T_laws_markIntSS : T k_laws_markIntSS = some (fnOf k_laws_markIntSS_ic k_laws_markIntSS_rv [true]) := rfl

@[simp] theorem M_laws_markIntSS : modesOf T k_laws_markIntSS = [true] := modesOf_code T_laws_markIntSS

theorem T_spec_TaskOk : T k_spec_TaskOk = some (fnOf k_spec_TaskOk_ic k_spec_TaskOk_rv []) := rfl

@[simp] theorem M_spec_TaskOk : modesOf T k_spec_TaskOk = [] := modesOf_code T_spec_TaskOk

theorem T_spec_AllRows : T k_spec_AllRows = some (fnOf k_spec_AllRows_ic k_spec_AllRows_rv []) := rfl

@[simp] theorem M_spec_AllRows : modesOf T k_spec_AllRows = [] := modesOf_code T_spec_AllRows

theorem T_spec_Free : T k_spec_Free = some (fnOf k_spec_Free_ic k_spec_Free_rv []) := rfl

@[simp] theorem M_spec_Free : modesOf T k_spec_Free = [] := modesOf_code T_spec_Free

theorem T_impl_TaskOk : T k_impl_TaskOk = some (fnOf k_impl_TaskOk_ic k_impl_TaskOk_rv []) := rfl

@[simp] theorem M_impl_TaskOk : modesOf T k_impl_TaskOk = [] := modesOf_code T_impl_TaskOk

theorem T_impl_AllRows : T k_impl_AllRows = some (fnOf k_impl_AllRows_ic k_impl_AllRows_rv []) := rfl

@[simp] theorem M_impl_AllRows : modesOf T k_impl_AllRows = [] := modesOf_code T_impl_AllRows

theorem T_impl_RowsIn : T k_impl_RowsIn = some (fnOf k_impl_RowsIn_ic k_impl_RowsIn_rv []) := rfl

@[simp] theorem M_impl_RowsIn : modesOf T k_impl_RowsIn = [] := modesOf_code T_impl_RowsIn

theorem T_impl_Free : T k_impl_Free = some (fnOf k_impl_Free_ic k_impl_Free_rv []) := rfl

@[simp] theorem M_impl_Free : modesOf T k_impl_Free = [] := modesOf_code T_impl_Free

theorem T_spec_NodeHists : T k_spec_NodeHists = some (fnOf k_spec_NodeHists_ic k_spec_NodeHists_rv []) := rfl

@[simp] theorem M_spec_NodeHists : modesOf T k_spec_NodeHists = [] := modesOf_code T_spec_NodeHists

theorem T_spec_CandsOf : T k_spec_CandsOf = some (fnOf k_spec_CandsOf_ic k_spec_CandsOf_rv []) := rfl

@[simp] theorem M_spec_CandsOf : modesOf T k_spec_CandsOf = [] := modesOf_code T_spec_CandsOf

theorem T_impl_NodeHists : T k_impl_NodeHists = some (fnOf k_impl_NodeHists_ic k_impl_NodeHists_rv []) := rfl

@[simp] theorem M_impl_NodeHists : modesOf T k_impl_NodeHists = [] := modesOf_code T_impl_NodeHists

theorem T_impl_CandsOf : T k_impl_CandsOf = some (fnOf k_impl_CandsOf_ic k_impl_CandsOf_rv []) := rfl

@[simp] theorem M_impl_CandsOf : modesOf T k_impl_CandsOf = [] := modesOf_code T_impl_CandsOf

theorem T_spec_l1In : T k_spec_l1In = some (fnOf k_spec_l1In_ic k_spec_l1In_rv []) := rfl

@[simp] theorem M_spec_l1In : modesOf T k_spec_l1In = [] := modesOf_code T_spec_l1In

theorem T_spec_LeafOf : T k_spec_LeafOf = some (fnOf k_spec_LeafOf_ic k_spec_LeafOf_rv []) := rfl

@[simp] theorem M_spec_LeafOf : modesOf T k_spec_LeafOf = [] := modesOf_code T_spec_LeafOf

theorem T_spec_l19Sum : T k_spec_l19Sum = some (fnOf k_spec_l19Sum_ic k_spec_l19Sum_rv []) := rfl

@[simp] theorem M_spec_l19Sum : modesOf T k_spec_l19Sum = [] := modesOf_code T_spec_l19Sum

theorem T_spec_SidesOf : T k_spec_SidesOf = some (fnOf k_spec_SidesOf_ic k_spec_SidesOf_rv []) := rfl

@[simp] theorem M_spec_SidesOf : modesOf T k_spec_SidesOf = [] := modesOf_code T_spec_SidesOf

theorem T_impl_LeafOf : T k_impl_LeafOf = some (fnOf k_impl_LeafOf_ic k_impl_LeafOf_rv []) := rfl

@[simp] theorem M_impl_LeafOf : modesOf T k_impl_LeafOf = [] := modesOf_code T_impl_LeafOf

theorem T_impl_slotOf : T k_impl_slotOf = some (fnOf k_impl_slotOf_ic k_impl_slotOf_rv []) := rfl

@[simp] theorem M_impl_slotOf : modesOf T k_impl_slotOf = [] := modesOf_code T_impl_slotOf

theorem T_impl_SidesOf : T k_impl_SidesOf = some (fnOf k_impl_SidesOf_ic k_impl_SidesOf_rv []) := rfl

@[simp] theorem M_impl_SidesOf : modesOf T k_impl_SidesOf = [] := modesOf_code T_impl_SidesOf

theorem T_impl_SplitRows : T k_impl_SplitRows = some (fnOf k_impl_SplitRows_ic k_impl_SplitRows_rv []) := rfl

@[simp] theorem M_impl_SplitRows : modesOf T k_impl_SplitRows = [] := modesOf_code T_impl_SplitRows

theorem T_laws_eqNodeS : T k_laws_eqNodeS = some (fnOf k_laws_eqNodeS_ic k_laws_eqNodeS_rv []) := rfl

@[simp] theorem M_laws_eqNodeS : modesOf T k_laws_eqNodeS = [] := modesOf_code T_laws_eqNodeS

theorem T_laws_markNodeS : T k_laws_markNodeS = some (fnOf k_laws_markNodeS_ic k_laws_markNodeS_rv [true]) := rfl

@[simp] theorem M_laws_markNodeS : modesOf T k_laws_markNodeS = [true] := modesOf_code T_laws_markNodeS

theorem T_laws_heldNodeS : T k_laws_heldNodeS = some (fnOf k_laws_heldNodeS_ic k_laws_heldNodeS_rv []) := rfl

@[simp] theorem M_laws_heldNodeS : modesOf T k_laws_heldNodeS = [] := modesOf_code T_laws_heldNodeS

theorem T_spec_CandLess : T k_spec_CandLess = some (fnOf k_spec_CandLess_ic k_spec_CandLess_rv []) := rfl

@[simp] theorem M_spec_CandLess : modesOf T k_spec_CandLess = [] := modesOf_code T_spec_CandLess

theorem T_impl_within : T k_impl_within = some (fnOf k_impl_within_ic k_impl_within_rv []) := rfl

@[simp] theorem M_impl_within : modesOf T k_impl_within = [] := modesOf_code T_impl_within

theorem T_slices_ContainsFunc___int_int_ : T k_slices_ContainsFunc___int_int_ = some (fnOf k_slices_ContainsFunc___int_int__ic k_slices_ContainsFunc___int_int__rv []) := rfl

@[simp] theorem M_slices_ContainsFunc___int_int_ : modesOf T k_slices_ContainsFunc___int_int_ = [] := modesOf_code T_slices_ContainsFunc___int_int_

theorem T_impl_ConfigOk_1 : T k_impl_ConfigOk_1 = some (fnOf k_impl_ConfigOk_1_ic k_impl_ConfigOk_1_rv []) := rfl

@[simp] theorem M_impl_ConfigOk_1 : modesOf T k_impl_ConfigOk_1 = [] := modesOf_code T_impl_ConfigOk_1

theorem T_impl_isSign : T k_impl_isSign = some (fnOf k_impl_isSign_ic k_impl_isSign_rv []) := rfl

@[simp] theorem M_impl_isSign : modesOf T k_impl_isSign = [] := modesOf_code T_impl_isSign

theorem T_impl_BothOf : T k_impl_BothOf = some (fnOf k_impl_BothOf_ic k_impl_BothOf_rv []) := rfl

@[simp] theorem M_impl_BothOf : modesOf T k_impl_BothOf = [] := modesOf_code T_impl_BothOf

theorem T_impl_PlainGain : T k_impl_PlainGain = some (fnOf k_impl_PlainGain_ic k_impl_PlainGain_rv []) := rfl

@[simp] theorem M_impl_PlainGain : modesOf T k_impl_PlainGain = [] := modesOf_code T_impl_PlainGain

theorem T_spec_l8Numbers : T k_spec_l8Numbers = some (fnOf k_spec_l8Numbers_ic k_spec_l8Numbers_rv []) := rfl

@[simp] theorem M_spec_l8Numbers : modesOf T k_spec_l8Numbers = [] := modesOf_code T_spec_l8Numbers

theorem T_spec_l8Least : T k_spec_l8Least = some (fnOf k_spec_l8Least_ic k_spec_l8Least_rv []) := rfl

@[simp] theorem M_spec_l8Least : modesOf T k_spec_l8Least = [] := modesOf_code T_spec_l8Least

theorem T_spec_l8Most : T k_spec_l8Most = some (fnOf k_spec_l8Most_ic k_spec_l8Most_rv []) := rfl

@[simp] theorem M_spec_l8Most : modesOf T k_spec_l8Most = [] := modesOf_code T_spec_l8Most

theorem T_spec_BothOf : T k_spec_BothOf = some (fnOf k_spec_BothOf_ic k_spec_BothOf_rv []) := rfl

@[simp] theorem M_spec_BothOf : modesOf T k_spec_BothOf = [] := modesOf_code T_spec_BothOf

theorem T_impl_AddFrac : T k_impl_AddFrac = some (fnOf k_impl_AddFrac_ic k_impl_AddFrac_rv []) := rfl

@[simp] theorem M_impl_AddFrac : modesOf T k_impl_AddFrac = [] := modesOf_code T_impl_AddFrac

theorem T_impl_crossed : T k_impl_crossed = some (fnOf k_impl_crossed_ic k_impl_crossed_rv []) := rfl

@[simp] theorem M_impl_crossed : modesOf T k_impl_crossed = [] := modesOf_code T_impl_crossed

theorem T_impl_CompareWide : T k_impl_CompareWide = some (fnOf k_impl_CompareWide_ic k_impl_CompareWide_rv []) := rfl

@[simp] theorem M_impl_CompareWide : modesOf T k_impl_CompareWide = [] := modesOf_code T_impl_CompareWide

theorem T_cmp_Or_int_ : T k_cmp_Or_int_ = some (fnOf k_cmp_Or_int__ic k_cmp_Or_int__rv []) := rfl

@[simp] theorem M_cmp_Or_int_ : modesOf T k_cmp_Or_int_ = [] := modesOf_code T_cmp_Or_int_

theorem T_cmp_Compare_int_ : T k_cmp_Compare_int_ = some (fnOf k_cmp_Compare_int__ic k_cmp_Compare_int__rv []) := rfl

@[simp] theorem M_cmp_Compare_int_ : modesOf T k_cmp_Compare_int_ = [] := modesOf_code T_cmp_Compare_int_

theorem T_spec_SquareOver : T k_spec_SquareOver = some (fnOf k_spec_SquareOver_ic k_spec_SquareOver_rv []) := rfl

@[simp] theorem M_spec_SquareOver : modesOf T k_spec_SquareOver = [] := modesOf_code T_spec_SquareOver

theorem T_spec_AddWide : T k_spec_AddWide = some (fnOf k_spec_AddWide_ic k_spec_AddWide_rv []) := rfl

@[simp] theorem M_spec_AddWide : modesOf T k_spec_AddWide = [] := modesOf_code T_spec_AddWide

theorem T_spec_FracOk : T k_spec_FracOk = some (fnOf k_spec_FracOk_ic k_spec_FracOk_rv []) := rfl

@[simp] theorem M_spec_FracOk : modesOf T k_spec_FracOk = [] := modesOf_code T_spec_FracOk

theorem T_spec_ScaleWide : T k_spec_ScaleWide = some (fnOf k_spec_ScaleWide_ic k_spec_ScaleWide_rv []) := rfl

@[simp] theorem M_spec_ScaleWide : modesOf T k_spec_ScaleWide = [] := modesOf_code T_spec_ScaleWide

theorem T_spec_l3Zero : T k_spec_l3Zero = some (fnOf k_spec_l3Zero_ic k_spec_l3Zero_rv []) := rfl

@[simp] theorem M_spec_l3Zero : modesOf T k_spec_l3Zero = [] := modesOf_code T_spec_l3Zero

theorem T_spec_l3Order : T k_spec_l3Order = some (fnOf k_spec_l3Order_ic k_spec_l3Order_rv []) := rfl

@[simp] theorem M_spec_l3Order : modesOf T k_spec_l3Order = [] := modesOf_code T_spec_l3Order

theorem T_spec_l6Value : T k_spec_l6Value = some (fnOf k_spec_l6Value_ic k_spec_l6Value_rv []) := rfl

@[simp] theorem M_spec_l6Value : modesOf T k_spec_l6Value = [] := modesOf_code T_spec_l6Value

theorem T_spec_AddInt : T k_spec_AddInt = some (fnOf k_spec_AddInt_ic k_spec_AddInt_rv []) := rfl

@[simp] theorem M_spec_AddInt : modesOf T k_spec_AddInt = [] := modesOf_code T_spec_AddInt

theorem T_spec_FloorDiv : T k_spec_FloorDiv = some (fnOf k_spec_FloorDiv_ic k_spec_FloorDiv_rv []) := rfl

@[simp] theorem M_spec_FloorDiv : modesOf T k_spec_FloorDiv = [] := modesOf_code T_spec_FloorDiv

theorem T_impl_areDecimals : T k_impl_areDecimals = some (fnOf k_impl_areDecimals_ic k_impl_areDecimals_rv []) := rfl

@[simp] theorem M_impl_areDecimals : modesOf T k_impl_areDecimals = [] := modesOf_code T_impl_areDecimals

theorem T_impl_AddInt : T k_impl_AddInt = some (fnOf k_impl_AddInt_ic k_impl_AddInt_rv []) := rfl

@[simp] theorem M_impl_AddInt : modesOf T k_impl_AddInt = [] := modesOf_code T_impl_AddInt

theorem T_impl_FloorDiv : T k_impl_FloorDiv = some (fnOf k_impl_FloorDiv_ic k_impl_FloorDiv_rv []) := rfl

@[simp] theorem M_impl_FloorDiv : modesOf T k_impl_FloorDiv = [] := modesOf_code T_impl_FloorDiv

theorem T_impl_isDecimal : T k_impl_isDecimal = some (fnOf k_impl_isDecimal_ic k_impl_isDecimal_rv []) := rfl

@[simp] theorem M_impl_isDecimal : modesOf T k_impl_isDecimal = [] := modesOf_code T_impl_isDecimal

theorem T_spec_GridOk : T k_spec_GridOk = some (fnOf k_spec_GridOk_ic k_spec_GridOk_rv []) := rfl

@[simp] theorem M_spec_GridOk : modesOf T k_spec_GridOk = [] := modesOf_code T_spec_GridOk

theorem T_spec_RowsIn : T k_spec_RowsIn = some (fnOf k_spec_RowsIn_ic k_spec_RowsIn_rv []) := rfl

@[simp] theorem M_spec_RowsIn : modesOf T k_spec_RowsIn = [] := modesOf_code T_spec_RowsIn

theorem T_impl_GridOk : T k_impl_GridOk = some (fnOf k_impl_GridOk_ic k_impl_GridOk_rv []) := rfl

@[simp] theorem M_impl_GridOk : modesOf T k_impl_GridOk = [] := modesOf_code T_impl_GridOk

theorem T_impl_TaskOk_1 : T k_impl_TaskOk_1 = some (fnOf k_impl_TaskOk_1_ic k_impl_TaskOk_1_rv []) := rfl

@[simp] theorem M_impl_TaskOk_1 : modesOf T k_impl_TaskOk_1 = [] := modesOf_code T_impl_TaskOk_1

theorem T_spec_HistOf : T k_spec_HistOf = some (fnOf k_spec_HistOf_ic k_spec_HistOf_rv []) := rfl

@[simp] theorem M_spec_HistOf : modesOf T k_spec_HistOf = [] := modesOf_code T_spec_HistOf

theorem T_spec_Prefix : T k_spec_Prefix = some (fnOf k_spec_Prefix_ic k_spec_Prefix_rv []) := rfl

@[simp] theorem M_spec_Prefix : modesOf T k_spec_Prefix = [] := modesOf_code T_spec_Prefix

theorem T_spec_SubInt : T k_spec_SubInt = some (fnOf k_spec_SubInt_ic k_spec_SubInt_rv []) := rfl

@[simp] theorem M_spec_SubInt : modesOf T k_spec_SubInt = [] := modesOf_code T_spec_SubInt

theorem T_impl_HistOf : T k_impl_HistOf = some (fnOf k_impl_HistOf_ic k_impl_HistOf_rv []) := rfl

@[simp] theorem M_impl_HistOf : modesOf T k_impl_HistOf = [] := modesOf_code T_impl_HistOf

theorem T_impl_Prefix : T k_impl_Prefix = some (fnOf k_impl_Prefix_ic k_impl_Prefix_rv []) := rfl

@[simp] theorem M_impl_Prefix : modesOf T k_impl_Prefix = [] := modesOf_code T_impl_Prefix

theorem T__impl_Slot__minus : T k__impl_Slot__minus = some (fnOf k__impl_Slot__minus_ic k__impl_Slot__minus_rv []) := rfl

@[simp] theorem M__impl_Slot__minus : modesOf T k__impl_Slot__minus = [] := modesOf_code T__impl_Slot__minus

theorem T_spec_BoundOk : T k_spec_BoundOk = some (fnOf k_spec_BoundOk_ic k_spec_BoundOk_rv []) := rfl

@[simp] theorem M_spec_BoundOk : modesOf T k_spec_BoundOk = [] := modesOf_code T_spec_BoundOk

theorem T_spec_Brought : T k_spec_Brought = some (fnOf k_spec_Brought_ic k_spec_Brought_rv []) := rfl

@[simp] theorem M_spec_Brought : modesOf T k_spec_Brought = [] := modesOf_code T_spec_Brought

theorem T_spec_HalfSum : T k_spec_HalfSum = some (fnOf k_spec_HalfSum_ic k_spec_HalfSum_rv []) := rfl

@[simp] theorem M_spec_HalfSum : modesOf T k_spec_HalfSum = [] := modesOf_code T_spec_HalfSum

theorem T_impl_isCount : T k_impl_isCount = some (fnOf k_impl_isCount_ic k_impl_isCount_rv []) := rfl

@[simp] theorem M_impl_isCount : modesOf T k_impl_isCount = [] := modesOf_code T_impl_isCount

theorem T_impl_BoundOk : T k_impl_BoundOk = some (fnOf k_impl_BoundOk_ic k_impl_BoundOk_rv []) := rfl

@[simp] theorem M_impl_BoundOk : modesOf T k_impl_BoundOk = [] := modesOf_code T_impl_BoundOk

theorem T_impl_Brought : T k_impl_Brought = some (fnOf k_impl_Brought_ic k_impl_Brought_rv []) := rfl

@[simp] theorem M_impl_Brought : modesOf T k_impl_Brought = [] := modesOf_code T_impl_Brought

theorem T_impl_HalfSum : T k_impl_HalfSum = some (fnOf k_impl_HalfSum_ic k_impl_HalfSum_rv []) := rfl

@[simp] theorem M_impl_HalfSum : modesOf T k_impl_HalfSum = [] := modesOf_code T_impl_HalfSum

theorem T_laws_eqNode : T k_laws_eqNode = some (fnOf k_laws_eqNode_ic k_laws_eqNode_rv []) := rfl

@[simp] theorem M_laws_eqNode : modesOf T k_laws_eqNode = [] := modesOf_code T_laws_eqNode

theorem T_slices_IndexFunc___int_int_ : T k_slices_IndexFunc___int_int_ = some (fnOf k_slices_IndexFunc___int_int__ic k_slices_IndexFunc___int_int__rv []) := rfl

@[simp] theorem M_slices_IndexFunc___int_int_ : modesOf T k_slices_IndexFunc___int_int_ = [] := modesOf_code T_slices_IndexFunc___int_int_

theorem T__impl_Slot__plus : T k__impl_Slot__plus = some (fnOf k__impl_Slot__plus_ic k__impl_Slot__plus_rv []) := rfl

@[simp] theorem M__impl_Slot__plus : modesOf T k__impl_Slot__plus = [] := modesOf_code T__impl_Slot__plus

theorem T_impl_SquareOver : T k_impl_SquareOver = some (fnOf k_impl_SquareOver_ic k_impl_SquareOver_rv []) := rfl

@[simp] theorem M_impl_SquareOver : modesOf T k_impl_SquareOver = [] := modesOf_code T_impl_SquareOver

theorem T_spec_l13Add : T k_spec_l13Add = some (fnOf k_spec_l13Add_ic k_spec_l13Add_rv []) := rfl

@[simp] theorem M_spec_l13Add : modesOf T k_spec_l13Add = [] := modesOf_code T_spec_l13Add

theorem T_impl_AddWide : T k_impl_AddWide = some (fnOf k_impl_AddWide_ic k_impl_AddWide_rv []) := rfl

@[simp] theorem M_impl_AddWide : modesOf T k_impl_AddWide = [] := modesOf_code T_impl_AddWide

theorem T_impl_fracOf : T k_impl_fracOf = some (fnOf k_impl_fracOf_ic k_impl_fracOf_rv []) := rfl

@[simp] theorem M_impl_fracOf : modesOf T k_impl_fracOf = [] := modesOf_code T_impl_fracOf

theorem T_impl_FracOk : T k_impl_FracOk = some (fnOf k_impl_FracOk_ic k_impl_FracOk_rv []) := rfl

@[simp] theorem M_impl_FracOk : modesOf T k_impl_FracOk = [] := modesOf_code T_impl_FracOk

theorem T_impl_ScaleWide : T k_impl_ScaleWide = some (fnOf k_impl_ScaleWide_ic k_impl_ScaleWide_rv []) := rfl

@[simp] theorem M_impl_ScaleWide : modesOf T k_impl_ScaleWide = [] := modesOf_code T_impl_ScaleWide

theorem T_impl_wideOf : T k_impl_wideOf = some (fnOf k_impl_wideOf_ic k_impl_wideOf_rv []) := rfl

@[simp] theorem M_impl_wideOf : modesOf T k_impl_wideOf = [] := modesOf_code T_impl_wideOf

theorem T_impl_compareSizes : T k_impl_compareSizes = some (fnOf k_impl_compareSizes_ic k_impl_compareSizes_rv []) := rfl

@[simp] theorem M_impl_compareSizes : modesOf T k_impl_compareSizes = [] := modesOf_code T_impl_compareSizes

theorem T_cmp_isNaN_int_ : T k_cmp_isNaN_int_ = some (fnOf k_cmp_isNaN_int__ic k_cmp_isNaN_int__rv []) := rfl

@[simp] theorem M_cmp_isNaN_int_ : modesOf T k_cmp_isNaN_int_ = [] := modesOf_code T_cmp_isNaN_int_

theorem T_spec_MulWide : T k_spec_MulWide = some (fnOf k_spec_MulWide_ic k_spec_MulWide_rv []) := rfl

@[simp] theorem M_spec_MulWide : modesOf T k_spec_MulWide = [] := modesOf_code T_spec_MulWide

theorem T_spec_WideOk : T k_spec_WideOk = some (fnOf k_spec_WideOk_ic k_spec_WideOk_rv []) := rfl

@[simp] theorem M_spec_WideOk : modesOf T k_spec_WideOk = [] := modesOf_code T_spec_WideOk

theorem T_spec_l3Abs : T k_spec_l3Abs = some (fnOf k_spec_l3Abs_ic k_spec_l3Abs_rv []) := rfl

@[simp] theorem M_spec_l3Abs : modesOf T k_spec_l3Abs = [] := modesOf_code T_spec_l3Abs

theorem T_spec_l3Product : T k_spec_l3Product = some (fnOf k_spec_l3Product_ic k_spec_l3Product_rv []) := rfl

@[simp] theorem M_spec_l3Product : modesOf T k_spec_l3Product = [] := modesOf_code T_spec_l3Product

theorem T_impl_areDecimals_1 : T k_impl_areDecimals_1 = some (fnOf k_impl_areDecimals_1_ic k_impl_areDecimals_1_rv []) := rfl

@[simp] theorem M_impl_areDecimals_1 : modesOf T k_impl_areDecimals_1 = [] := modesOf_code T_impl_areDecimals_1

theorem T_spec_CutsOk : T k_spec_CutsOk = some (fnOf k_spec_CutsOk_ic k_spec_CutsOk_rv []) := rfl

@[simp] theorem M_spec_CutsOk : modesOf T k_spec_CutsOk = [] := modesOf_code T_spec_CutsOk

theorem T_impl_CutsOk : T k_impl_CutsOk = some (fnOf k_impl_CutsOk_ic k_impl_CutsOk_rv []) := rfl

@[simp] theorem M_impl_CutsOk : modesOf T k_impl_CutsOk = [] := modesOf_code T_impl_CutsOk

theorem T_impl_GridOk_1 : T k_impl_GridOk_1 = some (fnOf k_impl_GridOk_1_ic k_impl_GridOk_1_rv []) := rfl

@[simp] theorem M_impl_GridOk_1 : modesOf T k_impl_GridOk_1 = [] := modesOf_code T_impl_GridOk_1

theorem T_impl_SubInt : T k_impl_SubInt = some (fnOf k_impl_SubInt_ic k_impl_SubInt_rv []) := rfl

@[simp] theorem M_impl_SubInt : modesOf T k_impl_SubInt = [] := modesOf_code T_impl_SubInt

theorem T_spec_l14Leaf : T k_spec_l14Leaf = some (fnOf k_spec_l14Leaf_ic k_spec_l14Leaf_rv []) := rfl

@[simp] theorem M_spec_l14Leaf : modesOf T k_spec_l14Leaf = [] := modesOf_code T_spec_l14Leaf

theorem T_impl_isLeafValue : T k_impl_isLeafValue = some (fnOf k_impl_isLeafValue_ic k_impl_isLeafValue_rv []) := rfl

@[simp] theorem M_impl_isLeafValue : modesOf T k_impl_isLeafValue = [] := modesOf_code T_impl_isLeafValue

theorem T_impl_MulWide : T k_impl_MulWide = some (fnOf k_impl_MulWide_ic k_impl_MulWide_rv []) := rfl

@[simp] theorem M_impl_MulWide : modesOf T k_impl_MulWide = [] := modesOf_code T_impl_MulWide

theorem T_impl_WideOk : T k_impl_WideOk = some (fnOf k_impl_WideOk_ic k_impl_WideOk_rv []) := rfl

@[simp] theorem M_impl_WideOk : modesOf T k_impl_WideOk = [] := modesOf_code T_impl_WideOk

theorem T_math_bits_Sub64 : T k_math_bits_Sub64 = some (.ext sub64G) := rfl

@[simp] theorem M_math_bits_Sub64 : modesOf T k_math_bits_Sub64 = [] := rfl

theorem T_math_bits_Add64 : T k_math_bits_Add64 = some (.ext add64G) := rfl

@[simp] theorem M_math_bits_Add64 : modesOf T k_math_bits_Add64 = [] := rfl

theorem T_impl_size : T k_impl_size = some (fnOf k_impl_size_ic k_impl_size_rv []) := rfl

@[simp] theorem M_impl_size : modesOf T k_impl_size = [] := modesOf_code T_impl_size

theorem T_math_bits_Mul64 : T k_math_bits_Mul64 = some (fnOf k_math_bits_Mul64_ic k_math_bits_Mul64_rv []) := rfl

@[simp] theorem M_math_bits_Mul64 : modesOf T k_math_bits_Mul64 = [] := modesOf_code T_math_bits_Mul64

theorem T_cmp_Compare_uint64_ : T k_cmp_Compare_uint64_ = some (fnOf k_cmp_Compare_uint64__ic k_cmp_Compare_uint64__rv []) := rfl

@[simp] theorem M_cmp_Compare_uint64_ : modesOf T k_cmp_Compare_uint64_ = [] := modesOf_code T_cmp_Compare_uint64_

theorem T_cmp_isNaN_uint64_ : T k_cmp_isNaN_uint64_ = some (fnOf k_cmp_isNaN_uint64__ic k_cmp_isNaN_uint64__rv []) := rfl

@[simp] theorem M_cmp_isNaN_uint64_ : modesOf T k_cmp_isNaN_uint64_ = [] := modesOf_code T_cmp_isNaN_uint64_

end Go.Pe
