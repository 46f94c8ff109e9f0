/- The compact texts of the functions that the law reaches; no condition. -/
import Derived.Test.YthkhmepjmcojkaaGreatEvA0
set_option linter.all false
namespace Go.Pe
open Go
def k_laws_FnBestOrder : Nat := 4

def k_laws_big : Nat := 10

def k_spec_DrawBestOf : Nat := 11

def k_impl_BestOf : Nat := 12

def k_spec_BestOf : Nat := 13

def k_impl_MayPart : Nat := 14

def k_spec_MayPart : Nat := 15

def k_impl_Better : Nat := 16

def k_spec_GainOf : Nat := 17

def k_spec_CompareFrac : Nat := 18

def k_spec_l1New : Nat := 61

def k_spec_l8Right : Nat := 62

def k_spec_l1Once : Nat := 63

def k_spec_l8Bent : Nat := 64

def k_spec_l14Bound : Nat := 65

def k_spec_l16Cands : Nat := 66

def k_spec_Better : Nat := 67

def k_impl_SideValues : Nat := 68

def k_impl_ConfigOk : Nat := 69

def k_impl_Agrees : Nat := 70

def k_impl_SignFor : Nat := 71

def k_impl_Improves : Nat := 72

def k_spec_SideValues : Nat := 73

def k_spec_ConfigOk : Nat := 74

def k_spec_Agrees : Nat := 75

def k_spec_SignFor : Nat := 76

def k_spec_Improves : Nat := 77

def k_impl_GainOf : Nat := 78

def k_impl_CompareFrac : Nat := 79

def k_impl_CandLess : Nat := 80

def k_spec_PlainGain : Nat := 81

def k_spec_AddFrac : Nat := 82

def k_spec_l5Cross : Nat := 83

def k_spec_CompareWide : Nat := 84

def k_spec_Free : Nat := 114

def k_spec_CandsOf : Nat := 124

def k_spec_l1In : Nat := 130

def k_spec_LeafOf : Nat := 131

def k_impl_LeafOf : Nat := 134

def k_spec_l1Below : Nat := 141

def k_spec_l1PickInt : Nat := 142

def k_spec_l1Whole : Nat := 143

def k_spec_l13Hist : Nat := 144

def k_spec_l15Cand : Nat := 145

def k_spec_CandLess : Nat := 146

def k_impl_within : Nat := 147

def k_slices_ContainsFunc___int_int_ : Nat := 148

def k_impl_ConfigOk_1 : Nat := 149

def k_impl_isSign : Nat := 150

def k_impl_BothOf : Nat := 151

def k_impl_PlainGain : Nat := 152

def k_spec_l8Numbers : Nat := 153

def k_spec_l8Least : Nat := 154

def k_spec_l8Most : Nat := 155

def k_spec_BothOf : Nat := 156

def k_impl_AddFrac : Nat := 157

def k_impl_crossed : Nat := 158

def k_impl_CompareWide : Nat := 159

def k_cmp_Or_int_ : Nat := 160

def k_cmp_Compare_int_ : Nat := 161

def k_spec_SquareOver : Nat := 162

def k_spec_AddWide : Nat := 163

def k_spec_FracOk : Nat := 164

def k_spec_ScaleWide : Nat := 165

def k_spec_l3Zero : Nat := 166

def k_spec_l3Order : Nat := 167

def k_spec_AddInt : Nat := 172

def k_spec_FloorDiv : Nat := 173

def k_impl_AddInt : Nat := 181

def k_impl_FloorDiv : Nat := 182

def k_spec_Prefix : Nat := 197

def k_spec_SubInt : Nat := 198

def k_spec_BoundOk : Nat := 205

def k_spec_Brought : Nat := 206

def k_impl_isCount : Nat := 208

def k_impl_BoundOk : Nat := 209

def k_impl_Brought : Nat := 210

def k_spec_l1Byte : Nat := 213

def k_spec_l14Slot : Nat := 214

def k_slices_IndexFunc___int_int_ : Nat := 215

def k__impl_Slot__plus : Nat := 216

def k_impl_SquareOver : Nat := 217

def k_spec_l13Add : Nat := 218

def k_impl_AddWide : Nat := 219

def k_impl_fracOf : Nat := 220

def k_impl_FracOk : Nat := 221

def k_impl_ScaleWide : Nat := 222

def k_impl_wideOf : Nat := 223

def k_impl_compareSizes : Nat := 224

def k_cmp_isNaN_int_ : Nat := 225

def k_spec_MulWide : Nat := 226

def k_spec_WideOk : Nat := 227

def k_spec_l3Abs : Nat := 228

def k_spec_l3Product : Nat := 229

def k_spec_l14Leaf : Nat := 253

def k_impl_isLeafValue : Nat := 254

def k_impl_MulWide : Nat := 255

def k_impl_WideOk : Nat := 256

def k_math_bits_Sub64 : Nat := 257

def k_math_bits_Add64 : Nat := 258

def k_impl_size : Nat := 259

def k_math_bits_Mul64 : Nat := 260

def k_cmp_Compare_uint64_ : Nat := 261

def k_cmp_isNaN_uint64_ : Nat := 273

def k_laws_FnBestOrder_vars : List Nat := [0, 3, 4, 5, 7, 9, 11, 10, 14, 15, 16, 18, 21, 13, 12, 6, 2]

def k_laws_FnBestOrder_b0 : IC := .seq (.seq (.reg [oE 51 (.mv (.V 11)), oE 52 (.bin .geq (.E 51) (ki 0))]) (.cond (.E 52) .skip (.exit 0))) (.seq (.block 1 (.reg [oE 55 (.mv (.V 10)), oE 56 (.mv (.V 5)), oE 57 (.mv (.V 11)), oE 58 (.iaddr 6 (.E 56) (.E 57)), oE 59 (.load true 6 (.E 58)), oE 60 (.bslice 1 6 [iv 0, iv 0, iv 0, iv 0, iv 0, iv 0] [(0, (.E 59))]), oE 61 (.app 48 6 (.E 55) (.E 60)), oV 10 (.mv (.E 61))])) (.reg [oE 53 (.mv (.V 11)), oE 54 (.bin .sub (.E 53) (ki 1)), oV 11 (.mv (.E 54))]))

def k_laws_FnBestOrder_b1 : IC := .seq (.seq (.reg [oE 75 (.mv (.V 15)), oE 76 (.mv (.V 14)), oE 77 (.bin .lss (.E 75) (.E 76))]) (.cond (.E 77) .skip (.exit 4))) (.seq (.block 5 (.seq (.regD [(oE 81 (.mv (.V 5)), 0, 0), (oE 82 (.mv (.V 14)), 0, 0), (oE 83 (.iaddr 6 (.E 81) (.E 82)), 0, 0), (oE 84 (.load true 6 (.E 83)), 0, 0), (oE 85 (.faddr 3 (.V 3)), 0, 0), (oE 86 (.load false 1 (.E 85)), 0, 0), (oE 87 (.call k_spec_GainOf [([0, 0, 0, 0, 0, 0], (.E 84)), ([0], (.E 86))]), 0, 0), (oE 80 (.mv (.E 87)), 0, 0), (oE 88 (.ext 0 (.E 80)), 0, 0), (oE 89 (.ext 1 (.E 80)), 0, 0), (oV 16 (.allocL [(.v (.bool false)), (.v (.int .u64 0)), (.v (.int .u64 0)), iv 0]), 0, 0), (oN (.store [0, 0, 0, 0] (.V 16) (.E 88)), 0, 0), (oE 17 (.mv (.E 89)), 0, 0)]) (.seq (.regD [(oE 91 (.mv (.V 5)), 0, 0), (oE 92 (.mv (.V 15)), 0, 0), (oE 93 (.iaddr 6 (.E 91) (.E 92)), 0, 0), (oE 94 (.load true 6 (.E 93)), 0, 0), (oE 95 (.faddr 3 (.V 3)), 0, 0), (oE 96 (.load false 1 (.E 95)), 0, 0), (oE 97 (.call k_spec_GainOf [([0, 0, 0, 0, 0, 0], (.E 94)), ([0], (.E 96))]), 0, 0), (oE 90 (.mv (.E 97)), 0, 0), (oE 98 (.ext 0 (.E 90)), 0, 0), (oE 99 (.ext 1 (.E 90)), 0, 0), (oV 18 (.allocL [(.v (.bool false)), (.v (.int .u64 0)), (.v (.int .u64 0)), iv 0]), 0, 0), (oN (.store [0, 0, 0, 0] (.V 18) (.E 98)), 0, 0), (oE 19 (.mv (.E 99)), 0, 0)]) (.seq (.reg [oE 101 (.load true 4 (.V 16)), oE 102 (.load true 4 (.V 18)), oE 103 (.call k_spec_CompareFrac [([0, 0, 0, 0], (.E 101)), ([0, 0, 0, 0], (.E 102))]), oE 100 (.mv (.E 103)), oE 104 (.ext 0 (.E 100)), oE 105 (.ext 1 (.E 100)), oE 20 (.mv (.E 104)), oV 21 (.mv (.E 105))]) (.seq (.regD [(oE 106 (.mv (.V 21)), 0, 0), (oE 107 (.un .not (.E 106)), 0, 0), (oE 108 (.mv (.E 107)), 0, 0), (⟨(some (.E 109)), .load true 8 (.V 3), some ((.E 108), true)⟩, 0, 0), (⟨(some (.E 110)), .load true 2 (.V 4), some ((.E 108), true)⟩, 0, 0), (⟨(some (.E 111)), .mv (.V 5), some ((.E 108), true)⟩, 0, 0), (⟨(some (.E 112)), .mv (.V 14), some ((.E 108), true)⟩, 0, 0), (⟨(some (.E 113)), .iaddr 6 (.E 111) (.E 112), some ((.E 108), true)⟩, 0, 0), (⟨(some (.E 114)), .load true 6 (.E 113), some ((.E 108), true)⟩, 0, 0), (⟨(some (.E 115)), .call k_spec_MayPart [([0, 0, 0, 0, 0, 0, 0, 1], (.E 109)), ([0, 0], (.E 110)), ([0, 0, 0, 0, 0, 0], (.E 114))], some ((.E 108), true)⟩, 0, 0), (oE 116 (.pick (.E 108) (.E 115) (kb false)), 0, 0), (oE 117 (.mv (.E 116)), 0, 0), (⟨(some (.E 118)), .load true 8 (.V 3), some ((.E 117), true)⟩, 0, 0), (⟨(some (.E 119)), .load true 2 (.V 4), some ((.E 117), true)⟩, 0, 0), (⟨(some (.E 120)), .mv (.V 5), some ((.E 117), true)⟩, 0, 0), (⟨(some (.E 121)), .mv (.V 15), some ((.E 117), true)⟩, 0, 0), (⟨(some (.E 122)), .iaddr 6 (.E 120) (.E 121), some ((.E 117), true)⟩, 0, 0), (⟨(some (.E 123)), .load true 6 (.E 122), some ((.E 117), true)⟩, 0, 0), (⟨(some (.E 124)), .call k_spec_MayPart [([0, 0, 0, 0, 0, 0, 0, 1], (.E 118)), ([0, 0], (.E 119)), ([0, 0, 0, 0, 0, 0], (.E 123))], some ((.E 117), true)⟩, 0, 0), (oE 125 (.pick (.E 117) (.E 124) (kb false)), 0, 0)]) (.cond (.E 125) (.seq (.reg [oE 126 (.mv (.V 13)), oE 127 (.mv (.V 7)), oE 128 (.eqb false [.b] (.E 126) (.E 127)), oV 2 (.mv (.E 128))]) .ret) .skip)))))) (.reg [oE 78 (.mv (.V 15)), oE 79 (.bin .add (.E 78) (ki 1)), oV 15 (.mv (.E 79))]))

def k_laws_FnBestOrder_b2 : IC := .seq (.seq (.reg [oE 69 (.mv (.V 14)), oE 70 (.mv (.V 5)), oE 71 (.len (.E 70)), oE 72 (.bin .lss (.E 69) (.E 71))]) (.cond (.E 72) .skip (.exit 2))) (.seq (.block 3 (.seq (.reg [oV 15 (.mv (ki 0))]) (.block 4 (.loop k_laws_FnBestOrder_b1)))) (.reg [oE 73 (.mv (.V 14)), oE 74 (.bin .add (.E 73) (ki 1)), oV 14 (.mv (.E 74))]))

def k_laws_FnBestOrder_ic : IC := .seq (.reg [oV 2 (.mv (kb false))]) (.seq (.seq (.reg [oE 22 (.mv (.V 0)), oE 23 (.call k_laws_big [([1], (.E 22))])]) (.cond (.E 23) (.seq (.reg [oV 2 (.mv (kb true))]) .ret) .skip)) (.seq (.reg [oE 25 (.mv (.V 0)), oE 26 (.call k_spec_DrawBestOf [([1], (.E 25))]), oE 24 (.mv (.E 26)), oE 27 (.ext 0 (.E 24)), oE 28 (.ext 1 (.E 24)), oE 29 (.ext 2 (.E 24)), oV 3 (.alloc [iv 0, iv 0, iv 0, iv 0, iv 0, iv 0, iv 0, .e0]), oV 4 (.alloc [iv 0, iv 0]), oN (.store [0, 0, 0, 0, 0, 0, 0, 1] (.V 3) (.E 27)), oN (.store [0, 0] (.V 4) (.E 28)), oV 5 (.mv (.E 29))]) (.seq (.reg [oE 31 (.load true 8 (.V 3)), oE 32 (.load true 2 (.V 4)), oE 33 (.mv (.V 5)), oE 34 (.call k_impl_BestOf [([0, 0, 0, 0, 0, 0, 0, 1], (.E 31)), ([0, 0], (.E 32)), ([6], (.E 33))]), oE 30 (.mv (.E 34)), oE 35 (.ext 0 (.E 30)), oE 36 (.ext 1 (.E 30)), oV 6 (.alloc [iv 0, iv 0, iv 0, iv 0, iv 0, iv 0]), oN (.store [0, 0, 0, 0, 0, 0] (.V 6) (.E 35)), oV 7 (.mv (.E 36))]) (.seq (.reg [oE 38 (.load true 8 (.V 3)), oE 39 (.load true 2 (.V 4)), oE 40 (.mv (.V 5)), oE 41 (.call k_spec_BestOf [([0, 0, 0, 0, 0, 0, 0, 1], (.E 38)), ([0, 0], (.E 39)), ([6], (.E 40))]), oE 37 (.mv (.E 41)), oE 42 (.ext 0 (.E 37)), oE 43 (.ext 1 (.E 37)), oE 8 (.alloc [iv 0, iv 0, iv 0, iv 0, iv 0, iv 0]), oN (.store [0, 0, 0, 0, 0, 0] (.E 8) (.E 42)), oV 9 (.mv (.E 43))]) (.seq (.seq (.reg [oE 44 (.mv (.V 7)), oE 45 (.mv (.V 9)), oE 46 (.eqb true [.b] (.E 44) (.E 45))]) (.cond (.E 46) (.seq (.reg [oV 2 (.mv (kb false))]) .ret) .skip)) (.seq (.reg [oE 47 (.bslice 0 6 [iv 0, iv 0, iv 0, iv 0, iv 0, iv 0] []), oV 10 (.mv (.E 47))]) (.seq (.seq (.reg [oE 48 (.mv (.V 5)), oE 49 (.len (.E 48)), oE 50 (.bin .sub (.E 49) (ki 1)), oV 11 (.mv (.E 50))]) (.block 0 (.loop k_laws_FnBestOrder_b0))) (.seq (.reg [oE 63 (.load true 8 (.V 3)), oE 64 (.load true 2 (.V 4)), oE 65 (.mv (.V 10)), oE 66 (.call k_impl_BestOf [([0, 0, 0, 0, 0, 0, 0, 1], (.E 63)), ([0, 0], (.E 64)), ([6], (.E 65))]), oE 62 (.mv (.E 66)), oE 67 (.ext 0 (.E 62)), oE 68 (.ext 1 (.E 62)), oV 12 (.alloc [iv 0, iv 0, iv 0, iv 0, iv 0, iv 0]), oN (.store [0, 0, 0, 0, 0, 0] (.V 12) (.E 67)), oV 13 (.mv (.E 68))]) (.seq (.seq (.reg [oV 14 (.mv (ki 0))]) (.block 2 (.loop k_laws_FnBestOrder_b2))) (.seq (.reg [oE 129 (.mv (.V 13)), oE 130 (.mv (.V 7)), oE 131 (.eqb false [.b] (.E 129) (.E 130)), oE 132 (.mv (.E 131)), ⟨(some (.E 133)), .faddr 0 (.V 12), some ((.E 132), true)⟩, ⟨(some (.E 134)), .load false 1 (.E 133), some ((.E 132), true)⟩, ⟨(some (.E 135)), .faddr 0 (.V 6), some ((.E 132), true)⟩, ⟨(some (.E 136)), .load false 1 (.E 135), some ((.E 132), true)⟩, ⟨(some (.E 137)), .bin .eql (.E 134) (.E 136), some ((.E 132), true)⟩, oE 138 (.pick (.E 132) (.E 137) (kb false)), oE 139 (.mv (.E 138)), ⟨(some (.E 140)), .faddr 1 (.V 12), some ((.E 139), true)⟩, ⟨(some (.E 141)), .load false 1 (.E 140), some ((.E 139), true)⟩, ⟨(some (.E 142)), .faddr 1 (.V 6), some ((.E 139), true)⟩, ⟨(some (.E 143)), .load false 1 (.E 142), some ((.E 139), true)⟩, ⟨(some (.E 144)), .bin .eql (.E 141) (.E 143), some ((.E 139), true)⟩, oE 145 (.pick (.E 139) (.E 144) (kb false)), oV 2 (.mv (.E 145))]) .ret))))))))))

def k_laws_FnBestOrder_rv : List RV := [.tmp [0] 2]

def k_laws_big_vars : List Nat := [0, 2]

def k_laws_big_ic : IC := .seq (.reg [oV 2 (.mv (kb false))]) (.seq (.reg [oE 3 (.mv (.V 0)), oE 4 (.len (.E 3)), oE 5 (.bin .gtr (.E 4) (ki 1048576)), oV 2 (.mv (.E 5))]) .ret)

def k_laws_big_rv : List RV := [.tmp [0] 2]

def k_spec_DrawBestOf_vars : List Nat := [0, 5, 6, 2, 3, 4]

def k_spec_DrawBestOf_ic : IC := .seq (.reg [oV 2 (.alloc [iv 0, iv 0, iv 0, iv 0, iv 0, iv 0, iv 0, .e0]), oV 3 (.alloc [iv 0, iv 0]), oV 4 (.mv (.C .e0))]) (.seq (.reg [oE 7 (.mv (.V 0)), oE 8 (.call k_spec_l1New [([1], (.E 7))]), oV 5 (.mv (.E 8))]) (.seq (.reg [oE 9 (.mv (.V 5)), oE 10 (.call k_spec_l8Right [([0], (.E 9))]), oV 6 (.alloc [iv 0, iv 0, iv 0, iv 0, iv 0, iv 0, iv 0, .e0]), oN (.store [0, 0, 0, 0, 0, 0, 0, 1] (.V 6) (.E 10))]) (.seq (.seq (.reg [oE 11 (.mv (.V 5)), oE 12 (.call k_spec_l1Once [([0], (.E 11)), ([0], (ki 8))])]) (.cond (.E 12) (.reg [oE 13 (.mv (.V 5)), oE 14 (.call k_spec_l8Bent [([0], (.E 13))]), oN (.store [0, 0, 0, 0, 0, 0, 0, 1] (.V 6) (.E 14))]) .skip)) (.seq (.regD [(oE 15 (.load true 8 (.V 6)), 0, 2), (oE 16 (.mv (.V 5)), 0, 0), (oE 17 (.call k_spec_l14Bound [([0], (.E 16))]), 0, 0), (oE 18 (.mv (.V 5)), 0, 0), (oE 19 (.call k_spec_l16Cands [([0], (.E 18))]), 0, 0), (oN (.store [0, 0, 0, 0, 0, 0, 0, 1] (.V 2) (.E 15)), 0, 0), (oN (.store [0, 0] (.V 3) (.E 17)), 0, 0), (oV 4 (.mv (.E 19)), 0, 0)]) .ret))))

def k_spec_DrawBestOf_rv : List RV := [.cell [0, 0, 0, 0, 0, 0, 0, 1] 2 true, .cell [0, 0] 3 true, .tmp [6] 4]

def k_impl_BestOf_vars : List Nat := [0, 1, 2, 19, 18, 17, 3, 4, 10, 8, 34, 33, 32, 41, 40, 39, 13, 14, 11, 15, 12, 6, 7]

def k_impl_BestOf_b0 : IC := .seq (.reg [oE 20 (.bin .lss (.V 19) (.V 18))]) (.seq (.cond (.E 20) .skip (.exit 0)) (.seq (.block 1 (.seq (.reg [oE 21 (.iaddr 6 (.V 17) (.V 19)), oE 22 (.load true 6 (.E 21)), oV 10 (.alloc [iv 0, iv 0, iv 0, iv 0, iv 0, iv 0]), oN (.store [0, 0, 0, 0, 0, 0] (.V 10) (.E 22))]) (.seq (.reg [oE 23 (.load true 8 (.V 3)), oE 24 (.load true 2 (.V 4)), oE 25 (.load true 6 (.V 10)), oE 26 (.call k_impl_MayPart [([0, 0, 0, 0, 0, 0, 0, 1], (.E 23)), ([0, 0], (.E 24)), ([0, 0, 0, 0, 0, 0], (.E 25))])]) (.cond (.E 26) (.reg [oE 27 (.mv (.V 8)), oE 28 (.load true 6 (.V 10)), oE 29 (.bslice 1 6 [iv 0, iv 0, iv 0, iv 0, iv 0, iv 0] [(0, (.E 28))]), oE 30 (.app 48 6 (.E 27) (.E 29)), oV 8 (.mv (.E 30))]) .skip)))) (.reg [oE 31 (.bin .add (.V 19) (ki 1)), oV 19 (.mv (.E 31))])))

def k_impl_BestOf_b1 : IC := .seq (.reg [oE 42 (.bin .lss (.V 41) (.V 40))]) (.seq (.cond (.E 42) .skip (.exit 4)) (.seq (.block 5 (.seq (.reg [oE 43 (.mv (.V 41)), oE 44 (.iaddr 6 (.V 39) (.V 41)), oE 45 (.load true 6 (.E 44)), oV 15 (.alloc [iv 0, iv 0, iv 0, iv 0, iv 0, iv 0]), oV 14 (.mv (.E 43)), oN (.store [0, 0, 0, 0, 0, 0] (.V 15) (.E 45))]) (.reg [oE 46 (.mv (.V 13)), oE 47 (.mv (.E 46)), ⟨(some (.E 48)), .mv (.V 14), some ((.E 47), true)⟩, ⟨(some (.E 49)), .mv (.V 11), some ((.E 47), true)⟩, ⟨(some (.E 50)), .bin .eql (.E 48) (.E 49), some ((.E 47), true)⟩, ⟨(some (.E 51)), .mv (.E 50), some ((.E 47), true)⟩, ⟨(some (.E 52)), .load true 6 (.V 15), some ((.E 51), false)⟩, ⟨(some (.E 53)), .load true 6 (.V 12), some ((.E 51), false)⟩, ⟨(some (.E 54)), .faddr 3 (.V 3), some ((.E 51), false)⟩, ⟨(some (.E 55)), .load false 1 (.E 54), some ((.E 51), false)⟩, ⟨(some (.E 56)), .call k_impl_Better [([0, 0, 0, 0, 0, 0], (.E 52)), ([0, 0, 0, 0, 0, 0], (.E 53)), ([0], (.E 55))], some ((.E 51), false)⟩, ⟨(some (.E 57)), .un .not (.E 56), some ((.E 51), false)⟩, ⟨(some (.E 58)), .pick (.E 51) (kb true) (.E 57), some ((.E 47), true)⟩, oE 59 (.pick (.E 47) (.E 58) (kb false)), oV 13 (.mv (.E 59))]))) (.reg [oE 60 (.bin .add (.V 41) (ki 1)), oV 41 (.mv (.E 60))])))

def k_impl_BestOf_b2 : IC := .seq (.reg [oE 35 (.bin .lss (.V 34) (.V 33))]) (.seq (.cond (.E 35) .skip (.exit 2)) (.seq (.block 3 (.seq (.reg [oE 36 (.mv (.V 34)), oE 37 (.iaddr 6 (.V 32) (.V 34)), oE 38 (.load true 6 (.E 37)), oV 12 (.alloc [iv 0, iv 0, iv 0, iv 0, iv 0, iv 0]), oV 11 (.mv (.E 36)), oN (.store [0, 0, 0, 0, 0, 0] (.V 12) (.E 38))]) (.seq (.reg [oV 13 (.mv (kb true))]) (.seq (.seq (.reg [oV 39 (.mv (.V 8)), oV 40 (.len (.V 39)), oV 41 (.mv (ki 0))]) (.block 4 (.loop k_impl_BestOf_b1))) (.seq (.reg [oE 61 (.mv (.V 13))]) (.cond (.E 61) (.seq (.reg [oE 62 (.load true 6 (.V 12)), oN (.store [0, 0, 0, 0, 0, 0] (.V 6) (.E 62)), oV 7 (.mv (kb true))]) .ret) .skip)))))) (.reg [oE 63 (.bin .add (.V 34) (ki 1)), oV 34 (.mv (.E 63))])))

def k_impl_BestOf_ic : IC := .seq (.reg [oV 3 (.box (.V 0)), oV 4 (.box (.V 1)), oV 6 (.alloc [iv 0, iv 0, iv 0, iv 0, iv 0, iv 0]), oV 7 (.mv (kb false))]) (.seq (.reg [oE 16 (.bslice 0 6 [iv 0, iv 0, iv 0, iv 0, iv 0, iv 0] []), oV 8 (.mv (.E 16))]) (.seq (.seq (.reg [oV 17 (.mv (.V 2)), oV 18 (.len (.V 17)), oV 19 (.mv (ki 0))]) (.block 0 (.loop k_impl_BestOf_b0))) (.seq (.seq (.reg [oV 32 (.mv (.V 8)), oV 33 (.len (.V 32)), oV 34 (.mv (ki 0))]) (.block 2 (.loop k_impl_BestOf_b2))) (.seq (.reg [oE 64 (.build [iv 0, iv 0, iv 0, iv 0, iv 0, iv 0] []), oN (.store [0, 0, 0, 0, 0, 0] (.V 6) (.E 64)), oV 7 (.mv (kb false))]) .ret))))

def k_impl_BestOf_rv : List RV := [.cell [0, 0, 0, 0, 0, 0] 6 true, .tmp [0] 7]

def k_spec_BestOf_vars : List Nat := [0, 1, 2, 8, 3, 4, 10, 9, 6, 7]

def k_spec_BestOf_b0 : IC := .seq (.seq (.reg [oE 24 (.mv (.V 10)), oE 25 (.mv (.V 2)), oE 26 (.len (.E 25)), oE 27 (.bin .lss (.E 24) (.E 26)), oE 28 (.mv (.E 27)), ⟨(some (.E 29)), .mv (.V 9), some ((.E 28), true)⟩, oE 30 (.pick (.E 28) (.E 29) (kb false))]) (.cond (.E 30) .skip (.exit 2))) (.seq (.block 3 (.regD [(oE 33 (.load true 8 (.V 3)), 0, 0), (oE 34 (.load true 2 (.V 4)), 0, 0), (oE 35 (.mv (.V 2)), 0, 0), (oE 36 (.mv (.V 10)), 0, 0), (oE 37 (.iaddr 6 (.E 35) (.E 36)), 0, 0), (oE 38 (.load true 6 (.E 37)), 0, 0), (oE 39 (.call k_spec_MayPart [([0, 0, 0, 0, 0, 0, 0, 1], (.E 33)), ([0, 0], (.E 34)), ([0, 0, 0, 0, 0, 0], (.E 38))]), 0, 0), (oE 40 (.un .not (.E 39)), 0, 0), (oE 41 (.mv (.E 40)), 0, 0), (⟨(some (.E 42)), .mv (.V 2), some ((.E 41), false)⟩, 0, 0), (⟨(some (.E 43)), .mv (.V 10), some ((.E 41), false)⟩, 0, 0), (⟨(some (.E 44)), .iaddr 6 (.E 42) (.E 43), some ((.E 41), false)⟩, 0, 0), (⟨(some (.E 45)), .load true 6 (.E 44), some ((.E 41), false)⟩, 0, 0), (⟨(some (.E 46)), .mv (.V 2), some ((.E 41), false)⟩, 0, 0), (⟨(some (.E 47)), .mv (.V 8), some ((.E 41), false)⟩, 0, 0), (⟨(some (.E 48)), .iaddr 6 (.E 46) (.E 47), some ((.E 41), false)⟩, 0, 0), (⟨(some (.E 49)), .load true 6 (.E 48), some ((.E 41), false)⟩, 0, 0), (⟨(some (.E 50)), .faddr 3 (.V 3), some ((.E 41), false)⟩, 0, 0), (⟨(some (.E 51)), .load false 1 (.E 50), some ((.E 41), false)⟩, 0, 0), (⟨(some (.E 52)), .call k_spec_Better [([0, 0, 0, 0, 0, 0], (.E 45)), ([0, 0, 0, 0, 0, 0], (.E 49)), ([0], (.E 51))], some ((.E 41), false)⟩, 0, 0), (⟨(some (.E 53)), .un .not (.E 52), some ((.E 41), false)⟩, 0, 0), (oE 54 (.pick (.E 41) (kb true) (.E 53)), 0, 0), (oV 9 (.mv (.E 54)), 0, 0)])) (.reg [oE 31 (.mv (.V 10)), oE 32 (.bin .add (.E 31) (ki 1)), oV 10 (.mv (.E 32))]))

def k_spec_BestOf_b1 : IC := .seq (.seq (.reg [oE 11 (.mv (.V 8)), oE 12 (.mv (.V 2)), oE 13 (.len (.E 12)), oE 14 (.bin .lss (.E 11) (.E 13))]) (.cond (.E 14) .skip (.exit 0))) (.seq (.block 1 (.seq (.regD [(oE 17 (.load true 8 (.V 3)), 0, 0), (oE 18 (.load true 2 (.V 4)), 0, 0), (oE 19 (.mv (.V 2)), 0, 0), (oE 20 (.mv (.V 8)), 0, 0), (oE 21 (.iaddr 6 (.E 19) (.E 20)), 0, 0), (oE 22 (.load true 6 (.E 21)), 0, 0), (oE 23 (.call k_spec_MayPart [([0, 0, 0, 0, 0, 0, 0, 1], (.E 17)), ([0, 0], (.E 18)), ([0, 0, 0, 0, 0, 0], (.E 22))]), 0, 0), (oV 9 (.mv (.E 23)), 0, 0)]) (.seq (.seq (.reg [oV 10 (.mv (ki 0))]) (.block 2 (.loop k_spec_BestOf_b0))) (.seq (.reg [oE 55 (.mv (.V 9))]) (.cond (.E 55) (.seq (.reg [oE 56 (.mv (.V 2)), oE 57 (.mv (.V 8)), oE 58 (.iaddr 6 (.E 56) (.E 57)), oE 59 (.load true 6 (.E 58)), oN (.store [0, 0, 0, 0, 0, 0] (.V 6) (.E 59)), oV 7 (.mv (kb true))]) .ret) .skip))))) (.reg [oE 15 (.mv (.V 8)), oE 16 (.bin .add (.E 15) (ki 1)), oV 8 (.mv (.E 16))]))

def k_spec_BestOf_ic : IC := .seq (.reg [oV 3 (.box (.V 0)), oV 4 (.box (.V 1)), oV 6 (.alloc [iv 0, iv 0, iv 0, iv 0, iv 0, iv 0]), oV 7 (.mv (kb false))]) (.seq (.seq (.reg [oV 8 (.mv (ki 0))]) (.block 0 (.loop k_spec_BestOf_b1))) (.seq (.reg [oE 60 (.build [iv 0, iv 0, iv 0, iv 0, iv 0, iv 0] []), oN (.store [0, 0, 0, 0, 0, 0] (.V 6) (.E 60)), oV 7 (.mv (kb false))]) .ret))

def k_spec_BestOf_rv : List RV := [.cell [0, 0, 0, 0, 0, 0] 6 true, .tmp [0] 7]

def k_impl_MayPart_vars : List Nat := [0, 1, 2, 3, 4, 5, 9, 7, 8, 6]

def k_impl_MayPart_ic : IC := .seq (.reg [oV 3 (.box (.V 0)), oV 4 (.box (.V 1)), oV 5 (.box (.V 2)), oV 6 (.mv (kb false))]) (.seq (.reg [oE 11 (.load true 8 (.V 3)), oE 12 (.load true 2 (.V 4)), oE 13 (.load true 6 (.V 5)), oE 14 (.call k_impl_SideValues [([0, 0, 0, 0, 0, 0, 0, 1], (.E 11)), ([0, 0], (.E 12)), ([0, 0, 0, 0, 0, 0], (.E 13))]), oE 10 (.mv (.E 14)), oE 15 (.ext 0 (.E 10)), oE 16 (.ext 1 (.E 10)), oE 17 (.ext 2 (.E 10)), oV 7 (.mv (.E 15)), oV 8 (.mv (.E 16)), oV 9 (.mv (.E 17))]) (.seq (.reg [oE 18 (.load true 8 (.V 3)), oE 19 (.call k_impl_ConfigOk [([0, 0, 0, 0, 0, 0, 0, 1], (.E 18))]), oE 20 (.mv (.E 19)), ⟨(some (.E 21)), .mv (.V 9), some ((.E 20), true)⟩, oE 22 (.pick (.E 20) (.E 21) (kb false)), oE 23 (.mv (.E 22)), ⟨(some (.E 24)), .faddr 2 (.V 5), some ((.E 23), true)⟩, ⟨(some (.E 25)), .faddr 0 (.E 24), some ((.E 23), true)⟩, ⟨(some (.E 26)), .load false 1 (.E 25), some ((.E 23), true)⟩, ⟨(some (.E 27)), .faddr 4 (.V 3), some ((.E 23), true)⟩, ⟨(some (.E 28)), .load false 1 (.E 27), some ((.E 23), true)⟩, ⟨(some (.E 29)), .bin .geq (.E 26) (.E 28), some ((.E 23), true)⟩, oE 30 (.pick (.E 23) (.E 29) (kb false)), oE 31 (.mv (.E 30)), ⟨(some (.E 32)), .faddr 4 (.V 5), some ((.E 31), true)⟩, ⟨(some (.E 33)), .faddr 0 (.E 32), some ((.E 31), true)⟩, ⟨(some (.E 34)), .load false 1 (.E 33), some ((.E 31), true)⟩, ⟨(some (.E 35)), .faddr 4 (.V 3), some ((.E 31), true)⟩, ⟨(some (.E 36)), .load false 1 (.E 35), some ((.E 31), true)⟩, ⟨(some (.E 37)), .bin .geq (.E 34) (.E 36), some ((.E 31), true)⟩, oE 38 (.pick (.E 31) (.E 37) (kb false)), oE 39 (.mv (.E 38)), ⟨(some (.E 40)), .load true 8 (.V 3), some ((.E 39), true)⟩, ⟨(some (.E 41)), .faddr 0 (.V 5), some ((.E 39), true)⟩, ⟨(some (.E 42)), .load false 1 (.E 41), some ((.E 39), true)⟩, ⟨(some (.E 43)), .call k_impl_SignFor [([0, 0, 0, 0, 0, 0, 0, 1], (.E 40)), ([0], (.E 42))], some ((.E 39), true)⟩, ⟨(some (.E 44)), .mv (.V 7), some ((.E 39), true)⟩, ⟨(some (.E 45)), .mv (.V 8), some ((.E 39), true)⟩, ⟨(some (.E 46)), .call k_impl_Agrees [([0], (.E 43)), ([0], (.E 44)), ([0], (.E 45))], some ((.E 39), true)⟩, oE 47 (.pick (.E 39) (.E 46) (kb false)), oE 48 (.mv (.E 47)), ⟨(some (.E 49)), .load true 6 (.V 5), some ((.E 48), true)⟩, ⟨(some (.E 50)), .faddr 3 (.V 3), some ((.E 48), true)⟩, ⟨(some (.E 51)), .load false 1 (.E 50), some ((.E 48), true)⟩, ⟨(some (.E 52)), .call k_impl_Improves [([0, 0, 0, 0, 0, 0], (.E 49)), ([0], (.E 51))], some ((.E 48), true)⟩, oE 53 (.pick (.E 48) (.E 52) (kb false)), oV 6 (.mv (.E 53))]) .ret))

def k_impl_MayPart_rv : List RV := [.tmp [0] 6]

def k_spec_MayPart_vars : List Nat := [0, 1, 2, 3, 4, 5, 9, 7, 8, 6]

def k_spec_MayPart_ic : IC := .seq (.reg [oV 3 (.box (.V 0)), oV 4 (.box (.V 1)), oV 5 (.box (.V 2)), oV 6 (.mv (kb false))]) (.seq (.reg [oE 11 (.load true 8 (.V 3)), oE 12 (.load true 2 (.V 4)), oE 13 (.load true 6 (.V 5)), oE 14 (.call k_spec_SideValues [([0, 0, 0, 0, 0, 0, 0, 1], (.E 11)), ([0, 0], (.E 12)), ([0, 0, 0, 0, 0, 0], (.E 13))]), oE 10 (.mv (.E 14)), oE 15 (.ext 0 (.E 10)), oE 16 (.ext 1 (.E 10)), oE 17 (.ext 2 (.E 10)), oV 7 (.mv (.E 15)), oV 8 (.mv (.E 16)), oV 9 (.mv (.E 17))]) (.seq (.reg [oE 18 (.load true 8 (.V 3)), oE 19 (.call k_spec_ConfigOk [([0, 0, 0, 0, 0, 0, 0, 1], (.E 18))]), oE 20 (.mv (.E 19)), ⟨(some (.E 21)), .mv (.V 9), some ((.E 20), true)⟩, oE 22 (.pick (.E 20) (.E 21) (kb false)), oE 23 (.mv (.E 22)), ⟨(some (.E 24)), .faddr 2 (.V 5), some ((.E 23), true)⟩, ⟨(some (.E 25)), .faddr 0 (.E 24), some ((.E 23), true)⟩, ⟨(some (.E 26)), .load false 1 (.E 25), some ((.E 23), true)⟩, ⟨(some (.E 27)), .faddr 4 (.V 3), some ((.E 23), true)⟩, ⟨(some (.E 28)), .load false 1 (.E 27), some ((.E 23), true)⟩, ⟨(some (.E 29)), .bin .geq (.E 26) (.E 28), some ((.E 23), true)⟩, oE 30 (.pick (.E 23) (.E 29) (kb false)), oE 31 (.mv (.E 30)), ⟨(some (.E 32)), .faddr 4 (.V 5), some ((.E 31), true)⟩, ⟨(some (.E 33)), .faddr 0 (.E 32), some ((.E 31), true)⟩, ⟨(some (.E 34)), .load false 1 (.E 33), some ((.E 31), true)⟩, ⟨(some (.E 35)), .faddr 4 (.V 3), some ((.E 31), true)⟩, ⟨(some (.E 36)), .load false 1 (.E 35), some ((.E 31), true)⟩, ⟨(some (.E 37)), .bin .geq (.E 34) (.E 36), some ((.E 31), true)⟩, oE 38 (.pick (.E 31) (.E 37) (kb false)), oE 39 (.mv (.E 38)), ⟨(some (.E 40)), .load true 8 (.V 3), some ((.E 39), true)⟩, ⟨(some (.E 41)), .faddr 0 (.V 5), some ((.E 39), true)⟩, ⟨(some (.E 42)), .load false 1 (.E 41), some ((.E 39), true)⟩, ⟨(some (.E 43)), .call k_spec_SignFor [([0, 0, 0, 0, 0, 0, 0, 1], (.E 40)), ([0], (.E 42))], some ((.E 39), true)⟩, ⟨(some (.E 44)), .mv (.V 7), some ((.E 39), true)⟩, ⟨(some (.E 45)), .mv (.V 8), some ((.E 39), true)⟩, ⟨(some (.E 46)), .call k_spec_Agrees [([0], (.E 43)), ([0], (.E 44)), ([0], (.E 45))], some ((.E 39), true)⟩, oE 47 (.pick (.E 39) (.E 46) (kb false)), oE 48 (.mv (.E 47)), ⟨(some (.E 49)), .load true 6 (.V 5), some ((.E 48), true)⟩, ⟨(some (.E 50)), .faddr 3 (.V 3), some ((.E 48), true)⟩, ⟨(some (.E 51)), .load false 1 (.E 50), some ((.E 48), true)⟩, ⟨(some (.E 52)), .call k_spec_Improves [([0, 0, 0, 0, 0, 0], (.E 49)), ([0], (.E 51))], some ((.E 48), true)⟩, oE 53 (.pick (.E 48) (.E 52) (kb false)), oV 6 (.mv (.E 53))]) .ret))

def k_spec_MayPart_rv : List RV := [.tmp [0] 6]

def k_impl_Better_vars : List Nat := [0, 1, 2, 3, 4, 7, 9, 8, 10, 12, 11, 6]

def k_impl_Better_ic : IC := .seq (.reg [oV 3 (.box (.V 0)), oV 4 (.box (.V 1)), oV 6 (.mv (kb false))]) (.seq (.reg [oE 14 (.load true 6 (.V 3)), oE 15 (.mv (.V 2)), oE 16 (.call k_impl_GainOf [([0, 0, 0, 0, 0, 0], (.E 14)), ([0], (.E 15))]), oE 13 (.mv (.E 16)), oE 17 (.ext 0 (.E 13)), oE 18 (.ext 1 (.E 13)), oV 7 (.alloc [(.v (.bool false)), (.v (.int .u64 0)), (.v (.int .u64 0)), iv 0]), oN (.store [0, 0, 0, 0] (.V 7) (.E 17)), oV 8 (.mv (.E 18))]) (.seq (.reg [oE 20 (.load true 6 (.V 4)), oE 21 (.mv (.V 2)), oE 22 (.call k_impl_GainOf [([0, 0, 0, 0, 0, 0], (.E 20)), ([0], (.E 21))]), oE 19 (.mv (.E 22)), oE 23 (.ext 0 (.E 19)), oE 24 (.ext 1 (.E 19)), oV 9 (.alloc [(.v (.bool false)), (.v (.int .u64 0)), (.v (.int .u64 0)), iv 0]), oN (.store [0, 0, 0, 0] (.V 9) (.E 23)), oV 10 (.mv (.E 24))]) (.seq (.reg [oE 26 (.load true 4 (.V 7)), oE 27 (.load true 4 (.V 9)), oE 28 (.call k_impl_CompareFrac [([0, 0, 0, 0], (.E 26)), ([0, 0, 0, 0], (.E 27))]), oE 25 (.mv (.E 28)), oE 29 (.ext 0 (.E 25)), oE 30 (.ext 1 (.E 25)), oV 11 (.mv (.E 29)), oV 12 (.mv (.E 30))]) (.seq (.reg [oE 31 (.mv (.V 8)), oE 32 (.mv (.E 31)), ⟨(some (.E 33)), .mv (.V 10), some ((.E 32), true)⟩, oE 34 (.pick (.E 32) (.E 33) (kb false)), oE 35 (.mv (.E 34)), ⟨(some (.E 36)), .mv (.V 12), some ((.E 35), true)⟩, oE 37 (.pick (.E 35) (.E 36) (kb false)), oE 38 (.mv (.E 37)), ⟨(some (.E 39)), .mv (.V 11), some ((.E 38), true)⟩, ⟨(some (.E 40)), .bin .gtr (.E 39) (ki 0), some ((.E 38), true)⟩, ⟨(some (.E 41)), .mv (.E 40), some ((.E 38), true)⟩, ⟨(some (.E 42)), .mv (.V 11), some ((.E 41), false)⟩, ⟨(some (.E 43)), .bin .eql (.E 42) (ki 0), some ((.E 41), false)⟩, ⟨(some (.E 44)), .mv (.E 43), some ((.E 41), false)⟩, ⟨(some (.E 45)), .load true 6 (.V 3), some ((.E 44), true)⟩, ⟨(some (.E 46)), .load true 6 (.V 4), some ((.E 44), true)⟩, ⟨(some (.E 47)), .call k_impl_CandLess [([0, 0, 0, 0, 0, 0], (.E 45)), ([0, 0, 0, 0, 0, 0], (.E 46))], some ((.E 44), true)⟩, ⟨(some (.E 48)), .pick (.E 44) (.E 47) (kb false), some ((.E 41), false)⟩, ⟨(some (.E 49)), .pick (.E 41) (kb true) (.E 48), some ((.E 38), true)⟩, oE 50 (.pick (.E 38) (.E 49) (kb false)), oV 6 (.mv (.E 50))]) .ret))))

def k_impl_Better_rv : List RV := [.tmp [0] 6]

def k_spec_GainOf_vars : List Nat := [0, 1, 2, 7, 9, 4, 6, 8, 5]

def k_spec_GainOf_ic : IC := .seq (.reg [oV 2 (.box (.V 0)), oV 4 (.alloc [(.v (.bool false)), (.v (.int .u64 0)), (.v (.int .u64 0)), iv 0]), oV 5 (.mv (kb false))]) (.seq (.reg [oE 11 (.faddr 2 (.V 2)), oE 12 (.load true 2 (.E 11)), oE 13 (.mv (.V 1)), oE 14 (.call k_spec_PlainGain [([0, 0], (.E 12)), ([0], (.E 13))]), oE 10 (.mv (.E 14)), oE 15 (.ext 0 (.E 10)), oE 16 (.ext 1 (.E 10)), oV 6 (.alloc [(.v (.bool false)), (.v (.int .u64 0)), (.v (.int .u64 0)), iv 0]), oN (.store [0, 0, 0, 0] (.V 6) (.E 15)), oV 7 (.mv (.E 16))]) (.seq (.reg [oE 18 (.faddr 4 (.V 2)), oE 19 (.load true 2 (.E 18)), oE 20 (.mv (.V 1)), oE 21 (.call k_spec_PlainGain [([0, 0], (.E 19)), ([0], (.E 20))]), oE 17 (.mv (.E 21)), oE 22 (.ext 0 (.E 17)), oE 23 (.ext 1 (.E 17)), oV 8 (.alloc [(.v (.bool false)), (.v (.int .u64 0)), (.v (.int .u64 0)), iv 0]), oN (.store [0, 0, 0, 0] (.V 8) (.E 22)), oV 9 (.mv (.E 23))]) (.seq (.seq (.reg [oE 24 (.mv (.V 7)), oE 25 (.un .not (.E 24)), oE 26 (.mv (.E 25)), ⟨(some (.E 27)), .mv (.V 9), some ((.E 26), false)⟩, ⟨(some (.E 28)), .un .not (.E 27), some ((.E 26), false)⟩, oE 29 (.pick (.E 26) (kb true) (.E 28))]) (.cond (.E 29) (.seq (.reg [oE 30 (.build [(.v (.bool false)), (.v (.int .u64 0)), (.v (.int .u64 0)), iv 0] []), oN (.store [0, 0, 0, 0] (.V 4) (.E 30)), oV 5 (.mv (kb false))]) .ret) .skip)) (.seq (.reg [oE 31 (.load true 4 (.V 6)), oE 32 (.load true 4 (.V 8)), oE 33 (.call k_spec_AddFrac [([0, 0, 0, 0], (.E 31)), ([0, 0, 0, 0], (.E 32))]), oE 34 (.ext 0 (.E 33)), oE 35 (.ext 1 (.E 33)), oN (.store [0, 0, 0, 0] (.V 4) (.E 34)), oV 5 (.mv (.E 35))]) .ret))))

def k_spec_GainOf_rv : List RV := [.cell [0, 0, 0, 0] 4 true, .tmp [0] 5]

def k_spec_CompareFrac_vars : List Nat := [0, 1, 2, 3, 8, 6, 7, 4, 5]

def k_spec_CompareFrac_ic : IC := .seq (.reg [oV 2 (.box (.V 0)), oV 3 (.box (.V 1)), oV 4 (.mv (ki 0)), oV 5 (.mv (kb false))]) (.seq (.reg [oE 10 (.load true 4 (.V 2)), oE 11 (.load true 4 (.V 3)), oE 12 (.call k_spec_l5Cross [([0, 0, 0, 0], (.E 10)), ([0, 0, 0, 0], (.E 11))]), oE 9 (.mv (.E 12)), oE 13 (.ext 0 (.E 9)), oE 14 (.ext 1 (.E 9)), oE 15 (.ext 2 (.E 9)), oV 6 (.alloc [(.v (.bool false)), (.v (.int .u64 0)), (.v (.int .u64 0))]), oV 7 (.alloc [(.v (.bool false)), (.v (.int .u64 0)), (.v (.int .u64 0))]), oN (.store [0, 0, 0] (.V 6) (.E 13)), oN (.store [0, 0, 0] (.V 7) (.E 14)), oV 8 (.mv (.E 15))]) (.seq (.seq (.reg [oE 16 (.mv (.V 8)), oE 17 (.un .not (.E 16))]) (.cond (.E 17) (.seq (.reg [oV 4 (.mv (ki 0)), oV 5 (.mv (kb false))]) .ret) .skip)) (.seq (.reg [oE 18 (.load true 3 (.V 6)), oE 19 (.load true 3 (.V 7)), oE 20 (.call k_spec_CompareWide [([0, 0, 0], (.E 18)), ([0, 0, 0], (.E 19))]), oV 4 (.mv (.E 20)), oV 5 (.mv (kb true))]) .ret)))

def k_spec_CompareFrac_rv : List RV := [.tmp [0] 4, .tmp [0] 5]

def k_spec_l1New_vars : List Nat := [0, 4, 3, 2]

def k_spec_l1New_b0 : IC := .seq (.seq (.reg [oE 8 (.mv (.V 4)), oE 9 (.mv (.V 0)), oE 10 (.len (.E 9)), oE 11 (.bin .lss (.E 8) (.E 10)), oE 12 (.mv (.E 11)), ⟨(some (.E 13)), .mv (.V 4), some ((.E 12), true)⟩, ⟨(some (.E 14)), .bin .lss (.E 13) (ki 4000), some ((.E 12), true)⟩, oE 15 (.pick (.E 12) (.E 14) (kb false))]) (.cond (.E 15) .skip (.exit 0))) (.seq (.block 1 (.reg [oE 18 (.mv (.V 3)), oE 19 (.bin .mul (.E 18) (ki 131)), oE 20 (.mv (.V 0)), oE 21 (.mv (.V 4)), oE 22 (.iaddr 1 (.E 20) (.E 21)), oE 23 (.load false 1 (.E 22)), oE 24 (.convI .i64 (.E 23)), oE 25 (.bin .add (.E 19) (.E 24)), oE 26 (.bin .add (.E 25) (ki 7)), oE 27 (.bin .and (.E 26) (ki 1073741823)), oV 3 (.mv (.E 27))])) (.reg [oE 16 (.mv (.V 4)), oE 17 (.bin .add (.E 16) (ki 1)), oV 4 (.mv (.E 17))]))

def k_spec_l1New_ic : IC := .seq (.reg [oV 2 (.mv (.C (.v (.pointer none))))]) (.seq (.reg [oE 5 (.mv (.V 0)), oE 6 (.len (.E 5)), oE 7 (.bin .add (ki 28507) (.E 6)), oV 3 (.mv (.E 7))]) (.seq (.seq (.reg [oV 4 (.mv (ki 0))]) (.block 0 (.loop k_spec_l1New_b0))) (.seq (.reg [oE 28 (.mv (.V 0)), oE 29 (.mv (.V 3)), oE 30 (.build [.e0, iv 0, iv 0] [(0, 1, (.E 28)), (2, 1, (.E 29))]), oE 31 (.box (.E 30)), oV 2 (.mv (.E 31))]) .ret)))

def k_spec_l1New_rv : List RV := [.tmp [0] 2]

def k_spec_l8Right_vars : List Nat := [0, 3, 5, 4, 2]

def k_spec_l8Right_b0 : IC := .seq (.seq (.reg [oE 40 (.mv (.V 5)), oE 41 (.mv (.V 4)), oE 42 (.bin .lss (.E 40) (.E 41))]) (.cond (.E 42) .skip (.exit 0))) (.seq (.block 1 (.regD [(oE 45 (.faddr 7 (.V 3)), 0, 2), (oE 46 (.load false 1 (.E 45)), 0, 2), (oE 47 (.mv (.V 0)), 0, 0), (oE 48 (.call k_spec_l1Below [([0], (.E 47)), ([0], (ki 3))]), 0, 0), (oE 49 (.bin .sub (.E 48) (ki 1)), 0, 0), (oE 50 (.bslice 1 1 [iv 0] [(0, (.E 49))]), 0, 0), (oE 51 (.app 8 1 (.E 46) (.E 50)), 0, 0), (oE 52 (.faddr 7 (.V 3)), 0, 0), (oN (.store [1] (.E 52) (.E 51)), 0, 0)])) (.reg [oE 43 (.mv (.V 5)), oE 44 (.bin .add (.E 43) (ki 1)), oV 5 (.mv (.E 44))]))

def k_spec_l8Right_ic : IC := .seq (.reg [oV 2 (.alloc [iv 0, iv 0, iv 0, iv 0, iv 0, iv 0, iv 0, .e0])]) (.seq (.reg [oE 6 (.mv (.V 0)), oE 7 (.call k_spec_l1Below [([0], (.E 6)), ([0], (ki 4))]), oE 8 (.bin .add (ki 1) (.E 7)), oE 9 (.mv (.V 0)), oE 10 (.call k_spec_l1Below [([0], (.E 9)), ([0], (ki 4))]), oE 11 (.mv (.V 0)), oE 12 (.call k_spec_l1Below [([0], (.E 11)), ([0], (ki 5))]), oE 13 (.bin .add (ki 2) (.E 12)), oE 14 (.mv (.V 0)), oE 15 (.call k_spec_l1Below [([0], (.E 14)), ([0], (ki 3))]), oE 16 (.bin .add (ki 1) (.E 15)), oE 17 (.mv (.V 0)), oE 18 (.call k_spec_l1Below [([0], (.E 17)), ([0], (ki 3))]), oE 19 (.bin .add (ki 1) (.E 18)), oE 20 (.mv (.V 0)), oE 21 (.call k_spec_l1Below [([0], (.E 20)), ([0], (ki 3))]), oE 22 (.bin .add (ki 1) (.E 21)), oE 23 (.build [iv 0, iv 0, iv 0, iv 0, iv 0, iv 0, iv 0, .e0] [(0, 1, (.E 8)), (1, 1, (.E 10)), (2, 1, (.E 13)), (3, 1, (.E 16)), (4, 1, (.E 19)), (5, 1, (ki 1)), (6, 1, (.E 22))]), oV 3 (.alloc [iv 0, iv 0, iv 0, iv 0, iv 0, iv 0, iv 0, .e0]), oN (.store [0, 0, 0, 0, 0, 0, 0, 1] (.V 3) (.E 23))]) (.seq (.seq (.reg [oE 24 (.mv (.V 0)), oE 25 (.call k_spec_l1Once [([0], (.E 24)), ([0], (ki 8))])]) (.cond (.E 25) (.reg [oE 26 (.mv (.V 0)), oE 27 (.call k_spec_l1Below [([0], (.E 26)), ([0], (ki 100))]), oE 28 (.bin .add (ki 1) (.E 27)), oE 29 (.faddr 3 (.V 3)), oN (.store [0] (.E 29) (.E 28))]) .skip)) (.seq (.seq (.reg [oE 30 (.mv (.V 0)), oE 31 (.call k_spec_l1Once [([0], (.E 30)), ([0], (ki 4))])]) (.cond (.E 31) (.reg [oE 32 (.mv (.V 0)), oE 33 (.faddr 6 (.V 3)), oE 34 (.load false 1 (.E 33)), oE 35 (.call k_spec_l1Below [([0], (.E 32)), ([0], (.E 34))]), oE 36 (.bin .add (ki 1) (.E 35)), oE 37 (.faddr 5 (.V 3)), oN (.store [0] (.E 37) (.E 36))]) .skip)) (.seq (.reg [oE 38 (.mv (.V 0)), oE 39 (.call k_spec_l1Below [([0], (.E 38)), ([0], (ki 5))]), oV 4 (.mv (.E 39))]) (.seq (.seq (.reg [oV 5 (.mv (ki 0))]) (.block 0 (.loop k_spec_l8Right_b0))) (.seq (.reg [oE 53 (.load true 8 (.V 3)), oN (.store [0, 0, 0, 0, 0, 0, 0, 1] (.V 2) (.E 53))]) .ret))))))

def k_spec_l8Right_rv : List RV := [.cell [0, 0, 0, 0, 0, 0, 0, 1] 2 true]

def k_spec_l1Once_vars : List Nat := [0, 1, 4]

def k_spec_l1Once_ic : IC := .seq (.reg [oV 4 (.mv (kb false))]) (.seq (.reg [oE 5 (.mv (.V 0)), oE 6 (.mv (.V 1)), oE 7 (.call k_spec_l1Below [([0], (.E 5)), ([0], (.E 6))]), oE 8 (.bin .eql (.E 7) (ki 0)), oV 4 (.mv (.E 8))]) .ret)

def k_spec_l1Once_rv : List RV := [.tmp [0] 4]

def k_spec_l8Bent_vars : List Nat := [0, 7, 3, 2]

def k_spec_l8Bent_ic : IC := .seq (.reg [oV 2 (.alloc [iv 0, iv 0, iv 0, iv 0, iv 0, iv 0, iv 0, .e0])]) (.seq (.reg [oE 4 (.mv (.V 0)), oE 5 (.call k_spec_l8Right [([0], (.E 4))]), oV 3 (.alloc [iv 0, iv 0, iv 0, iv 0, iv 0, iv 0, iv 0, .e0]), oN (.store [0, 0, 0, 0, 0, 0, 0, 1] (.V 3) (.E 5))]) (.seq (.seq (.reg [oE 6 (.mv (.V 0)), oV 7 (.call k_spec_l1Below [([0], (.E 6)), ([0], (ki 12))])]) (.block 0 (.seq (.reg [oE 9 (.bin .eql (.V 7) (ki 0)), oE 8 (.mv (.E 9))]) (.cond (.E 8) (.reg [oE 10 (.mv (.V 0)), oE 11 (.bslice 5 1 [iv 0] [(0, (ki 0)), (1, (ki 1)), (2, (ki 8)), (3, (ki 9)), (4, (ki (-1)))]), oE 12 (.call k_spec_l1PickInt [([0], (.E 10)), ([1], (.E 11))]), oE 13 (.faddr 0 (.V 3)), oN (.store [0] (.E 13) (.E 12))]) (.seq (.reg [oE 15 (.bin .eql (.V 7) (ki 1)), oE 14 (.mv (.E 15))]) (.cond (.E 14) (.reg [oE 16 (.mv (.V 0)), oE 17 (.bslice 4 1 [iv 0] [(0, (ki (-1))), (1, (ki 0)), (2, (ki 4)), (3, (ki 5))]), oE 18 (.call k_spec_l1PickInt [([0], (.E 16)), ([1], (.E 17))]), oE 19 (.faddr 1 (.V 3)), oN (.store [0] (.E 19) (.E 18))]) (.seq (.reg [oE 21 (.bin .eql (.V 7) (ki 2)), oE 20 (.mv (.E 21))]) (.cond (.E 20) (.reg [oE 22 (.mv (.V 0)), oE 23 (.bslice 4 1 [iv 0] [(0, (ki 1)), (1, (ki 2)), (2, (ki 8)), (3, (ki 9))]), oE 24 (.call k_spec_l1PickInt [([0], (.E 22)), ([1], (.E 23))]), oE 25 (.faddr 2 (.V 3)), oN (.store [0] (.E 25) (.E 24))]) (.seq (.reg [oE 27 (.bin .eql (.V 7) (ki 3)), oE 26 (.mv (.E 27))]) (.cond (.E 26) (.reg [oE 28 (.mv (.V 0)), oE 29 (.bslice 5 1 [iv 0] [(0, (ki 0)), (1, (ki 1)), (2, (ki 100)), (3, (ki 101)), (4, (ki 9223372036854775807))]), oE 30 (.call k_spec_l1PickInt [([0], (.E 28)), ([1], (.E 29))]), oE 31 (.faddr 3 (.V 3)), oN (.store [0] (.E 31) (.E 30))]) (.seq (.reg [oE 33 (.bin .eql (.V 7) (ki 4)), oE 32 (.mv (.E 33))]) (.cond (.E 32) (.reg [oE 34 (.mv (.V 0)), oE 35 (.bslice 4 1 [iv 0] [(0, (ki 0)), (1, (ki 1)), (2, (ki 20)), (3, (ki 21))]), oE 36 (.call k_spec_l1PickInt [([0], (.E 34)), ([1], (.E 35))]), oE 37 (.faddr 4 (.V 3)), oN (.store [0] (.E 37) (.E 36))]) (.seq (.reg [oE 39 (.bin .eql (.V 7) (ki 5)), oE 38 (.mv (.E 39))]) (.cond (.E 38) (.reg [oE 40 (.mv (.V 0)), oE 41 (.faddr 6 (.V 3)), oE 42 (.load false 1 (.E 41)), oE 43 (.faddr 6 (.V 3)), oE 44 (.load false 1 (.E 43)), oE 45 (.bin .add (.E 44) (ki 1)), oE 46 (.bslice 5 1 [iv 0] [(0, (ki 0)), (1, (ki 1)), (2, (.E 42)), (3, (.E 45)), (4, (ki (-1)))]), oE 47 (.call k_spec_l1PickInt [([0], (.E 40)), ([1], (.E 46))]), oE 48 (.faddr 5 (.V 3)), oN (.store [0] (.E 48) (.E 47))]) (.seq (.reg [oE 50 (.bin .eql (.V 7) (ki 6)), oE 49 (.mv (.E 50))]) (.cond (.E 49) (.reg [oE 51 (.mv (.V 0)), oE 52 (.bslice 5 1 [iv 0] [(0, (ki 0)), (1, (ki 1)), (2, (ki 1000)), (3, (ki 1001)), (4, (ki 9223372036854775807))]), oE 53 (.call k_spec_l1PickInt [([0], (.E 51)), ([1], (.E 52))]), oE 54 (.faddr 6 (.V 3)), oN (.store [0] (.E 54) (.E 53))]) (.seq (.reg [oE 56 (.bin .eql (.V 7) (ki 7)), oE 55 (.mv (.E 56))]) (.cond (.E 55) (.regD [(oE 57 (.faddr 7 (.V 3)), 0, 2), (oE 58 (.load false 1 (.E 57)), 0, 2), (oE 59 (.mv (.V 0)), 0, 0), (oE 60 (.call k_spec_l1Below [([0], (.E 59)), ([0], (ki 5))]), 0, 0), (oE 61 (.bin .sub (.E 60) (ki 2)), 0, 0), (oE 62 (.bslice 1 1 [iv 0] [(0, (.E 61))]), 0, 0), (oE 63 (.app 8 1 (.E 58) (.E 62)), 0, 0), (oE 64 (.faddr 7 (.V 3)), 0, 0), (oN (.store [1] (.E 64) (.E 63)), 0, 0)]) .skip)))))))))))))))))) (.seq (.reg [oE 65 (.load true 8 (.V 3)), oN (.store [0, 0, 0, 0, 0, 0, 0, 1] (.V 2) (.E 65))]) .ret)))

def k_spec_l8Bent_rv : List RV := [.cell [0, 0, 0, 0, 0, 0, 0, 1] 2 true]

def k_spec_l14Bound_vars : List Nat := [0, 5, 2, 3]

def k_spec_l14Bound_ic : IC := .seq (.reg [oV 2 (.alloc [iv 0, iv 0])]) (.seq (.seq (.reg [oE 4 (.mv (.V 0)), oV 5 (.call k_spec_l1Below [([0], (.E 4)), ([0], (ki 4))])]) (.block 0 (.seq (.reg [oE 7 (.bin .eql (.V 5) (ki 0)), oE 6 (.mv (.E 7))]) (.cond (.E 6) (.seq (.reg [oE 8 (.call k_spec_Free []), oN (.store [0, 0] (.V 2) (.E 8))]) .ret) (.seq (.reg [oE 10 (.bin .eql (.V 5) (ki 1)), oE 9 (.mv (.E 10))]) (.cond (.E 9) (.seq (.reg [oE 11 (.mv (.V 0)), oE 12 (.call k_spec_l1Whole [([0], (.E 11))]), oE 13 (.mv (.V 0)), oE 14 (.call k_spec_l1Whole [([0], (.E 13))]), oE 15 (.build [iv 0, iv 0] [(0, 1, (.E 12)), (1, 1, (.E 14))]), oN (.store [0, 0] (.V 2) (.E 15))]) .ret) .skip)))))) (.seq (.reg [oE 16 (.mv (.V 0)), oE 17 (.call k_spec_l1Below [([0], (.E 16)), ([0], (ki 41))]), oE 18 (.bin .sub (.E 17) (ki 20)), oE 19 (.bin .mul (ki 50) (.E 18)), oV 3 (.mv (.E 19))]) (.seq (.reg [oE 20 (.mv (.V 3)), oE 21 (.mv (.V 3)), oE 22 (.mv (.V 0)), oE 23 (.call k_spec_l1Below [([0], (.E 22)), ([0], (ki 30))]), oE 24 (.bin .mul (ki 50) (.E 23)), oE 25 (.bin .add (.E 21) (.E 24)), oE 26 (.build [iv 0, iv 0] [(0, 1, (.E 20)), (1, 1, (.E 25))]), oN (.store [0, 0] (.V 2) (.E 26))]) .ret)))

def k_spec_l14Bound_rv : List RV := [.cell [0, 0] 2 true]

def k_spec_l16Cands_vars : List Nat := [0, 5, 4, 3, 6, 2]

def k_spec_l16Cands_b0 : IC := .seq (.seq (.reg [oE 11 (.mv (.V 5)), oE 12 (.mv (.V 4)), oE 13 (.bin .lss (.E 11) (.E 12))]) (.cond (.E 13) .skip (.exit 0))) (.seq (.block 1 (.reg [oE 16 (.mv (.V 3)), oE 17 (.mv (.V 0)), oE 18 (.call k_spec_l13Hist [([0], (.E 17))]), oE 19 (.bslice 1 1 [(.own 2 [])] [(0, (.E 18))]), oE 20 (.app 24 1 (.E 16) (.E 19)), oV 3 (.mv (.E 20))])) (.reg [oE 14 (.mv (.V 5)), oE 15 (.bin .add (.E 14) (ki 1)), oV 5 (.mv (.E 15))]))

def k_spec_l16Cands_ic : IC := .seq (.reg [oV 2 (.mv (.C .e0))]) (.seq (.reg [oE 7 (.bslice 0 1 [(.own 2 [])] []), oV 3 (.mv (.E 7))]) (.seq (.reg [oE 8 (.mv (.V 0)), oE 9 (.call k_spec_l1Below [([0], (.E 8)), ([0], (ki 3))]), oE 10 (.bin .add (ki 1) (.E 9)), oV 4 (.mv (.E 10))]) (.seq (.seq (.reg [oV 5 (.mv (ki 0))]) (.block 0 (.loop k_spec_l16Cands_b0))) (.seq (.seq (.reg [oE 21 (.mv (.V 0)), oE 22 (.call k_spec_l1Once [([0], (.E 21)), ([0], (ki 3))])]) (.cond (.E 22) (.reg [oE 23 (.mv (.V 3)), oE 24 (.mv (.V 3)), oE 25 (.iaddr 1 (.E 24) (ki 0)), oE 26 (.load false 1 (.E 25)), oE 27 (.bslice 1 1 [(.own 2 [])] [(0, (.E 26))]), oE 28 (.app 24 1 (.E 23) (.E 27)), oV 3 (.mv (.E 28))]) .skip)) (.seq (.reg [oE 29 (.mv (.V 3)), oE 30 (.call k_spec_CandsOf [([1], (.E 29)), ([0], (ki 1))]), oV 6 (.mv (.E 30))]) (.seq (.seq (.reg [oE 31 (.mv (.V 0)), oE 32 (.call k_spec_l1Once [([0], (.E 31)), ([0], (ki 4))])]) (.cond (.E 32) (.reg [oE 33 (.mv (.V 6)), oE 34 (.mv (.V 0)), oE 35 (.call k_spec_l15Cand [([0], (.E 34))]), oE 36 (.bslice 1 6 [iv 0, iv 0, iv 0, iv 0, iv 0, iv 0] [(0, (.E 35))]), oE 37 (.app 48 6 (.E 33) (.E 36)), oV 6 (.mv (.E 37))]) .skip)) (.seq (.seq (.reg [oE 38 (.mv (.V 6)), oE 39 (.len (.E 38)), oE 40 (.bin .gtr (.E 39) (ki 1)), oE 41 (.mv (.E 40)), ⟨(some (.E 42)), .mv (.V 0), some ((.E 41), true)⟩, ⟨(some (.E 43)), .call k_spec_l1Once [([0], (.E 42)), ([0], (ki 3))], some ((.E 41), true)⟩, oE 44 (.pick (.E 41) (.E 43) (kb false))]) (.cond (.E 44) (.regD [(oE 45 (.mv (.V 6)), 0, 0), (oE 46 (.slice 6 (.E 45) (some (ki 1)) none none), 0, 1), (oE 47 (.mv (.V 6)), 0, 0), (oE 48 (.iaddr 6 (.E 47) (ki 0)), 0, 0), (oE 49 (.load true 6 (.E 48)), 0, 0), (oE 50 (.bslice 1 6 [iv 0, iv 0, iv 0, iv 0, iv 0, iv 0] [(0, (.E 49))]), 0, 0), (oE 51 (.app 48 6 (.E 46) (.E 50)), 0, 0), (oV 6 (.mv (.E 51)), 0, 0)]) .skip)) (.seq (.reg [oE 52 (.mv (.V 6)), oV 2 (.mv (.E 52))]) .ret))))))))

def k_spec_l16Cands_rv : List RV := [.tmp [6] 2]

def k_spec_Better_vars : List Nat := [0, 1, 2, 3, 4, 8, 10, 7, 9, 12, 11, 6]

def k_spec_Better_ic : IC := .seq (.reg [oV 3 (.box (.V 0)), oV 4 (.box (.V 1)), oV 6 (.mv (kb false))]) (.seq (.reg [oE 14 (.load true 6 (.V 3)), oE 15 (.mv (.V 2)), oE 16 (.call k_spec_GainOf [([0, 0, 0, 0, 0, 0], (.E 14)), ([0], (.E 15))]), oE 13 (.mv (.E 16)), oE 17 (.ext 0 (.E 13)), oE 18 (.ext 1 (.E 13)), oV 7 (.alloc [(.v (.bool false)), (.v (.int .u64 0)), (.v (.int .u64 0)), iv 0]), oN (.store [0, 0, 0, 0] (.V 7) (.E 17)), oV 8 (.mv (.E 18))]) (.seq (.reg [oE 20 (.load true 6 (.V 4)), oE 21 (.mv (.V 2)), oE 22 (.call k_spec_GainOf [([0, 0, 0, 0, 0, 0], (.E 20)), ([0], (.E 21))]), oE 19 (.mv (.E 22)), oE 23 (.ext 0 (.E 19)), oE 24 (.ext 1 (.E 19)), oV 9 (.alloc [(.v (.bool false)), (.v (.int .u64 0)), (.v (.int .u64 0)), iv 0]), oN (.store [0, 0, 0, 0] (.V 9) (.E 23)), oV 10 (.mv (.E 24))]) (.seq (.seq (.reg [oE 25 (.mv (.V 8)), oE 26 (.un .not (.E 25)), oE 27 (.mv (.E 26)), ⟨(some (.E 28)), .mv (.V 10), some ((.E 27), false)⟩, ⟨(some (.E 29)), .un .not (.E 28), some ((.E 27), false)⟩, oE 30 (.pick (.E 27) (kb true) (.E 29))]) (.cond (.E 30) (.seq (.reg [oV 6 (.mv (kb false))]) .ret) .skip)) (.seq (.reg [oE 32 (.load true 4 (.V 7)), oE 33 (.load true 4 (.V 9)), oE 34 (.call k_spec_CompareFrac [([0, 0, 0, 0], (.E 32)), ([0, 0, 0, 0], (.E 33))]), oE 31 (.mv (.E 34)), oE 35 (.ext 0 (.E 31)), oE 36 (.ext 1 (.E 31)), oV 11 (.mv (.E 35)), oV 12 (.mv (.E 36))]) (.seq (.reg [oE 37 (.mv (.V 12)), oE 38 (.mv (.E 37)), ⟨(some (.E 39)), .mv (.V 11), some ((.E 38), true)⟩, ⟨(some (.E 40)), .bin .gtr (.E 39) (ki 0), some ((.E 38), true)⟩, ⟨(some (.E 41)), .mv (.E 40), some ((.E 38), true)⟩, ⟨(some (.E 42)), .mv (.V 11), some ((.E 41), false)⟩, ⟨(some (.E 43)), .bin .eql (.E 42) (ki 0), some ((.E 41), false)⟩, ⟨(some (.E 44)), .mv (.E 43), some ((.E 41), false)⟩, ⟨(some (.E 45)), .load true 6 (.V 3), some ((.E 44), true)⟩, ⟨(some (.E 46)), .load true 6 (.V 4), some ((.E 44), true)⟩, ⟨(some (.E 47)), .call k_spec_CandLess [([0, 0, 0, 0, 0, 0], (.E 45)), ([0, 0, 0, 0, 0, 0], (.E 46))], some ((.E 44), true)⟩, ⟨(some (.E 48)), .pick (.E 44) (.E 47) (kb false), some ((.E 41), false)⟩, ⟨(some (.E 49)), .pick (.E 41) (kb true) (.E 48), some ((.E 38), true)⟩, oE 50 (.pick (.E 38) (.E 49) (kb false)), oV 6 (.mv (.E 50))]) .ret)))))

def k_spec_Better_rv : List RV := [.tmp [0] 6]

def k_impl_SideValues_vars : List Nat := [0, 1, 2, 5, 3, 4, 10, 12, 9, 11, 6, 7, 8]

def k_impl_SideValues_ic : IC := .seq (.reg [oV 3 (.box (.V 0)), oV 4 (.box (.V 1)), oV 5 (.box (.V 2)), oV 6 (.mv (ki 0)), oV 7 (.mv (ki 0)), oV 8 (.mv (kb false))]) (.seq (.reg [oE 14 (.faddr 2 (.V 5)), oE 15 (.load true 2 (.E 14)), oE 16 (.faddr 3 (.V 3)), oE 17 (.load false 1 (.E 16)), oE 18 (.load true 2 (.V 4)), oE 19 (.call k_impl_LeafOf [([0, 0], (.E 15)), ([0], (.E 17)), ([0, 0], (.E 18))]), oE 13 (.mv (.E 19)), oE 20 (.ext 0 (.E 13)), oE 21 (.ext 1 (.E 13)), oV 9 (.mv (.E 20)), oV 10 (.mv (.E 21))]) (.seq (.reg [oE 23 (.faddr 4 (.V 5)), oE 24 (.load true 2 (.E 23)), oE 25 (.faddr 3 (.V 3)), oE 26 (.load false 1 (.E 25)), oE 27 (.load true 2 (.V 4)), oE 28 (.call k_impl_LeafOf [([0, 0], (.E 24)), ([0], (.E 26)), ([0, 0], (.E 27))]), oE 22 (.mv (.E 28)), oE 29 (.ext 0 (.E 22)), oE 30 (.ext 1 (.E 22)), oV 11 (.mv (.E 29)), oV 12 (.mv (.E 30))]) (.seq (.seq (.reg [oE 31 (.mv (.V 10)), oE 32 (.un .not (.E 31)), oE 33 (.mv (.E 32)), ⟨(some (.E 34)), .mv (.V 12), some ((.E 33), false)⟩, ⟨(some (.E 35)), .un .not (.E 34), some ((.E 33), false)⟩, oE 36 (.pick (.E 33) (kb true) (.E 35))]) (.cond (.E 36) (.seq (.reg [oV 6 (.mv (ki 0)), oV 7 (.mv (ki 0)), oV 8 (.mv (kb false))]) .ret) .skip)) (.seq (.reg [oE 37 (.mv (.V 9)), oE 38 (.mv (.V 11)), oV 6 (.mv (.E 37)), oV 7 (.mv (.E 38)), oV 8 (.mv (kb true))]) .ret))))

def k_impl_SideValues_rv : List RV := [.tmp [0] 6, .tmp [0] 7, .tmp [0] 8]

def k_impl_ConfigOk_vars : List Nat := [0, 1, 2]

def k_impl_ConfigOk_ic : IC := .seq (.reg [oV 1 (.box (.V 0)), oV 2 (.mv (kb false))]) (.seq (.reg [oE 3 (.faddr 0 (.V 1)), oE 4 (.load false 1 (.E 3)), oE 5 (.call k_impl_within [([0], (.E 4)), ([0], (ki 1)), ([0], (ki 8))]), oE 6 (.mv (.E 5)), ⟨(some (.E 7)), .faddr 1 (.V 1), some ((.E 6), true)⟩, ⟨(some (.E 8)), .load false 1 (.E 7), some ((.E 6), true)⟩, ⟨(some (.E 9)), .call k_impl_within [([0], (.E 8)), ([0], (ki 0)), ([0], (ki 4))], some ((.E 6), true)⟩, oE 10 (.pick (.E 6) (.E 9) (kb false)), oE 11 (.mv (.E 10)), ⟨(some (.E 12)), .faddr 2 (.V 1), some ((.E 11), true)⟩, ⟨(some (.E 13)), .load false 1 (.E 12), some ((.E 11), true)⟩, ⟨(some (.E 14)), .call k_impl_within [([0], (.E 13)), ([0], (ki 2)), ([0], (ki 8))], some ((.E 11), true)⟩, oE 15 (.pick (.E 11) (.E 14) (kb false)), oE 16 (.mv (.E 15)), ⟨(some (.E 17)), .faddr 3 (.V 1), some ((.E 16), true)⟩, ⟨(some (.E 18)), .load false 1 (.E 17), some ((.E 16), true)⟩, ⟨(some (.E 19)), .call k_impl_within [([0], (.E 18)), ([0], (ki 1)), ([0], (ki 100))], some ((.E 16), true)⟩, oE 20 (.pick (.E 16) (.E 19) (kb false)), oE 21 (.mv (.E 20)), ⟨(some (.E 22)), .faddr 4 (.V 1), some ((.E 21), true)⟩, ⟨(some (.E 23)), .load false 1 (.E 22), some ((.E 21), true)⟩, ⟨(some (.E 24)), .call k_impl_within [([0], (.E 23)), ([0], (ki 1)), ([0], (ki 20))], some ((.E 21), true)⟩, oE 25 (.pick (.E 21) (.E 24) (kb false)), oE 26 (.mv (.E 25)), ⟨(some (.E 27)), .faddr 6 (.V 1), some ((.E 26), true)⟩, ⟨(some (.E 28)), .load false 1 (.E 27), some ((.E 26), true)⟩, ⟨(some (.E 29)), .call k_impl_within [([0], (.E 28)), ([0], (ki 1)), ([0], (ki 1000))], some ((.E 26), true)⟩, oE 30 (.pick (.E 26) (.E 29) (kb false)), oE 31 (.mv (.E 30)), ⟨(some (.E 32)), .faddr 5 (.V 1), some ((.E 31), true)⟩, ⟨(some (.E 33)), .load false 1 (.E 32), some ((.E 31), true)⟩, ⟨(some (.E 34)), .faddr 6 (.V 1), some ((.E 31), true)⟩, ⟨(some (.E 35)), .load false 1 (.E 34), some ((.E 31), true)⟩, ⟨(some (.E 36)), .call k_impl_within [([0], (.E 33)), ([0], (ki 1)), ([0], (.E 35))], some ((.E 31), true)⟩, oE 37 (.pick (.E 31) (.E 36) (kb false)), oE 38 (.mv (.E 37)), ⟨(some (.E 39)), .faddr 7 (.V 1), some ((.E 38), true)⟩, ⟨(some (.E 40)), .load false 1 (.E 39), some ((.E 38), true)⟩, ⟨(some (.E 41)), .len (.E 40), some ((.E 38), true)⟩, ⟨(some (.E 42)), .bin .leq (.E 41) (ki 4), some ((.E 38), true)⟩, oE 43 (.pick (.E 38) (.E 42) (kb false)), oE 44 (.mv (.E 43)), ⟨(some (.E 45)), .faddr 7 (.V 1), some ((.E 44), true)⟩, ⟨(some (.E 46)), .load false 1 (.E 45), some ((.E 44), true)⟩, ⟨(some (.E 47)), .call k_slices_ContainsFunc___int_int_ [([1], (.E 46)), ([0], (.C (.fn k_impl_ConfigOk_1 [])))], some ((.E 44), true)⟩, ⟨(some (.E 48)), .un .not (.E 47), some ((.E 44), true)⟩, oE 49 (.pick (.E 44) (.E 48) (kb false)), oV 2 (.mv (.E 49))]) .ret)

def k_impl_ConfigOk_rv : List RV := [.tmp [0] 2]

def k_impl_Agrees_vars : List Nat := [0, 1, 2, 7, 6]

def k_impl_Agrees_ic : IC := .seq (.reg [oV 6 (.mv (kb false))]) (.seq (.seq (.reg [oV 7 (.mv (.V 0))]) (.block 0 (.seq (.reg [oE 9 (.bin .eql (.V 7) (ki 1)), oE 8 (.mv (.E 9))]) (.cond (.E 8) (.seq (.reg [oE 10 (.mv (.V 1)), oE 11 (.mv (.V 2)), oE 12 (.bin .leq (.E 10) (.E 11)), oV 6 (.mv (.E 12))]) .ret) (.seq (.reg [oE 14 (.bin .eql (.V 7) (ki (-1))), oE 13 (.mv (.E 14))]) (.cond (.E 13) (.seq (.reg [oE 15 (.mv (.V 1)), oE 16 (.mv (.V 2)), oE 17 (.bin .geq (.E 15) (.E 16)), oV 6 (.mv (.E 17))]) .ret) .skip)))))) (.seq (.reg [oV 6 (.mv (kb true))]) .ret))

def k_impl_Agrees_rv : List RV := [.tmp [0] 6]

def k_impl_SignFor_vars : List Nat := [0, 1, 2, 4]

def k_impl_SignFor_ic : IC := .seq (.reg [oV 2 (.box (.V 0)), oV 4 (.mv (ki 0))]) (.seq (.seq (.reg [oE 5 (.mv (.V 1)), oE 6 (.faddr 7 (.V 2)), oE 7 (.load false 1 (.E 6)), oE 8 (.len (.E 7)), oE 9 (.bin .sub (.E 8) (ki 1)), oE 10 (.call k_impl_within [([0], (.E 5)), ([0], (ki 0)), ([0], (.E 9))]), oE 11 (.un .not (.E 10))]) (.cond (.E 11) (.seq (.reg [oV 4 (.mv (ki 0))]) .ret) .skip)) (.seq (.reg [oE 12 (.faddr 7 (.V 2)), oE 13 (.load false 1 (.E 12)), oE 14 (.mv (.V 1)), oE 15 (.iaddr 1 (.E 13) (.E 14)), oE 16 (.load false 1 (.E 15)), oV 4 (.mv (.E 16))]) .ret))

def k_impl_SignFor_rv : List RV := [.tmp [0] 4]

def k_impl_Improves_vars : List Nat := [0, 1, 2, 7, 5, 9, 6, 8, 10, 12, 11, 4]

def k_impl_Improves_ic : IC := .seq (.reg [oV 2 (.box (.V 0)), oV 4 (.mv (kb false))]) (.seq (.reg [oE 14 (.load true 6 (.V 2)), oE 15 (.mv (.V 1)), oE 16 (.call k_impl_GainOf [([0, 0, 0, 0, 0, 0], (.E 14)), ([0], (.E 15))]), oE 13 (.mv (.E 16)), oE 17 (.ext 0 (.E 13)), oE 18 (.ext 1 (.E 13)), oV 5 (.alloc [(.v (.bool false)), (.v (.int .u64 0)), (.v (.int .u64 0)), iv 0]), oN (.store [0, 0, 0, 0] (.V 5) (.E 17)), oV 6 (.mv (.E 18))]) (.seq (.reg [oE 20 (.load true 6 (.V 2)), oE 21 (.call k_impl_BothOf [([0, 0, 0, 0, 0, 0], (.E 20))]), oE 19 (.mv (.E 21)), oE 22 (.ext 0 (.E 19)), oE 23 (.ext 1 (.E 19)), oV 7 (.alloc [iv 0, iv 0]), oN (.store [0, 0] (.V 7) (.E 22)), oV 8 (.mv (.E 23))]) (.seq (.reg [oE 25 (.load true 2 (.V 7)), oE 26 (.mv (.V 1)), oE 27 (.call k_impl_PlainGain [([0, 0], (.E 25)), ([0], (.E 26))]), oE 24 (.mv (.E 27)), oE 28 (.ext 0 (.E 24)), oE 29 (.ext 1 (.E 24)), oV 9 (.alloc [(.v (.bool false)), (.v (.int .u64 0)), (.v (.int .u64 0)), iv 0]), oN (.store [0, 0, 0, 0] (.V 9) (.E 28)), oV 10 (.mv (.E 29))]) (.seq (.reg [oE 31 (.load true 4 (.V 5)), oE 32 (.load true 4 (.V 9)), oE 33 (.call k_impl_CompareFrac [([0, 0, 0, 0], (.E 31)), ([0, 0, 0, 0], (.E 32))]), oE 30 (.mv (.E 33)), oE 34 (.ext 0 (.E 30)), oE 35 (.ext 1 (.E 30)), oV 11 (.mv (.E 34)), oV 12 (.mv (.E 35))]) (.seq (.reg [oE 36 (.mv (.V 6)), oE 37 (.mv (.E 36)), ⟨(some (.E 38)), .mv (.V 8), some ((.E 37), true)⟩, oE 39 (.pick (.E 37) (.E 38) (kb false)), oE 40 (.mv (.E 39)), ⟨(some (.E 41)), .mv (.V 10), some ((.E 40), true)⟩, oE 42 (.pick (.E 40) (.E 41) (kb false)), oE 43 (.mv (.E 42)), ⟨(some (.E 44)), .mv (.V 12), some ((.E 43), true)⟩, oE 45 (.pick (.E 43) (.E 44) (kb false)), oE 46 (.mv (.E 45)), ⟨(some (.E 47)), .mv (.V 11), some ((.E 46), true)⟩, ⟨(some (.E 48)), .bin .gtr (.E 47) (ki 0), some ((.E 46), true)⟩, oE 49 (.pick (.E 46) (.E 48) (kb false)), oV 4 (.mv (.E 49))]) .ret)))))

def k_impl_Improves_rv : List RV := [.tmp [0] 4]

def k_spec_SideValues_vars : List Nat := [0, 1, 2, 5, 3, 4, 10, 12, 9, 11, 6, 7, 8]

def k_spec_SideValues_ic : IC := .seq (.reg [oV 3 (.box (.V 0)), oV 4 (.box (.V 1)), oV 5 (.box (.V 2)), oV 6 (.mv (ki 0)), oV 7 (.mv (ki 0)), oV 8 (.mv (kb false))]) (.seq (.reg [oE 14 (.faddr 2 (.V 5)), oE 15 (.load true 2 (.E 14)), oE 16 (.faddr 3 (.V 3)), oE 17 (.load false 1 (.E 16)), oE 18 (.load true 2 (.V 4)), oE 19 (.call k_spec_LeafOf [([0, 0], (.E 15)), ([0], (.E 17)), ([0, 0], (.E 18))]), oE 13 (.mv (.E 19)), oE 20 (.ext 0 (.E 13)), oE 21 (.ext 1 (.E 13)), oV 9 (.mv (.E 20)), oV 10 (.mv (.E 21))]) (.seq (.reg [oE 23 (.faddr 4 (.V 5)), oE 24 (.load true 2 (.E 23)), oE 25 (.faddr 3 (.V 3)), oE 26 (.load false 1 (.E 25)), oE 27 (.load true 2 (.V 4)), oE 28 (.call k_spec_LeafOf [([0, 0], (.E 24)), ([0], (.E 26)), ([0, 0], (.E 27))]), oE 22 (.mv (.E 28)), oE 29 (.ext 0 (.E 22)), oE 30 (.ext 1 (.E 22)), oV 11 (.mv (.E 29)), oV 12 (.mv (.E 30))]) (.seq (.seq (.reg [oE 31 (.mv (.V 10)), oE 32 (.un .not (.E 31)), oE 33 (.mv (.E 32)), ⟨(some (.E 34)), .mv (.V 12), some ((.E 33), false)⟩, ⟨(some (.E 35)), .un .not (.E 34), some ((.E 33), false)⟩, oE 36 (.pick (.E 33) (kb true) (.E 35))]) (.cond (.E 36) (.seq (.reg [oV 6 (.mv (ki 0)), oV 7 (.mv (ki 0)), oV 8 (.mv (kb false))]) .ret) .skip)) (.seq (.reg [oE 37 (.mv (.V 9)), oE 38 (.mv (.V 11)), oV 6 (.mv (.E 37)), oV 7 (.mv (.E 38)), oV 8 (.mv (kb true))]) .ret))))

def k_spec_SideValues_rv : List RV := [.tmp [0] 6, .tmp [0] 7, .tmp [0] 8]

def k_spec_ConfigOk_vars : List Nat := [0, 1, 4, 3, 5, 2]

def k_spec_ConfigOk_b0 : IC := .seq (.seq (.reg [oE 8 (.mv (.V 4)), oE 9 (.bin .lss (.E 8) (ki 5))]) (.cond (.E 9) .skip (.exit 0))) (.seq (.block 1 (.seq (.regD [(oE 12 (.mv (.V 3)), 0, 0), (oE 13 (.mv (.V 4)), 0, 0), (oE 14 (.iaddr 1 (.E 12) (.E 13)), 0, 2), (oE 15 (.load false 1 (.E 14)), 0, 2), (oE 16 (.call k_spec_l8Least []), 0, 0), (oE 17 (.mv (.V 4)), 0, 0), (oE 18 (.iaddr 1 (.E 16) (.E 17)), 0, 1), (oE 19 (.load false 1 (.E 18)), 0, 1), (oE 20 (.call k_spec_l8Most []), 0, 0), (oE 21 (.mv (.V 4)), 0, 0), (oE 22 (.iaddr 1 (.E 20) (.E 21)), 0, 0), (oE 23 (.load false 1 (.E 22)), 0, 0), (oE 24 (.call k_spec_l1In [([0], (.E 15)), ([0], (.E 19)), ([0], (.E 23))]), 0, 0), (oE 25 (.un .not (.E 24)), 0, 0)]) (.cond (.E 25) (.seq (.reg [oV 2 (.mv (kb false))]) .ret) .skip))) (.reg [oE 10 (.mv (.V 4)), oE 11 (.bin .add (.E 10) (ki 1)), oV 4 (.mv (.E 11))]))

def k_spec_ConfigOk_b1 : IC := .seq (.seq (.reg [oE 26 (.mv (.V 5)), oE 27 (.faddr 7 (.V 1)), oE 28 (.load false 1 (.E 27)), oE 29 (.len (.E 28)), oE 30 (.bin .lss (.E 26) (.E 29))]) (.cond (.E 30) .skip (.exit 2))) (.seq (.block 3 (.seq (.reg [oE 33 (.faddr 7 (.V 1)), oE 34 (.load false 1 (.E 33)), oE 35 (.mv (.V 5)), oE 36 (.iaddr 1 (.E 34) (.E 35)), oE 37 (.load false 1 (.E 36)), oE 38 (.call k_spec_l1In [([0], (.E 37)), ([0], (ki (-1))), ([0], (ki 1))]), oE 39 (.un .not (.E 38))]) (.cond (.E 39) (.seq (.reg [oV 2 (.mv (kb false))]) .ret) .skip))) (.reg [oE 31 (.mv (.V 5)), oE 32 (.bin .add (.E 31) (ki 1)), oV 5 (.mv (.E 32))]))

def k_spec_ConfigOk_ic : IC := .seq (.reg [oV 1 (.box (.V 0)), oV 2 (.mv (kb false))]) (.seq (.reg [oE 6 (.load true 8 (.V 1)), oE 7 (.call k_spec_l8Numbers [([0, 0, 0, 0, 0, 0, 0, 1], (.E 6))]), oV 3 (.mv (.E 7))]) (.seq (.seq (.reg [oV 4 (.mv (ki 0))]) (.block 0 (.loop k_spec_ConfigOk_b0))) (.seq (.seq (.reg [oV 5 (.mv (ki 0))]) (.block 2 (.loop k_spec_ConfigOk_b1))) (.seq (.reg [oE 40 (.faddr 6 (.V 1)), oE 41 (.load false 1 (.E 40)), oE 42 (.call k_spec_l1In [([0], (.E 41)), ([0], (ki 1)), ([0], (ki 1000))]), oE 43 (.mv (.E 42)), ⟨(some (.E 44)), .faddr 5 (.V 1), some ((.E 43), true)⟩, ⟨(some (.E 45)), .load false 1 (.E 44), some ((.E 43), true)⟩, ⟨(some (.E 46)), .faddr 6 (.V 1), some ((.E 43), true)⟩, ⟨(some (.E 47)), .load false 1 (.E 46), some ((.E 43), true)⟩, ⟨(some (.E 48)), .call k_spec_l1In [([0], (.E 45)), ([0], (ki 1)), ([0], (.E 47))], some ((.E 43), true)⟩, oE 49 (.pick (.E 43) (.E 48) (kb false)), oE 50 (.mv (.E 49)), ⟨(some (.E 51)), .faddr 7 (.V 1), some ((.E 50), true)⟩, ⟨(some (.E 52)), .load false 1 (.E 51), some ((.E 50), true)⟩, ⟨(some (.E 53)), .len (.E 52), some ((.E 50), true)⟩, ⟨(some (.E 54)), .bin .leq (.E 53) (ki 4), some ((.E 50), true)⟩, oE 55 (.pick (.E 50) (.E 54) (kb false)), oV 2 (.mv (.E 55))]) .ret))))

def k_spec_ConfigOk_rv : List RV := [.tmp [0] 2]

def k_spec_Agrees_vars : List Nat := [0, 1, 2, 6]

def k_spec_Agrees_ic : IC := .seq (.reg [oV 6 (.mv (kb false))]) (.seq (.reg [oE 7 (.mv (.V 0)), oE 8 (.bin .neq (.E 7) (ki 1)), oE 9 (.mv (.E 8)), ⟨(some (.E 10)), .mv (.V 0), some ((.E 9), true)⟩, ⟨(some (.E 11)), .bin .neq (.E 10) (ki (-1)), some ((.E 9), true)⟩, oE 12 (.pick (.E 9) (.E 11) (kb false)), oE 13 (.mv (.E 12)), ⟨(some (.E 14)), .mv (.V 0), some ((.E 13), false)⟩, ⟨(some (.E 15)), .bin .eql (.E 14) (ki 1), some ((.E 13), false)⟩, ⟨(some (.E 16)), .mv (.E 15), some ((.E 13), false)⟩, ⟨(some (.E 17)), .mv (.V 1), some ((.E 16), true)⟩, ⟨(some (.E 18)), .mv (.V 2), some ((.E 16), true)⟩, ⟨(some (.E 19)), .bin .leq (.E 17) (.E 18), some ((.E 16), true)⟩, ⟨(some (.E 20)), .pick (.E 16) (.E 19) (kb false), some ((.E 13), false)⟩, oE 21 (.pick (.E 13) (kb true) (.E 20)), oE 22 (.mv (.E 21)), ⟨(some (.E 23)), .mv (.V 0), some ((.E 22), false)⟩, ⟨(some (.E 24)), .bin .eql (.E 23) (ki (-1)), some ((.E 22), false)⟩, ⟨(some (.E 25)), .mv (.E 24), some ((.E 22), false)⟩, ⟨(some (.E 26)), .mv (.V 1), some ((.E 25), true)⟩, ⟨(some (.E 27)), .mv (.V 2), some ((.E 25), true)⟩, ⟨(some (.E 28)), .bin .geq (.E 26) (.E 27), some ((.E 25), true)⟩, ⟨(some (.E 29)), .pick (.E 25) (.E 28) (kb false), some ((.E 22), false)⟩, oE 30 (.pick (.E 22) (kb true) (.E 29)), oV 6 (.mv (.E 30))]) .ret)

def k_spec_Agrees_rv : List RV := [.tmp [0] 6]

def k_spec_SignFor_vars : List Nat := [0, 1, 2, 4]

def k_spec_SignFor_ic : IC := .seq (.reg [oV 2 (.box (.V 0)), oV 4 (.mv (ki 0))]) (.seq (.seq (.reg [oE 5 (.mv (.V 1)), oE 6 (.faddr 7 (.V 2)), oE 7 (.load false 1 (.E 6)), oE 8 (.len (.E 7)), oE 9 (.bin .sub (.E 8) (ki 1)), oE 10 (.call k_spec_l1In [([0], (.E 5)), ([0], (ki 0)), ([0], (.E 9))]), oE 11 (.un .not (.E 10))]) (.cond (.E 11) (.seq (.reg [oV 4 (.mv (ki 0))]) .ret) .skip)) (.seq (.reg [oE 12 (.faddr 7 (.V 2)), oE 13 (.load false 1 (.E 12)), oE 14 (.mv (.V 1)), oE 15 (.iaddr 1 (.E 13) (.E 14)), oE 16 (.load false 1 (.E 15)), oV 4 (.mv (.E 16))]) .ret))

def k_spec_SignFor_rv : List RV := [.tmp [0] 4]

def k_spec_Improves_vars : List Nat := [0, 1, 2, 5, 6, 8, 10, 7, 9, 12, 11, 4]

def k_spec_Improves_ic : IC := .seq (.reg [oV 2 (.box (.V 0)), oV 4 (.mv (kb false))]) (.seq (.reg [oE 14 (.load true 6 (.V 2)), oE 15 (.call k_spec_BothOf [([0, 0, 0, 0, 0, 0], (.E 14))]), oE 13 (.mv (.E 15)), oE 16 (.ext 0 (.E 13)), oE 17 (.ext 1 (.E 13)), oV 5 (.alloc [iv 0, iv 0]), oN (.store [0, 0] (.V 5) (.E 16)), oV 6 (.mv (.E 17))]) (.seq (.reg [oE 19 (.load true 6 (.V 2)), oE 20 (.mv (.V 1)), oE 21 (.call k_spec_GainOf [([0, 0, 0, 0, 0, 0], (.E 19)), ([0], (.E 20))]), oE 18 (.mv (.E 21)), oE 22 (.ext 0 (.E 18)), oE 23 (.ext 1 (.E 18)), oV 7 (.alloc [(.v (.bool false)), (.v (.int .u64 0)), (.v (.int .u64 0)), iv 0]), oN (.store [0, 0, 0, 0] (.V 7) (.E 22)), oV 8 (.mv (.E 23))]) (.seq (.reg [oE 25 (.load true 2 (.V 5)), oE 26 (.mv (.V 1)), oE 27 (.call k_spec_PlainGain [([0, 0], (.E 25)), ([0], (.E 26))]), oE 24 (.mv (.E 27)), oE 28 (.ext 0 (.E 24)), oE 29 (.ext 1 (.E 24)), oV 9 (.alloc [(.v (.bool false)), (.v (.int .u64 0)), (.v (.int .u64 0)), iv 0]), oN (.store [0, 0, 0, 0] (.V 9) (.E 28)), oV 10 (.mv (.E 29))]) (.seq (.seq (.reg [oE 30 (.mv (.V 6)), oE 31 (.un .not (.E 30)), oE 32 (.mv (.E 31)), ⟨(some (.E 33)), .mv (.V 8), some ((.E 32), false)⟩, ⟨(some (.E 34)), .un .not (.E 33), some ((.E 32), false)⟩, oE 35 (.pick (.E 32) (kb true) (.E 34)), oE 36 (.mv (.E 35)), ⟨(some (.E 37)), .mv (.V 10), some ((.E 36), false)⟩, ⟨(some (.E 38)), .un .not (.E 37), some ((.E 36), false)⟩, oE 39 (.pick (.E 36) (kb true) (.E 38))]) (.cond (.E 39) (.seq (.reg [oV 4 (.mv (kb false))]) .ret) .skip)) (.seq (.reg [oE 41 (.load true 4 (.V 7)), oE 42 (.load true 4 (.V 9)), oE 43 (.call k_spec_CompareFrac [([0, 0, 0, 0], (.E 41)), ([0, 0, 0, 0], (.E 42))]), oE 40 (.mv (.E 43)), oE 44 (.ext 0 (.E 40)), oE 45 (.ext 1 (.E 40)), oV 11 (.mv (.E 44)), oV 12 (.mv (.E 45))]) (.seq (.reg [oE 46 (.mv (.V 12)), oE 47 (.mv (.E 46)), ⟨(some (.E 48)), .mv (.V 11), some ((.E 47), true)⟩, ⟨(some (.E 49)), .bin .gtr (.E 48) (ki 0), some ((.E 47), true)⟩, oE 50 (.pick (.E 47) (.E 49) (kb false)), oV 4 (.mv (.E 50))]) .ret))))))

def k_spec_Improves_rv : List RV := [.tmp [0] 4]

def k_impl_GainOf_vars : List Nat := [0, 1, 2, 7, 9, 4, 6, 8, 5]

def k_impl_GainOf_ic : IC := .seq (.reg [oV 2 (.box (.V 0)), oV 4 (.alloc [(.v (.bool false)), (.v (.int .u64 0)), (.v (.int .u64 0)), iv 0]), oV 5 (.mv (kb false))]) (.seq (.reg [oE 11 (.faddr 2 (.V 2)), oE 12 (.load true 2 (.E 11)), oE 13 (.mv (.V 1)), oE 14 (.call k_impl_PlainGain [([0, 0], (.E 12)), ([0], (.E 13))]), oE 10 (.mv (.E 14)), oE 15 (.ext 0 (.E 10)), oE 16 (.ext 1 (.E 10)), oV 6 (.alloc [(.v (.bool false)), (.v (.int .u64 0)), (.v (.int .u64 0)), iv 0]), oN (.store [0, 0, 0, 0] (.V 6) (.E 15)), oV 7 (.mv (.E 16))]) (.seq (.reg [oE 18 (.faddr 4 (.V 2)), oE 19 (.load true 2 (.E 18)), oE 20 (.mv (.V 1)), oE 21 (.call k_impl_PlainGain [([0, 0], (.E 19)), ([0], (.E 20))]), oE 17 (.mv (.E 21)), oE 22 (.ext 0 (.E 17)), oE 23 (.ext 1 (.E 17)), oV 8 (.alloc [(.v (.bool false)), (.v (.int .u64 0)), (.v (.int .u64 0)), iv 0]), oN (.store [0, 0, 0, 0] (.V 8) (.E 22)), oV 9 (.mv (.E 23))]) (.seq (.seq (.reg [oE 24 (.mv (.V 7)), oE 25 (.un .not (.E 24)), oE 26 (.mv (.E 25)), ⟨(some (.E 27)), .mv (.V 9), some ((.E 26), false)⟩, ⟨(some (.E 28)), .un .not (.E 27), some ((.E 26), false)⟩, oE 29 (.pick (.E 26) (kb true) (.E 28))]) (.cond (.E 29) (.seq (.reg [oE 30 (.build [(.v (.bool false)), (.v (.int .u64 0)), (.v (.int .u64 0)), iv 0] []), oN (.store [0, 0, 0, 0] (.V 4) (.E 30)), oV 5 (.mv (kb false))]) .ret) .skip)) (.seq (.reg [oE 31 (.load true 4 (.V 6)), oE 32 (.load true 4 (.V 8)), oE 33 (.call k_impl_AddFrac [([0, 0, 0, 0], (.E 31)), ([0, 0, 0, 0], (.E 32))]), oE 34 (.ext 0 (.E 33)), oE 35 (.ext 1 (.E 33)), oN (.store [0, 0, 0, 0] (.V 4) (.E 34)), oV 5 (.mv (.E 35))]) .ret))))

def k_impl_GainOf_rv : List RV := [.cell [0, 0, 0, 0] 4 true, .tmp [0] 5]

def k_impl_CompareFrac_vars : List Nat := [0, 1, 2, 3, 8, 6, 7, 4, 5]

def k_impl_CompareFrac_ic : IC := .seq (.reg [oV 2 (.box (.V 0)), oV 3 (.box (.V 1)), oV 4 (.mv (ki 0)), oV 5 (.mv (kb false))]) (.seq (.reg [oE 10 (.load true 4 (.V 2)), oE 11 (.load true 4 (.V 3)), oE 12 (.call k_impl_crossed [([0, 0, 0, 0], (.E 10)), ([0, 0, 0, 0], (.E 11))]), oE 9 (.mv (.E 12)), oE 13 (.ext 0 (.E 9)), oE 14 (.ext 1 (.E 9)), oE 15 (.ext 2 (.E 9)), oV 6 (.alloc [(.v (.bool false)), (.v (.int .u64 0)), (.v (.int .u64 0))]), oV 7 (.alloc [(.v (.bool false)), (.v (.int .u64 0)), (.v (.int .u64 0))]), oN (.store [0, 0, 0] (.V 6) (.E 13)), oN (.store [0, 0, 0] (.V 7) (.E 14)), oV 8 (.mv (.E 15))]) (.seq (.seq (.reg [oE 16 (.mv (.V 8)), oE 17 (.un .not (.E 16))]) (.cond (.E 17) (.seq (.reg [oV 4 (.mv (ki 0)), oV 5 (.mv (kb false))]) .ret) .skip)) (.seq (.reg [oE 18 (.load true 3 (.V 6)), oE 19 (.load true 3 (.V 7)), oE 20 (.call k_impl_CompareWide [([0, 0, 0], (.E 18)), ([0, 0, 0], (.E 19))]), oV 4 (.mv (.E 20)), oV 5 (.mv (kb true))]) .ret)))

def k_impl_CompareFrac_rv : List RV := [.tmp [0] 4, .tmp [0] 5]

def k_impl_CandLess_vars : List Nat := [0, 1, 2, 3, 4]

def k_impl_CandLess_ic : IC := .seq (.reg [oV 2 (.box (.V 0)), oV 3 (.box (.V 1)), oV 4 (.mv (kb false))]) (.seq (.regD [(oE 5 (.faddr 0 (.V 2)), 0, 0), (oE 6 (.load false 1 (.E 5)), 0, 0), (oE 7 (.faddr 0 (.V 3)), 0, 0), (oE 8 (.load false 1 (.E 7)), 0, 0), (oE 9 (.call k_cmp_Compare_int_ [([0], (.E 6)), ([0], (.E 8))]), 0, 0), (oE 10 (.faddr 1 (.V 2)), 1, 0), (oE 11 (.load false 1 (.E 10)), 1, 0), (oE 12 (.faddr 1 (.V 3)), 1, 0), (oE 13 (.load false 1 (.E 12)), 1, 0), (oE 14 (.call k_cmp_Compare_int_ [([0], (.E 11)), ([0], (.E 13))]), 0, 0), (oE 15 (.bslice 2 1 [iv 0] [(0, (.E 9)), (1, (.E 14))]), 0, 0), (oE 16 (.call k_cmp_Or_int_ [([1], (.E 15))]), 0, 0), (oE 17 (.bin .lss (.E 16) (ki 0)), 0, 0), (oV 4 (.mv (.E 17)), 0, 0)]) .ret)

def k_impl_CandLess_rv : List RV := [.tmp [0] 4]

def k_spec_PlainGain_vars : List Nat := [0, 1, 2, 4, 5]

def k_spec_PlainGain_ic : IC := .seq (.reg [oV 2 (.box (.V 0)), oV 4 (.alloc [(.v (.bool false)), (.v (.int .u64 0)), (.v (.int .u64 0)), iv 0]), oV 5 (.mv (kb false))]) (.seq (.seq (.reg [oE 6 (.faddr 0 (.V 2)), oE 7 (.load false 1 (.E 6)), oE 8 (.call k_spec_l1In [([0], (.E 7)), ([0], (ki 0)), ([0], (ki 40))]), oE 9 (.un .not (.E 8)), oE 10 (.mv (.E 9)), ⟨(some (.E 11)), .mv (.V 1), some ((.E 10), false)⟩, ⟨(some (.E 12)), .call k_spec_l1In [([0], (.E 11)), ([0], (ki 1)), ([0], (ki 100))], some ((.E 10), false)⟩, ⟨(some (.E 13)), .un .not (.E 12), some ((.E 10), false)⟩, oE 14 (.pick (.E 10) (kb true) (.E 13))]) (.cond (.E 14) (.seq (.reg [oE 15 (.build [(.v (.bool false)), (.v (.int .u64 0)), (.v (.int .u64 0)), iv 0] []), oN (.store [0, 0, 0, 0] (.V 4) (.E 15)), oV 5 (.mv (kb false))]) .ret) .skip)) (.seq (.reg [oE 16 (.faddr 1 (.V 2)), oE 17 (.load false 1 (.E 16)), oE 18 (.faddr 0 (.V 2)), oE 19 (.load false 1 (.E 18)), oE 20 (.mv (.V 1)), oE 21 (.bin .add (.E 19) (.E 20)), oE 22 (.call k_spec_SquareOver [([0], (.E 17)), ([0], (.E 21))]), oE 23 (.ext 0 (.E 22)), oE 24 (.ext 1 (.E 22)), oN (.store [0, 0, 0, 0] (.V 4) (.E 23)), oV 5 (.mv (.E 24))]) .ret))

def k_spec_PlainGain_rv : List RV := [.cell [0, 0, 0, 0] 4 true, .tmp [0] 5]

def k_spec_AddFrac_vars : List Nat := [0, 1, 2, 3, 8, 4, 6, 7, 9, 10, 11, 5]

def k_spec_AddFrac_ic : IC := .seq (.reg [oV 2 (.box (.V 0)), oV 3 (.box (.V 1)), oV 4 (.alloc [(.v (.bool false)), (.v (.int .u64 0)), (.v (.int .u64 0)), iv 0]), oV 5 (.mv (kb false))]) (.seq (.reg [oE 13 (.load true 4 (.V 2)), oE 14 (.load true 4 (.V 3)), oE 15 (.call k_spec_l5Cross [([0, 0, 0, 0], (.E 13)), ([0, 0, 0, 0], (.E 14))]), oE 12 (.mv (.E 15)), oE 16 (.ext 0 (.E 12)), oE 17 (.ext 1 (.E 12)), oE 18 (.ext 2 (.E 12)), oV 6 (.alloc [(.v (.bool false)), (.v (.int .u64 0)), (.v (.int .u64 0))]), oV 7 (.alloc [(.v (.bool false)), (.v (.int .u64 0)), (.v (.int .u64 0))]), oN (.store [0, 0, 0] (.V 6) (.E 16)), oN (.store [0, 0, 0] (.V 7) (.E 17)), oV 8 (.mv (.E 18))]) (.seq (.seq (.reg [oE 19 (.mv (.V 8)), oE 20 (.un .not (.E 19))]) (.cond (.E 20) (.seq (.reg [oE 21 (.build [(.v (.bool false)), (.v (.int .u64 0)), (.v (.int .u64 0)), iv 0] []), oN (.store [0, 0, 0, 0] (.V 4) (.E 21)), oV 5 (.mv (kb false))]) .ret) .skip)) (.seq (.reg [oE 23 (.load true 3 (.V 6)), oE 24 (.load true 3 (.V 7)), oE 25 (.call k_spec_AddWide [([0, 0, 0], (.E 23)), ([0, 0, 0], (.E 24))]), oE 22 (.mv (.E 25)), oE 26 (.ext 0 (.E 22)), oE 27 (.ext 1 (.E 22)), oV 9 (.alloc [(.v (.bool false)), (.v (.int .u64 0)), (.v (.int .u64 0))]), oN (.store [0, 0, 0] (.V 9) (.E 26)), oV 10 (.mv (.E 27))]) (.seq (.reg [oE 28 (.load true 3 (.V 9)), oE 29 (.faddr 3 (.V 2)), oE 30 (.load false 1 (.E 29)), oE 31 (.faddr 3 (.V 3)), oE 32 (.load false 1 (.E 31)), oE 33 (.bin .mul (.E 30) (.E 32)), oE 34 (.build [(.v (.bool false)), (.v (.int .u64 0)), (.v (.int .u64 0)), iv 0] [(0, 3, (.E 28)), (3, 1, (.E 33))]), oV 11 (.alloc [(.v (.bool false)), (.v (.int .u64 0)), (.v (.int .u64 0)), iv 0]), oN (.store [0, 0, 0, 0] (.V 11) (.E 34))]) (.seq (.seq (.reg [oE 35 (.mv (.V 10)), oE 36 (.un .not (.E 35)), oE 37 (.mv (.E 36)), ⟨(some (.E 38)), .load true 4 (.V 11), some ((.E 37), false)⟩, ⟨(some (.E 39)), .call k_spec_FracOk [([0, 0, 0, 0], (.E 38))], some ((.E 37), false)⟩, ⟨(some (.E 40)), .un .not (.E 39), some ((.E 37), false)⟩, oE 41 (.pick (.E 37) (kb true) (.E 40))]) (.cond (.E 41) (.seq (.reg [oE 42 (.build [(.v (.bool false)), (.v (.int .u64 0)), (.v (.int .u64 0)), iv 0] []), oN (.store [0, 0, 0, 0] (.V 4) (.E 42)), oV 5 (.mv (kb false))]) .ret) .skip)) (.seq (.reg [oE 43 (.load true 4 (.V 11)), oN (.store [0, 0, 0, 0] (.V 4) (.E 43)), oV 5 (.mv (kb true))]) .ret))))))

def k_spec_AddFrac_rv : List RV := [.cell [0, 0, 0, 0] 4 true, .tmp [0] 5]

def k_spec_l5Cross_vars : List Nat := [0, 1, 2, 3, 4, 5, 7, 9, 8, 10, 6]

def k_spec_l5Cross_ic : IC := .seq (.reg [oV 2 (.box (.V 0)), oV 3 (.box (.V 1)), oV 4 (.alloc [(.v (.bool false)), (.v (.int .u64 0)), (.v (.int .u64 0))]), oV 5 (.alloc [(.v (.bool false)), (.v (.int .u64 0)), (.v (.int .u64 0))]), oV 6 (.mv (kb false))]) (.seq (.seq (.reg [oE 11 (.load true 4 (.V 2)), oE 12 (.call k_spec_FracOk [([0, 0, 0, 0], (.E 11))]), oE 13 (.un .not (.E 12)), oE 14 (.mv (.E 13)), ⟨(some (.E 15)), .load true 4 (.V 3), some ((.E 14), false)⟩, ⟨(some (.E 16)), .call k_spec_FracOk [([0, 0, 0, 0], (.E 15))], some ((.E 14), false)⟩, ⟨(some (.E 17)), .un .not (.E 16), some ((.E 14), false)⟩, oE 18 (.pick (.E 14) (kb true) (.E 17))]) (.cond (.E 18) (.seq (.reg [oE 19 (.build [(.v (.bool false)), (.v (.int .u64 0)), (.v (.int .u64 0))] []), oE 20 (.build [(.v (.bool false)), (.v (.int .u64 0)), (.v (.int .u64 0))] []), oN (.store [0, 0, 0] (.V 4) (.E 19)), oN (.store [0, 0, 0] (.V 5) (.E 20)), oV 6 (.mv (kb false))]) .ret) .skip)) (.seq (.reg [oE 22 (.faddr 0 (.V 2)), oE 23 (.load true 3 (.E 22)), oE 24 (.faddr 3 (.V 3)), oE 25 (.load false 1 (.E 24)), oE 26 (.call k_spec_ScaleWide [([0, 0, 0], (.E 23)), ([0], (.E 25))]), oE 21 (.mv (.E 26)), oE 27 (.ext 0 (.E 21)), oE 28 (.ext 1 (.E 21)), oV 7 (.alloc [(.v (.bool false)), (.v (.int .u64 0)), (.v (.int .u64 0))]), oN (.store [0, 0, 0] (.V 7) (.E 27)), oV 8 (.mv (.E 28))]) (.seq (.reg [oE 30 (.faddr 0 (.V 3)), oE 31 (.load true 3 (.E 30)), oE 32 (.faddr 3 (.V 2)), oE 33 (.load false 1 (.E 32)), oE 34 (.call k_spec_ScaleWide [([0, 0, 0], (.E 31)), ([0], (.E 33))]), oE 29 (.mv (.E 34)), oE 35 (.ext 0 (.E 29)), oE 36 (.ext 1 (.E 29)), oV 9 (.alloc [(.v (.bool false)), (.v (.int .u64 0)), (.v (.int .u64 0))]), oN (.store [0, 0, 0] (.V 9) (.E 35)), oV 10 (.mv (.E 36))]) (.seq (.regD [(oE 37 (.load true 3 (.V 7)), 0, 0), (oE 38 (.load true 3 (.V 9)), 0, 1), (oE 39 (.mv (.V 8)), 0, 0), (oE 40 (.mv (.E 39)), 0, 0), (⟨(some (.E 41)), .mv (.V 10), some ((.E 40), true)⟩, 0, 0), (oE 42 (.pick (.E 40) (.E 41) (kb false)), 0, 0), (oN (.store [0, 0, 0] (.V 4) (.E 37)), 0, 0), (oN (.store [0, 0, 0] (.V 5) (.E 38)), 0, 0), (oV 6 (.mv (.E 42)), 0, 0)]) .ret))))

def k_spec_l5Cross_rv : List RV := [.cell [0, 0, 0] 4 true, .cell [0, 0, 0] 5 true, .tmp [0] 6]

def k_spec_CompareWide_vars : List Nat := [0, 1, 2, 3, 5, 6, 4]

def k_spec_CompareWide_ic : IC := .seq (.reg [oV 2 (.box (.V 0)), oV 3 (.box (.V 1)), oV 4 (.mv (ki 0))]) (.seq (.reg [oE 7 (.faddr 0 (.V 2)), oE 8 (.load false 1 (.E 7)), oE 9 (.mv (.E 8)), ⟨(some (.E 10)), .load true 3 (.V 2), some ((.E 9), true)⟩, ⟨(some (.E 11)), .call k_spec_l3Zero [([0, 0, 0], (.E 10))], some ((.E 9), true)⟩, ⟨(some (.E 12)), .un .not (.E 11), some ((.E 9), true)⟩, oE 13 (.pick (.E 9) (.E 12) (kb false)), oV 5 (.mv (.E 13))]) (.seq (.reg [oE 14 (.faddr 0 (.V 3)), oE 15 (.load false 1 (.E 14)), oE 16 (.mv (.E 15)), ⟨(some (.E 17)), .load true 3 (.V 3), some ((.E 16), true)⟩, ⟨(some (.E 18)), .call k_spec_l3Zero [([0, 0, 0], (.E 17))], some ((.E 16), true)⟩, ⟨(some (.E 19)), .un .not (.E 18), some ((.E 16), true)⟩, oE 20 (.pick (.E 16) (.E 19) (kb false)), oV 6 (.mv (.E 20))]) (.seq (.block 0 (.seq (.reg [oE 22 (.mv (.V 5)), oE 23 (.mv (.E 22)), ⟨(some (.E 24)), .mv (.V 6), some ((.E 23), true)⟩, ⟨(some (.E 25)), .un .not (.E 24), some ((.E 23), true)⟩, oE 26 (.pick (.E 23) (.E 25) (kb false)), oE 21 (.mv (.E 26))]) (.cond (.E 21) (.seq (.reg [oV 4 (.mv (ki (-1)))]) .ret) (.seq (.reg [oE 28 (.mv (.V 6)), oE 29 (.mv (.E 28)), ⟨(some (.E 30)), .mv (.V 5), some ((.E 29), true)⟩, ⟨(some (.E 31)), .un .not (.E 30), some ((.E 29), true)⟩, oE 32 (.pick (.E 29) (.E 31) (kb false)), oE 27 (.mv (.E 32))]) (.cond (.E 27) (.seq (.reg [oV 4 (.mv (ki 1))]) .ret) (.seq (.reg [oE 34 (.mv (.V 5)), oE 33 (.mv (.E 34))]) (.cond (.E 33) (.seq (.reg [oE 35 (.load true 3 (.V 3)), oE 36 (.load true 3 (.V 2)), oE 37 (.call k_spec_l3Order [([0, 0, 0], (.E 35)), ([0, 0, 0], (.E 36))]), oV 4 (.mv (.E 37))]) .ret) .skip))))))) (.seq (.reg [oE 38 (.load true 3 (.V 2)), oE 39 (.load true 3 (.V 3)), oE 40 (.call k_spec_l3Order [([0, 0, 0], (.E 38)), ([0, 0, 0], (.E 39))]), oV 4 (.mv (.E 40))]) .ret))))

def k_spec_CompareWide_rv : List RV := [.tmp [0] 4]

def k_spec_Free_vars : List Nat := [0]

def k_spec_Free_ic : IC := .seq (.reg [oV 0 (.alloc [iv 0, iv 0])]) (.seq (.reg [oE 1 (.build [iv 0, iv 0] [(0, 1, (ki (-1099511627776))), (1, 1, (ki 1099511627776))]), oN (.store [0, 0] (.V 0) (.E 1))]) .ret)

def k_spec_Free_rv : List RV := [.cell [0, 0] 0 true]

def k_spec_CandsOf_vars : List Nat := [0, 1, 6, 8, 9, 7, 10, 12, 14, 11, 5, 13, 4]

def k_spec_CandsOf_b0 : IC := .seq (.seq (.reg [oE 33 (.mv (.V 9)), oE 34 (.bin .add (.E 33) (ki 1)), oE 35 (.mv (.V 7)), oE 36 (.len (.E 35)), oE 37 (.bin .lss (.E 34) (.E 36))]) (.cond (.E 37) .skip (.exit 2))) (.seq (.block 3 (.seq (.reg [oE 40 (.mv (.V 7)), oE 41 (.mv (.V 7)), oE 42 (.len (.E 41)), oE 43 (.bin .sub (.E 42) (ki 1)), oE 44 (.iaddr 2 (.E 40) (.E 43)), oE 45 (.load true 2 (.E 44)), oV 10 (.alloc [iv 0, iv 0]), oN (.store [0, 0] (.V 10) (.E 45))]) (.seq (.regD [(oE 47 (.faddr 0 (.V 10)), 0, 0), (oE 48 (.load false 1 (.E 47)), 0, 0), (oE 49 (.mv (.V 7)), 0, 0), (oE 50 (.mv (.V 9)), 0, 0), (oE 51 (.iaddr 2 (.E 49) (.E 50)), 0, 0), (oE 52 (.faddr 0 (.E 51)), 0, 0), (oE 53 (.load false 1 (.E 52)), 0, 0), (oE 54 (.call k_spec_SubInt [([0], (.E 48)), ([0], (.E 53))]), 0, 0), (oE 46 (.mv (.E 54)), 0, 0), (oE 55 (.ext 0 (.E 46)), 0, 0), (oE 56 (.ext 1 (.E 46)), 0, 0), (oV 11 (.mv (.E 55)), 0, 0), (oV 12 (.mv (.E 56)), 0, 0)]) (.seq (.regD [(oE 58 (.faddr 1 (.V 10)), 0, 0), (oE 59 (.load false 1 (.E 58)), 0, 0), (oE 60 (.mv (.V 7)), 0, 0), (oE 61 (.mv (.V 9)), 0, 0), (oE 62 (.iaddr 2 (.E 60) (.E 61)), 0, 0), (oE 63 (.faddr 1 (.E 62)), 0, 0), (oE 64 (.load false 1 (.E 63)), 0, 0), (oE 65 (.call k_spec_SubInt [([0], (.E 59)), ([0], (.E 64))]), 0, 0), (oE 57 (.mv (.E 65)), 0, 0), (oE 66 (.ext 0 (.E 57)), 0, 0), (oE 67 (.ext 1 (.E 57)), 0, 0), (oV 13 (.mv (.E 66)), 0, 0), (oV 14 (.mv (.E 67)), 0, 0)]) (.seq (.seq (.reg [oE 68 (.mv (.V 12)), oE 69 (.un .not (.E 68)), oE 70 (.mv (.E 69)), ⟨(some (.E 71)), .mv (.V 14), some ((.E 70), false)⟩, ⟨(some (.E 72)), .un .not (.E 71), some ((.E 70), false)⟩, oE 73 (.pick (.E 70) (kb true) (.E 72))]) (.cond (.E 73) (.seq (.reg [oE 74 (.bslice 0 6 [iv 0, iv 0, iv 0, iv 0, iv 0, iv 0] []), oV 4 (.mv (.E 74))]) .ret) .skip)) (.seq (.reg [oE 75 (.mv (.V 7)), oE 76 (.mv (.V 9)), oE 77 (.iaddr 2 (.E 75) (.E 76)), oE 78 (.faddr 0 (.E 77)), oE 79 (.load false 1 (.E 78)), oE 80 (.mv (.V 1)), oE 81 (.bin .geq (.E 79) (.E 80)), oE 82 (.mv (.E 81)), ⟨(some (.E 83)), .mv (.V 11), some ((.E 82), true)⟩, ⟨(some (.E 84)), .mv (.V 1), some ((.E 82), true)⟩, ⟨(some (.E 85)), .bin .geq (.E 83) (.E 84), some ((.E 82), true)⟩, oE 86 (.pick (.E 82) (.E 85) (kb false))]) (.cond (.E 86) (.reg [oE 87 (.mv (.V 5)), oE 88 (.mv (.V 6)), oE 89 (.mv (.V 9)), oE 90 (.mv (.V 7)), oE 91 (.mv (.V 9)), oE 92 (.iaddr 2 (.E 90) (.E 91)), oE 93 (.load true 2 (.E 92)), oE 94 (.mv (.V 11)), oE 95 (.mv (.V 13)), oE 96 (.build [iv 0, iv 0] [(0, 1, (.E 94)), (1, 1, (.E 95))]), oE 97 (.build [iv 0, iv 0, iv 0, iv 0, iv 0, iv 0] [(0, 1, (.E 88)), (1, 1, (.E 89)), (2, 2, (.E 93)), (4, 2, (.E 96))]), oE 98 (.bslice 1 6 [iv 0, iv 0, iv 0, iv 0, iv 0, iv 0] [(0, (.E 97))]), oE 99 (.app 48 6 (.E 87) (.E 98)), oV 5 (.mv (.E 99))]) .skip))))))) (.reg [oE 38 (.mv (.V 9)), oE 39 (.bin .add (.E 38) (ki 1)), oV 9 (.mv (.E 39))]))

def k_spec_CandsOf_b1 : IC := .seq (.seq (.reg [oE 16 (.mv (.V 6)), oE 17 (.mv (.V 0)), oE 18 (.len (.E 17)), oE 19 (.bin .lss (.E 16) (.E 18))]) (.cond (.E 19) .skip (.exit 0))) (.seq (.block 1 (.seq (.reg [oE 23 (.mv (.V 0)), oE 24 (.mv (.V 6)), oE 25 (.iaddr 1 (.E 23) (.E 24)), oE 26 (.load false 1 (.E 25)), oE 27 (.call k_spec_Prefix [([2], (.E 26))]), oE 22 (.mv (.E 27)), oE 28 (.ext 0 (.E 22)), oE 29 (.ext 1 (.E 22)), oV 7 (.mv (.E 28)), oV 8 (.mv (.E 29))]) (.seq (.seq (.reg [oE 30 (.mv (.V 8)), oE 31 (.un .not (.E 30))]) (.cond (.E 31) (.seq (.reg [oE 32 (.bslice 0 6 [iv 0, iv 0, iv 0, iv 0, iv 0, iv 0] []), oV 4 (.mv (.E 32))]) .ret) .skip)) (.seq (.reg [oV 9 (.mv (ki 0))]) (.block 2 (.loop k_spec_CandsOf_b0)))))) (.reg [oE 20 (.mv (.V 6)), oE 21 (.bin .add (.E 20) (ki 1)), oV 6 (.mv (.E 21))]))

def k_spec_CandsOf_ic : IC := .seq (.reg [oV 4 (.mv (.C .e0))]) (.seq (.reg [oE 15 (.bslice 0 6 [iv 0, iv 0, iv 0, iv 0, iv 0, iv 0] []), oV 5 (.mv (.E 15))]) (.seq (.seq (.reg [oV 6 (.mv (ki 0))]) (.block 0 (.loop k_spec_CandsOf_b1))) (.seq (.reg [oE 100 (.mv (.V 5)), oV 4 (.mv (.E 100))]) .ret)))

def k_spec_CandsOf_rv : List RV := [.tmp [6] 4]

def k_spec_l1In_vars : List Nat := [0, 1, 2, 6]

def k_spec_l1In_ic : IC := .seq (.reg [oV 6 (.mv (kb false))]) (.seq (.reg [oE 7 (.mv (.V 0)), oE 8 (.mv (.V 1)), oE 9 (.bin .geq (.E 7) (.E 8)), oE 10 (.mv (.E 9)), ⟨(some (.E 11)), .mv (.V 0), some ((.E 10), true)⟩, ⟨(some (.E 12)), .mv (.V 2), some ((.E 10), true)⟩, ⟨(some (.E 13)), .bin .leq (.E 11) (.E 12), some ((.E 10), true)⟩, oE 14 (.pick (.E 10) (.E 13) (kb false)), oV 6 (.mv (.E 14))]) .ret)

def k_spec_l1In_rv : List RV := [.tmp [0] 6]

def k_spec_LeafOf_vars : List Nat := [0, 1, 2, 3, 5, 8, 6, 7]

def k_spec_LeafOf_ic : IC := .seq (.reg [oV 3 (.box (.V 0)), oV 5 (.box (.V 2)), oV 6 (.mv (ki 0)), oV 7 (.mv (kb false))]) (.seq (.seq (.reg [oE 10 (.faddr 0 (.V 3)), oE 11 (.load false 1 (.E 10)), oE 12 (.call k_spec_l1In [([0], (.E 11)), ([0], (ki 0)), ([0], (ki 40))]), oE 13 (.un .not (.E 12)), oE 14 (.mv (.E 13)), ⟨(some (.E 15)), .mv (.V 1), some ((.E 14), false)⟩, ⟨(some (.E 16)), .call k_spec_l1In [([0], (.E 15)), ([0], (ki 1)), ([0], (ki 100))], some ((.E 14), false)⟩, ⟨(some (.E 17)), .un .not (.E 16), some ((.E 14), false)⟩, oE 18 (.pick (.E 14) (kb true) (.E 17)), oE 19 (.mv (.E 18)), ⟨(some (.E 20)), .load true 2 (.V 5), some ((.E 19), false)⟩, ⟨(some (.E 21)), .call k_spec_BoundOk [([0, 0], (.E 20))], some ((.E 19), false)⟩, ⟨(some (.E 22)), .un .not (.E 21), some ((.E 19), false)⟩, oE 23 (.pick (.E 19) (kb true) (.E 22))]) (.cond (.E 23) (.seq (.reg [oV 6 (.mv (ki 0)), oV 7 (.mv (kb false))]) .ret) .skip)) (.seq (.reg [oE 25 (.faddr 1 (.V 3)), oE 26 (.load false 1 (.E 25)), oE 27 (.faddr 0 (.V 3)), oE 28 (.load false 1 (.E 27)), oE 29 (.mv (.V 1)), oE 30 (.bin .add (.E 28) (.E 29)), oE 31 (.call k_spec_FloorDiv [([0], (.E 26)), ([0], (.E 30))]), oE 24 (.mv (.E 31)), oE 32 (.ext 0 (.E 24)), oE 33 (.ext 1 (.E 24)), oV 8 (.mv (.E 32)), oE 9 (.mv (.E 33))]) (.seq (.reg [oE 34 (.mv (.V 8)), oE 35 (.faddr 0 (.V 5)), oE 36 (.load false 1 (.E 35)), oE 37 (.faddr 1 (.V 5)), oE 38 (.load false 1 (.E 37)), oE 39 (.call k_spec_Brought [([0], (.E 34)), ([0], (.E 36)), ([0], (.E 38))]), oV 6 (.mv (.E 39)), oV 7 (.mv (kb true))]) .ret)))

def k_spec_LeafOf_rv : List RV := [.tmp [0] 6, .tmp [0] 7]

def k_impl_LeafOf_vars : List Nat := [0, 1, 2, 3, 5, 8, 6, 7]

def k_impl_LeafOf_ic : IC := .seq (.reg [oV 3 (.box (.V 0)), oV 5 (.box (.V 2)), oV 6 (.mv (ki 0)), oV 7 (.mv (kb false))]) (.seq (.seq (.reg [oE 10 (.faddr 0 (.V 3)), oE 11 (.load false 1 (.E 10)), oE 12 (.mv (.V 1)), oE 13 (.call k_impl_isCount [([0], (.E 11)), ([0], (.E 12))]), oE 14 (.un .not (.E 13)), oE 15 (.mv (.E 14)), ⟨(some (.E 16)), .load true 2 (.V 5), some ((.E 15), false)⟩, ⟨(some (.E 17)), .call k_impl_BoundOk [([0, 0], (.E 16))], some ((.E 15), false)⟩, ⟨(some (.E 18)), .un .not (.E 17), some ((.E 15), false)⟩, oE 19 (.pick (.E 15) (kb true) (.E 18))]) (.cond (.E 19) (.seq (.reg [oV 6 (.mv (ki 0)), oV 7 (.mv (kb false))]) .ret) .skip)) (.seq (.reg [oE 21 (.faddr 1 (.V 3)), oE 22 (.load false 1 (.E 21)), oE 23 (.faddr 0 (.V 3)), oE 24 (.load false 1 (.E 23)), oE 25 (.mv (.V 1)), oE 26 (.bin .add (.E 24) (.E 25)), oE 27 (.call k_impl_FloorDiv [([0], (.E 22)), ([0], (.E 26))]), oE 20 (.mv (.E 27)), oE 28 (.ext 0 (.E 20)), oE 29 (.ext 1 (.E 20)), oV 8 (.mv (.E 28)), oE 9 (.mv (.E 29))]) (.seq (.reg [oE 30 (.mv (.V 8)), oE 31 (.faddr 0 (.V 5)), oE 32 (.load false 1 (.E 31)), oE 33 (.faddr 1 (.V 5)), oE 34 (.load false 1 (.E 33)), oE 35 (.call k_impl_Brought [([0], (.E 30)), ([0], (.E 32)), ([0], (.E 34))]), oV 6 (.mv (.E 35)), oV 7 (.mv (kb true))]) .ret)))

def k_impl_LeafOf_rv : List RV := [.tmp [0] 6, .tmp [0] 7]

def k_spec_l1Below_vars : List Nat := [0, 1, 5, 6, 7, 8, 4]

def k_spec_l1Below_ic : IC := .seq (.reg [oV 4 (.mv (ki 0))]) (.seq (.seq (.reg [oE 9 (.mv (.V 1)), oE 10 (.bin .leq (.E 9) (ki 0))]) (.cond (.E 10) (.seq (.reg [oV 4 (.mv (ki 0))]) .ret) .skip)) (.seq (.seq (.reg [oE 11 (.mv (.V 1)), oE 12 (.bin .leq (.E 11) (ki 256))]) (.cond (.E 12) (.seq (.reg [oE 13 (.mv (.V 0)), oE 14 (.call k_spec_l1Byte [([0], (.E 13))]), oE 15 (.mv (.V 1)), oE 16 (.bin .rem (.E 14) (.E 15)), oV 4 (.mv (.E 16))]) .ret) .skip)) (.seq (.reg [oE 17 (.mv (.V 0)), oE 18 (.call k_spec_l1Byte [([0], (.E 17))]), oV 5 (.mv (.E 18))]) (.seq (.reg [oE 19 (.mv (.V 0)), oE 20 (.call k_spec_l1Byte [([0], (.E 19))]), oV 6 (.mv (.E 20))]) (.seq (.reg [oE 21 (.mv (.V 0)), oE 22 (.call k_spec_l1Byte [([0], (.E 21))]), oV 7 (.mv (.E 22))]) (.seq (.reg [oE 23 (.mv (.V 0)), oE 24 (.call k_spec_l1Byte [([0], (.E 23))]), oV 8 (.mv (.E 24))]) (.seq (.reg [oE 25 (.mv (.V 5)), oE 26 (.bin .mul (.E 25) (ki 16777216)), oE 27 (.mv (.V 6)), oE 28 (.bin .mul (.E 27) (ki 65536)), oE 29 (.bin .add (.E 26) (.E 28)), oE 30 (.mv (.V 7)), oE 31 (.bin .mul (.E 30) (ki 256)), oE 32 (.bin .add (.E 29) (.E 31)), oE 33 (.mv (.V 8)), oE 34 (.bin .add (.E 32) (.E 33)), oE 35 (.mv (.V 1)), oE 36 (.bin .rem (.E 34) (.E 35)), oV 4 (.mv (.E 36))]) .ret)))))))

def k_spec_l1Below_rv : List RV := [.tmp [0] 4]

def k_spec_l1PickInt_vars : List Nat := [0, 1, 4]

def k_spec_l1PickInt_ic : IC := .seq (.reg [oV 4 (.mv (ki 0))]) (.seq (.reg [oE 5 (.mv (.V 1)), oE 6 (.mv (.V 0)), oE 7 (.mv (.V 1)), oE 8 (.len (.E 7)), oE 9 (.call k_spec_l1Below [([0], (.E 6)), ([0], (.E 8))]), oE 10 (.iaddr 1 (.E 5) (.E 9)), oE 11 (.load false 1 (.E 10)), oV 4 (.mv (.E 11))]) .ret)

def k_spec_l1PickInt_rv : List RV := [.tmp [0] 4]

def k_spec_l1Whole_vars : List Nat := [0, 6, 4, 3, 2]

def k_spec_l1Whole_b0 : IC := .seq (.seq (.reg [oE 14 (.mv (.V 4)), oE 15 (.bin .lss (.E 14) (ki 8))]) (.cond (.E 15) .skip (.exit 1))) (.seq (.block 2 (.reg [oE 18 (.mv (.V 3)), oE 19 (.bin .mul (.E 18) (ki 256)), oE 20 (.mv (.V 0)), oE 21 (.call k_spec_l1Byte [([0], (.E 20))]), oE 22 (.bin .add (.E 19) (.E 21)), oV 3 (.mv (.E 22))])) (.reg [oE 16 (.mv (.V 4)), oE 17 (.bin .add (.E 16) (ki 1)), oV 4 (.mv (.E 17))]))

def k_spec_l1Whole_ic : IC := .seq (.reg [oV 2 (.mv (ki 0))]) (.seq (.seq (.reg [oE 5 (.mv (.V 0)), oV 6 (.call k_spec_l1Below [([0], (.E 5)), ([0], (ki 4))])]) (.block 0 (.seq (.reg [oE 8 (.bin .eql (.V 6) (ki 0)), oE 7 (.mv (.E 8))]) (.cond (.E 7) (.seq (.reg [oE 9 (.mv (.V 0)), oE 10 (.bslice 14 1 [iv 0] [(0, (ki 0)), (1, (ki 1)), (2, (ki (-1))), (3, (ki 9)), (4, (ki 10)), (5, (ki 999)), (6, (ki 1000)), (7, (ki 2147483647)), (8, (ki (-2147483648))), (9, (ki 3037000499)), (10, (ki 3037000500)), (11, (ki 9223372036854775807)), (12, (ki (-9223372036854775807))), (13, (ki (-9223372036854775808)))]), oE 11 (.call k_spec_l1PickInt [([0], (.E 9)), ([1], (.E 10))]), oV 2 (.mv (.E 11))]) .ret) (.seq (.reg [oE 13 (.bin .eql (.V 6) (ki 1)), oE 12 (.mv (.E 13))]) (.cond (.E 12) (.seq (.reg [oV 3 (.mv (ki 0))]) (.seq (.seq (.reg [oV 4 (.mv (ki 0))]) (.block 1 (.loop k_spec_l1Whole_b0))) (.seq (.reg [oE 23 (.mv (.V 3)), oV 2 (.mv (.E 23))]) .ret))) (.seq (.reg [oE 25 (.bin .eql (.V 6) (ki 2)), oE 24 (.mv (.E 25))]) (.cond (.E 24) (.seq (.reg [oE 26 (.mv (.V 0)), oE 27 (.call k_spec_l1Below [([0], (.E 26)), ([0], (ki 1000000))]), oE 28 (.bin .sub (.E 27) (ki 500000)), oV 2 (.mv (.E 28))]) .ret) .skip)))))))) (.seq (.reg [oE 29 (.mv (.V 0)), oE 30 (.call k_spec_l1Below [([0], (.E 29)), ([0], (ki 41))]), oE 31 (.bin .sub (.E 30) (ki 20)), oV 2 (.mv (.E 31))]) .ret))

def k_spec_l1Whole_rv : List RV := [.tmp [0] 2]

def k_spec_l13Hist_vars : List Nat := [0, 5, 4, 3, 2]

def k_spec_l13Hist_b0 : IC := .seq (.seq (.reg [oE 9 (.mv (.V 5)), oE 10 (.mv (.V 4)), oE 11 (.bin .lss (.E 9) (.E 10))]) (.cond (.E 11) .skip (.exit 0))) (.seq (.block 1 (.reg [oE 14 (.mv (.V 3)), oE 15 (.mv (.V 0)), oE 16 (.call k_spec_l1Below [([0], (.E 15)), ([0], (ki 5))]), oE 17 (.mv (.V 0)), oE 18 (.call k_spec_l1Below [([0], (.E 17)), ([0], (ki 2001))]), oE 19 (.bin .sub (.E 18) (ki 1000)), oE 20 (.build [iv 0, iv 0] [(0, 1, (.E 16)), (1, 1, (.E 19))]), oE 21 (.bslice 1 2 [iv 0, iv 0] [(0, (.E 20))]), oE 22 (.app 16 2 (.E 14) (.E 21)), oV 3 (.mv (.E 22))])) (.reg [oE 12 (.mv (.V 5)), oE 13 (.bin .add (.E 12) (ki 1)), oV 5 (.mv (.E 13))]))

def k_spec_l13Hist_ic : IC := .seq (.reg [oV 2 (.mv (.C .e0))]) (.seq (.reg [oE 6 (.bslice 0 2 [iv 0, iv 0] []), oV 3 (.mv (.E 6))]) (.seq (.reg [oE 7 (.mv (.V 0)), oE 8 (.call k_spec_l1Below [([0], (.E 7)), ([0], (ki 6))]), oV 4 (.mv (.E 8))]) (.seq (.seq (.reg [oV 5 (.mv (ki 0))]) (.block 0 (.loop k_spec_l13Hist_b0))) (.seq (.seq (.reg [oE 23 (.mv (.V 4)), oE 24 (.bin .gtr (.E 23) (ki 0)), oE 25 (.mv (.E 24)), ⟨(some (.E 26)), .mv (.V 0), some ((.E 25), true)⟩, ⟨(some (.E 27)), .call k_spec_l1Once [([0], (.E 26)), ([0], (ki 8))], some ((.E 25), true)⟩, oE 28 (.pick (.E 25) (.E 27) (kb false))]) (.cond (.E 28) (.reg [oE 29 (.mv (.V 3)), oE 30 (.mv (.V 0)), oE 31 (.mv (.V 4)), oE 32 (.call k_spec_l1Below [([0], (.E 30)), ([0], (.E 31))]), oE 33 (.mv (.V 0)), oE 34 (.call k_spec_l1Whole [([0], (.E 33))]), oE 35 (.mv (.V 0)), oE 36 (.call k_spec_l1Whole [([0], (.E 35))]), oE 37 (.build [iv 0, iv 0] [(0, 1, (.E 34)), (1, 1, (.E 36))]), oE 38 (.iaddr 2 (.E 29) (.E 32)), oN (.store [0, 0] (.E 38) (.E 37))]) .skip)) (.seq (.reg [oE 39 (.mv (.V 3)), oV 2 (.mv (.E 39))]) .ret)))))

def k_spec_l13Hist_rv : List RV := [.tmp [2] 2]

def k_spec_l15Cand_vars : List Nat := [0, 3, 2]

def k_spec_l15Cand_ic : IC := .seq (.reg [oV 2 (.alloc [iv 0, iv 0, iv 0, iv 0, iv 0, iv 0])]) (.seq (.reg [oE 4 (.mv (.V 0)), oE 5 (.call k_spec_l1Below [([0], (.E 4)), ([0], (ki 3))]), oE 6 (.mv (.V 0)), oE 7 (.call k_spec_l1Below [([0], (.E 6)), ([0], (ki 4))]), oE 8 (.mv (.V 0)), oE 9 (.call k_spec_l14Slot [([0], (.E 8))]), oE 10 (.mv (.V 0)), oE 11 (.call k_spec_l14Slot [([0], (.E 10))]), oE 12 (.build [iv 0, iv 0, iv 0, iv 0, iv 0, iv 0] [(0, 1, (.E 5)), (1, 1, (.E 7)), (2, 2, (.E 9)), (4, 2, (.E 11))]), oV 3 (.alloc [iv 0, iv 0, iv 0, iv 0, iv 0, iv 0]), oN (.store [0, 0, 0, 0, 0, 0] (.V 3) (.E 12))]) (.seq (.seq (.reg [oE 13 (.mv (.V 0)), oE 14 (.call k_spec_l1Once [([0], (.E 13)), ([0], (ki 4))]), oE 15 (.mv (.E 14)), ⟨(some (.E 16)), .faddr 2 (.V 3), some ((.E 15), true)⟩, ⟨(some (.E 17)), .faddr 0 (.E 16), some ((.E 15), true)⟩, ⟨(some (.E 18)), .load false 1 (.E 17), some ((.E 15), true)⟩, ⟨(some (.E 19)), .bin .gtr (.E 18) (ki 0), some ((.E 15), true)⟩, oE 20 (.pick (.E 15) (.E 19) (kb false)), oE 21 (.mv (.E 20)), ⟨(some (.E 22)), .faddr 2 (.V 3), some ((.E 21), true)⟩, ⟨(some (.E 23)), .faddr 0 (.E 22), some ((.E 21), true)⟩, ⟨(some (.E 24)), .load false 1 (.E 23), some ((.E 21), true)⟩, ⟨(some (.E 25)), .bin .lss (.E 24) (ki 20), some ((.E 21), true)⟩, oE 26 (.pick (.E 21) (.E 25) (kb false))]) (.cond (.E 26) (.seq (.reg [oE 27 (.faddr 2 (.V 3)), oE 28 (.faddr 0 (.E 27)), oE 29 (.load false 1 (.E 28)), oE 30 (.bin .mul (ki 10) (.E 29)), oE 31 (.faddr 2 (.V 3)), oE 32 (.faddr 1 (.E 31)), oN (.store [0] (.E 32) (.E 30))]) (.seq (.reg [oE 33 (.mv (.V 0)), oE 34 (.call k_spec_l1Below [([0], (.E 33)), ([0], (ki 9))]), oE 35 (.build [iv 0, iv 0] [(0, 1, (.E 34)), (1, 1, (ki 0))]), oE 36 (.faddr 4 (.V 3)), oN (.store [0, 0] (.E 36) (.E 35))]) (.reg [oE 37 (.faddr 4 (.V 3)), oE 38 (.faddr 0 (.E 37)), oE 39 (.load false 1 (.E 38)), oE 40 (.bin .mul (ki 10) (.E 39)), oE 41 (.faddr 4 (.V 3)), oE 42 (.faddr 1 (.E 41)), oN (.store [0] (.E 42) (.E 40))]))) .skip)) (.seq (.reg [oE 43 (.load true 6 (.V 3)), oN (.store [0, 0, 0, 0, 0, 0] (.V 2) (.E 43))]) .ret)))

def k_spec_l15Cand_rv : List RV := [.cell [0, 0, 0, 0, 0, 0] 2 true]

def k_spec_CandLess_vars : List Nat := [0, 1, 2, 3, 4]

def k_spec_CandLess_ic : IC := .seq (.reg [oV 2 (.box (.V 0)), oV 3 (.box (.V 1)), oV 4 (.mv (kb false))]) (.seq (.reg [oE 5 (.faddr 0 (.V 2)), oE 6 (.load false 1 (.E 5)), oE 7 (.faddr 0 (.V 3)), oE 8 (.load false 1 (.E 7)), oE 9 (.bin .lss (.E 6) (.E 8)), oE 10 (.mv (.E 9)), ⟨(some (.E 11)), .faddr 0 (.V 2), some ((.E 10), false)⟩, ⟨(some (.E 12)), .load false 1 (.E 11), some ((.E 10), false)⟩, ⟨(some (.E 13)), .faddr 0 (.V 3), some ((.E 10), false)⟩, ⟨(some (.E 14)), .load false 1 (.E 13), some ((.E 10), false)⟩, ⟨(some (.E 15)), .bin .eql (.E 12) (.E 14), some ((.E 10), false)⟩, ⟨(some (.E 16)), .mv (.E 15), some ((.E 10), false)⟩, ⟨(some (.E 17)), .faddr 1 (.V 2), some ((.E 16), true)⟩, ⟨(some (.E 18)), .load false 1 (.E 17), some ((.E 16), true)⟩, ⟨(some (.E 19)), .faddr 1 (.V 3), some ((.E 16), true)⟩, ⟨(some (.E 20)), .load false 1 (.E 19), some ((.E 16), true)⟩, ⟨(some (.E 21)), .bin .lss (.E 18) (.E 20), some ((.E 16), true)⟩, ⟨(some (.E 22)), .pick (.E 16) (.E 21) (kb false), some ((.E 10), false)⟩, oE 23 (.pick (.E 10) (kb true) (.E 22)), oV 4 (.mv (.E 23))]) .ret)

def k_spec_CandLess_rv : List RV := [.tmp [0] 4]

def k_impl_within_vars : List Nat := [0, 1, 2, 6]

def k_impl_within_ic : IC := .seq (.reg [oV 6 (.mv (kb false))]) (.seq (.reg [oE 7 (.mv (.V 0)), oE 8 (.mv (.V 1)), oE 9 (.bin .geq (.E 7) (.E 8)), oE 10 (.mv (.E 9)), ⟨(some (.E 11)), .mv (.V 0), some ((.E 10), true)⟩, ⟨(some (.E 12)), .mv (.V 2), some ((.E 10), true)⟩, ⟨(some (.E 13)), .bin .leq (.E 11) (.E 12), some ((.E 10), true)⟩, oE 14 (.pick (.E 10) (.E 13) (kb false)), oV 6 (.mv (.E 14))]) .ret)

def k_impl_within_rv : List RV := [.tmp [0] 6]

def k_slices_ContainsFunc___int_int__vars : List Nat := [0, 1, 4]

def k_slices_ContainsFunc___int_int__ic : IC := .seq (.reg [oV 4 (.mv (kb false))]) (.seq (.reg [oE 5 (.mv (.V 0)), oE 6 (.mv (.V 1)), oE 7 (.call k_slices_IndexFunc___int_int_ [([1], (.E 5)), ([0], (.E 6))]), oE 8 (.bin .geq (.E 7) (ki 0)), oV 4 (.mv (.E 8))]) .ret)

def k_slices_ContainsFunc___int_int__rv : List RV := [.tmp [0] 4]

def k_impl_ConfigOk_1_vars : List Nat := [0, 2]

def k_impl_ConfigOk_1_ic : IC := .seq (.reg [oV 2 (.mv (kb false))]) (.seq (.reg [oE 3 (.mv (.V 0)), oE 4 (.call k_impl_isSign [([0], (.E 3))]), oE 5 (.un .not (.E 4)), oV 2 (.mv (.E 5))]) .ret)

def k_impl_ConfigOk_1_rv : List RV := [.tmp [0] 2]

def k_impl_isSign_vars : List Nat := [0, 2]

def k_impl_isSign_ic : IC := .seq (.reg [oV 2 (.mv (kb false))]) (.seq (.reg [oE 3 (.mv (.V 0)), oE 4 (.call k_impl_within [([0], (.E 3)), ([0], (ki (-1))), ([0], (ki 1))]), oV 2 (.mv (.E 4))]) .ret)

def k_impl_isSign_rv : List RV := [.tmp [0] 2]

def k_impl_BothOf_vars : List Nat := [0, 1, 2, 3]

def k_impl_BothOf_ic : IC := .seq (.reg [oV 1 (.box (.V 0)), oV 2 (.alloc [iv 0, iv 0]), oV 3 (.mv (kb false))]) (.seq (.reg [oE 4 (.faddr 2 (.V 1)), oE 5 (.load true 2 (.E 4)), oE 6 (.faddr 4 (.V 1)), oE 7 (.load true 2 (.E 6)), oE 8 (.call k__impl_Slot__plus [([0, 0], (.E 5)), ([0, 0], (.E 7))]), oE 9 (.ext 0 (.E 8)), oE 10 (.ext 1 (.E 8)), oN (.store [0, 0] (.V 2) (.E 9)), oV 3 (.mv (.E 10))]) .ret)

def k_impl_BothOf_rv : List RV := [.cell [0, 0] 2 true, .tmp [0] 3]

def k_impl_PlainGain_vars : List Nat := [0, 1, 2, 4, 5]

def k_impl_PlainGain_ic : IC := .seq (.reg [oV 2 (.box (.V 0)), oV 4 (.alloc [(.v (.bool false)), (.v (.int .u64 0)), (.v (.int .u64 0)), iv 0]), oV 5 (.mv (kb false))]) (.seq (.seq (.reg [oE 6 (.faddr 0 (.V 2)), oE 7 (.load false 1 (.E 6)), oE 8 (.mv (.V 1)), oE 9 (.call k_impl_isCount [([0], (.E 7)), ([0], (.E 8))]), oE 10 (.un .not (.E 9))]) (.cond (.E 10) (.seq (.reg [oE 11 (.build [(.v (.bool false)), (.v (.int .u64 0)), (.v (.int .u64 0)), iv 0] []), oN (.store [0, 0, 0, 0] (.V 4) (.E 11)), oV 5 (.mv (kb false))]) .ret) .skip)) (.seq (.reg [oE 12 (.faddr 1 (.V 2)), oE 13 (.load false 1 (.E 12)), oE 14 (.faddr 0 (.V 2)), oE 15 (.load false 1 (.E 14)), oE 16 (.mv (.V 1)), oE 17 (.bin .add (.E 15) (.E 16)), oE 18 (.call k_impl_SquareOver [([0], (.E 13)), ([0], (.E 17))]), oE 19 (.ext 0 (.E 18)), oE 20 (.ext 1 (.E 18)), oN (.store [0, 0, 0, 0] (.V 4) (.E 19)), oV 5 (.mv (.E 20))]) .ret))

def k_impl_PlainGain_rv : List RV := [.cell [0, 0, 0, 0] 4 true, .tmp [0] 5]

def k_spec_l8Numbers_vars : List Nat := [0, 1, 2]

def k_spec_l8Numbers_ic : IC := .seq (.reg [oV 1 (.box (.V 0)), oV 2 (.mv (.C .e0))]) (.seq (.reg [oE 3 (.faddr 0 (.V 1)), oE 4 (.load false 1 (.E 3)), oE 5 (.faddr 1 (.V 1)), oE 6 (.load false 1 (.E 5)), oE 7 (.faddr 2 (.V 1)), oE 8 (.load false 1 (.E 7)), oE 9 (.faddr 3 (.V 1)), oE 10 (.load false 1 (.E 9)), oE 11 (.faddr 4 (.V 1)), oE 12 (.load false 1 (.E 11)), oE 13 (.bslice 5 1 [iv 0] [(0, (.E 4)), (1, (.E 6)), (2, (.E 8)), (3, (.E 10)), (4, (.E 12))]), oV 2 (.mv (.E 13))]) .ret)

def k_spec_l8Numbers_rv : List RV := [.tmp [1] 2]

def k_spec_l8Least_vars : List Nat := [0]

def k_spec_l8Least_ic : IC := .seq (.reg [oV 0 (.mv (.C .e0))]) (.seq (.reg [oE 1 (.bslice 5 1 [iv 0] [(0, (ki 1)), (1, (ki 0)), (2, (ki 2)), (3, (ki 1)), (4, (ki 1))]), oV 0 (.mv (.E 1))]) .ret)

def k_spec_l8Least_rv : List RV := [.tmp [1] 0]

def k_spec_l8Most_vars : List Nat := [0]

def k_spec_l8Most_ic : IC := .seq (.reg [oV 0 (.mv (.C .e0))]) (.seq (.reg [oE 1 (.bslice 5 1 [iv 0] [(0, (ki 8)), (1, (ki 4)), (2, (ki 8)), (3, (ki 100)), (4, (ki 20))]), oV 0 (.mv (.E 1))]) .ret)

def k_spec_l8Most_rv : List RV := [.tmp [1] 0]

def k_spec_BothOf_vars : List Nat := [0, 1, 2, 3]

def k_spec_BothOf_ic : IC := .seq (.reg [oV 1 (.box (.V 0)), oV 2 (.alloc [iv 0, iv 0]), oV 3 (.mv (kb false))]) (.seq (.reg [oE 4 (.faddr 2 (.V 1)), oE 5 (.load true 2 (.E 4)), oE 6 (.faddr 4 (.V 1)), oE 7 (.load true 2 (.E 6)), oE 8 (.call k_spec_l13Add [([0, 0], (.E 5)), ([0, 0], (.E 7))]), oE 9 (.ext 0 (.E 8)), oE 10 (.ext 1 (.E 8)), oN (.store [0, 0] (.V 2) (.E 9)), oV 3 (.mv (.E 10))]) .ret)

def k_spec_BothOf_rv : List RV := [.cell [0, 0] 2 true, .tmp [0] 3]

def k_impl_AddFrac_vars : List Nat := [0, 1, 2, 3, 8, 4, 6, 7, 9, 5]

def k_impl_AddFrac_ic : IC := .seq (.reg [oV 2 (.box (.V 0)), oV 3 (.box (.V 1)), oV 4 (.alloc [(.v (.bool false)), (.v (.int .u64 0)), (.v (.int .u64 0)), iv 0]), oV 5 (.mv (kb false))]) (.seq (.reg [oE 11 (.load true 4 (.V 2)), oE 12 (.load true 4 (.V 3)), oE 13 (.call k_impl_crossed [([0, 0, 0, 0], (.E 11)), ([0, 0, 0, 0], (.E 12))]), oE 10 (.mv (.E 13)), oE 14 (.ext 0 (.E 10)), oE 15 (.ext 1 (.E 10)), oE 16 (.ext 2 (.E 10)), oV 6 (.alloc [(.v (.bool false)), (.v (.int .u64 0)), (.v (.int .u64 0))]), oV 7 (.alloc [(.v (.bool false)), (.v (.int .u64 0)), (.v (.int .u64 0))]), oN (.store [0, 0, 0] (.V 6) (.E 14)), oN (.store [0, 0, 0] (.V 7) (.E 15)), oV 8 (.mv (.E 16))]) (.seq (.seq (.reg [oE 17 (.mv (.V 8)), oE 18 (.un .not (.E 17))]) (.cond (.E 18) (.seq (.reg [oE 19 (.build [(.v (.bool false)), (.v (.int .u64 0)), (.v (.int .u64 0)), iv 0] []), oN (.store [0, 0, 0, 0] (.V 4) (.E 19)), oV 5 (.mv (kb false))]) .ret) .skip)) (.seq (.reg [oE 21 (.load true 3 (.V 6)), oE 22 (.load true 3 (.V 7)), oE 23 (.call k_impl_AddWide [([0, 0, 0], (.E 21)), ([0, 0, 0], (.E 22))]), oE 20 (.mv (.E 23)), oE 24 (.ext 0 (.E 20)), oE 25 (.ext 1 (.E 20)), oV 9 (.alloc [(.v (.bool false)), (.v (.int .u64 0)), (.v (.int .u64 0))]), oN (.store [0, 0, 0] (.V 9) (.E 24)), oV 8 (.mv (.E 25))]) (.seq (.seq (.reg [oE 26 (.mv (.V 8)), oE 27 (.un .not (.E 26))]) (.cond (.E 27) (.seq (.reg [oE 28 (.build [(.v (.bool false)), (.v (.int .u64 0)), (.v (.int .u64 0)), iv 0] []), oN (.store [0, 0, 0, 0] (.V 4) (.E 28)), oV 5 (.mv (kb false))]) .ret) .skip)) (.seq (.reg [oE 29 (.load true 3 (.V 9)), oE 30 (.faddr 3 (.V 2)), oE 31 (.load false 1 (.E 30)), oE 32 (.faddr 3 (.V 3)), oE 33 (.load false 1 (.E 32)), oE 34 (.bin .mul (.E 31) (.E 33)), oE 35 (.call k_impl_fracOf [([0, 0, 0], (.E 29)), ([0], (.E 34))]), oE 36 (.ext 0 (.E 35)), oE 37 (.ext 1 (.E 35)), oN (.store [0, 0, 0, 0] (.V 4) (.E 36)), oV 5 (.mv (.E 37))]) .ret)))))

def k_impl_AddFrac_rv : List RV := [.cell [0, 0, 0, 0] 4 true, .tmp [0] 5]

def k_impl_crossed_vars : List Nat := [0, 1, 2, 3, 4, 5, 7, 9, 8, 10, 6]

def k_impl_crossed_ic : IC := .seq (.reg [oV 2 (.box (.V 0)), oV 3 (.box (.V 1)), oV 4 (.alloc [(.v (.bool false)), (.v (.int .u64 0)), (.v (.int .u64 0))]), oV 5 (.alloc [(.v (.bool false)), (.v (.int .u64 0)), (.v (.int .u64 0))]), oV 6 (.mv (kb false))]) (.seq (.seq (.reg [oE 11 (.load true 4 (.V 2)), oE 12 (.call k_impl_FracOk [([0, 0, 0, 0], (.E 11))]), oE 13 (.un .not (.E 12)), oE 14 (.mv (.E 13)), ⟨(some (.E 15)), .load true 4 (.V 3), some ((.E 14), false)⟩, ⟨(some (.E 16)), .call k_impl_FracOk [([0, 0, 0, 0], (.E 15))], some ((.E 14), false)⟩, ⟨(some (.E 17)), .un .not (.E 16), some ((.E 14), false)⟩, oE 18 (.pick (.E 14) (kb true) (.E 17))]) (.cond (.E 18) (.seq (.reg [oE 19 (.build [(.v (.bool false)), (.v (.int .u64 0)), (.v (.int .u64 0))] []), oE 20 (.build [(.v (.bool false)), (.v (.int .u64 0)), (.v (.int .u64 0))] []), oN (.store [0, 0, 0] (.V 4) (.E 19)), oN (.store [0, 0, 0] (.V 5) (.E 20)), oV 6 (.mv (kb false))]) .ret) .skip)) (.seq (.reg [oE 22 (.faddr 0 (.V 2)), oE 23 (.load true 3 (.E 22)), oE 24 (.faddr 3 (.V 3)), oE 25 (.load false 1 (.E 24)), oE 26 (.call k_impl_ScaleWide [([0, 0, 0], (.E 23)), ([0], (.E 25))]), oE 21 (.mv (.E 26)), oE 27 (.ext 0 (.E 21)), oE 28 (.ext 1 (.E 21)), oV 7 (.alloc [(.v (.bool false)), (.v (.int .u64 0)), (.v (.int .u64 0))]), oN (.store [0, 0, 0] (.V 7) (.E 27)), oV 8 (.mv (.E 28))]) (.seq (.reg [oE 30 (.faddr 0 (.V 3)), oE 31 (.load true 3 (.E 30)), oE 32 (.faddr 3 (.V 2)), oE 33 (.load false 1 (.E 32)), oE 34 (.call k_impl_ScaleWide [([0, 0, 0], (.E 31)), ([0], (.E 33))]), oE 29 (.mv (.E 34)), oE 35 (.ext 0 (.E 29)), oE 36 (.ext 1 (.E 29)), oV 9 (.alloc [(.v (.bool false)), (.v (.int .u64 0)), (.v (.int .u64 0))]), oN (.store [0, 0, 0] (.V 9) (.E 35)), oV 10 (.mv (.E 36))]) (.seq (.regD [(oE 37 (.load true 3 (.V 7)), 0, 0), (oE 38 (.load true 3 (.V 9)), 0, 1), (oE 39 (.mv (.V 8)), 0, 0), (oE 40 (.mv (.E 39)), 0, 0), (⟨(some (.E 41)), .mv (.V 10), some ((.E 40), true)⟩, 0, 0), (oE 42 (.pick (.E 40) (.E 41) (kb false)), 0, 0), (oN (.store [0, 0, 0] (.V 4) (.E 37)), 0, 0), (oN (.store [0, 0, 0] (.V 5) (.E 38)), 0, 0), (oV 6 (.mv (.E 42)), 0, 0)]) .ret))))

def k_impl_crossed_rv : List RV := [.cell [0, 0, 0] 4 true, .cell [0, 0, 0] 5 true, .tmp [0] 6]

def k_impl_CompareWide_vars : List Nat := [0, 1, 2, 3, 4]

def k_impl_CompareWide_ic : IC := .seq (.reg [oV 2 (.box (.V 0)), oV 3 (.box (.V 1)), oV 4 (.mv (ki 0))]) (.seq (.regD [(oE 5 (.faddr 0 (.V 2)), 0, 0), (oE 6 (.load false 1 (.E 5)), 0, 0), (oE 7 (.faddr 1 (.V 2)), 0, 0), (oE 8 (.load false 1 (.E 7)), 0, 0), (oE 9 (.faddr 2 (.V 2)), 0, 0), (oE 10 (.load false 1 (.E 9)), 0, 0), (oE 11 (.call k_impl_wideOf [([0], (.E 6)), ([0], (.E 8)), ([0], (.E 10))]), 0, 0), (oE 12 (.faddr 0 (.V 3)), 1, 0), (oE 13 (.load false 1 (.E 12)), 1, 0), (oE 14 (.faddr 1 (.V 3)), 1, 0), (oE 15 (.load false 1 (.E 14)), 1, 0), (oE 16 (.faddr 2 (.V 3)), 1, 0), (oE 17 (.load false 1 (.E 16)), 1, 0), (oE 18 (.call k_impl_wideOf [([0], (.E 13)), ([0], (.E 15)), ([0], (.E 17))]), 0, 0), (oN (.store [0, 0, 0] (.V 2) (.E 11)), 0, 0), (oN (.store [0, 0, 0] (.V 3) (.E 18)), 0, 0)]) (.seq (.block 0 (.seq (.reg [oE 20 (.faddr 0 (.V 2)), oE 21 (.load false 1 (.E 20)), oE 22 (.mv (.E 21)), ⟨(some (.E 23)), .faddr 0 (.V 3), some ((.E 22), true)⟩, ⟨(some (.E 24)), .load false 1 (.E 23), some ((.E 22), true)⟩, ⟨(some (.E 25)), .un .not (.E 24), some ((.E 22), true)⟩, oE 26 (.pick (.E 22) (.E 25) (kb false)), oE 19 (.mv (.E 26))]) (.cond (.E 19) (.seq (.reg [oV 4 (.mv (ki (-1)))]) .ret) (.seq (.reg [oE 28 (.faddr 0 (.V 3)), oE 29 (.load false 1 (.E 28)), oE 30 (.mv (.E 29)), ⟨(some (.E 31)), .faddr 0 (.V 2), some ((.E 30), true)⟩, ⟨(some (.E 32)), .load false 1 (.E 31), some ((.E 30), true)⟩, ⟨(some (.E 33)), .un .not (.E 32), some ((.E 30), true)⟩, oE 34 (.pick (.E 30) (.E 33) (kb false)), oE 27 (.mv (.E 34))]) (.cond (.E 27) (.seq (.reg [oV 4 (.mv (ki 1))]) .ret) (.seq (.reg [oE 36 (.faddr 0 (.V 2)), oE 37 (.load false 1 (.E 36)), oE 35 (.mv (.E 37))]) (.cond (.E 35) (.seq (.reg [oE 38 (.load true 3 (.V 3)), oE 39 (.load true 3 (.V 2)), oE 40 (.call k_impl_compareSizes [([0, 0, 0], (.E 38)), ([0, 0, 0], (.E 39))]), oV 4 (.mv (.E 40))]) .ret) .skip))))))) (.seq (.reg [oE 41 (.load true 3 (.V 2)), oE 42 (.load true 3 (.V 3)), oE 43 (.call k_impl_compareSizes [([0, 0, 0], (.E 41)), ([0, 0, 0], (.E 42))]), oV 4 (.mv (.E 43))]) .ret)))

def k_impl_CompareWide_rv : List RV := [.tmp [0] 4]

def k_cmp_Or_int__vars : List Nat := [0, 8, 7, 6, 5, 3, 2]

def k_cmp_Or_int__b0 : IC := .seq (.reg [oE 9 (.bin .lss (.V 8) (.V 7))]) (.seq (.cond (.E 9) .skip (.exit 0)) (.seq (.block 1 (.seq (.reg [oE 10 (.iaddr 1 (.V 6) (.V 8)), oE 11 (.load false 1 (.E 10)), oV 5 (.mv (.E 11))]) (.seq (.reg [oE 12 (.mv (.V 5)), oE 13 (.mv (.V 3)), oE 14 (.bin .neq (.E 12) (.E 13))]) (.cond (.E 14) (.seq (.reg [oE 15 (.mv (.V 5)), oV 2 (.mv (.E 15))]) .ret) .skip)))) (.reg [oE 16 (.bin .add (.V 8) (ki 1)), oV 8 (.mv (.E 16))])))

def k_cmp_Or_int__ic : IC := .seq (.reg [oV 2 (.mv (ki 0))]) (.seq (.reg [oV 3 (.mv (ki 0))]) (.seq (.seq (.reg [oV 6 (.mv (.V 0)), oV 7 (.len (.V 6)), oV 8 (.mv (ki 0))]) (.block 0 (.loop k_cmp_Or_int__b0))) (.seq (.reg [oE 17 (.mv (.V 3)), oV 2 (.mv (.E 17))]) .ret)))

def k_cmp_Or_int__rv : List RV := [.tmp [0] 2]

def k_cmp_Compare_int__vars : List Nat := [0, 1, 5, 6, 4]

def k_cmp_Compare_int__ic : IC := .seq (.reg [oV 4 (.mv (ki 0))]) (.seq (.reg [oE 7 (.mv (.V 0)), oE 8 (.call k_cmp_isNaN_int_ [([0], (.E 7))]), oV 5 (.mv (.E 8))]) (.seq (.reg [oE 9 (.mv (.V 1)), oE 10 (.call k_cmp_isNaN_int_ [([0], (.E 9))]), oV 6 (.mv (.E 10))]) (.seq (.seq (.reg [oE 11 (.mv (.V 5))]) (.cond (.E 11) (.seq (.seq (.reg [oE 12 (.mv (.V 6))]) (.cond (.E 12) (.seq (.reg [oV 4 (.mv (ki 0))]) .ret) .skip)) (.seq (.reg [oV 4 (.mv (ki (-1)))]) .ret)) .skip)) (.seq (.seq (.reg [oE 13 (.mv (.V 6))]) (.cond (.E 13) (.seq (.reg [oV 4 (.mv (ki 1))]) .ret) .skip)) (.seq (.seq (.reg [oE 14 (.mv (.V 0)), oE 15 (.mv (.V 1)), oE 16 (.bin .lss (.E 14) (.E 15))]) (.cond (.E 16) (.seq (.reg [oV 4 (.mv (ki (-1)))]) .ret) .skip)) (.seq (.seq (.reg [oE 17 (.mv (.V 0)), oE 18 (.mv (.V 1)), oE 19 (.bin .gtr (.E 17) (.E 18))]) (.cond (.E 19) (.seq (.reg [oV 4 (.mv (ki 1))]) .ret) .skip)) (.seq (.reg [oV 4 (.mv (ki 0))]) .ret)))))))

def k_cmp_Compare_int__rv : List RV := [.tmp [0] 4]

def k_spec_SquareOver_vars : List Nat := [0, 1, 6, 4, 5]

def k_spec_SquareOver_ic : IC := .seq (.reg [oV 4 (.alloc [(.v (.bool false)), (.v (.int .u64 0)), (.v (.int .u64 0)), iv 0]), oV 5 (.mv (kb false))]) (.seq (.reg [oE 7 (.mv (.V 0)), oE 8 (.mv (.V 0)), oE 9 (.call k_spec_MulWide [([0], (.E 7)), ([0], (.E 8))]), oE 10 (.mv (.V 1)), oE 11 (.build [(.v (.bool false)), (.v (.int .u64 0)), (.v (.int .u64 0)), iv 0] [(0, 3, (.E 9)), (3, 1, (.E 10))]), oV 6 (.alloc [(.v (.bool false)), (.v (.int .u64 0)), (.v (.int .u64 0)), iv 0]), oN (.store [0, 0, 0, 0] (.V 6) (.E 11))]) (.seq (.seq (.reg [oE 12 (.load true 4 (.V 6)), oE 13 (.call k_spec_FracOk [([0, 0, 0, 0], (.E 12))]), oE 14 (.un .not (.E 13))]) (.cond (.E 14) (.seq (.reg [oE 15 (.build [(.v (.bool false)), (.v (.int .u64 0)), (.v (.int .u64 0)), iv 0] []), oN (.store [0, 0, 0, 0] (.V 4) (.E 15)), oV 5 (.mv (kb false))]) .ret) .skip)) (.seq (.reg [oE 16 (.load true 4 (.V 6)), oN (.store [0, 0, 0, 0] (.V 4) (.E 16)), oV 5 (.mv (kb true))]) .ret)))

def k_spec_SquareOver_rv : List RV := [.cell [0, 0, 0, 0] 4 true, .tmp [0] 5]

def k_spec_AddWide_vars : List Nat := [0, 1, 2, 3, 4, 6, 7, 8, 9, 5]

def k_spec_AddWide_ic : IC := .seq (.reg [oV 2 (.box (.V 0)), oV 3 (.box (.V 1)), oV 4 (.alloc [(.v (.bool false)), (.v (.int .u64 0)), (.v (.int .u64 0))]), oV 5 (.mv (kb false))]) (.seq (.seq (.reg [oE 10 (.load true 3 (.V 2)), oE 11 (.call k_spec_WideOk [([0, 0, 0], (.E 10))]), oE 12 (.un .not (.E 11)), oE 13 (.mv (.E 12)), ⟨(some (.E 14)), .load true 3 (.V 3), some ((.E 13), false)⟩, ⟨(some (.E 15)), .call k_spec_WideOk [([0, 0, 0], (.E 14))], some ((.E 13), false)⟩, ⟨(some (.E 16)), .un .not (.E 15), some ((.E 13), false)⟩, oE 17 (.pick (.E 13) (kb true) (.E 16))]) (.cond (.E 17) (.seq (.reg [oE 18 (.build [(.v (.bool false)), (.v (.int .u64 0)), (.v (.int .u64 0))] []), oN (.store [0, 0, 0] (.V 4) (.E 18)), oV 5 (.mv (kb false))]) .ret) .skip)) (.seq (.seq (.reg [oE 19 (.faddr 0 (.V 2)), oE 20 (.load false 1 (.E 19)), oE 21 (.faddr 0 (.V 3)), oE 22 (.load false 1 (.E 21)), oE 23 (.eqb false [.b] (.E 20) (.E 22))]) (.cond (.E 23) (.seq (.reg [oE 24 (.faddr 0 (.V 2)), oE 25 (.load false 1 (.E 24)), oE 26 (.faddr 1 (.V 2)), oE 27 (.load false 1 (.E 26)), oE 28 (.faddr 1 (.V 3)), oE 29 (.load false 1 (.E 28)), oE 30 (.bin .add (.E 27) (.E 29)), oE 31 (.faddr 2 (.V 2)), oE 32 (.load false 1 (.E 31)), oE 33 (.faddr 2 (.V 3)), oE 34 (.load false 1 (.E 33)), oE 35 (.bin .add (.E 32) (.E 34)), oE 36 (.build [(.v (.bool false)), (.v (.int .u64 0)), (.v (.int .u64 0))] [(0, 1, (.E 25)), (1, 1, (.E 30)), (2, 1, (.E 35))]), oV 6 (.alloc [(.v (.bool false)), (.v (.int .u64 0)), (.v (.int .u64 0))]), oN (.store [0, 0, 0] (.V 6) (.E 36))]) (.seq (.seq (.reg [oE 37 (.faddr 2 (.V 6)), oE 38 (.load false 1 (.E 37)), oE 39 (.faddr 2 (.V 2)), oE 40 (.load false 1 (.E 39)), oE 41 (.bin .lss (.E 38) (.E 40))]) (.cond (.E 41) (.reg [oE 42 (.faddr 1 (.V 6)), oE 43 (.load false 1 (.E 42)), oE 44 (.bin .add (.E 43) (.C (.v (.int .u64 1)))), oE 45 (.faddr 1 (.V 6)), oN (.store [0] (.E 45) (.E 44))]) .skip)) (.seq (.seq (.reg [oE 46 (.load true 3 (.V 6)), oE 47 (.call k_spec_WideOk [([0, 0, 0], (.E 46))]), oE 48 (.un .not (.E 47))]) (.cond (.E 48) (.seq (.reg [oE 49 (.build [(.v (.bool false)), (.v (.int .u64 0)), (.v (.int .u64 0))] []), oN (.store [0, 0, 0] (.V 4) (.E 49)), oV 5 (.mv (kb false))]) .ret) .skip)) (.seq (.reg [oE 50 (.load true 3 (.V 6)), oN (.store [0, 0, 0] (.V 4) (.E 50)), oV 5 (.mv (kb true))]) .ret)))) .skip)) (.seq (.reg [oE 51 (.load true 3 (.V 2)), oV 7 (.alloc [(.v (.bool false)), (.v (.int .u64 0)), (.v (.int .u64 0))]), oN (.store [0, 0, 0] (.V 7) (.E 51))]) (.seq (.reg [oE 52 (.load true 3 (.V 3)), oV 8 (.alloc [(.v (.bool false)), (.v (.int .u64 0)), (.v (.int .u64 0))]), oN (.store [0, 0, 0] (.V 8) (.E 52))]) (.seq (.seq (.reg [oE 53 (.load true 3 (.V 2)), oE 54 (.load true 3 (.V 3)), oE 55 (.call k_spec_l3Order [([0, 0, 0], (.E 53)), ([0, 0, 0], (.E 54))]), oE 56 (.bin .lss (.E 55) (ki 0))]) (.cond (.E 56) (.seq (.reg [oE 57 (.load true 3 (.V 3)), oN (.store [0, 0, 0] (.V 7) (.E 57))]) (.reg [oE 58 (.load true 3 (.V 2)), oN (.store [0, 0, 0] (.V 8) (.E 58))])) .skip)) (.seq (.reg [oE 59 (.faddr 0 (.V 7)), oE 60 (.load false 1 (.E 59)), oE 61 (.faddr 1 (.V 7)), oE 62 (.load false 1 (.E 61)), oE 63 (.faddr 1 (.V 8)), oE 64 (.load false 1 (.E 63)), oE 65 (.bin .sub (.E 62) (.E 64)), oE 66 (.faddr 2 (.V 7)), oE 67 (.load false 1 (.E 66)), oE 68 (.faddr 2 (.V 8)), oE 69 (.load false 1 (.E 68)), oE 70 (.bin .sub (.E 67) (.E 69)), oE 71 (.build [(.v (.bool false)), (.v (.int .u64 0)), (.v (.int .u64 0))] [(0, 1, (.E 60)), (1, 1, (.E 65)), (2, 1, (.E 70))]), oV 9 (.alloc [(.v (.bool false)), (.v (.int .u64 0)), (.v (.int .u64 0))]), oN (.store [0, 0, 0] (.V 9) (.E 71))]) (.seq (.seq (.reg [oE 72 (.faddr 2 (.V 7)), oE 73 (.load false 1 (.E 72)), oE 74 (.faddr 2 (.V 8)), oE 75 (.load false 1 (.E 74)), oE 76 (.bin .lss (.E 73) (.E 75))]) (.cond (.E 76) (.reg [oE 77 (.faddr 1 (.V 9)), oE 78 (.load false 1 (.E 77)), oE 79 (.bin .sub (.E 78) (.C (.v (.int .u64 1)))), oE 80 (.faddr 1 (.V 9)), oN (.store [0] (.E 80) (.E 79))]) .skip)) (.seq (.seq (.reg [oE 81 (.load true 3 (.V 9)), oE 82 (.call k_spec_l3Zero [([0, 0, 0], (.E 81))])]) (.cond (.E 82) (.reg [oE 83 (.faddr 0 (.V 9)), oN (.store [0] (.E 83) (kb false))]) .skip)) (.seq (.reg [oE 84 (.load true 3 (.V 9)), oN (.store [0, 0, 0] (.V 4) (.E 84)), oV 5 (.mv (kb true))]) .ret)))))))))

def k_spec_AddWide_rv : List RV := [.cell [0, 0, 0] 4 true, .tmp [0] 5]

def k_spec_FracOk_vars : List Nat := [0, 1, 2]

def k_spec_FracOk_ic : IC := .seq (.reg [oV 1 (.box (.V 0)), oV 2 (.mv (kb false))]) (.seq (.reg [oE 3 (.faddr 0 (.V 1)), oE 4 (.load true 3 (.E 3)), oE 5 (.call k_spec_WideOk [([0, 0, 0], (.E 4))]), oE 6 (.mv (.E 5)), ⟨(some (.E 7)), .faddr 3 (.V 1), some ((.E 6), true)⟩, ⟨(some (.E 8)), .load false 1 (.E 7), some ((.E 6), true)⟩, ⟨(some (.E 9)), .call k_spec_l1In [([0], (.E 8)), ([0], (ki 1)), ([0], (ki 1000000))], some ((.E 6), true)⟩, oE 10 (.pick (.E 6) (.E 9) (kb false)), oV 2 (.mv (.E 10))]) .ret)

def k_spec_FracOk_rv : List RV := [.tmp [0] 2]

def k_spec_ScaleWide_vars : List Nat := [0, 1, 2, 4, 6, 8, 9, 11, 10, 12, 7, 5]

def k_spec_ScaleWide_ic : IC := .seq (.reg [oV 2 (.box (.V 0)), oV 4 (.alloc [(.v (.bool false)), (.v (.int .u64 0)), (.v (.int .u64 0))]), oV 5 (.mv (kb false))]) (.seq (.seq (.reg [oE 13 (.load true 3 (.V 2)), oE 14 (.call k_spec_WideOk [([0, 0, 0], (.E 13))]), oE 15 (.un .not (.E 14))]) (.cond (.E 15) (.seq (.reg [oE 16 (.build [(.v (.bool false)), (.v (.int .u64 0)), (.v (.int .u64 0))] []), oN (.store [0, 0, 0] (.V 4) (.E 16)), oV 5 (.mv (kb false))]) .ret) .skip)) (.seq (.reg [oE 17 (.mv (.V 1)), oE 18 (.call k_spec_l3Abs [([0], (.E 17))]), oV 6 (.mv (.E 18))]) (.seq (.reg [oE 20 (.faddr 1 (.V 2)), oE 21 (.load false 1 (.E 20)), oE 22 (.mv (.V 6)), oE 23 (.call k_spec_l3Product [([0], (.E 21)), ([0], (.E 22))]), oE 19 (.mv (.E 23)), oE 24 (.ext 0 (.E 19)), oE 25 (.ext 1 (.E 19)), oV 7 (.mv (.E 24)), oV 8 (.mv (.E 25))]) (.seq (.reg [oE 27 (.faddr 2 (.V 2)), oE 28 (.load false 1 (.E 27)), oE 29 (.mv (.V 6)), oE 30 (.call k_spec_l3Product [([0], (.E 28)), ([0], (.E 29))]), oE 26 (.mv (.E 30)), oE 31 (.ext 0 (.E 26)), oE 32 (.ext 1 (.E 26)), oV 9 (.mv (.E 31)), oV 10 (.mv (.E 32))]) (.seq (.reg [oE 33 (.mv (.V 8)), oE 34 (.mv (.V 9)), oE 35 (.bin .add (.E 33) (.E 34)), oV 11 (.mv (.E 35))]) (.seq (.reg [oE 36 (.faddr 0 (.V 2)), oE 37 (.load false 1 (.E 36)), oE 38 (.mv (.V 1)), oE 39 (.bin .lss (.E 38) (ki 0)), oE 40 (.eqb true [.b] (.E 37) (.E 39)), oE 41 (.mv (.V 11)), oE 42 (.mv (.V 10)), oE 43 (.build [(.v (.bool false)), (.v (.int .u64 0)), (.v (.int .u64 0))] [(0, 1, (.E 40)), (1, 1, (.E 41)), (2, 1, (.E 42))]), oV 12 (.alloc [(.v (.bool false)), (.v (.int .u64 0)), (.v (.int .u64 0))]), oN (.store [0, 0, 0] (.V 12) (.E 43))]) (.seq (.seq (.reg [oE 44 (.load true 3 (.V 12)), oE 45 (.call k_spec_l3Zero [([0, 0, 0], (.E 44))])]) (.cond (.E 45) (.reg [oE 46 (.faddr 0 (.V 12)), oN (.store [0] (.E 46) (kb false))]) .skip)) (.seq (.seq (.reg [oE 47 (.mv (.V 7)), oE 48 (.bin .gtr (.E 47) (.C (.v (.int .u64 0)))), oE 49 (.mv (.E 48)), ⟨(some (.E 50)), .mv (.V 11), some ((.E 49), false)⟩, ⟨(some (.E 51)), .mv (.V 8), some ((.E 49), false)⟩, ⟨(some (.E 52)), .bin .lss (.E 50) (.E 51), some ((.E 49), false)⟩, oE 53 (.pick (.E 49) (kb true) (.E 52)), oE 54 (.mv (.E 53)), ⟨(some (.E 55)), .load true 3 (.V 12), some ((.E 54), false)⟩, ⟨(some (.E 56)), .call k_spec_WideOk [([0, 0, 0], (.E 55))], some ((.E 54), false)⟩, ⟨(some (.E 57)), .un .not (.E 56), some ((.E 54), false)⟩, oE 58 (.pick (.E 54) (kb true) (.E 57))]) (.cond (.E 58) (.seq (.reg [oE 59 (.build [(.v (.bool false)), (.v (.int .u64 0)), (.v (.int .u64 0))] []), oN (.store [0, 0, 0] (.V 4) (.E 59)), oV 5 (.mv (kb false))]) .ret) .skip)) (.seq (.reg [oE 60 (.load true 3 (.V 12)), oN (.store [0, 0, 0] (.V 4) (.E 60)), oV 5 (.mv (kb true))]) .ret)))))))))

def k_spec_ScaleWide_rv : List RV := [.cell [0, 0, 0] 4 true, .tmp [0] 5]

def k_spec_l3Zero_vars : List Nat := [0, 1, 2]

def k_spec_l3Zero_ic : IC := .seq (.reg [oV 1 (.box (.V 0)), oV 2 (.mv (kb false))]) (.seq (.reg [oE 3 (.faddr 1 (.V 1)), oE 4 (.load false 1 (.E 3)), oE 5 (.bin .eql (.E 4) (.C (.v (.int .u64 0)))), oE 6 (.mv (.E 5)), ⟨(some (.E 7)), .faddr 2 (.V 1), some ((.E 6), true)⟩, ⟨(some (.E 8)), .load false 1 (.E 7), some ((.E 6), true)⟩, ⟨(some (.E 9)), .bin .eql (.E 8) (.C (.v (.int .u64 0))), some ((.E 6), true)⟩, oE 10 (.pick (.E 6) (.E 9) (kb false)), oV 2 (.mv (.E 10))]) .ret)

def k_spec_l3Zero_rv : List RV := [.tmp [0] 2]

def k_spec_l3Order_vars : List Nat := [0, 1, 2, 3, 4]

def k_spec_l3Order_ic : IC := .seq (.reg [oV 2 (.box (.V 0)), oV 3 (.box (.V 1)), oV 4 (.mv (ki 0))]) (.seq (.block 0 (.seq (.reg [oE 6 (.faddr 1 (.V 2)), oE 7 (.load false 1 (.E 6)), oE 8 (.faddr 1 (.V 3)), oE 9 (.load false 1 (.E 8)), oE 10 (.bin .lss (.E 7) (.E 9)), oE 11 (.mv (.E 10)), ⟨(some (.E 12)), .faddr 1 (.V 2), some ((.E 11), false)⟩, ⟨(some (.E 13)), .load false 1 (.E 12), some ((.E 11), false)⟩, ⟨(some (.E 14)), .faddr 1 (.V 3), some ((.E 11), false)⟩, ⟨(some (.E 15)), .load false 1 (.E 14), some ((.E 11), false)⟩, ⟨(some (.E 16)), .bin .eql (.E 13) (.E 15), some ((.E 11), false)⟩, ⟨(some (.E 17)), .mv (.E 16), some ((.E 11), false)⟩, ⟨(some (.E 18)), .faddr 2 (.V 2), some ((.E 17), true)⟩, ⟨(some (.E 19)), .load false 1 (.E 18), some ((.E 17), true)⟩, ⟨(some (.E 20)), .faddr 2 (.V 3), some ((.E 17), true)⟩, ⟨(some (.E 21)), .load false 1 (.E 20), some ((.E 17), true)⟩, ⟨(some (.E 22)), .bin .lss (.E 19) (.E 21), some ((.E 17), true)⟩, ⟨(some (.E 23)), .pick (.E 17) (.E 22) (kb false), some ((.E 11), false)⟩, oE 24 (.pick (.E 11) (kb true) (.E 23)), oE 5 (.mv (.E 24))]) (.cond (.E 5) (.seq (.reg [oV 4 (.mv (ki (-1)))]) .ret) (.seq (.reg [oE 26 (.faddr 1 (.V 2)), oE 27 (.load false 1 (.E 26)), oE 28 (.faddr 1 (.V 3)), oE 29 (.load false 1 (.E 28)), oE 30 (.bin .gtr (.E 27) (.E 29)), oE 31 (.mv (.E 30)), ⟨(some (.E 32)), .faddr 2 (.V 2), some ((.E 31), false)⟩, ⟨(some (.E 33)), .load false 1 (.E 32), some ((.E 31), false)⟩, ⟨(some (.E 34)), .faddr 2 (.V 3), some ((.E 31), false)⟩, ⟨(some (.E 35)), .load false 1 (.E 34), some ((.E 31), false)⟩, ⟨(some (.E 36)), .bin .gtr (.E 33) (.E 35), some ((.E 31), false)⟩, oE 37 (.pick (.E 31) (kb true) (.E 36)), oE 25 (.mv (.E 37))]) (.cond (.E 25) (.seq (.reg [oV 4 (.mv (ki 1))]) .ret) .skip))))) (.seq (.reg [oV 4 (.mv (ki 0))]) .ret))

def k_spec_l3Order_rv : List RV := [.tmp [0] 4]

def k_spec_AddInt_vars : List Nat := [0, 1, 4, 5]

def k_spec_AddInt_ic : IC := .seq (.reg [oV 4 (.mv (ki 0)), oV 5 (.mv (kb false))]) (.seq (.seq (.reg [oE 6 (.mv (.V 1)), oE 7 (.bin .gtr (.E 6) (ki 0)), oE 8 (.mv (.E 7)), ⟨(some (.E 9)), .mv (.V 0), some ((.E 8), true)⟩, ⟨(some (.E 10)), .mv (.V 1), some ((.E 8), true)⟩, ⟨(some (.E 11)), .bin .sub (ki 9223372036854775807) (.E 10), some ((.E 8), true)⟩, ⟨(some (.E 12)), .bin .gtr (.E 9) (.E 11), some ((.E 8), true)⟩, oE 13 (.pick (.E 8) (.E 12) (kb false)), oE 14 (.mv (.E 13)), ⟨(some (.E 15)), .mv (.V 1), some ((.E 14), false)⟩, ⟨(some (.E 16)), .bin .lss (.E 15) (ki 0), some ((.E 14), false)⟩, ⟨(some (.E 17)), .mv (.E 16), some ((.E 14), false)⟩, ⟨(some (.E 18)), .mv (.V 0), some ((.E 17), true)⟩, ⟨(some (.E 19)), .mv (.V 1), some ((.E 17), true)⟩, ⟨(some (.E 20)), .bin .sub (ki (-9223372036854775808)) (.E 19), some ((.E 17), true)⟩, ⟨(some (.E 21)), .bin .lss (.E 18) (.E 20), some ((.E 17), true)⟩, ⟨(some (.E 22)), .pick (.E 17) (.E 21) (kb false), some ((.E 14), false)⟩, oE 23 (.pick (.E 14) (kb true) (.E 22))]) (.cond (.E 23) (.seq (.reg [oV 4 (.mv (ki 0)), oV 5 (.mv (kb false))]) .ret) .skip)) (.seq (.reg [oE 24 (.mv (.V 0)), oE 25 (.mv (.V 1)), oE 26 (.bin .add (.E 24) (.E 25)), oV 4 (.mv (.E 26)), oV 5 (.mv (kb true))]) .ret))

def k_spec_AddInt_rv : List RV := [.tmp [0] 4, .tmp [0] 5]

def k_spec_FloorDiv_vars : List Nat := [0, 1, 6, 4, 5]

def k_spec_FloorDiv_ic : IC := .seq (.reg [oV 4 (.mv (ki 0)), oV 5 (.mv (kb false))]) (.seq (.seq (.reg [oE 7 (.mv (.V 1)), oE 8 (.bin .eql (.E 7) (ki 0)), oE 9 (.mv (.E 8)), ⟨(some (.E 10)), .mv (.V 1), some ((.E 9), false)⟩, ⟨(some (.E 11)), .bin .eql (.E 10) (ki (-1)), some ((.E 9), false)⟩, ⟨(some (.E 12)), .mv (.E 11), some ((.E 9), false)⟩, ⟨(some (.E 13)), .mv (.V 0), some ((.E 12), true)⟩, ⟨(some (.E 14)), .bin .eql (.E 13) (ki (-9223372036854775808)), some ((.E 12), true)⟩, ⟨(some (.E 15)), .pick (.E 12) (.E 14) (kb false), some ((.E 9), false)⟩, oE 16 (.pick (.E 9) (kb true) (.E 15))]) (.cond (.E 16) (.seq (.reg [oV 4 (.mv (ki 0)), oV 5 (.mv (kb false))]) .ret) .skip)) (.seq (.reg [oE 17 (.mv (.V 0)), oE 18 (.mv (.V 1)), oE 19 (.bin .quo (.E 17) (.E 18)), oV 6 (.mv (.E 19))]) (.seq (.seq (.reg [oE 20 (.mv (.V 0)), oE 21 (.mv (.V 1)), oE 22 (.bin .rem (.E 20) (.E 21)), oE 23 (.bin .neq (.E 22) (ki 0)), oE 24 (.mv (.E 23)), ⟨(some (.E 25)), .mv (.V 0), some ((.E 24), true)⟩, ⟨(some (.E 26)), .bin .lss (.E 25) (ki 0), some ((.E 24), true)⟩, ⟨(some (.E 27)), .mv (.V 1), some ((.E 24), true)⟩, ⟨(some (.E 28)), .bin .lss (.E 27) (ki 0), some ((.E 24), true)⟩, ⟨(some (.E 29)), .eqb true [.b] (.E 26) (.E 28), some ((.E 24), true)⟩, oE 30 (.pick (.E 24) (.E 29) (kb false))]) (.cond (.E 30) (.reg [oE 31 (.mv (.V 6)), oE 32 (.bin .sub (.E 31) (ki 1)), oV 6 (.mv (.E 32))]) .skip)) (.seq (.reg [oE 33 (.mv (.V 6)), oV 4 (.mv (.E 33)), oV 5 (.mv (kb true))]) .ret))))

def k_spec_FloorDiv_rv : List RV := [.tmp [0] 4, .tmp [0] 5]

def k_impl_AddInt_vars : List Nat := [0, 1, 6, 4, 5]

def k_impl_AddInt_ic : IC := .seq (.reg [oV 4 (.mv (ki 0)), oV 5 (.mv (kb false))]) (.seq (.reg [oE 7 (.mv (.V 0)), oE 8 (.mv (.V 1)), oE 9 (.bin .add (.E 7) (.E 8)), oV 6 (.mv (.E 9))]) (.seq (.seq (.reg [oE 10 (.mv (.V 0)), oE 11 (.bin .lss (.E 10) (ki 0)), oE 12 (.mv (.V 1)), oE 13 (.bin .lss (.E 12) (ki 0)), oE 14 (.eqb false [.b] (.E 11) (.E 13)), oE 15 (.mv (.E 14)), ⟨(some (.E 16)), .mv (.V 6), some ((.E 15), true)⟩, ⟨(some (.E 17)), .bin .lss (.E 16) (ki 0), some ((.E 15), true)⟩, ⟨(some (.E 18)), .mv (.V 0), some ((.E 15), true)⟩, ⟨(some (.E 19)), .bin .lss (.E 18) (ki 0), some ((.E 15), true)⟩, ⟨(some (.E 20)), .eqb true [.b] (.E 17) (.E 19), some ((.E 15), true)⟩, oE 21 (.pick (.E 15) (.E 20) (kb false))]) (.cond (.E 21) (.seq (.reg [oV 4 (.mv (ki 0)), oV 5 (.mv (kb false))]) .ret) .skip)) (.seq (.reg [oE 22 (.mv (.V 6)), oV 4 (.mv (.E 22)), oV 5 (.mv (kb true))]) .ret)))

def k_impl_AddInt_rv : List RV := [.tmp [0] 4, .tmp [0] 5]

def k_impl_FloorDiv_vars : List Nat := [0, 1, 6, 4, 5]

def k_impl_FloorDiv_ic : IC := .seq (.reg [oV 4 (.mv (ki 0)), oV 5 (.mv (kb false))]) (.seq (.seq (.reg [oE 7 (.mv (.V 1)), oE 8 (.bin .eql (.E 7) (ki 0)), oE 9 (.mv (.E 8)), ⟨(some (.E 10)), .mv (.V 0), some ((.E 9), false)⟩, ⟨(some (.E 11)), .bin .eql (.E 10) (ki (-9223372036854775808)), some ((.E 9), false)⟩, ⟨(some (.E 12)), .mv (.E 11), some ((.E 9), false)⟩, ⟨(some (.E 13)), .mv (.V 1), some ((.E 12), true)⟩, ⟨(some (.E 14)), .bin .eql (.E 13) (ki (-1)), some ((.E 12), true)⟩, ⟨(some (.E 15)), .pick (.E 12) (.E 14) (kb false), some ((.E 9), false)⟩, oE 16 (.pick (.E 9) (kb true) (.E 15))]) (.cond (.E 16) (.seq (.reg [oV 4 (.mv (ki 0)), oV 5 (.mv (kb false))]) .ret) .skip)) (.seq (.reg [oE 17 (.mv (.V 0)), oE 18 (.mv (.V 1)), oE 19 (.bin .quo (.E 17) (.E 18)), oV 6 (.mv (.E 19))]) (.seq (.seq (.reg [oE 20 (.mv (.V 0)), oE 21 (.mv (.V 1)), oE 22 (.bin .rem (.E 20) (.E 21)), oE 23 (.bin .neq (.E 22) (ki 0)), oE 24 (.mv (.E 23)), ⟨(some (.E 25)), .mv (.V 0), some ((.E 24), true)⟩, ⟨(some (.E 26)), .bin .lss (.E 25) (ki 0), some ((.E 24), true)⟩, ⟨(some (.E 27)), .mv (.V 1), some ((.E 24), true)⟩, ⟨(some (.E 28)), .bin .lss (.E 27) (ki 0), some ((.E 24), true)⟩, ⟨(some (.E 29)), .eqb true [.b] (.E 26) (.E 28), some ((.E 24), true)⟩, oE 30 (.pick (.E 24) (.E 29) (kb false))]) (.cond (.E 30) (.reg [oE 31 (.mv (.V 6)), oE 32 (.bin .sub (.E 31) (ki 1)), oV 6 (.mv (.E 32))]) .skip)) (.seq (.reg [oE 33 (.mv (.V 6)), oV 4 (.mv (.E 33)), oV 5 (.mv (kb true))]) .ret))))

def k_impl_FloorDiv_rv : List RV := [.tmp [0] 4, .tmp [0] 5]

def k_spec_Prefix_vars : List Nat := [0, 6, 5, 8, 7, 4, 2, 3]

def k_spec_Prefix_b0 : IC := .seq (.seq (.reg [oE 11 (.mv (.V 6)), oE 12 (.mv (.V 0)), oE 13 (.len (.E 12)), oE 14 (.bin .lss (.E 11) (.E 13))]) (.cond (.E 14) .skip (.exit 0))) (.seq (.block 1 (.seq (.regD [(oE 18 (.load true 2 (.V 5)), 0, 0), (oE 19 (.mv (.V 0)), 0, 0), (oE 20 (.mv (.V 6)), 0, 0), (oE 21 (.iaddr 2 (.E 19) (.E 20)), 0, 0), (oE 22 (.load true 2 (.E 21)), 0, 0), (oE 23 (.call k_spec_l13Add [([0, 0], (.E 18)), ([0, 0], (.E 22))]), 0, 0), (oE 17 (.mv (.E 23)), 0, 0), (oE 24 (.ext 0 (.E 17)), 0, 0), (oE 25 (.ext 1 (.E 17)), 0, 0), (oV 7 (.allocL [iv 0, iv 0]), 0, 0), (oN (.store [0, 0] (.V 7) (.E 24)), 0, 0), (oV 8 (.mv (.E 25)), 0, 0)]) (.seq (.seq (.reg [oE 26 (.mv (.V 8)), oE 27 (.un .not (.E 26))]) (.cond (.E 27) (.seq (.reg [oE 28 (.bslice 0 2 [iv 0, iv 0] []), oV 2 (.mv (.E 28)), oV 3 (.mv (kb false))]) .ret) .skip)) (.seq (.reg [oE 29 (.load true 2 (.V 7)), oN (.store [0, 0] (.V 5) (.E 29))]) (.reg [oE 30 (.mv (.V 4)), oE 31 (.load true 2 (.V 5)), oE 32 (.bslice 1 2 [iv 0, iv 0] [(0, (.E 31))]), oE 33 (.app 16 2 (.E 30) (.E 32)), oV 4 (.mv (.E 33))]))))) (.reg [oE 15 (.mv (.V 6)), oE 16 (.bin .add (.E 15) (ki 1)), oV 6 (.mv (.E 16))]))

def k_spec_Prefix_ic : IC := .seq (.reg [oV 2 (.mv (.C .e0)), oV 3 (.mv (kb false))]) (.seq (.reg [oE 9 (.bslice 0 2 [iv 0, iv 0] []), oV 4 (.mv (.E 9))]) (.seq (.reg [oE 10 (.build [iv 0, iv 0] []), oV 5 (.alloc [iv 0, iv 0]), oN (.store [0, 0] (.V 5) (.E 10))]) (.seq (.seq (.reg [oV 6 (.mv (ki 0))]) (.block 0 (.loop k_spec_Prefix_b0))) (.seq (.reg [oE 34 (.mv (.V 4)), oV 2 (.mv (.E 34)), oV 3 (.mv (kb true))]) .ret))))

def k_spec_Prefix_rv : List RV := [.tmp [2] 2, .tmp [0] 3]

def k_spec_SubInt_vars : List Nat := [0, 1, 4, 5]

def k_spec_SubInt_ic : IC := .seq (.reg [oV 4 (.mv (ki 0)), oV 5 (.mv (kb false))]) (.seq (.seq (.reg [oE 6 (.mv (.V 1)), oE 7 (.bin .lss (.E 6) (ki 0)), oE 8 (.mv (.E 7)), ⟨(some (.E 9)), .mv (.V 0), some ((.E 8), true)⟩, ⟨(some (.E 10)), .mv (.V 1), some ((.E 8), true)⟩, ⟨(some (.E 11)), .bin .add (ki 9223372036854775807) (.E 10), some ((.E 8), true)⟩, ⟨(some (.E 12)), .bin .gtr (.E 9) (.E 11), some ((.E 8), true)⟩, oE 13 (.pick (.E 8) (.E 12) (kb false)), oE 14 (.mv (.E 13)), ⟨(some (.E 15)), .mv (.V 1), some ((.E 14), false)⟩, ⟨(some (.E 16)), .bin .gtr (.E 15) (ki 0), some ((.E 14), false)⟩, ⟨(some (.E 17)), .mv (.E 16), some ((.E 14), false)⟩, ⟨(some (.E 18)), .mv (.V 0), some ((.E 17), true)⟩, ⟨(some (.E 19)), .mv (.V 1), some ((.E 17), true)⟩, ⟨(some (.E 20)), .bin .add (ki (-9223372036854775808)) (.E 19), some ((.E 17), true)⟩, ⟨(some (.E 21)), .bin .lss (.E 18) (.E 20), some ((.E 17), true)⟩, ⟨(some (.E 22)), .pick (.E 17) (.E 21) (kb false), some ((.E 14), false)⟩, oE 23 (.pick (.E 14) (kb true) (.E 22))]) (.cond (.E 23) (.seq (.reg [oV 4 (.mv (ki 0)), oV 5 (.mv (kb false))]) .ret) .skip)) (.seq (.reg [oE 24 (.mv (.V 0)), oE 25 (.mv (.V 1)), oE 26 (.bin .sub (.E 24) (.E 25)), oV 4 (.mv (.E 26)), oV 5 (.mv (kb true))]) .ret))

def k_spec_SubInt_rv : List RV := [.tmp [0] 4, .tmp [0] 5]

def k_spec_BoundOk_vars : List Nat := [0, 1, 2]

def k_spec_BoundOk_ic : IC := .seq (.reg [oV 1 (.box (.V 0)), oV 2 (.mv (kb false))]) (.seq (.reg [oE 3 (.faddr 0 (.V 1)), oE 4 (.load false 1 (.E 3)), oE 5 (.faddr 1 (.V 1)), oE 6 (.load false 1 (.E 5)), oE 7 (.bin .leq (.E 4) (.E 6)), oE 8 (.mv (.E 7)), ⟨(some (.E 9)), .faddr 0 (.V 1), some ((.E 8), true)⟩, ⟨(some (.E 10)), .load false 1 (.E 9), some ((.E 8), true)⟩, ⟨(some (.E 11)), .call k_spec_l14Leaf [([0], (.E 10))], some ((.E 8), true)⟩, oE 12 (.pick (.E 8) (.E 11) (kb false)), oE 13 (.mv (.E 12)), ⟨(some (.E 14)), .faddr 1 (.V 1), some ((.E 13), true)⟩, ⟨(some (.E 15)), .load false 1 (.E 14), some ((.E 13), true)⟩, ⟨(some (.E 16)), .call k_spec_l14Leaf [([0], (.E 15))], some ((.E 13), true)⟩, oE 17 (.pick (.E 13) (.E 16) (kb false)), oV 2 (.mv (.E 17))]) .ret)

def k_spec_BoundOk_rv : List RV := [.tmp [0] 2]

def k_spec_Brought_vars : List Nat := [0, 1, 2, 6]

def k_spec_Brought_ic : IC := .seq (.reg [oV 6 (.mv (ki 0))]) (.seq (.seq (.reg [oE 7 (.mv (.V 0)), oE 8 (.mv (.V 1)), oE 9 (.bin .lss (.E 7) (.E 8))]) (.cond (.E 9) (.seq (.reg [oE 10 (.mv (.V 1)), oV 6 (.mv (.E 10))]) .ret) .skip)) (.seq (.seq (.reg [oE 11 (.mv (.V 0)), oE 12 (.mv (.V 2)), oE 13 (.bin .gtr (.E 11) (.E 12))]) (.cond (.E 13) (.seq (.reg [oE 14 (.mv (.V 2)), oV 6 (.mv (.E 14))]) .ret) .skip)) (.seq (.reg [oE 15 (.mv (.V 0)), oV 6 (.mv (.E 15))]) .ret)))

def k_spec_Brought_rv : List RV := [.tmp [0] 6]

def k_impl_isCount_vars : List Nat := [0, 1, 4]

def k_impl_isCount_ic : IC := .seq (.reg [oV 4 (.mv (kb false))]) (.seq (.reg [oE 5 (.mv (.V 0)), oE 6 (.call k_impl_within [([0], (.E 5)), ([0], (ki 0)), ([0], (ki 40))]), oE 7 (.mv (.E 6)), ⟨(some (.E 8)), .mv (.V 1), some ((.E 7), true)⟩, ⟨(some (.E 9)), .call k_impl_within [([0], (.E 8)), ([0], (ki 1)), ([0], (ki 100))], some ((.E 7), true)⟩, oE 10 (.pick (.E 7) (.E 9) (kb false)), oV 4 (.mv (.E 10))]) .ret)

def k_impl_isCount_rv : List RV := [.tmp [0] 4]

def k_impl_BoundOk_vars : List Nat := [0, 1, 2]

def k_impl_BoundOk_ic : IC := .seq (.reg [oV 1 (.box (.V 0)), oV 2 (.mv (kb false))]) (.seq (.reg [oE 3 (.faddr 0 (.V 1)), oE 4 (.load false 1 (.E 3)), oE 5 (.faddr 1 (.V 1)), oE 6 (.load false 1 (.E 5)), oE 7 (.bin .leq (.E 4) (.E 6)), oE 8 (.mv (.E 7)), ⟨(some (.E 9)), .faddr 0 (.V 1), some ((.E 8), true)⟩, ⟨(some (.E 10)), .load false 1 (.E 9), some ((.E 8), true)⟩, ⟨(some (.E 11)), .call k_impl_isLeafValue [([0], (.E 10))], some ((.E 8), true)⟩, oE 12 (.pick (.E 8) (.E 11) (kb false)), oE 13 (.mv (.E 12)), ⟨(some (.E 14)), .faddr 1 (.V 1), some ((.E 13), true)⟩, ⟨(some (.E 15)), .load false 1 (.E 14), some ((.E 13), true)⟩, ⟨(some (.E 16)), .call k_impl_isLeafValue [([0], (.E 15))], some ((.E 13), true)⟩, oE 17 (.pick (.E 13) (.E 16) (kb false)), oV 2 (.mv (.E 17))]) .ret)

def k_impl_BoundOk_rv : List RV := [.tmp [0] 2]

def k_impl_Brought_vars : List Nat := [0, 1, 2, 6]

def k_impl_Brought_ic : IC := .seq (.reg [oV 6 (.mv (ki 0))]) (.seq (.block 0 (.seq (.reg [oE 8 (.mv (.V 0)), oE 9 (.mv (.V 1)), oE 10 (.bin .lss (.E 8) (.E 9)), oE 7 (.mv (.E 10))]) (.cond (.E 7) (.seq (.reg [oE 11 (.mv (.V 1)), oV 6 (.mv (.E 11))]) .ret) (.seq (.reg [oE 13 (.mv (.V 0)), oE 14 (.mv (.V 2)), oE 15 (.bin .gtr (.E 13) (.E 14)), oE 12 (.mv (.E 15))]) (.cond (.E 12) (.seq (.reg [oE 16 (.mv (.V 2)), oV 6 (.mv (.E 16))]) .ret) .skip))))) (.seq (.reg [oE 17 (.mv (.V 0)), oV 6 (.mv (.E 17))]) .ret))

def k_impl_Brought_rv : List RV := [.tmp [0] 6]

def k_spec_l1Byte_vars : List Nat := [0, 3, 2]

def k_spec_l1Byte_ic : IC := .seq (.reg [oV 2 (.mv (ki 0))]) (.seq (.reg [oE 4 (.mv (.V 0)), oE 5 (.mv (.V 0)), oE 6 (.nilc (.E 5)), oE 7 (.faddr 2 (.E 6)), oE 8 (.load false 1 (.E 7)), oE 9 (.bin .mul (.E 8) (ki 6364136223846793005)), oE 10 (.bin .add (.E 9) (ki 1442695040888963407)), oE 11 (.nilc (.E 4)), oE 12 (.faddr 2 (.E 11)), oN (.store [0] (.E 12) (.E 10))]) (.seq (.regD [(oE 13 (.mv (.V 0)), 0, 0), (oE 14 (.nilc (.E 13)), 0, 0), (oE 15 (.faddr 2 (.E 14)), 0, 0), (oE 16 (.load false 1 (.E 15)), 0, 0), (oE 17 (.bin .shr (.E 16) (.C (.v (.int .u64 33)))), 0, 0), (oE 18 (.mv (.V 0)), 0, 0), (oE 19 (.nilc (.E 18)), 0, 0), (oE 20 (.faddr 2 (.E 19)), 0, 0), (oE 21 (.load false 1 (.E 20)), 0, 0), (oE 22 (.bin .shr (.E 21) (.C (.v (.int .u64 45)))), 0, 0), (oE 23 (.bin .xor (.E 17) (.E 22)), 0, 0), (oE 24 (.bin .and (.E 23) (ki 255)), 0, 0), (oV 3 (.mv (.E 24)), 0, 0)]) (.seq (.seq (.regD [(oE 25 (.mv (.V 0)), 0, 0), (oE 26 (.nilc (.E 25)), 0, 0), (oE 27 (.faddr 1 (.E 26)), 0, 0), (oE 28 (.load false 1 (.E 27)), 0, 0), (oE 29 (.mv (.V 0)), 0, 0), (oE 30 (.nilc (.E 29)), 0, 0), (oE 31 (.faddr 0 (.E 30)), 0, 0), (oE 32 (.load false 1 (.E 31)), 0, 0), (oE 33 (.len (.E 32)), 0, 0), (oE 34 (.bin .lss (.E 28) (.E 33)), 0, 0)]) (.cond (.E 34) (.seq (.regD [(oE 35 (.mv (.V 3)), 0, 0), (oE 36 (.mv (.V 0)), 0, 0), (oE 37 (.nilc (.E 36)), 0, 0), (oE 38 (.faddr 0 (.E 37)), 0, 0), (oE 39 (.load false 1 (.E 38)), 0, 0), (oE 40 (.mv (.V 0)), 0, 0), (oE 41 (.nilc (.E 40)), 0, 0), (oE 42 (.faddr 1 (.E 41)), 0, 0), (oE 43 (.load false 1 (.E 42)), 0, 0), (oE 44 (.iaddr 1 (.E 39) (.E 43)), 0, 0), (oE 45 (.load false 1 (.E 44)), 0, 0), (oE 46 (.convI .i64 (.E 45)), 0, 0), (oE 47 (.bin .add (.E 35) (.E 46)), 0, 0), (oE 48 (.bin .and (.E 47) (ki 255)), 0, 0), (oV 3 (.mv (.E 48)), 0, 0)]) (.reg [oE 49 (.mv (.V 0)), oE 50 (.mv (.V 0)), oE 51 (.nilc (.E 50)), oE 52 (.faddr 1 (.E 51)), oE 53 (.load false 1 (.E 52)), oE 54 (.bin .add (.E 53) (ki 1)), oE 55 (.nilc (.E 49)), oE 56 (.faddr 1 (.E 55)), oN (.store [0] (.E 56) (.E 54))])) .skip)) (.seq (.reg [oE 57 (.mv (.V 3)), oV 2 (.mv (.E 57))]) .ret))))

def k_spec_l1Byte_rv : List RV := [.tmp [0] 2]

def k_spec_l14Slot_vars : List Nat := [0, 2]

def k_spec_l14Slot_ic : IC := .seq (.reg [oV 2 (.alloc [iv 0, iv 0])]) (.seq (.seq (.reg [oE 3 (.mv (.V 0)), oE 4 (.call k_spec_l1Once [([0], (.E 3)), ([0], (ki 10))])]) (.cond (.E 4) (.seq (.reg [oE 5 (.mv (.V 0)), oE 6 (.bslice 5 1 [iv 0] [(0, (ki 0)), (1, (ki 40)), (2, (ki 41)), (3, (ki (-1))), (4, (ki 9223372036854775807))]), oE 7 (.call k_spec_l1PickInt [([0], (.E 5)), ([1], (.E 6))]), oE 8 (.mv (.V 0)), oE 9 (.call k_spec_l1Whole [([0], (.E 8))]), oE 10 (.build [iv 0, iv 0] [(0, 1, (.E 7)), (1, 1, (.E 9))]), oN (.store [0, 0] (.V 2) (.E 10))]) .ret) .skip)) (.seq (.reg [oE 11 (.mv (.V 0)), oE 12 (.call k_spec_l1Below [([0], (.E 11)), ([0], (ki 12))]), oE 13 (.mv (.V 0)), oE 14 (.call k_spec_l1Below [([0], (.E 13)), ([0], (ki 8001))]), oE 15 (.bin .sub (.E 14) (ki 4000)), oE 16 (.build [iv 0, iv 0] [(0, 1, (.E 12)), (1, 1, (.E 15))]), oN (.store [0, 0] (.V 2) (.E 16))]) .ret))

def k_spec_l14Slot_rv : List RV := [.cell [0, 0] 2 true]

def k_slices_IndexFunc___int_int__vars : List Nat := [0, 1, 8, 7, 5, 4]

def k_slices_IndexFunc___int_int__b0 : IC := .seq (.reg [oE 9 (.bin .lss (.V 8) (.V 7))]) (.seq (.cond (.E 9) .skip (.exit 0)) (.seq (.block 1 (.seq (.reg [oE 10 (.mv (.V 8)), oV 5 (.mv (.E 10))]) (.seq (.reg [oE 11 (.mv (.V 1)), oE 12 (.mv (.V 0)), oE 13 (.mv (.V 5)), oE 14 (.iaddr 1 (.E 12) (.E 13)), oE 15 (.load false 1 (.E 14)), oE 16 (.callv (.E 11) [([0], (.E 15))])]) (.cond (.E 16) (.seq (.reg [oE 17 (.mv (.V 5)), oV 4 (.mv (.E 17))]) .ret) .skip)))) (.reg [oE 18 (.bin .add (.V 8) (ki 1)), oV 8 (.mv (.E 18))])))

def k_slices_IndexFunc___int_int__ic : IC := .seq (.reg [oV 4 (.mv (ki 0))]) (.seq (.seq (.reg [oE 6 (.mv (.V 0)), oV 7 (.len (.E 6)), oV 8 (.mv (ki 0))]) (.block 0 (.loop k_slices_IndexFunc___int_int__b0))) (.seq (.reg [oV 4 (.mv (ki (-1)))]) .ret))

def k_slices_IndexFunc___int_int__rv : List RV := [.tmp [0] 4]

def k__impl_Slot__plus_vars : List Nat := [0, 1, 2, 3, 7, 9, 4, 6, 8, 5]

def k__impl_Slot__plus_ic : IC := .seq (.reg [oV 2 (.box (.V 0)), oV 3 (.box (.V 1)), oV 4 (.alloc [iv 0, iv 0]), oV 5 (.mv (kb false))]) (.seq (.reg [oE 11 (.faddr 0 (.V 2)), oE 12 (.load false 1 (.E 11)), oE 13 (.faddr 0 (.V 3)), oE 14 (.load false 1 (.E 13)), oE 15 (.call k_impl_AddInt [([0], (.E 12)), ([0], (.E 14))]), oE 10 (.mv (.E 15)), oE 16 (.ext 0 (.E 10)), oE 17 (.ext 1 (.E 10)), oV 6 (.mv (.E 16)), oV 7 (.mv (.E 17))]) (.seq (.reg [oE 19 (.faddr 1 (.V 2)), oE 20 (.load false 1 (.E 19)), oE 21 (.faddr 1 (.V 3)), oE 22 (.load false 1 (.E 21)), oE 23 (.call k_impl_AddInt [([0], (.E 20)), ([0], (.E 22))]), oE 18 (.mv (.E 23)), oE 24 (.ext 0 (.E 18)), oE 25 (.ext 1 (.E 18)), oV 8 (.mv (.E 24)), oV 9 (.mv (.E 25))]) (.seq (.seq (.reg [oE 26 (.mv (.V 7)), oE 27 (.un .not (.E 26)), oE 28 (.mv (.E 27)), ⟨(some (.E 29)), .mv (.V 9), some ((.E 28), false)⟩, ⟨(some (.E 30)), .un .not (.E 29), some ((.E 28), false)⟩, oE 31 (.pick (.E 28) (kb true) (.E 30))]) (.cond (.E 31) (.seq (.reg [oE 32 (.build [iv 0, iv 0] []), oN (.store [0, 0] (.V 4) (.E 32)), oV 5 (.mv (kb false))]) .ret) .skip)) (.seq (.reg [oE 33 (.mv (.V 6)), oE 34 (.mv (.V 8)), oE 35 (.build [iv 0, iv 0] [(0, 1, (.E 33)), (1, 1, (.E 34))]), oN (.store [0, 0] (.V 4) (.E 35)), oV 5 (.mv (kb true))]) .ret))))

def k__impl_Slot__plus_rv : List RV := [.cell [0, 0] 4 true, .tmp [0] 5]

def k_impl_SquareOver_vars : List Nat := [0, 1, 4, 5]

def k_impl_SquareOver_ic : IC := .seq (.reg [oV 4 (.alloc [(.v (.bool false)), (.v (.int .u64 0)), (.v (.int .u64 0)), iv 0]), oV 5 (.mv (kb false))]) (.seq (.reg [oE 6 (.mv (.V 0)), oE 7 (.mv (.V 0)), oE 8 (.call k_impl_MulWide [([0], (.E 6)), ([0], (.E 7))]), oE 9 (.mv (.V 1)), oE 10 (.call k_impl_fracOf [([0, 0, 0], (.E 8)), ([0], (.E 9))]), oE 11 (.ext 0 (.E 10)), oE 12 (.ext 1 (.E 10)), oN (.store [0, 0, 0, 0] (.V 4) (.E 11)), oV 5 (.mv (.E 12))]) .ret)

def k_impl_SquareOver_rv : List RV := [.cell [0, 0, 0, 0] 4 true, .tmp [0] 5]

def k_spec_l13Add_vars : List Nat := [0, 1, 2, 3, 7, 9, 4, 6, 8, 5]

def k_spec_l13Add_ic : IC := .seq (.reg [oV 2 (.box (.V 0)), oV 3 (.box (.V 1)), oV 4 (.alloc [iv 0, iv 0]), oV 5 (.mv (kb false))]) (.seq (.reg [oE 11 (.faddr 0 (.V 2)), oE 12 (.load false 1 (.E 11)), oE 13 (.faddr 0 (.V 3)), oE 14 (.load false 1 (.E 13)), oE 15 (.call k_spec_AddInt [([0], (.E 12)), ([0], (.E 14))]), oE 10 (.mv (.E 15)), oE 16 (.ext 0 (.E 10)), oE 17 (.ext 1 (.E 10)), oV 6 (.mv (.E 16)), oV 7 (.mv (.E 17))]) (.seq (.reg [oE 19 (.faddr 1 (.V 2)), oE 20 (.load false 1 (.E 19)), oE 21 (.faddr 1 (.V 3)), oE 22 (.load false 1 (.E 21)), oE 23 (.call k_spec_AddInt [([0], (.E 20)), ([0], (.E 22))]), oE 18 (.mv (.E 23)), oE 24 (.ext 0 (.E 18)), oE 25 (.ext 1 (.E 18)), oV 8 (.mv (.E 24)), oV 9 (.mv (.E 25))]) (.seq (.seq (.reg [oE 26 (.mv (.V 7)), oE 27 (.un .not (.E 26)), oE 28 (.mv (.E 27)), ⟨(some (.E 29)), .mv (.V 9), some ((.E 28), false)⟩, ⟨(some (.E 30)), .un .not (.E 29), some ((.E 28), false)⟩, oE 31 (.pick (.E 28) (kb true) (.E 30))]) (.cond (.E 31) (.seq (.reg [oE 32 (.build [iv 0, iv 0] []), oN (.store [0, 0] (.V 4) (.E 32)), oV 5 (.mv (kb false))]) .ret) .skip)) (.seq (.reg [oE 33 (.mv (.V 6)), oE 34 (.mv (.V 8)), oE 35 (.build [iv 0, iv 0] [(0, 1, (.E 33)), (1, 1, (.E 34))]), oN (.store [0, 0] (.V 4) (.E 35)), oV 5 (.mv (kb true))]) .ret))))

def k_spec_l13Add_rv : List RV := [.cell [0, 0] 4 true, .tmp [0] 5]

def k_impl_AddWide_vars : List Nat := [0, 1, 2, 3, 4, 7, 8, 6, 11, 12, 10, 14, 5]

def k_impl_AddWide_ic : IC := .seq (.reg [oV 2 (.box (.V 0)), oV 3 (.box (.V 1)), oV 4 (.alloc [(.v (.bool false)), (.v (.int .u64 0)), (.v (.int .u64 0))]), oV 5 (.mv (kb false))]) (.seq (.seq (.reg [oE 15 (.load true 3 (.V 2)), oE 16 (.call k_impl_WideOk [([0, 0, 0], (.E 15))]), oE 17 (.un .not (.E 16)), oE 18 (.mv (.E 17)), ⟨(some (.E 19)), .load true 3 (.V 3), some ((.E 18), false)⟩, ⟨(some (.E 20)), .call k_impl_WideOk [([0, 0, 0], (.E 19))], some ((.E 18), false)⟩, ⟨(some (.E 21)), .un .not (.E 20), some ((.E 18), false)⟩, oE 22 (.pick (.E 18) (kb true) (.E 21))]) (.cond (.E 22) (.seq (.reg [oE 23 (.build [(.v (.bool false)), (.v (.int .u64 0)), (.v (.int .u64 0))] []), oN (.store [0, 0, 0] (.V 4) (.E 23)), oV 5 (.mv (kb false))]) .ret) .skip)) (.seq (.seq (.reg [oE 24 (.faddr 0 (.V 2)), oE 25 (.load false 1 (.E 24)), oE 26 (.faddr 0 (.V 3)), oE 27 (.load false 1 (.E 26)), oE 28 (.eqb true [.b] (.E 25) (.E 27))]) (.cond (.E 28) (.seq (.seq (.reg [oE 29 (.load true 3 (.V 2)), oE 30 (.load true 3 (.V 3)), oE 31 (.call k_impl_compareSizes [([0, 0, 0], (.E 29)), ([0, 0, 0], (.E 30))]), oE 32 (.bin .lss (.E 31) (ki 0))]) (.cond (.E 32) (.reg [oE 33 (.load true 3 (.V 3)), oE 34 (.load true 3 (.V 2)), oN (.store [0, 0, 0] (.V 2) (.E 33)), oN (.store [0, 0, 0] (.V 3) (.E 34))]) .skip)) (.seq (.reg [oE 36 (.faddr 2 (.V 2)), oE 37 (.load false 1 (.E 36)), oE 38 (.faddr 2 (.V 3)), oE 39 (.load false 1 (.E 38)), oE 40 (.call k_math_bits_Sub64 [([0], (.E 37)), ([0], (.E 39)), ([0], (.C (.v (.int .u64 0))))]), oE 35 (.mv (.E 40)), oE 41 (.ext 0 (.E 35)), oE 42 (.ext 1 (.E 35)), oV 6 (.mv (.E 41)), oV 7 (.mv (.E 42))]) (.seq (.reg [oE 44 (.faddr 1 (.V 2)), oE 45 (.load false 1 (.E 44)), oE 46 (.faddr 1 (.V 3)), oE 47 (.load false 1 (.E 46)), oE 48 (.mv (.V 7)), oE 49 (.call k_math_bits_Sub64 [([0], (.E 45)), ([0], (.E 47)), ([0], (.E 48))]), oE 43 (.mv (.E 49)), oE 50 (.ext 0 (.E 43)), oE 51 (.ext 1 (.E 43)), oV 8 (.mv (.E 50)), oE 9 (.mv (.E 51))]) (.seq (.reg [oE 52 (.faddr 0 (.V 2)), oE 53 (.load false 1 (.E 52)), oE 54 (.mv (.V 8)), oE 55 (.mv (.V 6)), oE 56 (.call k_impl_wideOf [([0], (.E 53)), ([0], (.E 54)), ([0], (.E 55))]), oN (.store [0, 0, 0] (.V 4) (.E 56)), oV 5 (.mv (kb true))]) .ret)))) .skip)) (.seq (.reg [oE 58 (.faddr 2 (.V 2)), oE 59 (.load false 1 (.E 58)), oE 60 (.faddr 2 (.V 3)), oE 61 (.load false 1 (.E 60)), oE 62 (.call k_math_bits_Add64 [([0], (.E 59)), ([0], (.E 61)), ([0], (.C (.v (.int .u64 0))))]), oE 57 (.mv (.E 62)), oE 63 (.ext 0 (.E 57)), oE 64 (.ext 1 (.E 57)), oV 10 (.mv (.E 63)), oV 11 (.mv (.E 64))]) (.seq (.reg [oE 66 (.faddr 1 (.V 2)), oE 67 (.load false 1 (.E 66)), oE 68 (.faddr 1 (.V 3)), oE 69 (.load false 1 (.E 68)), oE 70 (.mv (.V 11)), oE 71 (.call k_math_bits_Add64 [([0], (.E 67)), ([0], (.E 69)), ([0], (.E 70))]), oE 65 (.mv (.E 71)), oE 72 (.ext 0 (.E 65)), oE 73 (.ext 1 (.E 65)), oV 12 (.mv (.E 72)), oE 13 (.mv (.E 73))]) (.seq (.reg [oE 74 (.faddr 0 (.V 2)), oE 75 (.load false 1 (.E 74)), oE 76 (.mv (.V 12)), oE 77 (.mv (.V 10)), oE 78 (.call k_impl_wideOf [([0], (.E 75)), ([0], (.E 76)), ([0], (.E 77))]), oV 14 (.alloc [(.v (.bool false)), (.v (.int .u64 0)), (.v (.int .u64 0))]), oN (.store [0, 0, 0] (.V 14) (.E 78))]) (.seq (.seq (.reg [oE 79 (.load true 3 (.V 14)), oE 80 (.call k_impl_WideOk [([0, 0, 0], (.E 79))]), oE 81 (.un .not (.E 80))]) (.cond (.E 81) (.seq (.reg [oE 82 (.build [(.v (.bool false)), (.v (.int .u64 0)), (.v (.int .u64 0))] []), oN (.store [0, 0, 0] (.V 4) (.E 82)), oV 5 (.mv (kb false))]) .ret) .skip)) (.seq (.reg [oE 83 (.load true 3 (.V 14)), oN (.store [0, 0, 0] (.V 4) (.E 83)), oV 5 (.mv (kb true))]) .ret)))))))

def k_impl_AddWide_rv : List RV := [.cell [0, 0, 0] 4 true, .tmp [0] 5]

def k_impl_fracOf_vars : List Nat := [0, 1, 2, 6, 4, 5]

def k_impl_fracOf_ic : IC := .seq (.reg [oV 2 (.box (.V 0)), oV 4 (.alloc [(.v (.bool false)), (.v (.int .u64 0)), (.v (.int .u64 0)), iv 0]), oV 5 (.mv (kb false))]) (.seq (.reg [oE 7 (.load true 3 (.V 2)), oE 8 (.mv (.V 1)), oE 9 (.build [(.v (.bool false)), (.v (.int .u64 0)), (.v (.int .u64 0)), iv 0] [(0, 3, (.E 7)), (3, 1, (.E 8))]), oV 6 (.alloc [(.v (.bool false)), (.v (.int .u64 0)), (.v (.int .u64 0)), iv 0]), oN (.store [0, 0, 0, 0] (.V 6) (.E 9))]) (.seq (.seq (.reg [oE 10 (.load true 4 (.V 6)), oE 11 (.call k_impl_FracOk [([0, 0, 0, 0], (.E 10))]), oE 12 (.un .not (.E 11))]) (.cond (.E 12) (.seq (.reg [oE 13 (.build [(.v (.bool false)), (.v (.int .u64 0)), (.v (.int .u64 0)), iv 0] []), oN (.store [0, 0, 0, 0] (.V 4) (.E 13)), oV 5 (.mv (kb false))]) .ret) .skip)) (.seq (.reg [oE 14 (.load true 4 (.V 6)), oN (.store [0, 0, 0, 0] (.V 4) (.E 14)), oV 5 (.mv (kb true))]) .ret)))

def k_impl_fracOf_rv : List RV := [.cell [0, 0, 0, 0] 4 true, .tmp [0] 5]

def k_impl_FracOk_vars : List Nat := [0, 1, 2]

def k_impl_FracOk_ic : IC := .seq (.reg [oV 1 (.box (.V 0)), oV 2 (.mv (kb false))]) (.seq (.reg [oE 3 (.faddr 0 (.V 1)), oE 4 (.load true 3 (.E 3)), oE 5 (.call k_impl_WideOk [([0, 0, 0], (.E 4))]), oE 6 (.mv (.E 5)), ⟨(some (.E 7)), .faddr 3 (.V 1), some ((.E 6), true)⟩, ⟨(some (.E 8)), .load false 1 (.E 7), some ((.E 6), true)⟩, ⟨(some (.E 9)), .call k_impl_within [([0], (.E 8)), ([0], (ki 1)), ([0], (ki 1000000))], some ((.E 6), true)⟩, oE 10 (.pick (.E 6) (.E 9) (kb false)), oV 2 (.mv (.E 10))]) .ret)

def k_impl_FracOk_rv : List RV := [.tmp [0] 2]

def k_impl_ScaleWide_vars : List Nat := [0, 1, 2, 4, 6, 8, 9, 10, 7, 11, 12, 5]

def k_impl_ScaleWide_ic : IC := .seq (.reg [oV 2 (.box (.V 0)), oV 4 (.alloc [(.v (.bool false)), (.v (.int .u64 0)), (.v (.int .u64 0))]), oV 5 (.mv (kb false))]) (.seq (.seq (.reg [oE 13 (.load true 3 (.V 2)), oE 14 (.call k_impl_WideOk [([0, 0, 0], (.E 13))]), oE 15 (.un .not (.E 14))]) (.cond (.E 15) (.seq (.reg [oE 16 (.build [(.v (.bool false)), (.v (.int .u64 0)), (.v (.int .u64 0))] []), oN (.store [0, 0, 0] (.V 4) (.E 16)), oV 5 (.mv (kb false))]) .ret) .skip)) (.seq (.reg [oE 17 (.mv (.V 1)), oE 18 (.call k_impl_size [([0], (.E 17))]), oV 6 (.mv (.E 18))]) (.seq (.reg [oE 20 (.faddr 1 (.V 2)), oE 21 (.load false 1 (.E 20)), oE 22 (.mv (.V 6)), oE 23 (.call k_math_bits_Mul64 [([0], (.E 21)), ([0], (.E 22))]), oE 19 (.mv (.E 23)), oE 24 (.ext 0 (.E 19)), oE 25 (.ext 1 (.E 19)), oV 7 (.mv (.E 24)), oV 8 (.mv (.E 25))]) (.seq (.reg [oE 27 (.faddr 2 (.V 2)), oE 28 (.load false 1 (.E 27)), oE 29 (.mv (.V 6)), oE 30 (.call k_math_bits_Mul64 [([0], (.E 28)), ([0], (.E 29))]), oE 26 (.mv (.E 30)), oE 31 (.ext 0 (.E 26)), oE 32 (.ext 1 (.E 26)), oV 9 (.mv (.E 31)), oV 10 (.mv (.E 32))]) (.seq (.reg [oE 34 (.mv (.V 8)), oE 35 (.mv (.V 9)), oE 36 (.call k_math_bits_Add64 [([0], (.E 34)), ([0], (.E 35)), ([0], (.C (.v (.int .u64 0))))]), oE 33 (.mv (.E 36)), oE 37 (.ext 0 (.E 33)), oE 38 (.ext 1 (.E 33)), oV 8 (.mv (.E 37)), oV 11 (.mv (.E 38))]) (.seq (.reg [oE 39 (.faddr 0 (.V 2)), oE 40 (.load false 1 (.E 39)), oE 41 (.mv (.V 1)), oE 42 (.bin .lss (.E 41) (ki 0)), oE 43 (.eqb true [.b] (.E 40) (.E 42)), oE 44 (.mv (.V 8)), oE 45 (.mv (.V 10)), oE 46 (.call k_impl_wideOf [([0], (.E 43)), ([0], (.E 44)), ([0], (.E 45))]), oV 12 (.alloc [(.v (.bool false)), (.v (.int .u64 0)), (.v (.int .u64 0))]), oN (.store [0, 0, 0] (.V 12) (.E 46))]) (.seq (.seq (.reg [oE 47 (.mv (.V 7)), oE 48 (.bin .gtr (.E 47) (.C (.v (.int .u64 0)))), oE 49 (.mv (.E 48)), ⟨(some (.E 50)), .mv (.V 11), some ((.E 49), false)⟩, ⟨(some (.E 51)), .bin .gtr (.E 50) (.C (.v (.int .u64 0))), some ((.E 49), false)⟩, oE 52 (.pick (.E 49) (kb true) (.E 51)), oE 53 (.mv (.E 52)), ⟨(some (.E 54)), .load true 3 (.V 12), some ((.E 53), false)⟩, ⟨(some (.E 55)), .call k_impl_WideOk [([0, 0, 0], (.E 54))], some ((.E 53), false)⟩, ⟨(some (.E 56)), .un .not (.E 55), some ((.E 53), false)⟩, oE 57 (.pick (.E 53) (kb true) (.E 56))]) (.cond (.E 57) (.seq (.reg [oE 58 (.build [(.v (.bool false)), (.v (.int .u64 0)), (.v (.int .u64 0))] []), oN (.store [0, 0, 0] (.V 4) (.E 58)), oV 5 (.mv (kb false))]) .ret) .skip)) (.seq (.reg [oE 59 (.load true 3 (.V 12)), oN (.store [0, 0, 0] (.V 4) (.E 59)), oV 5 (.mv (kb true))]) .ret))))))))

def k_impl_ScaleWide_rv : List RV := [.cell [0, 0, 0] 4 true, .tmp [0] 5]

def k_impl_wideOf_vars : List Nat := [0, 1, 2, 6]

def k_impl_wideOf_ic : IC := .seq (.reg [oV 6 (.alloc [(.v (.bool false)), (.v (.int .u64 0)), (.v (.int .u64 0))])]) (.seq (.reg [oE 7 (.mv (.V 0)), oE 8 (.mv (.E 7)), ⟨(some (.E 9)), .mv (.V 1), some ((.E 8), true)⟩, ⟨(some (.E 10)), .bin .gtr (.E 9) (.C (.v (.int .u64 0))), some ((.E 8), true)⟩, ⟨(some (.E 11)), .mv (.E 10), some ((.E 8), true)⟩, ⟨(some (.E 12)), .mv (.V 2), some ((.E 11), false)⟩, ⟨(some (.E 13)), .bin .gtr (.E 12) (.C (.v (.int .u64 0))), some ((.E 11), false)⟩, ⟨(some (.E 14)), .pick (.E 11) (kb true) (.E 13), some ((.E 8), true)⟩, oE 15 (.pick (.E 8) (.E 14) (kb false)), oE 16 (.mv (.V 1)), oE 17 (.mv (.V 2)), oE 18 (.build [(.v (.bool false)), (.v (.int .u64 0)), (.v (.int .u64 0))] [(0, 1, (.E 15)), (1, 1, (.E 16)), (2, 1, (.E 17))]), oN (.store [0, 0, 0] (.V 6) (.E 18))]) .ret)

def k_impl_wideOf_rv : List RV := [.cell [0, 0, 0] 6 true]

def k_impl_compareSizes_vars : List Nat := [0, 1, 2, 3, 4]

def k_impl_compareSizes_ic : IC := .seq (.reg [oV 2 (.box (.V 0)), oV 3 (.box (.V 1)), oV 4 (.mv (ki 0))]) (.seq (.regD [(oE 5 (.faddr 1 (.V 2)), 0, 0), (oE 6 (.load false 1 (.E 5)), 0, 0), (oE 7 (.faddr 1 (.V 3)), 0, 0), (oE 8 (.load false 1 (.E 7)), 0, 0), (oE 9 (.call k_cmp_Compare_uint64_ [([0], (.E 6)), ([0], (.E 8))]), 0, 0), (oE 10 (.faddr 2 (.V 2)), 1, 0), (oE 11 (.load false 1 (.E 10)), 1, 0), (oE 12 (.faddr 2 (.V 3)), 1, 0), (oE 13 (.load false 1 (.E 12)), 1, 0), (oE 14 (.call k_cmp_Compare_uint64_ [([0], (.E 11)), ([0], (.E 13))]), 0, 0), (oE 15 (.bslice 2 1 [iv 0] [(0, (.E 9)), (1, (.E 14))]), 0, 0), (oE 16 (.call k_cmp_Or_int_ [([1], (.E 15))]), 0, 0), (oV 4 (.mv (.E 16)), 0, 0)]) .ret)

def k_impl_compareSizes_rv : List RV := [.tmp [0] 4]

def k_cmp_isNaN_int__vars : List Nat := [0, 2]

def k_cmp_isNaN_int__ic : IC := .seq (.reg [oV 2 (.mv (kb false))]) (.seq (.reg [oE 3 (.mv (.V 0)), oE 4 (.mv (.V 0)), oE 5 (.bin .neq (.E 3) (.E 4)), oV 2 (.mv (.E 5))]) .ret)

def k_cmp_isNaN_int__rv : List RV := [.tmp [0] 2]

def k_spec_MulWide_vars : List Nat := [0, 1, 5, 6, 4]

def k_spec_MulWide_ic : IC := .seq (.reg [oV 4 (.alloc [(.v (.bool false)), (.v (.int .u64 0)), (.v (.int .u64 0))])]) (.seq (.reg [oE 8 (.mv (.V 0)), oE 9 (.call k_spec_l3Abs [([0], (.E 8))]), oE 10 (.mv (.V 1)), oE 11 (.call k_spec_l3Abs [([0], (.E 10))]), oE 12 (.call k_spec_l3Product [([0], (.E 9)), ([0], (.E 11))]), oE 7 (.mv (.E 12)), oE 13 (.ext 0 (.E 7)), oE 14 (.ext 1 (.E 7)), oV 5 (.mv (.E 13)), oV 6 (.mv (.E 14))]) (.seq (.reg [oE 15 (.mv (.V 0)), oE 16 (.bin .lss (.E 15) (ki 0)), oE 17 (.mv (.V 1)), oE 18 (.bin .lss (.E 17) (ki 0)), oE 19 (.eqb true [.b] (.E 16) (.E 18)), oE 20 (.mv (.E 19)), ⟨(some (.E 21)), .mv (.V 0), some ((.E 20), true)⟩, ⟨(some (.E 22)), .bin .neq (.E 21) (ki 0), some ((.E 20), true)⟩, oE 23 (.pick (.E 20) (.E 22) (kb false)), oE 24 (.mv (.E 23)), ⟨(some (.E 25)), .mv (.V 1), some ((.E 24), true)⟩, ⟨(some (.E 26)), .bin .neq (.E 25) (ki 0), some ((.E 24), true)⟩, oE 27 (.pick (.E 24) (.E 26) (kb false)), oE 28 (.mv (.V 5)), oE 29 (.mv (.V 6)), oE 30 (.build [(.v (.bool false)), (.v (.int .u64 0)), (.v (.int .u64 0))] [(0, 1, (.E 27)), (1, 1, (.E 28)), (2, 1, (.E 29))]), oN (.store [0, 0, 0] (.V 4) (.E 30))]) .ret))

def k_spec_MulWide_rv : List RV := [.cell [0, 0, 0] 4 true]

def k_spec_WideOk_vars : List Nat := [0, 1, 2]

def k_spec_WideOk_ic : IC := .seq (.reg [oV 1 (.box (.V 0)), oV 2 (.mv (kb false))]) (.seq (.reg [oE 3 (.faddr 1 (.V 1)), oE 4 (.load false 1 (.E 3)), oE 5 (.bin .lss (.E 4) (.C (.v (.int .u64 9223372036854775808)))), oE 6 (.mv (.E 5)), ⟨(some (.E 7)), .faddr 0 (.V 1), some ((.E 6), true)⟩, ⟨(some (.E 8)), .load false 1 (.E 7), some ((.E 6), true)⟩, ⟨(some (.E 9)), .un .not (.E 8), some ((.E 6), true)⟩, ⟨(some (.E 10)), .mv (.E 9), some ((.E 6), true)⟩, ⟨(some (.E 11)), .faddr 1 (.V 1), some ((.E 10), false)⟩, ⟨(some (.E 12)), .load false 1 (.E 11), some ((.E 10), false)⟩, ⟨(some (.E 13)), .bin .gtr (.E 12) (.C (.v (.int .u64 0))), some ((.E 10), false)⟩, ⟨(some (.E 14)), .pick (.E 10) (kb true) (.E 13), some ((.E 6), true)⟩, ⟨(some (.E 15)), .mv (.E 14), some ((.E 6), true)⟩, ⟨(some (.E 16)), .faddr 2 (.V 1), some ((.E 15), false)⟩, ⟨(some (.E 17)), .load false 1 (.E 16), some ((.E 15), false)⟩, ⟨(some (.E 18)), .bin .gtr (.E 17) (.C (.v (.int .u64 0))), some ((.E 15), false)⟩, ⟨(some (.E 19)), .pick (.E 15) (kb true) (.E 18), some ((.E 6), true)⟩, oE 20 (.pick (.E 6) (.E 19) (kb false)), oV 2 (.mv (.E 20))]) .ret)

def k_spec_WideOk_rv : List RV := [.tmp [0] 2]

def k_spec_l3Abs_vars : List Nat := [0, 2]

def k_spec_l3Abs_ic : IC := .seq (.reg [oV 2 (.mv (.C (.v (.int .u64 0))))]) (.seq (.seq (.reg [oE 3 (.mv (.V 0)), oE 4 (.bin .lss (.E 3) (ki 0))]) (.cond (.E 4) (.seq (.reg [oE 5 (.mv (.V 0)), oE 6 (.bin .add (.E 5) (ki 1)), oE 7 (.un .neg (.E 6)), oE 8 (.convI .u64 (.E 7)), oE 9 (.bin .add (.E 8) (.C (.v (.int .u64 1)))), oV 2 (.mv (.E 9))]) .ret) .skip)) (.seq (.reg [oE 10 (.mv (.V 0)), oE 11 (.convI .u64 (.E 10)), oV 2 (.mv (.E 11))]) .ret))

def k_spec_l3Abs_rv : List RV := [.tmp [0] 2]

def k_spec_l3Product_vars : List Nat := [0, 1, 7, 9, 6, 10, 8, 11, 12, 4, 5]

def k_spec_l3Product_ic : IC := .seq (.reg [oV 4 (.mv (.C (.v (.int .u64 0)))), oV 5 (.mv (.C (.v (.int .u64 0))))]) (.seq (.reg [oE 13 (.mv (.V 0)), oE 14 (.bin .shr (.E 13) (.C (.v (.int .u64 32)))), oV 6 (.mv (.E 14))]) (.seq (.reg [oE 15 (.mv (.V 0)), oE 16 (.bin .and (.E 15) (.C (.v (.int .u64 4294967295)))), oV 7 (.mv (.E 16))]) (.seq (.reg [oE 17 (.mv (.V 1)), oE 18 (.bin .shr (.E 17) (.C (.v (.int .u64 32)))), oV 8 (.mv (.E 18))]) (.seq (.reg [oE 19 (.mv (.V 1)), oE 20 (.bin .and (.E 19) (.C (.v (.int .u64 4294967295)))), oV 9 (.mv (.E 20))]) (.seq (.reg [oE 21 (.mv (.V 7)), oE 22 (.mv (.V 9)), oE 23 (.bin .mul (.E 21) (.E 22)), oV 10 (.mv (.E 23))]) (.seq (.reg [oE 24 (.mv (.V 6)), oE 25 (.mv (.V 9)), oE 26 (.bin .mul (.E 24) (.E 25)), oE 27 (.mv (.V 10)), oE 28 (.bin .shr (.E 27) (.C (.v (.int .u64 32)))), oE 29 (.bin .add (.E 26) (.E 28)), oV 11 (.mv (.E 29))]) (.seq (.reg [oE 30 (.mv (.V 7)), oE 31 (.mv (.V 8)), oE 32 (.bin .mul (.E 30) (.E 31)), oE 33 (.mv (.V 11)), oE 34 (.bin .and (.E 33) (.C (.v (.int .u64 4294967295)))), oE 35 (.bin .add (.E 32) (.E 34)), oV 12 (.mv (.E 35))]) (.seq (.reg [oE 36 (.mv (.V 6)), oE 37 (.mv (.V 8)), oE 38 (.bin .mul (.E 36) (.E 37)), oE 39 (.mv (.V 11)), oE 40 (.bin .shr (.E 39) (.C (.v (.int .u64 32)))), oE 41 (.bin .add (.E 38) (.E 40)), oE 42 (.mv (.V 12)), oE 43 (.bin .shr (.E 42) (.C (.v (.int .u64 32)))), oE 44 (.bin .add (.E 41) (.E 43)), oE 45 (.mv (.V 12)), oE 46 (.bin .shl (.E 45) (.C (.v (.int .u64 32)))), oE 47 (.mv (.V 10)), oE 48 (.bin .and (.E 47) (.C (.v (.int .u64 4294967295)))), oE 49 (.bin .add (.E 46) (.E 48)), oV 4 (.mv (.E 44)), oV 5 (.mv (.E 49))]) .ret))))))))

def k_spec_l3Product_rv : List RV := [.tmp [0] 4, .tmp [0] 5]

def k_spec_l14Leaf_vars : List Nat := [0, 2]

def k_spec_l14Leaf_ic : IC := .seq (.reg [oV 2 (.mv (kb false))]) (.seq (.reg [oE 3 (.mv (.V 0)), oE 4 (.call k_spec_l1In [([0], (.E 3)), ([0], (ki (-1099511627776))), ([0], (ki 1099511627776))]), oV 2 (.mv (.E 4))]) .ret)

def k_spec_l14Leaf_rv : List RV := [.tmp [0] 2]

def k_impl_isLeafValue_vars : List Nat := [0, 2]

def k_impl_isLeafValue_ic : IC := .seq (.reg [oV 2 (.mv (kb false))]) (.seq (.reg [oE 3 (.mv (.V 0)), oE 4 (.call k_impl_within [([0], (.E 3)), ([0], (ki (-1099511627776))), ([0], (ki 1099511627776))]), oV 2 (.mv (.E 4))]) .ret)

def k_impl_isLeafValue_rv : List RV := [.tmp [0] 2]

def k_impl_MulWide_vars : List Nat := [0, 1, 5, 6, 4]

def k_impl_MulWide_ic : IC := .seq (.reg [oV 4 (.alloc [(.v (.bool false)), (.v (.int .u64 0)), (.v (.int .u64 0))])]) (.seq (.reg [oE 8 (.mv (.V 0)), oE 9 (.call k_impl_size [([0], (.E 8))]), oE 10 (.mv (.V 1)), oE 11 (.call k_impl_size [([0], (.E 10))]), oE 12 (.call k_math_bits_Mul64 [([0], (.E 9)), ([0], (.E 11))]), oE 7 (.mv (.E 12)), oE 13 (.ext 0 (.E 7)), oE 14 (.ext 1 (.E 7)), oV 5 (.mv (.E 13)), oV 6 (.mv (.E 14))]) (.seq (.reg [oE 15 (.mv (.V 0)), oE 16 (.bin .lss (.E 15) (ki 0)), oE 17 (.mv (.V 1)), oE 18 (.bin .lss (.E 17) (ki 0)), oE 19 (.eqb true [.b] (.E 16) (.E 18)), oE 20 (.mv (.V 5)), oE 21 (.mv (.V 6)), oE 22 (.call k_impl_wideOf [([0], (.E 19)), ([0], (.E 20)), ([0], (.E 21))]), oN (.store [0, 0, 0] (.V 4) (.E 22))]) .ret))

def k_impl_MulWide_rv : List RV := [.cell [0, 0, 0] 4 true]

def k_impl_WideOk_vars : List Nat := [0, 1, 2]

def k_impl_WideOk_ic : IC := .seq (.reg [oV 1 (.box (.V 0)), oV 2 (.mv (kb false))]) (.seq (.reg [oE 3 (.faddr 1 (.V 1)), oE 4 (.load false 1 (.E 3)), oE 5 (.bin .lss (.E 4) (.C (.v (.int .u64 9223372036854775808)))), oE 6 (.mv (.E 5)), ⟨(some (.E 7)), .faddr 0 (.V 1), some ((.E 6), true)⟩, ⟨(some (.E 8)), .load false 1 (.E 7), some ((.E 6), true)⟩, ⟨(some (.E 9)), .un .not (.E 8), some ((.E 6), true)⟩, ⟨(some (.E 10)), .mv (.E 9), some ((.E 6), true)⟩, ⟨(some (.E 11)), .faddr 1 (.V 1), some ((.E 10), false)⟩, ⟨(some (.E 12)), .load false 1 (.E 11), some ((.E 10), false)⟩, ⟨(some (.E 13)), .bin .gtr (.E 12) (.C (.v (.int .u64 0))), some ((.E 10), false)⟩, ⟨(some (.E 14)), .pick (.E 10) (kb true) (.E 13), some ((.E 6), true)⟩, ⟨(some (.E 15)), .mv (.E 14), some ((.E 6), true)⟩, ⟨(some (.E 16)), .faddr 2 (.V 1), some ((.E 15), false)⟩, ⟨(some (.E 17)), .load false 1 (.E 16), some ((.E 15), false)⟩, ⟨(some (.E 18)), .bin .gtr (.E 17) (.C (.v (.int .u64 0))), some ((.E 15), false)⟩, ⟨(some (.E 19)), .pick (.E 15) (kb true) (.E 18), some ((.E 6), true)⟩, oE 20 (.pick (.E 6) (.E 19) (kb false)), oV 2 (.mv (.E 20))]) .ret)

def k_impl_WideOk_rv : List RV := [.tmp [0] 2]

def k_impl_size_vars : List Nat := [0, 2]

def k_impl_size_ic : IC := .seq (.reg [oV 2 (.mv (.C (.v (.int .u64 0))))]) (.seq (.seq (.reg [oE 3 (.mv (.V 0)), oE 4 (.bin .lss (.E 3) (ki 0))]) (.cond (.E 4) (.seq (.reg [oE 5 (.mv (.V 0)), oE 6 (.convI .u64 (.E 5)), oE 7 (.un .neg (.E 6)), oV 2 (.mv (.E 7))]) .ret) .skip)) (.seq (.reg [oE 8 (.mv (.V 0)), oE 9 (.convI .u64 (.E 8)), oV 2 (.mv (.E 9))]) .ret))

def k_impl_size_rv : List RV := [.tmp [0] 2]

def k_math_bits_Mul64_vars : List Nat := [0, 1, 6, 8, 7, 10, 11, 12, 9, 13, 4, 5]

def k_math_bits_Mul64_ic : IC := .seq (.reg [oV 4 (.mv (.C (.v (.int .u64 0)))), oV 5 (.mv (.C (.v (.int .u64 0))))]) (.seq (.reg [oE 14 (.mv (.V 0)), oE 15 (.bin .and (.E 14) (.C (.v (.int .u64 4294967295)))), oV 6 (.mv (.E 15))]) (.seq (.reg [oE 16 (.mv (.V 0)), oE 17 (.bin .shr (.E 16) (.C (.v (.int .u64 32)))), oV 7 (.mv (.E 17))]) (.seq (.reg [oE 18 (.mv (.V 1)), oE 19 (.bin .and (.E 18) (.C (.v (.int .u64 4294967295)))), oV 8 (.mv (.E 19))]) (.seq (.reg [oE 20 (.mv (.V 1)), oE 21 (.bin .shr (.E 20) (.C (.v (.int .u64 32)))), oV 9 (.mv (.E 21))]) (.seq (.reg [oE 22 (.mv (.V 6)), oE 23 (.mv (.V 8)), oE 24 (.bin .mul (.E 22) (.E 23)), oV 10 (.mv (.E 24))]) (.seq (.reg [oE 25 (.mv (.V 7)), oE 26 (.mv (.V 8)), oE 27 (.bin .mul (.E 25) (.E 26)), oE 28 (.mv (.V 10)), oE 29 (.bin .shr (.E 28) (.C (.v (.int .u64 32)))), oE 30 (.bin .add (.E 27) (.E 29)), oV 11 (.mv (.E 30))]) (.seq (.reg [oE 31 (.mv (.V 11)), oE 32 (.bin .and (.E 31) (.C (.v (.int .u64 4294967295)))), oV 12 (.mv (.E 32))]) (.seq (.reg [oE 33 (.mv (.V 11)), oE 34 (.bin .shr (.E 33) (.C (.v (.int .u64 32)))), oV 13 (.mv (.E 34))]) (.seq (.reg [oE 35 (.mv (.V 12)), oE 36 (.mv (.V 6)), oE 37 (.mv (.V 9)), oE 38 (.bin .mul (.E 36) (.E 37)), oE 39 (.bin .add (.E 35) (.E 38)), oV 12 (.mv (.E 39))]) (.seq (.reg [oE 40 (.mv (.V 7)), oE 41 (.mv (.V 9)), oE 42 (.bin .mul (.E 40) (.E 41)), oE 43 (.mv (.V 13)), oE 44 (.bin .add (.E 42) (.E 43)), oE 45 (.mv (.V 12)), oE 46 (.bin .shr (.E 45) (.C (.v (.int .u64 32)))), oE 47 (.bin .add (.E 44) (.E 46)), oV 4 (.mv (.E 47))]) (.seq (.reg [oE 48 (.mv (.V 0)), oE 49 (.mv (.V 1)), oE 50 (.bin .mul (.E 48) (.E 49)), oV 5 (.mv (.E 50))]) .ret)))))))))))

def k_math_bits_Mul64_rv : List RV := [.tmp [0] 4, .tmp [0] 5]

def k_cmp_Compare_uint64__vars : List Nat := [0, 1, 5, 6, 4]

def k_cmp_Compare_uint64__ic : IC := .seq (.reg [oV 4 (.mv (ki 0))]) (.seq (.reg [oE 7 (.mv (.V 0)), oE 8 (.call k_cmp_isNaN_uint64_ [([0], (.E 7))]), oV 5 (.mv (.E 8))]) (.seq (.reg [oE 9 (.mv (.V 1)), oE 10 (.call k_cmp_isNaN_uint64_ [([0], (.E 9))]), oV 6 (.mv (.E 10))]) (.seq (.seq (.reg [oE 11 (.mv (.V 5))]) (.cond (.E 11) (.seq (.seq (.reg [oE 12 (.mv (.V 6))]) (.cond (.E 12) (.seq (.reg [oV 4 (.mv (ki 0))]) .ret) .skip)) (.seq (.reg [oV 4 (.mv (ki (-1)))]) .ret)) .skip)) (.seq (.seq (.reg [oE 13 (.mv (.V 6))]) (.cond (.E 13) (.seq (.reg [oV 4 (.mv (ki 1))]) .ret) .skip)) (.seq (.seq (.reg [oE 14 (.mv (.V 0)), oE 15 (.mv (.V 1)), oE 16 (.bin .lss (.E 14) (.E 15))]) (.cond (.E 16) (.seq (.reg [oV 4 (.mv (ki (-1)))]) .ret) .skip)) (.seq (.seq (.reg [oE 17 (.mv (.V 0)), oE 18 (.mv (.V 1)), oE 19 (.bin .gtr (.E 17) (.E 18))]) (.cond (.E 19) (.seq (.reg [oV 4 (.mv (ki 1))]) .ret) .skip)) (.seq (.reg [oV 4 (.mv (ki 0))]) .ret)))))))

def k_cmp_Compare_uint64__rv : List RV := [.tmp [0] 4]

def k_cmp_isNaN_uint64__vars : List Nat := [0, 2]

def k_cmp_isNaN_uint64__ic : IC := .seq (.reg [oV 2 (.mv (kb false))]) (.seq (.reg [oE 3 (.mv (.V 0)), oE 4 (.mv (.V 0)), oE 5 (.bin .neq (.E 3) (.E 4)), oV 2 (.mv (.E 5))]) .ret)

def k_cmp_isNaN_uint64__rv : List RV := [.tmp [0] 2]

def tbl : List (Nat × Fun) := [
  (k_laws_FnBestOrder, fnOf k_laws_FnBestOrder_ic k_laws_FnBestOrder_rv []),
  (k_laws_big, fnOf k_laws_big_ic k_laws_big_rv []),
  (k_spec_DrawBestOf, fnOf k_spec_DrawBestOf_ic k_spec_DrawBestOf_rv []),
  (k_impl_BestOf, fnOf k_impl_BestOf_ic k_impl_BestOf_rv []),
  (k_spec_BestOf, fnOf k_spec_BestOf_ic k_spec_BestOf_rv []),
  (k_impl_MayPart, fnOf k_impl_MayPart_ic k_impl_MayPart_rv []),
  (k_spec_MayPart, fnOf k_spec_MayPart_ic k_spec_MayPart_rv []),
  (k_impl_Better, fnOf k_impl_Better_ic k_impl_Better_rv []),
  (k_spec_GainOf, fnOf k_spec_GainOf_ic k_spec_GainOf_rv []),
  (k_spec_CompareFrac, fnOf k_spec_CompareFrac_ic k_spec_CompareFrac_rv []),
  (k_spec_l1New, fnOf k_spec_l1New_ic k_spec_l1New_rv []),
  (k_spec_l8Right, fnOf k_spec_l8Right_ic k_spec_l8Right_rv [true]),
  (k_spec_l1Once, fnOf k_spec_l1Once_ic k_spec_l1Once_rv [true]),
  (k_spec_l8Bent, fnOf k_spec_l8Bent_ic k_spec_l8Bent_rv [true]),
  (k_spec_l14Bound, fnOf k_spec_l14Bound_ic k_spec_l14Bound_rv [true]),
  (k_spec_l16Cands, fnOf k_spec_l16Cands_ic k_spec_l16Cands_rv [true]),
  (k_spec_Better, fnOf k_spec_Better_ic k_spec_Better_rv []),
  (k_impl_SideValues, fnOf k_impl_SideValues_ic k_impl_SideValues_rv []),
  (k_impl_ConfigOk, fnOf k_impl_ConfigOk_ic k_impl_ConfigOk_rv []),
  (k_impl_Agrees, fnOf k_impl_Agrees_ic k_impl_Agrees_rv []),
  (k_impl_SignFor, fnOf k_impl_SignFor_ic k_impl_SignFor_rv []),
  (k_impl_Improves, fnOf k_impl_Improves_ic k_impl_Improves_rv []),
  (k_spec_SideValues, fnOf k_spec_SideValues_ic k_spec_SideValues_rv []),
  (k_spec_ConfigOk, fnOf k_spec_ConfigOk_ic k_spec_ConfigOk_rv []),
  (k_spec_Agrees, fnOf k_spec_Agrees_ic k_spec_Agrees_rv []),
  (k_spec_SignFor, fnOf k_spec_SignFor_ic k_spec_SignFor_rv []),
  (k_spec_Improves, fnOf k_spec_Improves_ic k_spec_Improves_rv []),
  (k_impl_GainOf, fnOf k_impl_GainOf_ic k_impl_GainOf_rv []),
  (k_impl_CompareFrac, fnOf k_impl_CompareFrac_ic k_impl_CompareFrac_rv []),
  (k_impl_CandLess, fnOf k_impl_CandLess_ic k_impl_CandLess_rv []),
  (k_spec_PlainGain, fnOf k_spec_PlainGain_ic k_spec_PlainGain_rv []),
  (k_spec_AddFrac, fnOf k_spec_AddFrac_ic k_spec_AddFrac_rv []),
  (k_spec_l5Cross, fnOf k_spec_l5Cross_ic k_spec_l5Cross_rv []),
  (k_spec_CompareWide, fnOf k_spec_CompareWide_ic k_spec_CompareWide_rv []),
  (k_spec_Free, fnOf k_spec_Free_ic k_spec_Free_rv []),
  (k_spec_CandsOf, fnOf k_spec_CandsOf_ic k_spec_CandsOf_rv []),
  (k_spec_l1In, fnOf k_spec_l1In_ic k_spec_l1In_rv []),
  (k_spec_LeafOf, fnOf k_spec_LeafOf_ic k_spec_LeafOf_rv []),
  (k_impl_LeafOf, fnOf k_impl_LeafOf_ic k_impl_LeafOf_rv []),
  (k_spec_l1Below, fnOf k_spec_l1Below_ic k_spec_l1Below_rv [true]),
  (k_spec_l1PickInt, fnOf k_spec_l1PickInt_ic k_spec_l1PickInt_rv [true, true]),
  (k_spec_l1Whole, fnOf k_spec_l1Whole_ic k_spec_l1Whole_rv [true]),
  (k_spec_l13Hist, fnOf k_spec_l13Hist_ic k_spec_l13Hist_rv [true]),
  (k_spec_l15Cand, fnOf k_spec_l15Cand_ic k_spec_l15Cand_rv [true]),
  (k_spec_CandLess, fnOf k_spec_CandLess_ic k_spec_CandLess_rv []),
  (k_impl_within, fnOf k_impl_within_ic k_impl_within_rv []),
  (k_slices_ContainsFunc___int_int_, fnOf k_slices_ContainsFunc___int_int__ic k_slices_ContainsFunc___int_int__rv []),
  (k_impl_ConfigOk_1, fnOf k_impl_ConfigOk_1_ic k_impl_ConfigOk_1_rv []),
  (k_impl_isSign, fnOf k_impl_isSign_ic k_impl_isSign_rv []),
  (k_impl_BothOf, fnOf k_impl_BothOf_ic k_impl_BothOf_rv []),
  (k_impl_PlainGain, fnOf k_impl_PlainGain_ic k_impl_PlainGain_rv []),
  (k_spec_l8Numbers, fnOf k_spec_l8Numbers_ic k_spec_l8Numbers_rv []),
  (k_spec_l8Least, fnOf k_spec_l8Least_ic k_spec_l8Least_rv []),
  (k_spec_l8Most, fnOf k_spec_l8Most_ic k_spec_l8Most_rv []),
  (k_spec_BothOf, fnOf k_spec_BothOf_ic k_spec_BothOf_rv []),
  (k_impl_AddFrac, fnOf k_impl_AddFrac_ic k_impl_AddFrac_rv []),
  (k_impl_crossed, fnOf k_impl_crossed_ic k_impl_crossed_rv []),
  (k_impl_CompareWide, fnOf k_impl_CompareWide_ic k_impl_CompareWide_rv []),
  (k_cmp_Or_int_, fnOf k_cmp_Or_int__ic k_cmp_Or_int__rv []),
  (k_cmp_Compare_int_, fnOf k_cmp_Compare_int__ic k_cmp_Compare_int__rv []),
  (k_spec_SquareOver, fnOf k_spec_SquareOver_ic k_spec_SquareOver_rv []),
  (k_spec_AddWide, fnOf k_spec_AddWide_ic k_spec_AddWide_rv []),
  (k_spec_FracOk, fnOf k_spec_FracOk_ic k_spec_FracOk_rv []),
  (k_spec_ScaleWide, fnOf k_spec_ScaleWide_ic k_spec_ScaleWide_rv []),
  (k_spec_l3Zero, fnOf k_spec_l3Zero_ic k_spec_l3Zero_rv []),
  (k_spec_l3Order, fnOf k_spec_l3Order_ic k_spec_l3Order_rv []),
  (k_spec_AddInt, fnOf k_spec_AddInt_ic k_spec_AddInt_rv []),
  (k_spec_FloorDiv, fnOf k_spec_FloorDiv_ic k_spec_FloorDiv_rv []),
  (k_impl_AddInt, fnOf k_impl_AddInt_ic k_impl_AddInt_rv []),
  (k_impl_FloorDiv, fnOf k_impl_FloorDiv_ic k_impl_FloorDiv_rv []),
  (k_spec_Prefix, fnOf k_spec_Prefix_ic k_spec_Prefix_rv []),
  (k_spec_SubInt, fnOf k_spec_SubInt_ic k_spec_SubInt_rv []),
  (k_spec_BoundOk, fnOf k_spec_BoundOk_ic k_spec_BoundOk_rv []),
  (k_spec_Brought, fnOf k_spec_Brought_ic k_spec_Brought_rv []),
  (k_impl_isCount, fnOf k_impl_isCount_ic k_impl_isCount_rv []),
  (k_impl_BoundOk, fnOf k_impl_BoundOk_ic k_impl_BoundOk_rv []),
  (k_impl_Brought, fnOf k_impl_Brought_ic k_impl_Brought_rv []),
  (k_spec_l1Byte, fnOf k_spec_l1Byte_ic k_spec_l1Byte_rv [true]),
  (k_spec_l14Slot, fnOf k_spec_l14Slot_ic k_spec_l14Slot_rv [true]),
  (k_slices_IndexFunc___int_int_, fnOf k_slices_IndexFunc___int_int__ic k_slices_IndexFunc___int_int__rv []),
  (k__impl_Slot__plus, fnOf k__impl_Slot__plus_ic k__impl_Slot__plus_rv []),
  (k_impl_SquareOver, fnOf k_impl_SquareOver_ic k_impl_SquareOver_rv []),
  (k_spec_l13Add, fnOf k_spec_l13Add_ic k_spec_l13Add_rv []),
  (k_impl_AddWide, fnOf k_impl_AddWide_ic k_impl_AddWide_rv []),
  (k_impl_fracOf, fnOf k_impl_fracOf_ic k_impl_fracOf_rv []),
  (k_impl_FracOk, fnOf k_impl_FracOk_ic k_impl_FracOk_rv []),
  (k_impl_ScaleWide, fnOf k_impl_ScaleWide_ic k_impl_ScaleWide_rv []),
  (k_impl_wideOf, fnOf k_impl_wideOf_ic k_impl_wideOf_rv []),
  (k_impl_compareSizes, fnOf k_impl_compareSizes_ic k_impl_compareSizes_rv []),
  (k_cmp_isNaN_int_, fnOf k_cmp_isNaN_int__ic k_cmp_isNaN_int__rv []),
  (k_spec_MulWide, fnOf k_spec_MulWide_ic k_spec_MulWide_rv []),
  (k_spec_WideOk, fnOf k_spec_WideOk_ic k_spec_WideOk_rv []),
  (k_spec_l3Abs, fnOf k_spec_l3Abs_ic k_spec_l3Abs_rv []),
  (k_spec_l3Product, fnOf k_spec_l3Product_ic k_spec_l3Product_rv []),
  (k_spec_l14Leaf, fnOf k_spec_l14Leaf_ic k_spec_l14Leaf_rv []),
  (k_impl_isLeafValue, fnOf k_impl_isLeafValue_ic k_impl_isLeafValue_rv []),
  (k_impl_MulWide, fnOf k_impl_MulWide_ic k_impl_MulWide_rv []),
  (k_impl_WideOk, fnOf k_impl_WideOk_ic k_impl_WideOk_rv []),
  (k_math_bits_Sub64, .ext sub64G),
  (k_math_bits_Add64, .ext add64G),
  (k_impl_size, fnOf k_impl_size_ic k_impl_size_rv []),
  (k_math_bits_Mul64, fnOf k_math_bits_Mul64_ic k_math_bits_Mul64_rv []),
  (k_cmp_Compare_uint64_, fnOf k_cmp_Compare_uint64__ic k_cmp_Compare_uint64__rv []),
  (k_cmp_isNaN_uint64_, fnOf k_cmp_isNaN_uint64__ic k_cmp_isNaN_uint64__rv [])]

def T : Table := fun f => (tbl.find? fun q => q.1 == f).map fun q => q.2

theorem T_laws_FnBestOrder : T k_laws_FnBestOrder = some (fnOf k_laws_FnBestOrder_ic k_laws_FnBestOrder_rv []) := rfl

@[simp] theorem M_laws_FnBestOrder : modesOf T k_laws_FnBestOrder = [] := modesOf_code T_laws_FnBestOrder

theorem T_laws_big : T k_laws_big = some (fnOf k_laws_big_ic k_laws_big_rv []) := rfl

@[simp] theorem M_laws_big : modesOf T k_laws_big = [] := modesOf_code T_laws_big

theorem T_spec_DrawBestOf : T k_spec_DrawBestOf = some (fnOf k_spec_DrawBestOf_ic k_spec_DrawBestOf_rv []) := rfl

@[simp] theorem M_spec_DrawBestOf : modesOf T k_spec_DrawBestOf = [] := modesOf_code T_spec_DrawBestOf

theorem T_impl_BestOf : T k_impl_BestOf = some (fnOf k_impl_BestOf_ic k_impl_BestOf_rv []) := rfl

@[simp] theorem M_impl_BestOf : modesOf T k_impl_BestOf = [] := modesOf_code T_impl_BestOf

theorem T_spec_BestOf : T k_spec_BestOf = some (fnOf k_spec_BestOf_ic k_spec_BestOf_rv []) := rfl

@[simp] theorem M_spec_BestOf : modesOf T k_spec_BestOf = [] := modesOf_code T_spec_BestOf

theorem T_impl_MayPart : T k_impl_MayPart = some (fnOf k_impl_MayPart_ic k_impl_MayPart_rv []) := rfl

@[simp] theorem M_impl_MayPart : modesOf T k_impl_MayPart = [] := modesOf_code T_impl_MayPart

theorem T_spec_MayPart : T k_spec_MayPart = some (fnOf k_spec_MayPart_ic k_spec_MayPart_rv []) := rfl

@[simp] theorem M_spec_MayPart : modesOf T k_spec_MayPart = [] := modesOf_code T_spec_MayPart

theorem T_impl_Better : T k_impl_Better = some (fnOf k_impl_Better_ic k_impl_Better_rv []) := rfl

@[simp] theorem M_impl_Better : modesOf T k_impl_Better = [] := modesOf_code T_impl_Better

theorem T_spec_GainOf : T k_spec_GainOf = some (fnOf k_spec_GainOf_ic k_spec_GainOf_rv []) := rfl

@[simp] theorem M_spec_GainOf : modesOf T k_spec_GainOf = [] := modesOf_code T_spec_GainOf

theorem T_spec_CompareFrac : T k_spec_CompareFrac = some (fnOf k_spec_CompareFrac_ic k_spec_CompareFrac_rv []) := rfl

@[simp] theorem M_spec_CompareFrac : modesOf T k_spec_CompareFrac = [] := modesOf_code T_spec_CompareFrac

theorem T_spec_l1New : T k_spec_l1New = some (fnOf k_spec_l1New_ic k_spec_l1New_rv []) := rfl

@[simp] theorem M_spec_l1New : modesOf T k_spec_l1New = [] := modesOf_code T_spec_l1New

theorem T_spec_l8Right : T k_spec_l8Right = some (fnOf k_spec_l8Right_ic k_spec_l8Right_rv [true]) := rfl

@[simp] theorem M_spec_l8Right : modesOf T k_spec_l8Right = [true] := modesOf_code T_spec_l8Right

theorem T_spec_l1Once : T k_spec_l1Once = some (fnOf k_spec_l1Once_ic k_spec_l1Once_rv [true]) := rfl

@[simp] theorem M_spec_l1Once : modesOf T k_spec_l1Once = [true] := modesOf_code T_spec_l1Once

theorem T_spec_l8Bent : T k_spec_l8Bent = some (fnOf k_spec_l8Bent_ic k_spec_l8Bent_rv [true]) := rfl

@[simp] theorem M_spec_l8Bent : modesOf T k_spec_l8Bent = [true] := modesOf_code T_spec_l8Bent

theorem T_spec_l14Bound : T k_spec_l14Bound = some (fnOf k_spec_l14Bound_ic k_spec_l14Bound_rv [true]) := rfl

@[simp] theorem M_spec_l14Bound : modesOf T k_spec_l14Bound = [true] := modesOf_code T_spec_l14Bound

theorem T_spec_l16Cands : T k_spec_l16Cands = some (fnOf k_spec_l16Cands_ic k_spec_l16Cands_rv [true]) := rfl

@[simp] theorem M_spec_l16Cands : modesOf T k_spec_l16Cands = [true] := modesOf_code T_spec_l16Cands

theorem T_spec_Better : T k_spec_Better = some (fnOf k_spec_Better_ic k_spec_Better_rv []) := rfl

@[simp] theorem M_spec_Better : modesOf T k_spec_Better = [] := modesOf_code T_spec_Better

theorem T_impl_SideValues : T k_impl_SideValues = some (fnOf k_impl_SideValues_ic k_impl_SideValues_rv []) := rfl

@[simp] theorem M_impl_SideValues : modesOf T k_impl_SideValues = [] := modesOf_code T_impl_SideValues

theorem T_impl_ConfigOk : T k_impl_ConfigOk = some (fnOf k_impl_ConfigOk_ic k_impl_ConfigOk_rv []) := rfl

@[simp] theorem M_impl_ConfigOk : modesOf T k_impl_ConfigOk = [] := modesOf_code T_impl_ConfigOk

theorem T_impl_Agrees : T k_impl_Agrees = some (fnOf k_impl_Agrees_ic k_impl_Agrees_rv []) := rfl

@[simp] theorem M_impl_Agrees : modesOf T k_impl_Agrees = [] := modesOf_code T_impl_Agrees

theorem T_impl_SignFor : T k_impl_SignFor = some (fnOf k_impl_SignFor_ic k_impl_SignFor_rv []) := rfl

@[simp] theorem M_impl_SignFor : modesOf T k_impl_SignFor = [] := modesOf_code T_impl_SignFor

theorem T_impl_Improves : T k_impl_Improves = some (fnOf k_impl_Improves_ic k_impl_Improves_rv []) := rfl

@[simp] theorem M_impl_Improves : modesOf T k_impl_Improves = [] := modesOf_code T_impl_Improves

theorem T_spec_SideValues : T k_spec_SideValues = some (fnOf k_spec_SideValues_ic k_spec_SideValues_rv []) := rfl

@[simp] theorem M_spec_SideValues : modesOf T k_spec_SideValues = [] := modesOf_code T_spec_SideValues

theorem T_spec_ConfigOk : T k_spec_ConfigOk = some (fnOf k_spec_ConfigOk_ic k_spec_ConfigOk_rv []) := rfl

@[simp] theorem M_spec_ConfigOk : modesOf T k_spec_ConfigOk = [] := modesOf_code T_spec_ConfigOk

theorem T_spec_Agrees : T k_spec_Agrees = some (fnOf k_spec_Agrees_ic k_spec_Agrees_rv []) := rfl

@[simp] theorem M_spec_Agrees : modesOf T k_spec_Agrees = [] := modesOf_code T_spec_Agrees

theorem T_spec_SignFor : T k_spec_SignFor = some (fnOf k_spec_SignFor_ic k_spec_SignFor_rv []) := rfl

@[simp] theorem M_spec_SignFor : modesOf T k_spec_SignFor = [] := modesOf_code T_spec_SignFor

theorem T_spec_Improves : T k_spec_Improves = some (fnOf k_spec_Improves_ic k_spec_Improves_rv []) := rfl

@[simp] theorem M_spec_Improves : modesOf T k_spec_Improves = [] := modesOf_code T_spec_Improves

theorem T_impl_GainOf : T k_impl_GainOf = some (fnOf k_impl_GainOf_ic k_impl_GainOf_rv []) := rfl

@[simp] theorem M_impl_GainOf : modesOf T k_impl_GainOf = [] := modesOf_code T_impl_GainOf

theorem T_impl_CompareFrac : T k_impl_CompareFrac = some (fnOf k_impl_CompareFrac_ic k_impl_CompareFrac_rv []) := rfl

@[simp] theorem M_impl_CompareFrac : modesOf T k_impl_CompareFrac = [] := modesOf_code T_impl_CompareFrac

theorem T_impl_CandLess : T k_impl_CandLess = some (fnOf k_impl_CandLess_ic k_impl_CandLess_rv []) := rfl

@[simp] theorem M_impl_CandLess : modesOf T k_impl_CandLess = [] := modesOf_code T_impl_CandLess

theorem T_spec_PlainGain : T k_spec_PlainGain = some (fnOf k_spec_PlainGain_ic k_spec_PlainGain_rv []) := rfl

@[simp] theorem M_spec_PlainGain : modesOf T k_spec_PlainGain = [] := modesOf_code T_spec_PlainGain

theorem T_spec_AddFrac : T k_spec_AddFrac = some (fnOf k_spec_AddFrac_ic k_spec_AddFrac_rv []) := rfl

@[simp] theorem M_spec_AddFrac : modesOf T k_spec_AddFrac = [] := modesOf_code T_spec_AddFrac

theorem T_spec_l5Cross : T k_spec_l5Cross = some (fnOf k_spec_l5Cross_ic k_spec_l5Cross_rv []) := rfl

@[simp] theorem M_spec_l5Cross : modesOf T k_spec_l5Cross = [] := modesOf_code T_spec_l5Cross

theorem T_spec_CompareWide : T k_spec_CompareWide = some (fnOf k_spec_CompareWide_ic k_spec_CompareWide_rv []) := rfl

@[simp] theorem M_spec_CompareWide : modesOf T k_spec_CompareWide = [] := modesOf_code T_spec_CompareWide

theorem T_spec_Free : T k_spec_Free = some (fnOf k_spec_Free_ic k_spec_Free_rv []) := rfl

@[simp] theorem M_spec_Free : modesOf T k_spec_Free = [] := modesOf_code T_spec_Free

theorem T_spec_CandsOf : T k_spec_CandsOf = some (fnOf k_spec_CandsOf_ic k_spec_CandsOf_rv []) := rfl

@[simp] theorem M_spec_CandsOf : modesOf T k_spec_CandsOf = [] := modesOf_code T_spec_CandsOf

theorem T_spec_l1In : T k_spec_l1In = some (fnOf k_spec_l1In_ic k_spec_l1In_rv []) := rfl

@[simp] theorem M_spec_l1In : modesOf T k_spec_l1In = [] := modesOf_code T_spec_l1In

theorem T_spec_LeafOf : T k_spec_LeafOf = some (fnOf k_spec_LeafOf_ic k_spec_LeafOf_rv []) := rfl

@[simp] theorem M_spec_LeafOf : modesOf T k_spec_LeafOf = [] := modesOf_code T_spec_LeafOf

theorem T_impl_LeafOf : T k_impl_LeafOf = some (fnOf k_impl_LeafOf_ic k_impl_LeafOf_rv []) := rfl

@[simp] theorem M_impl_LeafOf : modesOf T k_impl_LeafOf = [] := modesOf_code T_impl_LeafOf

theorem T_spec_l1Below : T k_spec_l1Below = some (fnOf k_spec_l1Below_ic k_spec_l1Below_rv [true]) := rfl

@[simp] theorem M_spec_l1Below : modesOf T k_spec_l1Below = [true] := modesOf_code T_spec_l1Below

theorem T_spec_l1PickInt : T k_spec_l1PickInt = some (fnOf k_spec_l1PickInt_ic k_spec_l1PickInt_rv [true, true]) := rfl

@[simp] theorem M_spec_l1PickInt : modesOf T k_spec_l1PickInt = [true, true] := modesOf_code T_spec_l1PickInt

theorem T_spec_l1Whole : T k_spec_l1Whole = some (fnOf k_spec_l1Whole_ic k_spec_l1Whole_rv [true]) := rfl

@[simp] theorem M_spec_l1Whole : modesOf T k_spec_l1Whole = [true] := modesOf_code T_spec_l1Whole

theorem T_spec_l13Hist : T k_spec_l13Hist = some (fnOf k_spec_l13Hist_ic k_spec_l13Hist_rv [true]) := rfl

@[simp] theorem M_spec_l13Hist : modesOf T k_spec_l13Hist = [true] := modesOf_code T_spec_l13Hist

theorem T_spec_l15Cand : T k_spec_l15Cand = some (fnOf k_spec_l15Cand_ic k_spec_l15Cand_rv [true]) := rfl

@[simp] theorem M_spec_l15Cand : modesOf T k_spec_l15Cand = [true] := modesOf_code T_spec_l15Cand

theorem T_spec_CandLess : T k_spec_CandLess = some (fnOf k_spec_CandLess_ic k_spec_CandLess_rv []) := rfl

@[simp] theorem M_spec_CandLess : modesOf T k_spec_CandLess = [] := modesOf_code T_spec_CandLess

theorem T_impl_within : T k_impl_within = some (fnOf k_impl_within_ic k_impl_within_rv []) := rfl

@[simp] theorem M_impl_within : modesOf T k_impl_within = [] := modesOf_code T_impl_within

theorem T_slices_ContainsFunc___int_int_ : T k_slices_ContainsFunc___int_int_ = some (fnOf k_slices_ContainsFunc___int_int__ic k_slices_ContainsFunc___int_int__rv []) := rfl

@[simp] theorem M_slices_ContainsFunc___int_int_ : modesOf T k_slices_ContainsFunc___int_int_ = [] := modesOf_code T_slices_ContainsFunc___int_int_

theorem T_impl_ConfigOk_1 : T k_impl_ConfigOk_1 = some (fnOf k_impl_ConfigOk_1_ic k_impl_ConfigOk_1_rv []) := rfl

@[simp] theorem M_impl_ConfigOk_1 : modesOf T k_impl_ConfigOk_1 = [] := modesOf_code T_impl_ConfigOk_1

theorem T_impl_isSign : T k_impl_isSign = some (fnOf k_impl_isSign_ic k_impl_isSign_rv []) := rfl

@[simp] theorem M_impl_isSign : modesOf T k_impl_isSign = [] := modesOf_code T_impl_isSign

theorem T_impl_BothOf : T k_impl_BothOf = some (fnOf k_impl_BothOf_ic k_impl_BothOf_rv []) := rfl

@[simp] theorem M_impl_BothOf : modesOf T k_impl_BothOf = [] := modesOf_code T_impl_BothOf

theorem T_impl_PlainGain : T k_impl_PlainGain = some (fnOf k_impl_PlainGain_ic k_impl_PlainGain_rv []) := rfl

@[simp] theorem M_impl_PlainGain : modesOf T k_impl_PlainGain = [] := modesOf_code T_impl_PlainGain

theorem T_spec_l8Numbers : T k_spec_l8Numbers = some (fnOf k_spec_l8Numbers_ic k_spec_l8Numbers_rv []) := rfl

@[simp] theorem M_spec_l8Numbers : modesOf T k_spec_l8Numbers = [] := modesOf_code T_spec_l8Numbers

theorem T_spec_l8Least : T k_spec_l8Least = some (fnOf k_spec_l8Least_ic k_spec_l8Least_rv []) := rfl

@[simp] theorem M_spec_l8Least : modesOf T k_spec_l8Least = [] := modesOf_code T_spec_l8Least

theorem T_spec_l8Most : T k_spec_l8Most = some (fnOf k_spec_l8Most_ic k_spec_l8Most_rv []) := rfl

@[simp] theorem M_spec_l8Most : modesOf T k_spec_l8Most = [] := modesOf_code T_spec_l8Most

theorem T_spec_BothOf : T k_spec_BothOf = some (fnOf k_spec_BothOf_ic k_spec_BothOf_rv []) := rfl

@[simp] theorem M_spec_BothOf : modesOf T k_spec_BothOf = [] := modesOf_code T_spec_BothOf

theorem T_impl_AddFrac : T k_impl_AddFrac = some (fnOf k_impl_AddFrac_ic k_impl_AddFrac_rv []) := rfl

@[simp] theorem M_impl_AddFrac : modesOf T k_impl_AddFrac = [] := modesOf_code T_impl_AddFrac

theorem T_impl_crossed : T k_impl_crossed = some (fnOf k_impl_crossed_ic k_impl_crossed_rv []) := rfl

@[simp] theorem M_impl_crossed : modesOf T k_impl_crossed = [] := modesOf_code T_impl_crossed

theorem T_impl_CompareWide : T k_impl_CompareWide = some (fnOf k_impl_CompareWide_ic k_impl_CompareWide_rv []) := rfl

@[simp] theorem M_impl_CompareWide : modesOf T k_impl_CompareWide = [] := modesOf_code T_impl_CompareWide

theorem T_cmp_Or_int_ : T k_cmp_Or_int_ = some (fnOf k_cmp_Or_int__ic k_cmp_Or_int__rv []) := rfl

@[simp] theorem M_cmp_Or_int_ : modesOf T k_cmp_Or_int_ = [] := modesOf_code T_cmp_Or_int_

theorem T_cmp_Compare_int_ : T k_cmp_Compare_int_ = some (fnOf k_cmp_Compare_int__ic k_cmp_Compare_int__rv []) := rfl

@[simp] theorem M_cmp_Compare_int_ : modesOf T k_cmp_Compare_int_ = [] := modesOf_code T_cmp_Compare_int_

theorem T_spec_SquareOver : T k_spec_SquareOver = some (fnOf k_spec_SquareOver_ic k_spec_SquareOver_rv []) := rfl

@[simp] theorem M_spec_SquareOver : modesOf T k_spec_SquareOver = [] := modesOf_code T_spec_SquareOver

theorem T_spec_AddWide : T k_spec_AddWide = some (fnOf k_spec_AddWide_ic k_spec_AddWide_rv []) := rfl

@[simp] theorem M_spec_AddWide : modesOf T k_spec_AddWide = [] := modesOf_code T_spec_AddWide

theorem T_spec_FracOk : T k_spec_FracOk = some (fnOf k_spec_FracOk_ic k_spec_FracOk_rv []) := rfl

@[simp] theorem M_spec_FracOk : modesOf T k_spec_FracOk = [] := modesOf_code T_spec_FracOk

theorem T_spec_ScaleWide : T k_spec_ScaleWide = some (fnOf k_spec_ScaleWide_ic k_spec_ScaleWide_rv []) := rfl

@[simp] theorem M_spec_ScaleWide : modesOf T k_spec_ScaleWide = [] := modesOf_code T_spec_ScaleWide

theorem T_spec_l3Zero : T k_spec_l3Zero = some (fnOf k_spec_l3Zero_ic k_spec_l3Zero_rv []) := rfl

@[simp] theorem M_spec_l3Zero : modesOf T k_spec_l3Zero = [] := modesOf_code T_spec_l3Zero

theorem T_spec_l3Order : T k_spec_l3Order = some (fnOf k_spec_l3Order_ic k_spec_l3Order_rv []) := rfl

@[simp] theorem M_spec_l3Order : modesOf T k_spec_l3Order = [] := modesOf_code T_spec_l3Order

theorem T_spec_AddInt : T k_spec_AddInt = some (fnOf k_spec_AddInt_ic k_spec_AddInt_rv []) := rfl

@[simp] theorem M_spec_AddInt : modesOf T k_spec_AddInt = [] := modesOf_code T_spec_AddInt

theorem T_spec_FloorDiv : T k_spec_FloorDiv = some (fnOf k_spec_FloorDiv_ic k_spec_FloorDiv_rv []) := rfl

@[simp] theorem M_spec_FloorDiv : modesOf T k_spec_FloorDiv = [] := modesOf_code T_spec_FloorDiv

theorem T_impl_AddInt : T k_impl_AddInt = some (fnOf k_impl_AddInt_ic k_impl_AddInt_rv []) := rfl

@[simp] theorem M_impl_AddInt : modesOf T k_impl_AddInt = [] := modesOf_code T_impl_AddInt

theorem T_impl_FloorDiv : T k_impl_FloorDiv = some (fnOf k_impl_FloorDiv_ic k_impl_FloorDiv_rv []) := rfl

@[simp] theorem M_impl_FloorDiv : modesOf T k_impl_FloorDiv = [] := modesOf_code T_impl_FloorDiv

theorem T_spec_Prefix : T k_spec_Prefix = some (fnOf k_spec_Prefix_ic k_spec_Prefix_rv []) := rfl

@[simp] theorem M_spec_Prefix : modesOf T k_spec_Prefix = [] := modesOf_code T_spec_Prefix

theorem T_spec_SubInt : T k_spec_SubInt = some (fnOf k_spec_SubInt_ic k_spec_SubInt_rv []) := rfl

@[simp] theorem M_spec_SubInt : modesOf T k_spec_SubInt = [] := modesOf_code T_spec_SubInt

theorem T_spec_BoundOk : T k_spec_BoundOk = some (fnOf k_spec_BoundOk_ic k_spec_BoundOk_rv []) := rfl

@[simp] theorem M_spec_BoundOk : modesOf T k_spec_BoundOk = [] := modesOf_code T_spec_BoundOk

theorem T_spec_Brought : T k_spec_Brought = some (fnOf k_spec_Brought_ic k_spec_Brought_rv []) := rfl

@[simp] theorem M_spec_Brought : modesOf T k_spec_Brought = [] := modesOf_code T_spec_Brought

theorem T_impl_isCount : T k_impl_isCount = some (fnOf k_impl_isCount_ic k_impl_isCount_rv []) := rfl

@[simp] theorem M_impl_isCount : modesOf T k_impl_isCount = [] := modesOf_code T_impl_isCount

theorem T_impl_BoundOk : T k_impl_BoundOk = some (fnOf k_impl_BoundOk_ic k_impl_BoundOk_rv []) := rfl

@[simp] theorem M_impl_BoundOk : modesOf T k_impl_BoundOk = [] := modesOf_code T_impl_BoundOk

theorem T_impl_Brought : T k_impl_Brought = some (fnOf k_impl_Brought_ic k_impl_Brought_rv []) := rfl

@[simp] theorem M_impl_Brought : modesOf T k_impl_Brought = [] := modesOf_code T_impl_Brought

theorem T_spec_l1Byte : T k_spec_l1Byte = some (fnOf k_spec_l1Byte_ic k_spec_l1Byte_rv [true]) := rfl

@[simp] theorem M_spec_l1Byte : modesOf T k_spec_l1Byte = [true] := modesOf_code T_spec_l1Byte

theorem T_spec_l14Slot : T k_spec_l14Slot = some (fnOf k_spec_l14Slot_ic k_spec_l14Slot_rv [true]) := rfl

@[simp] theorem M_spec_l14Slot : modesOf T k_spec_l14Slot = [true] := modesOf_code T_spec_l14Slot

theorem T_slices_IndexFunc___int_int_ : T k_slices_IndexFunc___int_int_ = some (fnOf k_slices_IndexFunc___int_int__ic k_slices_IndexFunc___int_int__rv []) := rfl

@[simp] theorem M_slices_IndexFunc___int_int_ : modesOf T k_slices_IndexFunc___int_int_ = [] := modesOf_code T_slices_IndexFunc___int_int_

theorem T__impl_Slot__plus : T k__impl_Slot__plus = some (fnOf k__impl_Slot__plus_ic k__impl_Slot__plus_rv []) := rfl

@[simp] theorem M__impl_Slot__plus : modesOf T k__impl_Slot__plus = [] := modesOf_code T__impl_Slot__plus

theorem T_impl_SquareOver : T k_impl_SquareOver = some (fnOf k_impl_SquareOver_ic k_impl_SquareOver_rv []) := rfl

@[simp] theorem M_impl_SquareOver : modesOf T k_impl_SquareOver = [] := modesOf_code T_impl_SquareOver

theorem T_spec_l13Add : T k_spec_l13Add = some (fnOf k_spec_l13Add_ic k_spec_l13Add_rv []) := rfl

@[simp] theorem M_spec_l13Add : modesOf T k_spec_l13Add = [] := modesOf_code T_spec_l13Add

theorem T_impl_AddWide : T k_impl_AddWide = some (fnOf k_impl_AddWide_ic k_impl_AddWide_rv []) := rfl

@[simp] theorem M_impl_AddWide : modesOf T k_impl_AddWide = [] := modesOf_code T_impl_AddWide

theorem T_impl_fracOf : T k_impl_fracOf = some (fnOf k_impl_fracOf_ic k_impl_fracOf_rv []) := rfl

@[simp] theorem M_impl_fracOf : modesOf T k_impl_fracOf = [] := modesOf_code T_impl_fracOf

theorem T_impl_FracOk : T k_impl_FracOk = some (fnOf k_impl_FracOk_ic k_impl_FracOk_rv []) := rfl

@[simp] theorem M_impl_FracOk : modesOf T k_impl_FracOk = [] := modesOf_code T_impl_FracOk

theorem T_impl_ScaleWide : T k_impl_ScaleWide = some (fnOf k_impl_ScaleWide_ic k_impl_ScaleWide_rv []) := rfl

@[simp] theorem M_impl_ScaleWide : modesOf T k_impl_ScaleWide = [] := modesOf_code T_impl_ScaleWide

theorem T_impl_wideOf : T k_impl_wideOf = some (fnOf k_impl_wideOf_ic k_impl_wideOf_rv []) := rfl

@[simp] theorem M_impl_wideOf : modesOf T k_impl_wideOf = [] := modesOf_code T_impl_wideOf

theorem T_impl_compareSizes : T k_impl_compareSizes = some (fnOf k_impl_compareSizes_ic k_impl_compareSizes_rv []) := rfl

@[simp] theorem M_impl_compareSizes : modesOf T k_impl_compareSizes = [] := modesOf_code T_impl_compareSizes

theorem T_cmp_isNaN_int_ : T k_cmp_isNaN_int_ = some (fnOf k_cmp_isNaN_int__ic k_cmp_isNaN_int__rv []) := rfl

@[simp] theorem M_cmp_isNaN_int_ : modesOf T k_cmp_isNaN_int_ = [] := modesOf_code T_cmp_isNaN_int_

theorem T_spec_MulWide : T k_spec_MulWide = some (fnOf k_spec_MulWide_ic k_spec_MulWide_rv []) := rfl

@[simp] theorem M_spec_MulWide : modesOf T k_spec_MulWide = [] := modesOf_code T_spec_MulWide

theorem T_spec_WideOk : T k_spec_WideOk = some (fnOf k_spec_WideOk_ic k_spec_WideOk_rv []) := rfl

@[simp] theorem M_spec_WideOk : modesOf T k_spec_WideOk = [] := modesOf_code T_spec_WideOk

theorem T_spec_l3Abs : T k_spec_l3Abs = some (fnOf k_spec_l3Abs_ic k_spec_l3Abs_rv []) := rfl

@[simp] theorem M_spec_l3Abs : modesOf T k_spec_l3Abs = [] := modesOf_code T_spec_l3Abs

theorem T_spec_l3Product : T k_spec_l3Product = some (fnOf k_spec_l3Product_ic k_spec_l3Product_rv []) := rfl

@[simp] theorem M_spec_l3Product : modesOf T k_spec_l3Product = [] := modesOf_code T_spec_l3Product

theorem T_spec_l14Leaf : T k_spec_l14Leaf = some (fnOf k_spec_l14Leaf_ic k_spec_l14Leaf_rv []) := rfl

@[simp] theorem M_spec_l14Leaf : modesOf T k_spec_l14Leaf = [] := modesOf_code T_spec_l14Leaf

theorem T_impl_isLeafValue : T k_impl_isLeafValue = some (fnOf k_impl_isLeafValue_ic k_impl_isLeafValue_rv []) := rfl

@[simp] theorem M_impl_isLeafValue : modesOf T k_impl_isLeafValue = [] := modesOf_code T_impl_isLeafValue

theorem T_impl_MulWide : T k_impl_MulWide = some (fnOf k_impl_MulWide_ic k_impl_MulWide_rv []) := rfl

@[simp] theorem M_impl_MulWide : modesOf T k_impl_MulWide = [] := modesOf_code T_impl_MulWide

theorem T_impl_WideOk : T k_impl_WideOk = some (fnOf k_impl_WideOk_ic k_impl_WideOk_rv []) := rfl

@[simp] theorem M_impl_WideOk : modesOf T k_impl_WideOk = [] := modesOf_code T_impl_WideOk

theorem T_math_bits_Sub64 : T k_math_bits_Sub64 = some (.ext sub64G) := rfl

@[simp] theorem M_math_bits_Sub64 : modesOf T k_math_bits_Sub64 = [] := rfl

theorem T_math_bits_Add64 : T k_math_bits_Add64 = some (.ext add64G) := rfl

@[simp] theorem M_math_bits_Add64 : modesOf T k_math_bits_Add64 = [] := rfl

theorem T_impl_size : T k_impl_size = some (fnOf k_impl_size_ic k_impl_size_rv []) := rfl

@[simp] theorem M_impl_size : modesOf T k_impl_size = [] := modesOf_code T_impl_size

theorem T_math_bits_Mul64 : T k_math_bits_Mul64 = some (fnOf k_math_bits_Mul64_ic k_math_bits_Mul64_rv []) := rfl

@[simp] theorem M_math_bits_Mul64 : modesOf T k_math_bits_Mul64 = [] := modesOf_code T_math_bits_Mul64

theorem T_cmp_Compare_uint64_ : T k_cmp_Compare_uint64_ = some (fnOf k_cmp_Compare_uint64__ic k_cmp_Compare_uint64__rv []) := rfl

@[simp] theorem M_cmp_Compare_uint64_ : modesOf T k_cmp_Compare_uint64_ = [] := modesOf_code T_cmp_Compare_uint64_

theorem T_cmp_isNaN_uint64_ : T k_cmp_isNaN_uint64_ = some (fnOf k_cmp_isNaN_uint64__ic k_cmp_isNaN_uint64__rv []) := rfl

@[simp] theorem M_cmp_isNaN_uint64_ : modesOf T k_cmp_isNaN_uint64_ = [] := modesOf_code T_cmp_isNaN_uint64_

end Go.Pe
