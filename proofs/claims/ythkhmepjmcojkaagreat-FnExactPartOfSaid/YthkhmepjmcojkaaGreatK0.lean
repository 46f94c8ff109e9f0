/- The compact texts of the functions that the law reaches; no condition. -/
import Derived.Test.YthkhmepjmcojkaaGreatEvA0
set_option linter.all false
namespace Go.Pe
open Go
def k_laws_FnExactPartOf : Nat := 7

def k_impl_BestOf : Nat := 12

def k_spec_BestOf : Nat := 13

def k_impl_MayPart : Nat := 14

def k_spec_MayPart : Nat := 15

def k_impl_Better : Nat := 16

def k_spec_GainOf : Nat := 17

def k_spec_CompareFrac : Nat := 18

def k_laws_szConfig : Nat := 20

def k_laws_toConfig : Nat := 24

def k_laws_eqConfig : Nat := 29

def k_laws_szGrid : Nat := 36

def k_laws_toGrid : Nat := 38

def k_laws_toIntS : Nat := 39

def k_laws_eqGrid : Nat := 42

def k_laws_eqIntS : Nat := 43

def k_spec_PartOf : Nat := 48

def k_laws_toBound : Nat := 49

def k_impl_PartOf : Nat := 50

def k_laws_eqCand : Nat := 51

def k_spec_Better : Nat := 67

def k_impl_SideValues : Nat := 68

def k_impl_ConfigOk : Nat := 69

def k_impl_Agrees : Nat := 70

def k_impl_SignFor : Nat := 71

def k_impl_Improves : Nat := 72

def k_spec_SideValues : Nat := 73

def k_spec_ConfigOk : Nat := 74

def k_spec_Agrees : Nat := 75

def k_spec_SignFor : Nat := 76

def k_spec_Improves : Nat := 77

def k_impl_GainOf : Nat := 78

def k_impl_CompareFrac : Nat := 79

def k_impl_CandLess : Nat := 80

def k_spec_PlainGain : Nat := 81

def k_spec_AddFrac : Nat := 82

def k_spec_l5Cross : Nat := 83

def k_spec_CompareWide : Nat := 84

def k_laws_szIntSS : Nat := 86

def k_laws_szIntS : Nat := 87

def k_laws_toIntSS : Nat := 94

def k_laws_eqIntSS : Nat := 104

def k_spec_TaskOk : Nat := 111

def k_impl_TaskOk : Nat := 115

def k_impl_RowsIn : Nat := 118

def k_spec_NodeHists : Nat := 123

def k_spec_CandsOf : Nat := 124

def k_impl_NodeHists : Nat := 125

def k_impl_CandsOf : Nat := 126

def k_laws_eqSlot : Nat := 127

def k_spec_l1In : Nat := 130

def k_spec_LeafOf : Nat := 131

def k_impl_LeafOf : Nat := 134

def k_spec_CandLess : Nat := 146

def k_impl_within : Nat := 147

def k_slices_ContainsFunc___int_int_ : Nat := 148

def k_impl_ConfigOk_1 : Nat := 149

def k_impl_isSign : Nat := 150

def k_impl_BothOf : Nat := 151

def k_impl_PlainGain : Nat := 152

def k_spec_l8Numbers : Nat := 153

def k_spec_l8Least : Nat := 154

def k_spec_l8Most : Nat := 155

def k_spec_BothOf : Nat := 156

def k_impl_AddFrac : Nat := 157

def k_impl_crossed : Nat := 158

def k_impl_CompareWide : Nat := 159

def k_cmp_Or_int_ : Nat := 160

def k_cmp_Compare_int_ : Nat := 161

def k_spec_SquareOver : Nat := 162

def k_spec_AddWide : Nat := 163

def k_spec_FracOk : Nat := 164

def k_spec_ScaleWide : Nat := 165

def k_spec_l3Zero : Nat := 166

def k_spec_l3Order : Nat := 167

def k_spec_l6Value : Nat := 171

def k_spec_AddInt : Nat := 172

def k_spec_FloorDiv : Nat := 173

def k_impl_areDecimals : Nat := 178

def k_impl_AddInt : Nat := 181

def k_impl_FloorDiv : Nat := 182

def k_impl_isDecimal : Nat := 185

def k_spec_GridOk : Nat := 190

def k_spec_RowsIn : Nat := 191

def k_impl_GridOk : Nat := 194

def k_impl_TaskOk_1 : Nat := 195

def k_spec_HistOf : Nat := 196

def k_spec_Prefix : Nat := 197

def k_spec_SubInt : Nat := 198

def k_impl_HistOf : Nat := 199

def k_impl_Prefix : Nat := 200

def k__impl_Slot__minus : Nat := 201

def k_spec_BoundOk : Nat := 205

def k_spec_Brought : Nat := 206

def k_impl_isCount : Nat := 208

def k_impl_BoundOk : Nat := 209

def k_impl_Brought : Nat := 210

def k_slices_IndexFunc___int_int_ : Nat := 215

def k__impl_Slot__plus : Nat := 216

def k_impl_SquareOver : Nat := 217

def k_spec_l13Add : Nat := 218

def k_impl_AddWide : Nat := 219

def k_impl_fracOf : Nat := 220

def k_impl_FracOk : Nat := 221

def k_impl_ScaleWide : Nat := 222

def k_impl_wideOf : Nat := 223

def k_impl_compareSizes : Nat := 224

def k_cmp_isNaN_int_ : Nat := 225

def k_spec_MulWide : Nat := 226

def k_spec_WideOk : Nat := 227

def k_spec_l3Abs : Nat := 228

def k_spec_l3Product : Nat := 229

def k_impl_areDecimals_1 : Nat := 237

def k_spec_CutsOk : Nat := 245

def k_impl_CutsOk : Nat := 247

def k_impl_GridOk_1 : Nat := 248

def k_impl_SubInt : Nat := 249

def k_spec_l14Leaf : Nat := 253

def k_impl_isLeafValue : Nat := 254

def k_impl_MulWide : Nat := 255

def k_impl_WideOk : Nat := 256

def k_math_bits_Sub64 : Nat := 257

def k_math_bits_Add64 : Nat := 258

def k_impl_size : Nat := 259

def k_math_bits_Mul64 : Nat := 260

def k_cmp_Compare_uint64_ : Nat := 261

def k_cmp_isNaN_uint64_ : Nat := 273

def k_laws_FnExactPartOf_vars : List Nat := [0, 1, 2, 3, 4, 5, 11, 7, 9, 14, 15, 16, 17, 18, 12, 19, 13, 10]

def k_laws_FnExactPartOf_ic : IC :=
 .seq (.reg [⟨(some (.V 5)), .box (.V 0), none⟩,
   ⟨(some (.V 7)), .box (.V 2), none⟩,
   ⟨(some (.V 9)), .box (.V 4), none⟩,
   ⟨(some (.V 10)), .mv (kb false), none⟩])
 (.seq (.seq (.reg [⟨(some (.E 20)), .mv (.V 1), none⟩,
   ⟨(some (.E 21)), .len (.E 20), none⟩,
   ⟨(some (.E 22)), .bin .gtr (.E 21) (ki 1048576), none⟩])
 (.cond (.E 22)
  (.seq (.reg [⟨(some (.V 10)), .mv (kb true), none⟩])
  (.ret))
  (.skip)))
 (.seq (.seq (.reg [⟨(some (.E 23)), .mv (.V 3), none⟩,
   ⟨(some (.E 24)), .len (.E 23), none⟩,
   ⟨(some (.E 25)), .bin .gtr (.E 24) (ki 1048576), none⟩])
 (.cond (.E 25)
  (.seq (.reg [⟨(some (.V 10)), .mv (kb true), none⟩])
  (.ret))
  (.skip)))
 (.seq (.reg [⟨(some (.V 11)), .mv (ki 1048576), none⟩])
 (.seq (.reg [⟨(some (.E 26)), .load true 2 (.V 5), none⟩,
   ⟨(some (.E 27)), .mv (.V 11), none⟩,
   ⟨(some (.E 28)), .call k_laws_szGrid [([1, 1], (.E 26)), ([0], (.E 27))], none⟩,
   ⟨(some (.V 11)), .mv (.E 28), none⟩])
 (.seq (.seq (.reg [⟨(some (.E 29)), .mv (.V 11), none⟩,
   ⟨(some (.E 30)), .bin .lss (.E 29) (ki 0), none⟩])
 (.cond (.E 30)
  (.seq (.reg [⟨(some (.V 10)), .mv (kb true), none⟩])
  (.ret))
  (.skip)))
 (.seq (.reg [⟨(some (.E 31)), .load true 8 (.V 7), none⟩,
   ⟨(some (.E 32)), .mv (.V 11), none⟩,
   ⟨(some (.E 33)), .call k_laws_szConfig [([0, 0, 0, 0, 0, 0, 0, 1], (.E 31)), ([0], (.E 32))], none⟩,
   ⟨(some (.V 11)), .mv (.E 33), none⟩])
 (.seq (.seq (.reg [⟨(some (.E 34)), .mv (.V 11), none⟩,
   ⟨(some (.E 35)), .bin .lss (.E 34) (ki 0), none⟩])
 (.cond (.E 35)
  (.seq (.reg [⟨(some (.V 10)), .mv (kb true), none⟩])
  (.ret))
  (.skip)))
 (.seq (.regD [(⟨(some (.E 37)), .load true 2 (.V 5), none⟩, 0, 0),
   (⟨(some (.E 38)), .call k_laws_toGrid [([1, 1], (.E 37))], none⟩, 0, 0),
   (⟨(some (.E 39)), .mv (.V 1), none⟩, 0, 0),
   (⟨(some (.E 40)), .call k_laws_toIntS [([1], (.E 39))], none⟩, 0, 0),
   (⟨(some (.E 41)), .load true 8 (.V 7), none⟩, 2, 0),
   (⟨(some (.E 42)), .call k_laws_toConfig [([0, 0, 0, 0, 0, 0, 0, 1], (.E 41))], none⟩, 0, 0),
   (⟨(some (.E 43)), .mv (.V 3), none⟩, 0, 0),
   (⟨(some (.E 44)), .call k_laws_toIntS [([1], (.E 43))], none⟩, 0, 0),
   (⟨(some (.E 45)), .load true 2 (.V 9), none⟩, 4, 0),
   (⟨(some (.E 46)), .call k_laws_toBound [([0, 0], (.E 45))], none⟩, 0, 0),
   (⟨(some (.E 47)), .call k_spec_PartOf [([1, 1], (.E 38)), ([1], (.E 40)), ([0, 0, 0, 0, 0, 0, 0, 1], (.E 42)), ([1], (.E 44)), ([0, 0], (.E 46))], none⟩, 0, 0),
   (⟨(some (.E 36)), .mv (.E 47), none⟩, 0, 0),
   (⟨(some (.E 48)), .ext 0 (.E 36), none⟩, 0, 0),
   (⟨(some (.E 49)), .ext 1 (.E 36), none⟩, 0, 0),
   (⟨(some (.V 12)), .allocL [(.v (.int .i64 0)), (.v (.int .i64 0)), (.v (.int .i64 0)), (.v (.int .i64 0)), (.v (.int .i64 0)), (.v (.int .i64 0))], none⟩, 0, 0),
   (⟨none, .store [0, 0, 0, 0, 0, 0] (.V 12) (.E 48), none⟩, 0, 0),
   (⟨(some (.V 13)), .mv (.E 49), none⟩, 0, 0)])
 (.seq (.reg [⟨(some (.E 50)), .load true 2 (.V 5), none⟩,
   ⟨(some (.E 51)), .call k_laws_toGrid [([1, 1], (.E 50))], none⟩,
   ⟨(some (.V 14)), .alloc [.e0, .e0], none⟩,
   ⟨none, .store [1, 1] (.V 14) (.E 51), none⟩])
 (.seq (.reg [⟨(some (.E 52)), .mv (.V 1), none⟩,
   ⟨(some (.E 53)), .call k_laws_toIntS [([1], (.E 52))], none⟩,
   ⟨(some (.V 15)), .mv (.E 53), none⟩])
 (.seq (.reg [⟨(some (.E 54)), .load true 8 (.V 7), none⟩,
   ⟨(some (.E 55)), .call k_laws_toConfig [([0, 0, 0, 0, 0, 0, 0, 1], (.E 54))], none⟩,
   ⟨(some (.V 16)), .alloc [(.v (.int .i64 0)), (.v (.int .i64 0)), (.v (.int .i64 0)), (.v (.int .i64 0)), (.v (.int .i64 0)), (.v (.int .i64 0)), (.v (.int .i64 0)), .e0], none⟩,
   ⟨none, .store [0, 0, 0, 0, 0, 0, 0, 1] (.V 16) (.E 55), none⟩])
 (.seq (.reg [⟨(some (.E 56)), .mv (.V 3), none⟩,
   ⟨(some (.E 57)), .call k_laws_toIntS [([1], (.E 56))], none⟩,
   ⟨(some (.V 17)), .mv (.E 57), none⟩])
 (.seq (.regD [(⟨(some (.E 59)), .load true 2 (.V 14), none⟩, 0, 1),
   (⟨(some (.E 60)), .mv (.V 15), none⟩, 0, 0),
   (⟨(some (.E 61)), .load true 8 (.V 16), none⟩, 0, 1),
   (⟨(some (.E 62)), .mv (.V 17), none⟩, 0, 0),
   (⟨(some (.E 63)), .load true 2 (.V 9), none⟩, 0, 0),
   (⟨(some (.E 64)), .call k_laws_toBound [([0, 0], (.E 63))], none⟩, 0, 0),
   (⟨(some (.E 65)), .call k_impl_PartOf [([1, 1], (.E 59)), ([1], (.E 60)), ([0, 0, 0, 0, 0, 0, 0, 1], (.E 61)), ([1], (.E 62)), ([0, 0], (.E 64))], none⟩, 0, 0),
   (⟨(some (.E 58)), .mv (.E 65), none⟩, 0, 0),
   (⟨(some (.E 66)), .ext 0 (.E 58), none⟩, 0, 0),
   (⟨(some (.E 67)), .ext 1 (.E 58), none⟩, 0, 0),
   (⟨(some (.V 18)), .allocL [(.v (.int .i64 0)), (.v (.int .i64 0)), (.v (.int .i64 0)), (.v (.int .i64 0)), (.v (.int .i64 0)), (.v (.int .i64 0))], none⟩, 0, 0),
   (⟨none, .store [0, 0, 0, 0, 0, 0] (.V 18) (.E 66), none⟩, 0, 0),
   (⟨(some (.V 19)), .mv (.E 67), none⟩, 0, 0)])
 (.seq (.seq (.reg [⟨(some (.E 68)), .load true 6 (.V 18), none⟩,
   ⟨(some (.E 69)), .load true 6 (.V 12), none⟩,
   ⟨(some (.E 70)), .call k_laws_eqCand [([0, 0, 0, 0, 0, 0], (.E 68)), ([0, 0, 0, 0, 0, 0], (.E 69))], none⟩,
   ⟨(some (.E 71)), .un .not (.E 70), none⟩,
   ⟨(some (.E 72)), .mv (.E 71), none⟩,
   ⟨(some (.E 73)), .mv (.V 19), some ((.E 72), false)⟩,
   ⟨(some (.E 74)), .mv (.V 13), some ((.E 72), false)⟩,
   ⟨(some (.E 75)), .eqb true [.b] (.E 73) (.E 74), some ((.E 72), false)⟩,
   ⟨(some (.E 76)), .pick (.E 72) (kb true) (.E 75), none⟩])
 (.cond (.E 76)
  (.seq (.reg [⟨(some (.V 10)), .mv (kb false), none⟩])
  (.ret))
  (.skip)))
 (.seq (.seq (.regD [(⟨(some (.E 77)), .load true 2 (.V 14), none⟩, 0, 1),
   (⟨(some (.E 78)), .load true 2 (.V 5), none⟩, 0, 0),
   (⟨(some (.E 79)), .call k_laws_toGrid [([1, 1], (.E 78))], none⟩, 0, 0),
   (⟨(some (.E 80)), .call k_laws_eqGrid [([1, 1], (.E 77)), ([1, 1], (.E 79))], none⟩, 0, 0),
   (⟨(some (.E 81)), .un .not (.E 80), none⟩, 0, 0)])
 (.cond (.E 81)
  (.seq (.reg [⟨(some (.V 10)), .mv (kb false), none⟩])
  (.ret))
  (.skip)))
 (.seq (.seq (.reg [⟨(some (.E 82)), .mv (.V 15), none⟩,
   ⟨(some (.E 83)), .mv (.V 1), none⟩,
   ⟨(some (.E 84)), .call k_laws_toIntS [([1], (.E 83))], none⟩,
   ⟨(some (.E 85)), .call k_laws_eqIntS [([1], (.E 82)), ([1], (.E 84))], none⟩,
   ⟨(some (.E 86)), .un .not (.E 85), none⟩])
 (.cond (.E 86)
  (.seq (.reg [⟨(some (.V 10)), .mv (kb false), none⟩])
  (.ret))
  (.skip)))
 (.seq (.seq (.regD [(⟨(some (.E 87)), .load true 8 (.V 16), none⟩, 0, 1),
   (⟨(some (.E 88)), .load true 8 (.V 7), none⟩, 0, 0),
   (⟨(some (.E 89)), .call k_laws_toConfig [([0, 0, 0, 0, 0, 0, 0, 1], (.E 88))], none⟩, 0, 0),
   (⟨(some (.E 90)), .call k_laws_eqConfig [([0, 0, 0, 0, 0, 0, 0, 1], (.E 87)), ([0, 0, 0, 0, 0, 0, 0, 1], (.E 89))], none⟩, 0, 0),
   (⟨(some (.E 91)), .un .not (.E 90), none⟩, 0, 0)])
 (.cond (.E 91)
  (.seq (.reg [⟨(some (.V 10)), .mv (kb false), none⟩])
  (.ret))
  (.skip)))
 (.seq (.seq (.reg [⟨(some (.E 92)), .mv (.V 17), none⟩,
   ⟨(some (.E 93)), .mv (.V 3), none⟩,
   ⟨(some (.E 94)), .call k_laws_toIntS [([1], (.E 93))], none⟩,
   ⟨(some (.E 95)), .call k_laws_eqIntS [([1], (.E 92)), ([1], (.E 94))], none⟩,
   ⟨(some (.E 96)), .un .not (.E 95), none⟩])
 (.cond (.E 96)
  (.seq (.reg [⟨(some (.V 10)), .mv (kb false), none⟩])
  (.ret))
  (.skip)))
 (.seq (.reg [⟨(some (.V 10)), .mv (kb true), none⟩])
 (.ret))))))))))))))))))))

def k_laws_FnExactPartOf_rv : List RV := [.tmp [0] 10]

def k_impl_BestOf_vars : List Nat := [0, 1, 2, 19, 18, 17, 3, 4, 10, 8, 34, 33, 32, 41, 40, 39, 13, 14, 11, 15, 12, 6, 7]

def k_impl_BestOf_b0 : IC :=
 .seq (.reg [⟨(some (.E 20)), .bin .lss (.V 19) (.V 18), none⟩])
 (.seq (.cond (.E 20)
  (.skip)
  (.exit 0))
 (.seq (.block 1 (.seq (.reg [⟨(some (.E 21)), .iaddr 6 (.V 17) (.V 19), none⟩,
    ⟨(some (.E 22)), .load true 6 (.E 21), none⟩,
    ⟨(some (.V 10)), .alloc [(.v (.int .i64 0)), (.v (.int .i64 0)), (.v (.int .i64 0)), (.v (.int .i64 0)), (.v (.int .i64 0)), (.v (.int .i64 0))], none⟩,
    ⟨none, .store [0, 0, 0, 0, 0, 0] (.V 10) (.E 22), none⟩])
  (.seq (.reg [⟨(some (.E 23)), .load true 8 (.V 3), none⟩,
    ⟨(some (.E 24)), .load true 2 (.V 4), none⟩,
    ⟨(some (.E 25)), .load true 6 (.V 10), none⟩,
    ⟨(some (.E 26)), .call k_impl_MayPart [([0, 0, 0, 0, 0, 0, 0, 1], (.E 23)), ([0, 0], (.E 24)), ([0, 0, 0, 0, 0, 0], (.E 25))], none⟩])
  (.cond (.E 26)
   (.reg [⟨(some (.E 27)), .mv (.V 8), none⟩,
     ⟨(some (.E 28)), .load true 6 (.V 10), none⟩,
     ⟨(some (.E 29)), .bslice 1 6 [(.v (.int .i64 0)), (.v (.int .i64 0)), (.v (.int .i64 0)), (.v (.int .i64 0)), (.v (.int .i64 0)), (.v (.int .i64 0))] [(0, (.E 28))], none⟩,
     ⟨(some (.E 30)), .app 48 6 (.E 27) (.E 29), none⟩,
     ⟨(some (.V 8)), .mv (.E 30), none⟩])
   (.skip)))))
 (.reg [⟨(some (.E 31)), .bin .add (.V 19) (ki 1), none⟩,
   ⟨(some (.V 19)), .mv (.E 31), none⟩])))

def k_impl_BestOf_b1 : IC :=
 .seq (.reg [⟨(some (.E 42)), .bin .lss (.V 41) (.V 40), none⟩])
 (.seq (.cond (.E 42)
  (.skip)
  (.exit 4))
 (.seq (.block 5 (.seq (.reg [⟨(some (.E 43)), .mv (.V 41), none⟩,
    ⟨(some (.E 44)), .iaddr 6 (.V 39) (.V 41), none⟩,
    ⟨(some (.E 45)), .load true 6 (.E 44), none⟩,
    ⟨(some (.V 15)), .alloc [(.v (.int .i64 0)), (.v (.int .i64 0)), (.v (.int .i64 0)), (.v (.int .i64 0)), (.v (.int .i64 0)), (.v (.int .i64 0))], none⟩,
    ⟨(some (.V 14)), .mv (.E 43), none⟩,
    ⟨none, .store [0, 0, 0, 0, 0, 0] (.V 15) (.E 45), none⟩])
  (.reg [⟨(some (.E 46)), .mv (.V 13), none⟩,
    ⟨(some (.E 47)), .mv (.E 46), none⟩,
    ⟨(some (.E 48)), .mv (.V 14), some ((.E 47), true)⟩,
    ⟨(some (.E 49)), .mv (.V 11), some ((.E 47), true)⟩,
    ⟨(some (.E 50)), .bin .eql (.E 48) (.E 49), some ((.E 47), true)⟩,
    ⟨(some (.E 51)), .mv (.E 50), some ((.E 47), true)⟩,
    ⟨(some (.E 52)), .load true 6 (.V 15), some ((.E 51), false)⟩,
    ⟨(some (.E 53)), .load true 6 (.V 12), some ((.E 51), false)⟩,
    ⟨(some (.E 54)), .faddr 3 (.V 3), some ((.E 51), false)⟩,
    ⟨(some (.E 55)), .load false 1 (.E 54), some ((.E 51), false)⟩,
    ⟨(some (.E 56)), .call k_impl_Better [([0, 0, 0, 0, 0, 0], (.E 52)), ([0, 0, 0, 0, 0, 0], (.E 53)), ([0], (.E 55))], some ((.E 51), false)⟩,
    ⟨(some (.E 57)), .un .not (.E 56), some ((.E 51), false)⟩,
    ⟨(some (.E 58)), .pick (.E 51) (kb true) (.E 57), some ((.E 47), true)⟩,
    ⟨(some (.E 59)), .pick (.E 47) (.E 58) (kb false), none⟩,
    ⟨(some (.V 13)), .mv (.E 59), none⟩])))
 (.reg [⟨(some (.E 60)), .bin .add (.V 41) (ki 1), none⟩,
   ⟨(some (.V 41)), .mv (.E 60), none⟩])))

def k_impl_BestOf_b2 : IC :=
 .seq (.reg [⟨(some (.E 35)), .bin .lss (.V 34) (.V 33), none⟩])
 (.seq (.cond (.E 35)
  (.skip)
  (.exit 2))
 (.seq (.block 3 (.seq (.reg [⟨(some (.E 36)), .mv (.V 34), none⟩,
    ⟨(some (.E 37)), .iaddr 6 (.V 32) (.V 34), none⟩,
    ⟨(some (.E 38)), .load true 6 (.E 37), none⟩,
    ⟨(some (.V 12)), .alloc [(.v (.int .i64 0)), (.v (.int .i64 0)), (.v (.int .i64 0)), (.v (.int .i64 0)), (.v (.int .i64 0)), (.v (.int .i64 0))], none⟩,
    ⟨(some (.V 11)), .mv (.E 36), none⟩,
    ⟨none, .store [0, 0, 0, 0, 0, 0] (.V 12) (.E 38), none⟩])
  (.seq (.reg [⟨(some (.V 13)), .mv (kb true), none⟩])
  (.seq (.seq (.reg [⟨(some (.V 39)), .mv (.V 8), none⟩,
    ⟨(some (.V 40)), .len (.V 39), none⟩,
    ⟨(some (.V 41)), .mv (ki 0), none⟩])
  (.block 4 (.loop k_impl_BestOf_b1)))
  (.seq (.reg [⟨(some (.E 61)), .mv (.V 13), none⟩])
  (.cond (.E 61)
   (.seq (.reg [⟨(some (.E 62)), .load true 6 (.V 12), none⟩,
     ⟨none, .store [0, 0, 0, 0, 0, 0] (.V 6) (.E 62), none⟩,
     ⟨(some (.V 7)), .mv (kb true), none⟩])
   (.ret))
   (.skip)))))))
 (.reg [⟨(some (.E 63)), .bin .add (.V 34) (ki 1), none⟩,
   ⟨(some (.V 34)), .mv (.E 63), none⟩])))

def k_impl_BestOf_ic : IC :=
 .seq (.reg [⟨(some (.V 3)), .box (.V 0), none⟩,
   ⟨(some (.V 4)), .box (.V 1), none⟩,
   ⟨(some (.V 6)), .alloc [(.v (.int .i64 0)), (.v (.int .i64 0)), (.v (.int .i64 0)), (.v (.int .i64 0)), (.v (.int .i64 0)), (.v (.int .i64 0))], none⟩,
   ⟨(some (.V 7)), .mv (kb false), none⟩])
 (.seq (.reg [⟨(some (.E 16)), .bslice 0 6 [(.v (.int .i64 0)), (.v (.int .i64 0)), (.v (.int .i64 0)), (.v (.int .i64 0)), (.v (.int .i64 0)), (.v (.int .i64 0))] [], none⟩,
   ⟨(some (.V 8)), .mv (.E 16), none⟩])
 (.seq (.seq (.reg [⟨(some (.V 17)), .mv (.V 2), none⟩,
   ⟨(some (.V 18)), .len (.V 17), none⟩,
   ⟨(some (.V 19)), .mv (ki 0), none⟩])
 (.block 0 (.loop k_impl_BestOf_b0)))
 (.seq (.seq (.reg [⟨(some (.V 32)), .mv (.V 8), none⟩,
   ⟨(some (.V 33)), .len (.V 32), none⟩,
   ⟨(some (.V 34)), .mv (ki 0), none⟩])
 (.block 2 (.loop k_impl_BestOf_b2)))
 (.seq (.reg [⟨(some (.E 64)), .build [(.v (.int .i64 0)), (.v (.int .i64 0)), (.v (.int .i64 0)), (.v (.int .i64 0)), (.v (.int .i64 0)), (.v (.int .i64 0))] [], none⟩,
   ⟨none, .store [0, 0, 0, 0, 0, 0] (.V 6) (.E 64), none⟩,
   ⟨(some (.V 7)), .mv (kb false), none⟩])
 (.ret)))))

def k_impl_BestOf_rv : List RV := [.cell [0, 0, 0, 0, 0, 0] 6 true, .tmp [0] 7]

def k_spec_BestOf_vars : List Nat := [0, 1, 2, 8, 3, 4, 10, 9, 6, 7]

def k_spec_BestOf_b0 : IC :=
 .seq (.seq (.reg [⟨(some (.E 24)), .mv (.V 10), none⟩,
   ⟨(some (.E 25)), .mv (.V 2), none⟩,
   ⟨(some (.E 26)), .len (.E 25), none⟩,
   ⟨(some (.E 27)), .bin .lss (.E 24) (.E 26), none⟩,
   ⟨(some (.E 28)), .mv (.E 27), none⟩,
   ⟨(some (.E 29)), .mv (.V 9), some ((.E 28), true)⟩,
   ⟨(some (.E 30)), .pick (.E 28) (.E 29) (kb false), none⟩])
 (.cond (.E 30)
  (.skip)
  (.exit 2)))
 (.seq (.block 3 (.regD [(⟨(some (.E 33)), .load true 8 (.V 3), none⟩, 0, 0),
    (⟨(some (.E 34)), .load true 2 (.V 4), none⟩, 0, 0),
    (⟨(some (.E 35)), .mv (.V 2), none⟩, 0, 0),
    (⟨(some (.E 36)), .mv (.V 10), none⟩, 0, 0),
    (⟨(some (.E 37)), .iaddr 6 (.E 35) (.E 36), none⟩, 0, 0),
    (⟨(some (.E 38)), .load true 6 (.E 37), none⟩, 0, 0),
    (⟨(some (.E 39)), .call k_spec_MayPart [([0, 0, 0, 0, 0, 0, 0, 1], (.E 33)), ([0, 0], (.E 34)), ([0, 0, 0, 0, 0, 0], (.E 38))], none⟩, 0, 0),
    (⟨(some (.E 40)), .un .not (.E 39), none⟩, 0, 0),
    (⟨(some (.E 41)), .mv (.E 40), none⟩, 0, 0),
    (⟨(some (.E 42)), .mv (.V 2), some ((.E 41), false)⟩, 0, 0),
    (⟨(some (.E 43)), .mv (.V 10), some ((.E 41), false)⟩, 0, 0),
    (⟨(some (.E 44)), .iaddr 6 (.E 42) (.E 43), some ((.E 41), false)⟩, 0, 0),
    (⟨(some (.E 45)), .load true 6 (.E 44), some ((.E 41), false)⟩, 0, 0),
    (⟨(some (.E 46)), .mv (.V 2), some ((.E 41), false)⟩, 0, 0),
    (⟨(some (.E 47)), .mv (.V 8), some ((.E 41), false)⟩, 0, 0),
    (⟨(some (.E 48)), .iaddr 6 (.E 46) (.E 47), some ((.E 41), false)⟩, 0, 0),
    (⟨(some (.E 49)), .load true 6 (.E 48), some ((.E 41), false)⟩, 0, 0),
    (⟨(some (.E 50)), .faddr 3 (.V 3), some ((.E 41), false)⟩, 0, 0),
    (⟨(some (.E 51)), .load false 1 (.E 50), some ((.E 41), false)⟩, 0, 0),
    (⟨(some (.E 52)), .call k_spec_Better [([0, 0, 0, 0, 0, 0], (.E 45)), ([0, 0, 0, 0, 0, 0], (.E 49)), ([0], (.E 51))], some ((.E 41), false)⟩, 0, 0),
    (⟨(some (.E 53)), .un .not (.E 52), some ((.E 41), false)⟩, 0, 0),
    (⟨(some (.E 54)), .pick (.E 41) (kb true) (.E 53), none⟩, 0, 0),
    (⟨(some (.V 9)), .mv (.E 54), none⟩, 0, 0)]))
 (.reg [⟨(some (.E 31)), .mv (.V 10), none⟩,
   ⟨(some (.E 32)), .bin .add (.E 31) (ki 1), none⟩,
   ⟨(some (.V 10)), .mv (.E 32), none⟩]))

def k_spec_BestOf_b1 : IC :=
 .seq (.seq (.reg [⟨(some (.E 11)), .mv (.V 8), none⟩,
   ⟨(some (.E 12)), .mv (.V 2), none⟩,
   ⟨(some (.E 13)), .len (.E 12), none⟩,
   ⟨(some (.E 14)), .bin .lss (.E 11) (.E 13), none⟩])
 (.cond (.E 14)
  (.skip)
  (.exit 0)))
 (.seq (.block 1 (.seq (.regD [(⟨(some (.E 17)), .load true 8 (.V 3), none⟩, 0, 0),
    (⟨(some (.E 18)), .load true 2 (.V 4), none⟩, 0, 0),
    (⟨(some (.E 19)), .mv (.V 2), none⟩, 0, 0),
    (⟨(some (.E 20)), .mv (.V 8), none⟩, 0, 0),
    (⟨(some (.E 21)), .iaddr 6 (.E 19) (.E 20), none⟩, 0, 0),
    (⟨(some (.E 22)), .load true 6 (.E 21), none⟩, 0, 0),
    (⟨(some (.E 23)), .call k_spec_MayPart [([0, 0, 0, 0, 0, 0, 0, 1], (.E 17)), ([0, 0], (.E 18)), ([0, 0, 0, 0, 0, 0], (.E 22))], none⟩, 0, 0),
    (⟨(some (.V 9)), .mv (.E 23), none⟩, 0, 0)])
  (.seq (.seq (.reg [⟨(some (.V 10)), .mv (ki 0), none⟩])
  (.block 2 (.loop k_spec_BestOf_b0)))
  (.seq (.reg [⟨(some (.E 55)), .mv (.V 9), none⟩])
  (.cond (.E 55)
   (.seq (.reg [⟨(some (.E 56)), .mv (.V 2), none⟩,
     ⟨(some (.E 57)), .mv (.V 8), none⟩,
     ⟨(some (.E 58)), .iaddr 6 (.E 56) (.E 57), none⟩,
     ⟨(some (.E 59)), .load true 6 (.E 58), none⟩,
     ⟨none, .store [0, 0, 0, 0, 0, 0] (.V 6) (.E 59), none⟩,
     ⟨(some (.V 7)), .mv (kb true), none⟩])
   (.ret))
   (.skip))))))
 (.reg [⟨(some (.E 15)), .mv (.V 8), none⟩,
   ⟨(some (.E 16)), .bin .add (.E 15) (ki 1), none⟩,
   ⟨(some (.V 8)), .mv (.E 16), none⟩]))

def k_spec_BestOf_ic : IC :=
 .seq (.reg [⟨(some (.V 3)), .box (.V 0), none⟩,
   ⟨(some (.V 4)), .box (.V 1), none⟩,
   ⟨(some (.V 6)), .alloc [(.v (.int .i64 0)), (.v (.int .i64 0)), (.v (.int .i64 0)), (.v (.int .i64 0)), (.v (.int .i64 0)), (.v (.int .i64 0))], none⟩,
   ⟨(some (.V 7)), .mv (kb false), none⟩])
 (.seq (.seq (.reg [⟨(some (.V 8)), .mv (ki 0), none⟩])
 (.block 0 (.loop k_spec_BestOf_b1)))
 (.seq (.reg [⟨(some (.E 60)), .build [(.v (.int .i64 0)), (.v (.int .i64 0)), (.v (.int .i64 0)), (.v (.int .i64 0)), (.v (.int .i64 0)), (.v (.int .i64 0))] [], none⟩,
   ⟨none, .store [0, 0, 0, 0, 0, 0] (.V 6) (.E 60), none⟩,
   ⟨(some (.V 7)), .mv (kb false), none⟩])
 (.ret)))

def k_spec_BestOf_rv : List RV := [.cell [0, 0, 0, 0, 0, 0] 6 true, .tmp [0] 7]

def k_impl_MayPart_vars : List Nat := [0, 1, 2, 3, 4, 5, 9, 7, 8, 6]

def k_impl_MayPart_ic : IC :=
 .seq (.reg [⟨(some (.V 3)), .box (.V 0), none⟩,
   ⟨(some (.V 4)), .box (.V 1), none⟩,
   ⟨(some (.V 5)), .box (.V 2), none⟩,
   ⟨(some (.V 6)), .mv (kb false), none⟩])
 (.seq (.reg [⟨(some (.E 11)), .load true 8 (.V 3), none⟩,
   ⟨(some (.E 12)), .load true 2 (.V 4), none⟩,
   ⟨(some (.E 13)), .load true 6 (.V 5), none⟩,
   ⟨(some (.E 14)), .call k_impl_SideValues [([0, 0, 0, 0, 0, 0, 0, 1], (.E 11)), ([0, 0], (.E 12)), ([0, 0, 0, 0, 0, 0], (.E 13))], none⟩,
   ⟨(some (.E 10)), .mv (.E 14), none⟩,
   ⟨(some (.E 15)), .ext 0 (.E 10), none⟩,
   ⟨(some (.E 16)), .ext 1 (.E 10), none⟩,
   ⟨(some (.E 17)), .ext 2 (.E 10), none⟩,
   ⟨(some (.V 7)), .mv (.E 15), none⟩,
   ⟨(some (.V 8)), .mv (.E 16), none⟩,
   ⟨(some (.V 9)), .mv (.E 17), none⟩])
 (.seq (.reg [⟨(some (.E 18)), .load true 8 (.V 3), none⟩,
   ⟨(some (.E 19)), .call k_impl_ConfigOk [([0, 0, 0, 0, 0, 0, 0, 1], (.E 18))], none⟩,
   ⟨(some (.E 20)), .mv (.E 19), none⟩,
   ⟨(some (.E 21)), .mv (.V 9), some ((.E 20), true)⟩,
   ⟨(some (.E 22)), .pick (.E 20) (.E 21) (kb false), none⟩,
   ⟨(some (.E 23)), .mv (.E 22), none⟩,
   ⟨(some (.E 24)), .faddr 2 (.V 5), some ((.E 23), true)⟩,
   ⟨(some (.E 25)), .faddr 0 (.E 24), some ((.E 23), true)⟩,
   ⟨(some (.E 26)), .load false 1 (.E 25), some ((.E 23), true)⟩,
   ⟨(some (.E 27)), .faddr 4 (.V 3), some ((.E 23), true)⟩,
   ⟨(some (.E 28)), .load false 1 (.E 27), some ((.E 23), true)⟩,
   ⟨(some (.E 29)), .bin .geq (.E 26) (.E 28), some ((.E 23), true)⟩,
   ⟨(some (.E 30)), .pick (.E 23) (.E 29) (kb false), none⟩,
   ⟨(some (.E 31)), .mv (.E 30), none⟩,
   ⟨(some (.E 32)), .faddr 4 (.V 5), some ((.E 31), true)⟩,
   ⟨(some (.E 33)), .faddr 0 (.E 32), some ((.E 31), true)⟩,
   ⟨(some (.E 34)), .load false 1 (.E 33), some ((.E 31), true)⟩,
   ⟨(some (.E 35)), .faddr 4 (.V 3), some ((.E 31), true)⟩,
   ⟨(some (.E 36)), .load false 1 (.E 35), some ((.E 31), true)⟩,
   ⟨(some (.E 37)), .bin .geq (.E 34) (.E 36), some ((.E 31), true)⟩,
   ⟨(some (.E 38)), .pick (.E 31) (.E 37) (kb false), none⟩,
   ⟨(some (.E 39)), .mv (.E 38), none⟩,
   ⟨(some (.E 40)), .load true 8 (.V 3), some ((.E 39), true)⟩,
   ⟨(some (.E 41)), .faddr 0 (.V 5), some ((.E 39), true)⟩,
   ⟨(some (.E 42)), .load false 1 (.E 41), some ((.E 39), true)⟩,
   ⟨(some (.E 43)), .call k_impl_SignFor [([0, 0, 0, 0, 0, 0, 0, 1], (.E 40)), ([0], (.E 42))], some ((.E 39), true)⟩,
   ⟨(some (.E 44)), .mv (.V 7), some ((.E 39), true)⟩,
   ⟨(some (.E 45)), .mv (.V 8), some ((.E 39), true)⟩,
   ⟨(some (.E 46)), .call k_impl_Agrees [([0], (.E 43)), ([0], (.E 44)), ([0], (.E 45))], some ((.E 39), true)⟩,
   ⟨(some (.E 47)), .pick (.E 39) (.E 46) (kb false), none⟩,
   ⟨(some (.E 48)), .mv (.E 47), none⟩,
   ⟨(some (.E 49)), .load true 6 (.V 5), some ((.E 48), true)⟩,
   ⟨(some (.E 50)), .faddr 3 (.V 3), some ((.E 48), true)⟩,
   ⟨(some (.E 51)), .load false 1 (.E 50), some ((.E 48), true)⟩,
   ⟨(some (.E 52)), .call k_impl_Improves [([0, 0, 0, 0, 0, 0], (.E 49)), ([0], (.E 51))], some ((.E 48), true)⟩,
   ⟨(some (.E 53)), .pick (.E 48) (.E 52) (kb false), none⟩,
   ⟨(some (.V 6)), .mv (.E 53), none⟩])
 (.ret)))

def k_impl_MayPart_rv : List RV := [.tmp [0] 6]

def k_spec_MayPart_vars : List Nat := [0, 1, 2, 3, 4, 5, 9, 7, 8, 6]

def k_spec_MayPart_ic : IC :=
 .seq (.reg [⟨(some (.V 3)), .box (.V 0), none⟩,
   ⟨(some (.V 4)), .box (.V 1), none⟩,
   ⟨(some (.V 5)), .box (.V 2), none⟩,
   ⟨(some (.V 6)), .mv (kb false), none⟩])
 (.seq (.reg [⟨(some (.E 11)), .load true 8 (.V 3), none⟩,
   ⟨(some (.E 12)), .load true 2 (.V 4), none⟩,
   ⟨(some (.E 13)), .load true 6 (.V 5), none⟩,
   ⟨(some (.E 14)), .call k_spec_SideValues [([0, 0, 0, 0, 0, 0, 0, 1], (.E 11)), ([0, 0], (.E 12)), ([0, 0, 0, 0, 0, 0], (.E 13))], none⟩,
   ⟨(some (.E 10)), .mv (.E 14), none⟩,
   ⟨(some (.E 15)), .ext 0 (.E 10), none⟩,
   ⟨(some (.E 16)), .ext 1 (.E 10), none⟩,
   ⟨(some (.E 17)), .ext 2 (.E 10), none⟩,
   ⟨(some (.V 7)), .mv (.E 15), none⟩,
   ⟨(some (.V 8)), .mv (.E 16), none⟩,
   ⟨(some (.V 9)), .mv (.E 17), none⟩])
 (.seq (.reg [⟨(some (.E 18)), .load true 8 (.V 3), none⟩,
   ⟨(some (.E 19)), .call k_spec_ConfigOk [([0, 0, 0, 0, 0, 0, 0, 1], (.E 18))], none⟩,
   ⟨(some (.E 20)), .mv (.E 19), none⟩,
   ⟨(some (.E 21)), .mv (.V 9), some ((.E 20), true)⟩,
   ⟨(some (.E 22)), .pick (.E 20) (.E 21) (kb false), none⟩,
   ⟨(some (.E 23)), .mv (.E 22), none⟩,
   ⟨(some (.E 24)), .faddr 2 (.V 5), some ((.E 23), true)⟩,
   ⟨(some (.E 25)), .faddr 0 (.E 24), some ((.E 23), true)⟩,
   ⟨(some (.E 26)), .load false 1 (.E 25), some ((.E 23), true)⟩,
   ⟨(some (.E 27)), .faddr 4 (.V 3), some ((.E 23), true)⟩,
   ⟨(some (.E 28)), .load false 1 (.E 27), some ((.E 23), true)⟩,
   ⟨(some (.E 29)), .bin .geq (.E 26) (.E 28), some ((.E 23), true)⟩,
   ⟨(some (.E 30)), .pick (.E 23) (.E 29) (kb false), none⟩,
   ⟨(some (.E 31)), .mv (.E 30), none⟩,
   ⟨(some (.E 32)), .faddr 4 (.V 5), some ((.E 31), true)⟩,
   ⟨(some (.E 33)), .faddr 0 (.E 32), some ((.E 31), true)⟩,
   ⟨(some (.E 34)), .load false 1 (.E 33), some ((.E 31), true)⟩,
   ⟨(some (.E 35)), .faddr 4 (.V 3), some ((.E 31), true)⟩,
   ⟨(some (.E 36)), .load false 1 (.E 35), some ((.E 31), true)⟩,
   ⟨(some (.E 37)), .bin .geq (.E 34) (.E 36), some ((.E 31), true)⟩,
   ⟨(some (.E 38)), .pick (.E 31) (.E 37) (kb false), none⟩,
   ⟨(some (.E 39)), .mv (.E 38), none⟩,
   ⟨(some (.E 40)), .load true 8 (.V 3), some ((.E 39), true)⟩,
   ⟨(some (.E 41)), .faddr 0 (.V 5), some ((.E 39), true)⟩,
   ⟨(some (.E 42)), .load false 1 (.E 41), some ((.E 39), true)⟩,
   ⟨(some (.E 43)), .call k_spec_SignFor [([0, 0, 0, 0, 0, 0, 0, 1], (.E 40)), ([0], (.E 42))], some ((.E 39), true)⟩,
   ⟨(some (.E 44)), .mv (.V 7), some ((.E 39), true)⟩,
   ⟨(some (.E 45)), .mv (.V 8), some ((.E 39), true)⟩,
   ⟨(some (.E 46)), .call k_spec_Agrees [([0], (.E 43)), ([0], (.E 44)), ([0], (.E 45))], some ((.E 39), true)⟩,
   ⟨(some (.E 47)), .pick (.E 39) (.E 46) (kb false), none⟩,
   ⟨(some (.E 48)), .mv (.E 47), none⟩,
   ⟨(some (.E 49)), .load true 6 (.V 5), some ((.E 48), true)⟩,
   ⟨(some (.E 50)), .faddr 3 (.V 3), some ((.E 48), true)⟩,
   ⟨(some (.E 51)), .load false 1 (.E 50), some ((.E 48), true)⟩,
   ⟨(some (.E 52)), .call k_spec_Improves [([0, 0, 0, 0, 0, 0], (.E 49)), ([0], (.E 51))], some ((.E 48), true)⟩,
   ⟨(some (.E 53)), .pick (.E 48) (.E 52) (kb false), none⟩,
   ⟨(some (.V 6)), .mv (.E 53), none⟩])
 (.ret)))

def k_spec_MayPart_rv : List RV := [.tmp [0] 6]

def k_impl_Better_vars : List Nat := [0, 1, 2, 3, 4, 7, 9, 8, 10, 12, 11, 6]

def k_impl_Better_ic : IC :=
 .seq (.reg [⟨(some (.V 3)), .box (.V 0), none⟩,
   ⟨(some (.V 4)), .box (.V 1), none⟩,
   ⟨(some (.V 6)), .mv (kb false), none⟩])
 (.seq (.reg [⟨(some (.E 14)), .load true 6 (.V 3), none⟩,
   ⟨(some (.E 15)), .mv (.V 2), none⟩,
   ⟨(some (.E 16)), .call k_impl_GainOf [([0, 0, 0, 0, 0, 0], (.E 14)), ([0], (.E 15))], none⟩,
   ⟨(some (.E 13)), .mv (.E 16), none⟩,
   ⟨(some (.E 17)), .ext 0 (.E 13), none⟩,
   ⟨(some (.E 18)), .ext 1 (.E 13), none⟩,
   ⟨(some (.V 7)), .alloc [(.v (.bool false)), (.v (.int .u64 0)), (.v (.int .u64 0)), (.v (.int .i64 0))], none⟩,
   ⟨none, .store [0, 0, 0, 0] (.V 7) (.E 17), none⟩,
   ⟨(some (.V 8)), .mv (.E 18), none⟩])
 (.seq (.reg [⟨(some (.E 20)), .load true 6 (.V 4), none⟩,
   ⟨(some (.E 21)), .mv (.V 2), none⟩,
   ⟨(some (.E 22)), .call k_impl_GainOf [([0, 0, 0, 0, 0, 0], (.E 20)), ([0], (.E 21))], none⟩,
   ⟨(some (.E 19)), .mv (.E 22), none⟩,
   ⟨(some (.E 23)), .ext 0 (.E 19), none⟩,
   ⟨(some (.E 24)), .ext 1 (.E 19), none⟩,
   ⟨(some (.V 9)), .alloc [(.v (.bool false)), (.v (.int .u64 0)), (.v (.int .u64 0)), (.v (.int .i64 0))], none⟩,
   ⟨none, .store [0, 0, 0, 0] (.V 9) (.E 23), none⟩,
   ⟨(some (.V 10)), .mv (.E 24), none⟩])
 (.seq (.reg [⟨(some (.E 26)), .load true 4 (.V 7), none⟩,
   ⟨(some (.E 27)), .load true 4 (.V 9), none⟩,
   ⟨(some (.E 28)), .call k_impl_CompareFrac [([0, 0, 0, 0], (.E 26)), ([0, 0, 0, 0], (.E 27))], none⟩,
   ⟨(some (.E 25)), .mv (.E 28), none⟩,
   ⟨(some (.E 29)), .ext 0 (.E 25), none⟩,
   ⟨(some (.E 30)), .ext 1 (.E 25), none⟩,
   ⟨(some (.V 11)), .mv (.E 29), none⟩,
   ⟨(some (.V 12)), .mv (.E 30), none⟩])
 (.seq (.reg [⟨(some (.E 31)), .mv (.V 8), none⟩,
   ⟨(some (.E 32)), .mv (.E 31), none⟩,
   ⟨(some (.E 33)), .mv (.V 10), some ((.E 32), true)⟩,
   ⟨(some (.E 34)), .pick (.E 32) (.E 33) (kb false), none⟩,
   ⟨(some (.E 35)), .mv (.E 34), none⟩,
   ⟨(some (.E 36)), .mv (.V 12), some ((.E 35), true)⟩,
   ⟨(some (.E 37)), .pick (.E 35) (.E 36) (kb false), none⟩,
   ⟨(some (.E 38)), .mv (.E 37), none⟩,
   ⟨(some (.E 39)), .mv (.V 11), some ((.E 38), true)⟩,
   ⟨(some (.E 40)), .bin .gtr (.E 39) (ki 0), some ((.E 38), true)⟩,
   ⟨(some (.E 41)), .mv (.E 40), some ((.E 38), true)⟩,
   ⟨(some (.E 42)), .mv (.V 11), some ((.E 41), false)⟩,
   ⟨(some (.E 43)), .bin .eql (.E 42) (ki 0), some ((.E 41), false)⟩,
   ⟨(some (.E 44)), .mv (.E 43), some ((.E 41), false)⟩,
   ⟨(some (.E 45)), .load true 6 (.V 3), some ((.E 44), true)⟩,
   ⟨(some (.E 46)), .load true 6 (.V 4), some ((.E 44), true)⟩,
   ⟨(some (.E 47)), .call k_impl_CandLess [([0, 0, 0, 0, 0, 0], (.E 45)), ([0, 0, 0, 0, 0, 0], (.E 46))], some ((.E 44), true)⟩,
   ⟨(some (.E 48)), .pick (.E 44) (.E 47) (kb false), some ((.E 41), false)⟩,
   ⟨(some (.E 49)), .pick (.E 41) (kb true) (.E 48), some ((.E 38), true)⟩,
   ⟨(some (.E 50)), .pick (.E 38) (.E 49) (kb false), none⟩,
   ⟨(some (.V 6)), .mv (.E 50), none⟩])
 (.ret)))))

def k_impl_Better_rv : List RV := [.tmp [0] 6]

def k_spec_GainOf_vars : List Nat := [0, 1, 2, 7, 9, 4, 6, 8, 5]

def k_spec_GainOf_ic : IC :=
 .seq (.reg [⟨(some (.V 2)), .box (.V 0), none⟩,
   ⟨(some (.V 4)), .alloc [(.v (.bool false)), (.v (.int .u64 0)), (.v (.int .u64 0)), (.v (.int .i64 0))], none⟩,
   ⟨(some (.V 5)), .mv (kb false), none⟩])
 (.seq (.reg [⟨(some (.E 11)), .faddr 2 (.V 2), none⟩,
   ⟨(some (.E 12)), .load true 2 (.E 11), none⟩,
   ⟨(some (.E 13)), .mv (.V 1), none⟩,
   ⟨(some (.E 14)), .call k_spec_PlainGain [([0, 0], (.E 12)), ([0], (.E 13))], none⟩,
   ⟨(some (.E 10)), .mv (.E 14), none⟩,
   ⟨(some (.E 15)), .ext 0 (.E 10), none⟩,
   ⟨(some (.E 16)), .ext 1 (.E 10), none⟩,
   ⟨(some (.V 6)), .alloc [(.v (.bool false)), (.v (.int .u64 0)), (.v (.int .u64 0)), (.v (.int .i64 0))], none⟩,
   ⟨none, .store [0, 0, 0, 0] (.V 6) (.E 15), none⟩,
   ⟨(some (.V 7)), .mv (.E 16), none⟩])
 (.seq (.reg [⟨(some (.E 18)), .faddr 4 (.V 2), none⟩,
   ⟨(some (.E 19)), .load true 2 (.E 18), none⟩,
   ⟨(some (.E 20)), .mv (.V 1), none⟩,
   ⟨(some (.E 21)), .call k_spec_PlainGain [([0, 0], (.E 19)), ([0], (.E 20))], none⟩,
   ⟨(some (.E 17)), .mv (.E 21), none⟩,
   ⟨(some (.E 22)), .ext 0 (.E 17), none⟩,
   ⟨(some (.E 23)), .ext 1 (.E 17), none⟩,
   ⟨(some (.V 8)), .alloc [(.v (.bool false)), (.v (.int .u64 0)), (.v (.int .u64 0)), (.v (.int .i64 0))], none⟩,
   ⟨none, .store [0, 0, 0, 0] (.V 8) (.E 22), none⟩,
   ⟨(some (.V 9)), .mv (.E 23), none⟩])
 (.seq (.seq (.reg [⟨(some (.E 24)), .mv (.V 7), none⟩,
   ⟨(some (.E 25)), .un .not (.E 24), none⟩,
   ⟨(some (.E 26)), .mv (.E 25), none⟩,
   ⟨(some (.E 27)), .mv (.V 9), some ((.E 26), false)⟩,
   ⟨(some (.E 28)), .un .not (.E 27), some ((.E 26), false)⟩,
   ⟨(some (.E 29)), .pick (.E 26) (kb true) (.E 28), none⟩])
 (.cond (.E 29)
  (.seq (.reg [⟨(some (.E 30)), .build [(.v (.bool false)), (.v (.int .u64 0)), (.v (.int .u64 0)), (.v (.int .i64 0))] [], none⟩,
    ⟨none, .store [0, 0, 0, 0] (.V 4) (.E 30), none⟩,
    ⟨(some (.V 5)), .mv (kb false), none⟩])
  (.ret))
  (.skip)))
 (.seq (.reg [⟨(some (.E 31)), .load true 4 (.V 6), none⟩,
   ⟨(some (.E 32)), .load true 4 (.V 8), none⟩,
   ⟨(some (.E 33)), .call k_spec_AddFrac [([0, 0, 0, 0], (.E 31)), ([0, 0, 0, 0], (.E 32))], none⟩,
   ⟨(some (.E 34)), .ext 0 (.E 33), none⟩,
   ⟨(some (.E 35)), .ext 1 (.E 33), none⟩,
   ⟨none, .store [0, 0, 0, 0] (.V 4) (.E 34), none⟩,
   ⟨(some (.V 5)), .mv (.E 35), none⟩])
 (.ret)))))

def k_spec_GainOf_rv : List RV := [.cell [0, 0, 0, 0] 4 true, .tmp [0] 5]

def k_spec_CompareFrac_vars : List Nat := [0, 1, 2, 3, 8, 6, 7, 4, 5]

def k_spec_CompareFrac_ic : IC :=
 .seq (.reg [⟨(some (.V 2)), .box (.V 0), none⟩,
   ⟨(some (.V 3)), .box (.V 1), none⟩,
   ⟨(some (.V 4)), .mv (ki 0), none⟩,
   ⟨(some (.V 5)), .mv (kb false), none⟩])
 (.seq (.reg [⟨(some (.E 10)), .load true 4 (.V 2), none⟩,
   ⟨(some (.E 11)), .load true 4 (.V 3), none⟩,
   ⟨(some (.E 12)), .call k_spec_l5Cross [([0, 0, 0, 0], (.E 10)), ([0, 0, 0, 0], (.E 11))], none⟩,
   ⟨(some (.E 9)), .mv (.E 12), none⟩,
   ⟨(some (.E 13)), .ext 0 (.E 9), none⟩,
   ⟨(some (.E 14)), .ext 1 (.E 9), none⟩,
   ⟨(some (.E 15)), .ext 2 (.E 9), none⟩,
   ⟨(some (.V 6)), .alloc [(.v (.bool false)), (.v (.int .u64 0)), (.v (.int .u64 0))], none⟩,
   ⟨(some (.V 7)), .alloc [(.v (.bool false)), (.v (.int .u64 0)), (.v (.int .u64 0))], none⟩,
   ⟨none, .store [0, 0, 0] (.V 6) (.E 13), none⟩,
   ⟨none, .store [0, 0, 0] (.V 7) (.E 14), none⟩,
   ⟨(some (.V 8)), .mv (.E 15), none⟩])
 (.seq (.seq (.reg [⟨(some (.E 16)), .mv (.V 8), none⟩,
   ⟨(some (.E 17)), .un .not (.E 16), none⟩])
 (.cond (.E 17)
  (.seq (.reg [⟨(some (.V 4)), .mv (ki 0), none⟩,
    ⟨(some (.V 5)), .mv (kb false), none⟩])
  (.ret))
  (.skip)))
 (.seq (.reg [⟨(some (.E 18)), .load true 3 (.V 6), none⟩,
   ⟨(some (.E 19)), .load true 3 (.V 7), none⟩,
   ⟨(some (.E 20)), .call k_spec_CompareWide [([0, 0, 0], (.E 18)), ([0, 0, 0], (.E 19))], none⟩,
   ⟨(some (.V 4)), .mv (.E 20), none⟩,
   ⟨(some (.V 5)), .mv (kb true), none⟩])
 (.ret))))

def k_spec_CompareFrac_rv : List RV := [.tmp [0] 4, .tmp [0] 5]

def k_laws_szConfig_vars : List Nat := [0, 1, 2, 4]

def k_laws_szConfig_ic : IC :=
 .seq (.reg [⟨(some (.V 2)), .box (.V 0), none⟩,
   ⟨(some (.V 4)), .mv (ki 0), none⟩])
 (.seq (.reg [⟨(some (.E 5)), .faddr 7 (.V 2), none⟩,
   ⟨(some (.E 6)), .load false 1 (.E 5), none⟩,
   ⟨(some (.E 7)), .mv (.V 1), none⟩,
   ⟨(some (.E 8)), .call k_laws_szIntS [([1], (.E 6)), ([0], (.E 7))], none⟩,
   ⟨(some (.V 1)), .mv (.E 8), none⟩])
 (.seq (.seq (.reg [⟨(some (.E 9)), .mv (.V 1), none⟩,
   ⟨(some (.E 10)), .bin .lss (.E 9) (ki 0), none⟩])
 (.cond (.E 10)
  (.seq (.reg [⟨(some (.V 4)), .mv (ki (-1)), none⟩])
  (.ret))
  (.skip)))
 (.seq (.reg [⟨(some (.E 11)), .mv (.V 1), none⟩,
   ⟨(some (.V 4)), .mv (.E 11), none⟩])
 (.ret))))

def k_laws_szConfig_rv : List RV := [.tmp [0] 4]

def k_laws_toConfig_vars : List Nat := [0, 1, 3, 2]

def k_laws_toConfig_ic : IC :=
 .seq (.reg [⟨(some (.V 1)), .box (.V 0), none⟩,
   ⟨(some (.V 2)), .alloc [(.v (.int .i64 0)), (.v (.int .i64 0)), (.v (.int .i64 0)), (.v (.int .i64 0)), (.v (.int .i64 0)), (.v (.int .i64 0)), (.v (.int .i64 0)), .e0], none⟩])
 (.seq (.reg [⟨(some (.V 3)), .alloc [(.v (.int .i64 0)), (.v (.int .i64 0)), (.v (.int .i64 0)), (.v (.int .i64 0)), (.v (.int .i64 0)), (.v (.int .i64 0)), (.v (.int .i64 0)), .e0], none⟩])
 (.seq (.reg [⟨(some (.E 4)), .faddr 0 (.V 1), none⟩,
   ⟨(some (.E 5)), .load false 1 (.E 4), none⟩,
   ⟨(some (.E 6)), .faddr 0 (.V 3), none⟩,
   ⟨none, .store [0] (.E 6) (.E 5), none⟩])
 (.seq (.reg [⟨(some (.E 7)), .faddr 1 (.V 1), none⟩,
   ⟨(some (.E 8)), .load false 1 (.E 7), none⟩,
   ⟨(some (.E 9)), .faddr 1 (.V 3), none⟩,
   ⟨none, .store [0] (.E 9) (.E 8), none⟩])
 (.seq (.reg [⟨(some (.E 10)), .faddr 2 (.V 1), none⟩,
   ⟨(some (.E 11)), .load false 1 (.E 10), none⟩,
   ⟨(some (.E 12)), .faddr 2 (.V 3), none⟩,
   ⟨none, .store [0] (.E 12) (.E 11), none⟩])
 (.seq (.reg [⟨(some (.E 13)), .faddr 3 (.V 1), none⟩,
   ⟨(some (.E 14)), .load false 1 (.E 13), none⟩,
   ⟨(some (.E 15)), .faddr 3 (.V 3), none⟩,
   ⟨none, .store [0] (.E 15) (.E 14), none⟩])
 (.seq (.reg [⟨(some (.E 16)), .faddr 4 (.V 1), none⟩,
   ⟨(some (.E 17)), .load false 1 (.E 16), none⟩,
   ⟨(some (.E 18)), .faddr 4 (.V 3), none⟩,
   ⟨none, .store [0] (.E 18) (.E 17), none⟩])
 (.seq (.reg [⟨(some (.E 19)), .faddr 5 (.V 1), none⟩,
   ⟨(some (.E 20)), .load false 1 (.E 19), none⟩,
   ⟨(some (.E 21)), .faddr 5 (.V 3), none⟩,
   ⟨none, .store [0] (.E 21) (.E 20), none⟩])
 (.seq (.reg [⟨(some (.E 22)), .faddr 6 (.V 1), none⟩,
   ⟨(some (.E 23)), .load false 1 (.E 22), none⟩,
   ⟨(some (.E 24)), .faddr 6 (.V 3), none⟩,
   ⟨none, .store [0] (.E 24) (.E 23), none⟩])
 (.seq (.reg [⟨(some (.E 25)), .faddr 7 (.V 1), none⟩,
   ⟨(some (.E 26)), .load false 1 (.E 25), none⟩,
   ⟨(some (.E 27)), .call k_laws_toIntS [([1], (.E 26))], none⟩,
   ⟨(some (.E 28)), .faddr 7 (.V 3), none⟩,
   ⟨none, .store [1] (.E 28) (.E 27), none⟩])
 (.seq (.reg [⟨(some (.E 29)), .load true 8 (.V 3), none⟩,
   ⟨none, .store [0, 0, 0, 0, 0, 0, 0, 1] (.V 2) (.E 29), none⟩])
 (.ret)))))))))))

def k_laws_toConfig_rv : List RV := [.cell [0, 0, 0, 0, 0, 0, 0, 1] 2 true]

def k_laws_eqConfig_vars : List Nat := [0, 1, 2, 3, 4]

def k_laws_eqConfig_ic : IC :=
 .seq (.reg [⟨(some (.V 2)), .box (.V 0), none⟩,
   ⟨(some (.V 3)), .box (.V 1), none⟩,
   ⟨(some (.V 4)), .mv (kb false), none⟩])
 (.seq (.seq (.reg [⟨(some (.E 5)), .faddr 0 (.V 2), none⟩,
   ⟨(some (.E 6)), .load false 1 (.E 5), none⟩,
   ⟨(some (.E 7)), .faddr 0 (.V 3), none⟩,
   ⟨(some (.E 8)), .load false 1 (.E 7), none⟩,
   ⟨(some (.E 9)), .bin .neq (.E 6) (.E 8), none⟩])
 (.cond (.E 9)
  (.seq (.reg [⟨(some (.V 4)), .mv (kb false), none⟩])
  (.ret))
  (.skip)))
 (.seq (.seq (.reg [⟨(some (.E 10)), .faddr 1 (.V 2), none⟩,
   ⟨(some (.E 11)), .load false 1 (.E 10), none⟩,
   ⟨(some (.E 12)), .faddr 1 (.V 3), none⟩,
   ⟨(some (.E 13)), .load false 1 (.E 12), none⟩,
   ⟨(some (.E 14)), .bin .neq (.E 11) (.E 13), none⟩])
 (.cond (.E 14)
  (.seq (.reg [⟨(some (.V 4)), .mv (kb false), none⟩])
  (.ret))
  (.skip)))
 (.seq (.seq (.reg [⟨(some (.E 15)), .faddr 2 (.V 2), none⟩,
   ⟨(some (.E 16)), .load false 1 (.E 15), none⟩,
   ⟨(some (.E 17)), .faddr 2 (.V 3), none⟩,
   ⟨(some (.E 18)), .load false 1 (.E 17), none⟩,
   ⟨(some (.E 19)), .bin .neq (.E 16) (.E 18), none⟩])
 (.cond (.E 19)
  (.seq (.reg [⟨(some (.V 4)), .mv (kb false), none⟩])
  (.ret))
  (.skip)))
 (.seq (.seq (.reg [⟨(some (.E 20)), .faddr 3 (.V 2), none⟩,
   ⟨(some (.E 21)), .load false 1 (.E 20), none⟩,
   ⟨(some (.E 22)), .faddr 3 (.V 3), none⟩,
   ⟨(some (.E 23)), .load false 1 (.E 22), none⟩,
   ⟨(some (.E 24)), .bin .neq (.E 21) (.E 23), none⟩])
 (.cond (.E 24)
  (.seq (.reg [⟨(some (.V 4)), .mv (kb false), none⟩])
  (.ret))
  (.skip)))
 (.seq (.seq (.reg [⟨(some (.E 25)), .faddr 4 (.V 2), none⟩,
   ⟨(some (.E 26)), .load false 1 (.E 25), none⟩,
   ⟨(some (.E 27)), .faddr 4 (.V 3), none⟩,
   ⟨(some (.E 28)), .load false 1 (.E 27), none⟩,
   ⟨(some (.E 29)), .bin .neq (.E 26) (.E 28), none⟩])
 (.cond (.E 29)
  (.seq (.reg [⟨(some (.V 4)), .mv (kb false), none⟩])
  (.ret))
  (.skip)))
 (.seq (.seq (.reg [⟨(some (.E 30)), .faddr 5 (.V 2), none⟩,
   ⟨(some (.E 31)), .load false 1 (.E 30), none⟩,
   ⟨(some (.E 32)), .faddr 5 (.V 3), none⟩,
   ⟨(some (.E 33)), .load false 1 (.E 32), none⟩,
   ⟨(some (.E 34)), .bin .neq (.E 31) (.E 33), none⟩])
 (.cond (.E 34)
  (.seq (.reg [⟨(some (.V 4)), .mv (kb false), none⟩])
  (.ret))
  (.skip)))
 (.seq (.seq (.reg [⟨(some (.E 35)), .faddr 6 (.V 2), none⟩,
   ⟨(some (.E 36)), .load false 1 (.E 35), none⟩,
   ⟨(some (.E 37)), .faddr 6 (.V 3), none⟩,
   ⟨(some (.E 38)), .load false 1 (.E 37), none⟩,
   ⟨(some (.E 39)), .bin .neq (.E 36) (.E 38), none⟩])
 (.cond (.E 39)
  (.seq (.reg [⟨(some (.V 4)), .mv (kb false), none⟩])
  (.ret))
  (.skip)))
 (.seq (.seq (.reg [⟨(some (.E 40)), .faddr 7 (.V 2), none⟩,
   ⟨(some (.E 41)), .load false 1 (.E 40), none⟩,
   ⟨(some (.E 42)), .faddr 7 (.V 3), none⟩,
   ⟨(some (.E 43)), .load false 1 (.E 42), none⟩,
   ⟨(some (.E 44)), .call k_laws_eqIntS [([1], (.E 41)), ([1], (.E 43))], none⟩,
   ⟨(some (.E 45)), .un .not (.E 44), none⟩])
 (.cond (.E 45)
  (.seq (.reg [⟨(some (.V 4)), .mv (kb false), none⟩])
  (.ret))
  (.skip)))
 (.seq (.reg [⟨(some (.V 4)), .mv (kb true), none⟩])
 (.ret))))))))))

def k_laws_eqConfig_rv : List RV := [.tmp [0] 4]

def k_laws_szGrid_vars : List Nat := [0, 1, 2, 4]

def k_laws_szGrid_ic : IC :=
 .seq (.reg [⟨(some (.V 2)), .box (.V 0), none⟩,
   ⟨(some (.V 4)), .mv (ki 0), none⟩])
 (.seq (.reg [⟨(some (.E 5)), .faddr 0 (.V 2), none⟩,
   ⟨(some (.E 6)), .load false 1 (.E 5), none⟩,
   ⟨(some (.E 7)), .mv (.V 1), none⟩,
   ⟨(some (.E 8)), .call k_laws_szIntSS [([1], (.E 6)), ([0], (.E 7))], none⟩,
   ⟨(some (.V 1)), .mv (.E 8), none⟩])
 (.seq (.seq (.reg [⟨(some (.E 9)), .mv (.V 1), none⟩,
   ⟨(some (.E 10)), .bin .lss (.E 9) (ki 0), none⟩])
 (.cond (.E 10)
  (.seq (.reg [⟨(some (.V 4)), .mv (ki (-1)), none⟩])
  (.ret))
  (.skip)))
 (.seq (.reg [⟨(some (.E 11)), .faddr 1 (.V 2), none⟩,
   ⟨(some (.E 12)), .load false 1 (.E 11), none⟩,
   ⟨(some (.E 13)), .mv (.V 1), none⟩,
   ⟨(some (.E 14)), .call k_laws_szIntSS [([1], (.E 12)), ([0], (.E 13))], none⟩,
   ⟨(some (.V 1)), .mv (.E 14), none⟩])
 (.seq (.seq (.reg [⟨(some (.E 15)), .mv (.V 1), none⟩,
   ⟨(some (.E 16)), .bin .lss (.E 15) (ki 0), none⟩])
 (.cond (.E 16)
  (.seq (.reg [⟨(some (.V 4)), .mv (ki (-1)), none⟩])
  (.ret))
  (.skip)))
 (.seq (.reg [⟨(some (.E 17)), .mv (.V 1), none⟩,
   ⟨(some (.V 4)), .mv (.E 17), none⟩])
 (.ret))))))

def k_laws_szGrid_rv : List RV := [.tmp [0] 4]

def k_laws_toGrid_vars : List Nat := [0, 1, 3, 2]

def k_laws_toGrid_ic : IC :=
 .seq (.reg [⟨(some (.V 1)), .box (.V 0), none⟩,
   ⟨(some (.V 2)), .alloc [.e0, .e0], none⟩])
 (.seq (.reg [⟨(some (.V 3)), .alloc [.e0, .e0], none⟩])
 (.seq (.reg [⟨(some (.E 4)), .faddr 0 (.V 1), none⟩,
   ⟨(some (.E 5)), .load false 1 (.E 4), none⟩,
   ⟨(some (.E 6)), .call k_laws_toIntSS [([1], (.E 5))], none⟩,
   ⟨(some (.E 7)), .faddr 0 (.V 3), none⟩,
   ⟨none, .store [1] (.E 7) (.E 6), none⟩])
 (.seq (.reg [⟨(some (.E 8)), .faddr 1 (.V 1), none⟩,
   ⟨(some (.E 9)), .load false 1 (.E 8), none⟩,
   ⟨(some (.E 10)), .call k_laws_toIntSS [([1], (.E 9))], none⟩,
   ⟨(some (.E 11)), .faddr 1 (.V 3), none⟩,
   ⟨none, .store [1] (.E 11) (.E 10), none⟩])
 (.seq (.reg [⟨(some (.E 12)), .load true 2 (.V 3), none⟩,
   ⟨none, .store [1, 1] (.V 2) (.E 12), none⟩])
 (.ret)))))

def k_laws_toGrid_rv : List RV := [.cell [1, 1] 2 true]

def k_laws_toIntS_vars : List Nat := [0, 4, 3, 2]

def k_laws_toIntS_b0 : IC :=
 .seq (.seq (.reg [⟨(some (.E 8)), .mv (.V 4), none⟩,
   ⟨(some (.E 9)), .mv (.V 0), none⟩,
   ⟨(some (.E 10)), .len (.E 9), none⟩,
   ⟨(some (.E 11)), .bin .lss (.E 8) (.E 10), none⟩])
 (.cond (.E 11)
  (.skip)
  (.exit 0)))
 (.seq (.block 1 (.reg [⟨(some (.E 14)), .mv (.V 3), none⟩,
    ⟨(some (.E 15)), .mv (.V 4), none⟩,
    ⟨(some (.E 16)), .mv (.V 0), none⟩,
    ⟨(some (.E 17)), .mv (.V 4), none⟩,
    ⟨(some (.E 18)), .iaddr 1 (.E 16) (.E 17), none⟩,
    ⟨(some (.E 19)), .load false 1 (.E 18), none⟩,
    ⟨(some (.E 20)), .iaddr 1 (.E 14) (.E 15), none⟩,
    ⟨none, .store [0] (.E 20) (.E 19), none⟩]))
 (.reg [⟨(some (.E 12)), .mv (.V 4), none⟩,
   ⟨(some (.E 13)), .bin .add (.E 12) (ki 1), none⟩,
   ⟨(some (.V 4)), .mv (.E 13), none⟩]))

def k_laws_toIntS_ic : IC :=
 .seq (.reg [⟨(some (.V 2)), .mv (.C .e0), none⟩])
 (.seq (.reg [⟨(some (.E 5)), .mv (.V 0), none⟩,
   ⟨(some (.E 6)), .len (.E 5), none⟩,
   ⟨(some (.E 7)), .mksl 8 1 [(.v (.int .i64 0))] (.E 6) (.E 6), none⟩,
   ⟨(some (.V 3)), .mv (.E 7), none⟩])
 (.seq (.seq (.reg [⟨(some (.V 4)), .mv (ki 0), none⟩])
 (.block 0 (.loop k_laws_toIntS_b0)))
 (.seq (.reg [⟨(some (.E 21)), .mv (.V 3), none⟩,
   ⟨(some (.V 2)), .mv (.E 21), none⟩])
 (.ret))))

def k_laws_toIntS_rv : List RV := [.tmp [1] 2]

def k_laws_eqGrid_vars : List Nat := [0, 1, 2, 3, 4]

def k_laws_eqGrid_ic : IC :=
 .seq (.reg [⟨(some (.V 2)), .box (.V 0), none⟩,
   ⟨(some (.V 3)), .box (.V 1), none⟩,
   ⟨(some (.V 4)), .mv (kb false), none⟩])
 (.seq (.seq (.reg [⟨(some (.E 5)), .faddr 0 (.V 2), none⟩,
   ⟨(some (.E 6)), .load false 1 (.E 5), none⟩,
   ⟨(some (.E 7)), .faddr 0 (.V 3), none⟩,
   ⟨(some (.E 8)), .load false 1 (.E 7), none⟩,
   ⟨(some (.E 9)), .call k_laws_eqIntSS [([1], (.E 6)), ([1], (.E 8))], none⟩,
   ⟨(some (.E 10)), .un .not (.E 9), none⟩])
 (.cond (.E 10)
  (.seq (.reg [⟨(some (.V 4)), .mv (kb false), none⟩])
  (.ret))
  (.skip)))
 (.seq (.seq (.reg [⟨(some (.E 11)), .faddr 1 (.V 2), none⟩,
   ⟨(some (.E 12)), .load false 1 (.E 11), none⟩,
   ⟨(some (.E 13)), .faddr 1 (.V 3), none⟩,
   ⟨(some (.E 14)), .load false 1 (.E 13), none⟩,
   ⟨(some (.E 15)), .call k_laws_eqIntSS [([1], (.E 12)), ([1], (.E 14))], none⟩,
   ⟨(some (.E 16)), .un .not (.E 15), none⟩])
 (.cond (.E 16)
  (.seq (.reg [⟨(some (.V 4)), .mv (kb false), none⟩])
  (.ret))
  (.skip)))
 (.seq (.reg [⟨(some (.V 4)), .mv (kb true), none⟩])
 (.ret))))

def k_laws_eqGrid_rv : List RV := [.tmp [0] 4]

def k_laws_eqIntS_vars : List Nat := [0, 1, 5, 4]

def k_laws_eqIntS_b0 : IC :=
 .seq (.seq (.reg [⟨(some (.E 11)), .mv (.V 5), none⟩,
   ⟨(some (.E 12)), .mv (.V 0), none⟩,
   ⟨(some (.E 13)), .len (.E 12), none⟩,
   ⟨(some (.E 14)), .bin .lss (.E 11) (.E 13), none⟩])
 (.cond (.E 14)
  (.skip)
  (.exit 0)))
 (.seq (.block 1 (.seq (.regD [(⟨(some (.E 17)), .mv (.V 0), none⟩, 0, 0),
    (⟨(some (.E 18)), .mv (.V 5), none⟩, 0, 0),
    (⟨(some (.E 19)), .iaddr 1 (.E 17) (.E 18), none⟩, 0, 0),
    (⟨(some (.E 20)), .load false 1 (.E 19), none⟩, 0, 0),
    (⟨(some (.E 21)), .mv (.V 1), none⟩, 0, 0),
    (⟨(some (.E 22)), .mv (.V 5), none⟩, 0, 0),
    (⟨(some (.E 23)), .iaddr 1 (.E 21) (.E 22), none⟩, 0, 0),
    (⟨(some (.E 24)), .load false 1 (.E 23), none⟩, 0, 0),
    (⟨(some (.E 25)), .bin .neq (.E 20) (.E 24), none⟩, 0, 0)])
  (.cond (.E 25)
   (.seq (.reg [⟨(some (.V 4)), .mv (kb false), none⟩])
   (.ret))
   (.skip))))
 (.reg [⟨(some (.E 15)), .mv (.V 5), none⟩,
   ⟨(some (.E 16)), .bin .add (.E 15) (ki 1), none⟩,
   ⟨(some (.V 5)), .mv (.E 16), none⟩]))

def k_laws_eqIntS_ic : IC :=
 .seq (.reg [⟨(some (.V 4)), .mv (kb false), none⟩])
 (.seq (.seq (.reg [⟨(some (.E 6)), .mv (.V 0), none⟩,
   ⟨(some (.E 7)), .len (.E 6), none⟩,
   ⟨(some (.E 8)), .mv (.V 1), none⟩,
   ⟨(some (.E 9)), .len (.E 8), none⟩,
   ⟨(some (.E 10)), .bin .neq (.E 7) (.E 9), none⟩])
 (.cond (.E 10)
  (.seq (.reg [⟨(some (.V 4)), .mv (kb false), none⟩])
  (.ret))
  (.skip)))
 (.seq (.seq (.reg [⟨(some (.V 5)), .mv (ki 0), none⟩])
 (.block 0 (.loop k_laws_eqIntS_b0)))
 (.seq (.reg [⟨(some (.V 4)), .mv (kb true), none⟩])
 (.ret))))

def k_laws_eqIntS_rv : List RV := [.tmp [0] 4]

def k_spec_PartOf_vars : List Nat := [0, 1, 2, 3, 4, 5, 7, 10, 13, 9, 12, 11]

def k_spec_PartOf_ic : IC :=
 .seq (.reg [⟨(some (.V 5)), .box (.V 0), none⟩,
   ⟨(some (.V 7)), .box (.V 2), none⟩,
   ⟨(some (.V 9)), .box (.V 4), none⟩,
   ⟨(some (.V 10)), .alloc [(.v (.int .i64 0)), (.v (.int .i64 0)), (.v (.int .i64 0)), (.v (.int .i64 0)), (.v (.int .i64 0)), (.v (.int .i64 0))], none⟩,
   ⟨(some (.V 11)), .mv (kb false), none⟩])
 (.seq (.seq (.reg [⟨(some (.E 14)), .load true 2 (.V 5), none⟩,
   ⟨(some (.E 15)), .mv (.V 1), none⟩,
   ⟨(some (.E 16)), .load true 8 (.V 7), none⟩,
   ⟨(some (.E 17)), .call k_spec_TaskOk [([1, 1], (.E 14)), ([1], (.E 15)), ([0, 0, 0, 0, 0, 0, 0, 1], (.E 16))], none⟩,
   ⟨(some (.E 18)), .un .not (.E 17), none⟩])
 (.cond (.E 18)
  (.seq (.reg [⟨(some (.E 19)), .build [(.v (.int .i64 0)), (.v (.int .i64 0)), (.v (.int .i64 0)), (.v (.int .i64 0)), (.v (.int .i64 0)), (.v (.int .i64 0))] [], none⟩,
    ⟨none, .store [0, 0, 0, 0, 0, 0] (.V 10) (.E 19), none⟩,
    ⟨(some (.V 11)), .mv (kb false), none⟩])
  (.ret))
  (.skip)))
 (.seq (.reg [⟨(some (.E 21)), .load true 2 (.V 5), none⟩,
   ⟨(some (.E 22)), .mv (.V 1), none⟩,
   ⟨(some (.E 23)), .mv (.V 3), none⟩,
   ⟨(some (.E 24)), .call k_spec_NodeHists [([1, 1], (.E 21)), ([1], (.E 22)), ([1], (.E 23))], none⟩,
   ⟨(some (.E 20)), .mv (.E 24), none⟩,
   ⟨(some (.E 25)), .ext 0 (.E 20), none⟩,
   ⟨(some (.E 26)), .ext 1 (.E 20), none⟩,
   ⟨(some (.V 12)), .mv (.E 25), none⟩,
   ⟨(some (.V 13)), .mv (.E 26), none⟩])
 (.seq (.seq (.reg [⟨(some (.E 27)), .mv (.V 13), none⟩,
   ⟨(some (.E 28)), .un .not (.E 27), none⟩])
 (.cond (.E 28)
  (.seq (.reg [⟨(some (.E 29)), .build [(.v (.int .i64 0)), (.v (.int .i64 0)), (.v (.int .i64 0)), (.v (.int .i64 0)), (.v (.int .i64 0)), (.v (.int .i64 0))] [], none⟩,
    ⟨none, .store [0, 0, 0, 0, 0, 0] (.V 10) (.E 29), none⟩,
    ⟨(some (.V 11)), .mv (kb false), none⟩])
  (.ret))
  (.skip)))
 (.seq (.regD [(⟨(some (.E 30)), .load true 8 (.V 7), none⟩, 0, 1),
   (⟨(some (.E 31)), .load true 2 (.V 9), none⟩, 0, 1),
   (⟨(some (.E 32)), .mv (.V 12), none⟩, 0, 0),
   (⟨(some (.E 33)), .faddr 4 (.V 7), none⟩, 0, 0),
   (⟨(some (.E 34)), .load false 1 (.E 33), none⟩, 0, 0),
   (⟨(some (.E 35)), .call k_spec_CandsOf [([1], (.E 32)), ([0], (.E 34))], none⟩, 0, 0),
   (⟨(some (.E 36)), .call k_spec_BestOf [([0, 0, 0, 0, 0, 0, 0, 1], (.E 30)), ([0, 0], (.E 31)), ([6], (.E 35))], none⟩, 0, 0),
   (⟨(some (.E 37)), .ext 0 (.E 36), none⟩, 0, 0),
   (⟨(some (.E 38)), .ext 1 (.E 36), none⟩, 0, 0),
   (⟨none, .store [0, 0, 0, 0, 0, 0] (.V 10) (.E 37), none⟩, 0, 0),
   (⟨(some (.V 11)), .mv (.E 38), none⟩, 0, 0)])
 (.ret)))))

def k_spec_PartOf_rv : List RV := [.cell [0, 0, 0, 0, 0, 0] 10 true, .tmp [0] 11]

def k_laws_toBound_vars : List Nat := [0, 1, 3, 2]

def k_laws_toBound_ic : IC :=
 .seq (.reg [⟨(some (.V 1)), .box (.V 0), none⟩,
   ⟨(some (.V 2)), .alloc [(.v (.int .i64 0)), (.v (.int .i64 0))], none⟩])
 (.seq (.reg [⟨(some (.V 3)), .alloc [(.v (.int .i64 0)), (.v (.int .i64 0))], none⟩])
 (.seq (.reg [⟨(some (.E 4)), .faddr 0 (.V 1), none⟩,
   ⟨(some (.E 5)), .load false 1 (.E 4), none⟩,
   ⟨(some (.E 6)), .faddr 0 (.V 3), none⟩,
   ⟨none, .store [0] (.E 6) (.E 5), none⟩])
 (.seq (.reg [⟨(some (.E 7)), .faddr 1 (.V 1), none⟩,
   ⟨(some (.E 8)), .load false 1 (.E 7), none⟩,
   ⟨(some (.E 9)), .faddr 1 (.V 3), none⟩,
   ⟨none, .store [0] (.E 9) (.E 8), none⟩])
 (.seq (.reg [⟨(some (.E 10)), .load true 2 (.V 3), none⟩,
   ⟨none, .store [0, 0] (.V 2) (.E 10), none⟩])
 (.ret)))))

def k_laws_toBound_rv : List RV := [.cell [0, 0] 2 true]

def k_impl_PartOf_vars : List Nat := [0, 1, 2, 3, 4, 5, 7, 10, 13, 9, 12, 11]

def k_impl_PartOf_ic : IC :=
 .seq (.reg [⟨(some (.V 5)), .box (.V 0), none⟩,
   ⟨(some (.V 7)), .box (.V 2), none⟩,
   ⟨(some (.V 9)), .box (.V 4), none⟩,
   ⟨(some (.V 10)), .alloc [(.v (.int .i64 0)), (.v (.int .i64 0)), (.v (.int .i64 0)), (.v (.int .i64 0)), (.v (.int .i64 0)), (.v (.int .i64 0))], none⟩,
   ⟨(some (.V 11)), .mv (kb false), none⟩])
 (.seq (.seq (.reg [⟨(some (.E 14)), .load true 2 (.V 5), none⟩,
   ⟨(some (.E 15)), .mv (.V 1), none⟩,
   ⟨(some (.E 16)), .load true 8 (.V 7), none⟩,
   ⟨(some (.E 17)), .call k_impl_TaskOk [([1, 1], (.E 14)), ([1], (.E 15)), ([0, 0, 0, 0, 0, 0, 0, 1], (.E 16))], none⟩,
   ⟨(some (.E 18)), .un .not (.E 17), none⟩])
 (.cond (.E 18)
  (.seq (.reg [⟨(some (.E 19)), .build [(.v (.int .i64 0)), (.v (.int .i64 0)), (.v (.int .i64 0)), (.v (.int .i64 0)), (.v (.int .i64 0)), (.v (.int .i64 0))] [], none⟩,
    ⟨none, .store [0, 0, 0, 0, 0, 0] (.V 10) (.E 19), none⟩,
    ⟨(some (.V 11)), .mv (kb false), none⟩])
  (.ret))
  (.skip)))
 (.seq (.reg [⟨(some (.E 21)), .load true 2 (.V 5), none⟩,
   ⟨(some (.E 22)), .mv (.V 1), none⟩,
   ⟨(some (.E 23)), .mv (.V 3), none⟩,
   ⟨(some (.E 24)), .call k_impl_NodeHists [([1, 1], (.E 21)), ([1], (.E 22)), ([1], (.E 23))], none⟩,
   ⟨(some (.E 20)), .mv (.E 24), none⟩,
   ⟨(some (.E 25)), .ext 0 (.E 20), none⟩,
   ⟨(some (.E 26)), .ext 1 (.E 20), none⟩,
   ⟨(some (.V 12)), .mv (.E 25), none⟩,
   ⟨(some (.V 13)), .mv (.E 26), none⟩])
 (.seq (.seq (.reg [⟨(some (.E 27)), .mv (.V 13), none⟩,
   ⟨(some (.E 28)), .un .not (.E 27), none⟩])
 (.cond (.E 28)
  (.seq (.reg [⟨(some (.E 29)), .build [(.v (.int .i64 0)), (.v (.int .i64 0)), (.v (.int .i64 0)), (.v (.int .i64 0)), (.v (.int .i64 0)), (.v (.int .i64 0))] [], none⟩,
    ⟨none, .store [0, 0, 0, 0, 0, 0] (.V 10) (.E 29), none⟩,
    ⟨(some (.V 11)), .mv (kb false), none⟩])
  (.ret))
  (.skip)))
 (.seq (.regD [(⟨(some (.E 30)), .load true 8 (.V 7), none⟩, 0, 1),
   (⟨(some (.E 31)), .load true 2 (.V 9), none⟩, 0, 1),
   (⟨(some (.E 32)), .mv (.V 12), none⟩, 0, 0),
   (⟨(some (.E 33)), .faddr 4 (.V 7), none⟩, 0, 0),
   (⟨(some (.E 34)), .load false 1 (.E 33), none⟩, 0, 0),
   (⟨(some (.E 35)), .call k_impl_CandsOf [([1], (.E 32)), ([0], (.E 34))], none⟩, 0, 0),
   (⟨(some (.E 36)), .call k_impl_BestOf [([0, 0, 0, 0, 0, 0, 0, 1], (.E 30)), ([0, 0], (.E 31)), ([6], (.E 35))], none⟩, 0, 0),
   (⟨(some (.E 37)), .ext 0 (.E 36), none⟩, 0, 0),
   (⟨(some (.E 38)), .ext 1 (.E 36), none⟩, 0, 0),
   (⟨none, .store [0, 0, 0, 0, 0, 0] (.V 10) (.E 37), none⟩, 0, 0),
   (⟨(some (.V 11)), .mv (.E 38), none⟩, 0, 0)])
 (.ret)))))

def k_impl_PartOf_rv : List RV := [.cell [0, 0, 0, 0, 0, 0] 10 true, .tmp [0] 11]

def k_laws_eqCand_vars : List Nat := [0, 1, 2, 3, 4]

def k_laws_eqCand_ic : IC :=
 .seq (.reg [⟨(some (.V 2)), .box (.V 0), none⟩,
   ⟨(some (.V 3)), .box (.V 1), none⟩,
   ⟨(some (.V 4)), .mv (kb false), none⟩])
 (.seq (.seq (.reg [⟨(some (.E 5)), .faddr 0 (.V 2), none⟩,
   ⟨(some (.E 6)), .load false 1 (.E 5), none⟩,
   ⟨(some (.E 7)), .faddr 0 (.V 3), none⟩,
   ⟨(some (.E 8)), .load false 1 (.E 7), none⟩,
   ⟨(some (.E 9)), .bin .neq (.E 6) (.E 8), none⟩])
 (.cond (.E 9)
  (.seq (.reg [⟨(some (.V 4)), .mv (kb false), none⟩])
  (.ret))
  (.skip)))
 (.seq (.seq (.reg [⟨(some (.E 10)), .faddr 1 (.V 2), none⟩,
   ⟨(some (.E 11)), .load false 1 (.E 10), none⟩,
   ⟨(some (.E 12)), .faddr 1 (.V 3), none⟩,
   ⟨(some (.E 13)), .load false 1 (.E 12), none⟩,
   ⟨(some (.E 14)), .bin .neq (.E 11) (.E 13), none⟩])
 (.cond (.E 14)
  (.seq (.reg [⟨(some (.V 4)), .mv (kb false), none⟩])
  (.ret))
  (.skip)))
 (.seq (.seq (.reg [⟨(some (.E 15)), .faddr 2 (.V 2), none⟩,
   ⟨(some (.E 16)), .load true 2 (.E 15), none⟩,
   ⟨(some (.E 17)), .faddr 2 (.V 3), none⟩,
   ⟨(some (.E 18)), .load true 2 (.E 17), none⟩,
   ⟨(some (.E 19)), .call k_laws_eqSlot [([0, 0], (.E 16)), ([0, 0], (.E 18))], none⟩,
   ⟨(some (.E 20)), .un .not (.E 19), none⟩])
 (.cond (.E 20)
  (.seq (.reg [⟨(some (.V 4)), .mv (kb false), none⟩])
  (.ret))
  (.skip)))
 (.seq (.seq (.reg [⟨(some (.E 21)), .faddr 4 (.V 2), none⟩,
   ⟨(some (.E 22)), .load true 2 (.E 21), none⟩,
   ⟨(some (.E 23)), .faddr 4 (.V 3), none⟩,
   ⟨(some (.E 24)), .load true 2 (.E 23), none⟩,
   ⟨(some (.E 25)), .call k_laws_eqSlot [([0, 0], (.E 22)), ([0, 0], (.E 24))], none⟩,
   ⟨(some (.E 26)), .un .not (.E 25), none⟩])
 (.cond (.E 26)
  (.seq (.reg [⟨(some (.V 4)), .mv (kb false), none⟩])
  (.ret))
  (.skip)))
 (.seq (.reg [⟨(some (.V 4)), .mv (kb true), none⟩])
 (.ret))))))

def k_laws_eqCand_rv : List RV := [.tmp [0] 4]

def k_spec_Better_vars : List Nat := [0, 1, 2, 3, 4, 8, 10, 7, 9, 12, 11, 6]

def k_spec_Better_ic : IC :=
 .seq (.reg [⟨(some (.V 3)), .box (.V 0), none⟩,
   ⟨(some (.V 4)), .box (.V 1), none⟩,
   ⟨(some (.V 6)), .mv (kb false), none⟩])
 (.seq (.reg [⟨(some (.E 14)), .load true 6 (.V 3), none⟩,
   ⟨(some (.E 15)), .mv (.V 2), none⟩,
   ⟨(some (.E 16)), .call k_spec_GainOf [([0, 0, 0, 0, 0, 0], (.E 14)), ([0], (.E 15))], none⟩,
   ⟨(some (.E 13)), .mv (.E 16), none⟩,
   ⟨(some (.E 17)), .ext 0 (.E 13), none⟩,
   ⟨(some (.E 18)), .ext 1 (.E 13), none⟩,
   ⟨(some (.V 7)), .alloc [(.v (.bool false)), (.v (.int .u64 0)), (.v (.int .u64 0)), (.v (.int .i64 0))], none⟩,
   ⟨none, .store [0, 0, 0, 0] (.V 7) (.E 17), none⟩,
   ⟨(some (.V 8)), .mv (.E 18), none⟩])
 (.seq (.reg [⟨(some (.E 20)), .load true 6 (.V 4), none⟩,
   ⟨(some (.E 21)), .mv (.V 2), none⟩,
   ⟨(some (.E 22)), .call k_spec_GainOf [([0, 0, 0, 0, 0, 0], (.E 20)), ([0], (.E 21))], none⟩,
   ⟨(some (.E 19)), .mv (.E 22), none⟩,
   ⟨(some (.E 23)), .ext 0 (.E 19), none⟩,
   ⟨(some (.E 24)), .ext 1 (.E 19), none⟩,
   ⟨(some (.V 9)), .alloc [(.v (.bool false)), (.v (.int .u64 0)), (.v (.int .u64 0)), (.v (.int .i64 0))], none⟩,
   ⟨none, .store [0, 0, 0, 0] (.V 9) (.E 23), none⟩,
   ⟨(some (.V 10)), .mv (.E 24), none⟩])
 (.seq (.seq (.reg [⟨(some (.E 25)), .mv (.V 8), none⟩,
   ⟨(some (.E 26)), .un .not (.E 25), none⟩,
   ⟨(some (.E 27)), .mv (.E 26), none⟩,
   ⟨(some (.E 28)), .mv (.V 10), some ((.E 27), false)⟩,
   ⟨(some (.E 29)), .un .not (.E 28), some ((.E 27), false)⟩,
   ⟨(some (.E 30)), .pick (.E 27) (kb true) (.E 29), none⟩])
 (.cond (.E 30)
  (.seq (.reg [⟨(some (.V 6)), .mv (kb false), none⟩])
  (.ret))
  (.skip)))
 (.seq (.reg [⟨(some (.E 32)), .load true 4 (.V 7), none⟩,
   ⟨(some (.E 33)), .load true 4 (.V 9), none⟩,
   ⟨(some (.E 34)), .call k_spec_CompareFrac [([0, 0, 0, 0], (.E 32)), ([0, 0, 0, 0], (.E 33))], none⟩,
   ⟨(some (.E 31)), .mv (.E 34), none⟩,
   ⟨(some (.E 35)), .ext 0 (.E 31), none⟩,
   ⟨(some (.E 36)), .ext 1 (.E 31), none⟩,
   ⟨(some (.V 11)), .mv (.E 35), none⟩,
   ⟨(some (.V 12)), .mv (.E 36), none⟩])
 (.seq (.reg [⟨(some (.E 37)), .mv (.V 12), none⟩,
   ⟨(some (.E 38)), .mv (.E 37), none⟩,
   ⟨(some (.E 39)), .mv (.V 11), some ((.E 38), true)⟩,
   ⟨(some (.E 40)), .bin .gtr (.E 39) (ki 0), some ((.E 38), true)⟩,
   ⟨(some (.E 41)), .mv (.E 40), some ((.E 38), true)⟩,
   ⟨(some (.E 42)), .mv (.V 11), some ((.E 41), false)⟩,
   ⟨(some (.E 43)), .bin .eql (.E 42) (ki 0), some ((.E 41), false)⟩,
   ⟨(some (.E 44)), .mv (.E 43), some ((.E 41), false)⟩,
   ⟨(some (.E 45)), .load true 6 (.V 3), some ((.E 44), true)⟩,
   ⟨(some (.E 46)), .load true 6 (.V 4), some ((.E 44), true)⟩,
   ⟨(some (.E 47)), .call k_spec_CandLess [([0, 0, 0, 0, 0, 0], (.E 45)), ([0, 0, 0, 0, 0, 0], (.E 46))], some ((.E 44), true)⟩,
   ⟨(some (.E 48)), .pick (.E 44) (.E 47) (kb false), some ((.E 41), false)⟩,
   ⟨(some (.E 49)), .pick (.E 41) (kb true) (.E 48), some ((.E 38), true)⟩,
   ⟨(some (.E 50)), .pick (.E 38) (.E 49) (kb false), none⟩,
   ⟨(some (.V 6)), .mv (.E 50), none⟩])
 (.ret))))))

def k_spec_Better_rv : List RV := [.tmp [0] 6]

def k_impl_SideValues_vars : List Nat := [0, 1, 2, 5, 3, 4, 10, 12, 9, 11, 6, 7, 8]

def k_impl_SideValues_ic : IC :=
 .seq (.reg [⟨(some (.V 3)), .box (.V 0), none⟩,
   ⟨(some (.V 4)), .box (.V 1), none⟩,
   ⟨(some (.V 5)), .box (.V 2), none⟩,
   ⟨(some (.V 6)), .mv (ki 0), none⟩,
   ⟨(some (.V 7)), .mv (ki 0), none⟩,
   ⟨(some (.V 8)), .mv (kb false), none⟩])
 (.seq (.reg [⟨(some (.E 14)), .faddr 2 (.V 5), none⟩,
   ⟨(some (.E 15)), .load true 2 (.E 14), none⟩,
   ⟨(some (.E 16)), .faddr 3 (.V 3), none⟩,
   ⟨(some (.E 17)), .load false 1 (.E 16), none⟩,
   ⟨(some (.E 18)), .load true 2 (.V 4), none⟩,
   ⟨(some (.E 19)), .call k_impl_LeafOf [([0, 0], (.E 15)), ([0], (.E 17)), ([0, 0], (.E 18))], none⟩,
   ⟨(some (.E 13)), .mv (.E 19), none⟩,
   ⟨(some (.E 20)), .ext 0 (.E 13), none⟩,
   ⟨(some (.E 21)), .ext 1 (.E 13), none⟩,
   ⟨(some (.V 9)), .mv (.E 20), none⟩,
   ⟨(some (.V 10)), .mv (.E 21), none⟩])
 (.seq (.reg [⟨(some (.E 23)), .faddr 4 (.V 5), none⟩,
   ⟨(some (.E 24)), .load true 2 (.E 23), none⟩,
   ⟨(some (.E 25)), .faddr 3 (.V 3), none⟩,
   ⟨(some (.E 26)), .load false 1 (.E 25), none⟩,
   ⟨(some (.E 27)), .load true 2 (.V 4), none⟩,
   ⟨(some (.E 28)), .call k_impl_LeafOf [([0, 0], (.E 24)), ([0], (.E 26)), ([0, 0], (.E 27))], none⟩,
   ⟨(some (.E 22)), .mv (.E 28), none⟩,
   ⟨(some (.E 29)), .ext 0 (.E 22), none⟩,
   ⟨(some (.E 30)), .ext 1 (.E 22), none⟩,
   ⟨(some (.V 11)), .mv (.E 29), none⟩,
   ⟨(some (.V 12)), .mv (.E 30), none⟩])
 (.seq (.seq (.reg [⟨(some (.E 31)), .mv (.V 10), none⟩,
   ⟨(some (.E 32)), .un .not (.E 31), none⟩,
   ⟨(some (.E 33)), .mv (.E 32), none⟩,
   ⟨(some (.E 34)), .mv (.V 12), some ((.E 33), false)⟩,
   ⟨(some (.E 35)), .un .not (.E 34), some ((.E 33), false)⟩,
   ⟨(some (.E 36)), .pick (.E 33) (kb true) (.E 35), none⟩])
 (.cond (.E 36)
  (.seq (.reg [⟨(some (.V 6)), .mv (ki 0), none⟩,
    ⟨(some (.V 7)), .mv (ki 0), none⟩,
    ⟨(some (.V 8)), .mv (kb false), none⟩])
  (.ret))
  (.skip)))
 (.seq (.reg [⟨(some (.E 37)), .mv (.V 9), none⟩,
   ⟨(some (.E 38)), .mv (.V 11), none⟩,
   ⟨(some (.V 6)), .mv (.E 37), none⟩,
   ⟨(some (.V 7)), .mv (.E 38), none⟩,
   ⟨(some (.V 8)), .mv (kb true), none⟩])
 (.ret)))))

def k_impl_SideValues_rv : List RV := [.tmp [0] 6, .tmp [0] 7, .tmp [0] 8]

def k_impl_ConfigOk_vars : List Nat := [0, 1, 2]

def k_impl_ConfigOk_ic : IC :=
 .seq (.reg [⟨(some (.V 1)), .box (.V 0), none⟩,
   ⟨(some (.V 2)), .mv (kb false), none⟩])
 (.seq (.reg [⟨(some (.E 3)), .faddr 0 (.V 1), none⟩,
   ⟨(some (.E 4)), .load false 1 (.E 3), none⟩,
   ⟨(some (.E 5)), .call k_impl_within [([0], (.E 4)), ([0], (ki 1)), ([0], (ki 8))], none⟩,
   ⟨(some (.E 6)), .mv (.E 5), none⟩,
   ⟨(some (.E 7)), .faddr 1 (.V 1), some ((.E 6), true)⟩,
   ⟨(some (.E 8)), .load false 1 (.E 7), some ((.E 6), true)⟩,
   ⟨(some (.E 9)), .call k_impl_within [([0], (.E 8)), ([0], (ki 0)), ([0], (ki 4))], some ((.E 6), true)⟩,
   ⟨(some (.E 10)), .pick (.E 6) (.E 9) (kb false), none⟩,
   ⟨(some (.E 11)), .mv (.E 10), none⟩,
   ⟨(some (.E 12)), .faddr 2 (.V 1), some ((.E 11), true)⟩,
   ⟨(some (.E 13)), .load false 1 (.E 12), some ((.E 11), true)⟩,
   ⟨(some (.E 14)), .call k_impl_within [([0], (.E 13)), ([0], (ki 2)), ([0], (ki 8))], some ((.E 11), true)⟩,
   ⟨(some (.E 15)), .pick (.E 11) (.E 14) (kb false), none⟩,
   ⟨(some (.E 16)), .mv (.E 15), none⟩,
   ⟨(some (.E 17)), .faddr 3 (.V 1), some ((.E 16), true)⟩,
   ⟨(some (.E 18)), .load false 1 (.E 17), some ((.E 16), true)⟩,
   ⟨(some (.E 19)), .call k_impl_within [([0], (.E 18)), ([0], (ki 1)), ([0], (ki 100))], some ((.E 16), true)⟩,
   ⟨(some (.E 20)), .pick (.E 16) (.E 19) (kb false), none⟩,
   ⟨(some (.E 21)), .mv (.E 20), none⟩,
   ⟨(some (.E 22)), .faddr 4 (.V 1), some ((.E 21), true)⟩,
   ⟨(some (.E 23)), .load false 1 (.E 22), some ((.E 21), true)⟩,
   ⟨(some (.E 24)), .call k_impl_within [([0], (.E 23)), ([0], (ki 1)), ([0], (ki 20))], some ((.E 21), true)⟩,
   ⟨(some (.E 25)), .pick (.E 21) (.E 24) (kb false), none⟩,
   ⟨(some (.E 26)), .mv (.E 25), none⟩,
   ⟨(some (.E 27)), .faddr 6 (.V 1), some ((.E 26), true)⟩,
   ⟨(some (.E 28)), .load false 1 (.E 27), some ((.E 26), true)⟩,
   ⟨(some (.E 29)), .call k_impl_within [([0], (.E 28)), ([0], (ki 1)), ([0], (ki 1000))], some ((.E 26), true)⟩,
   ⟨(some (.E 30)), .pick (.E 26) (.E 29) (kb false), none⟩,
   ⟨(some (.E 31)), .mv (.E 30), none⟩,
   ⟨(some (.E 32)), .faddr 5 (.V 1), some ((.E 31), true)⟩,
   ⟨(some (.E 33)), .load false 1 (.E 32), some ((.E 31), true)⟩,
   ⟨(some (.E 34)), .faddr 6 (.V 1), some ((.E 31), true)⟩,
   ⟨(some (.E 35)), .load false 1 (.E 34), some ((.E 31), true)⟩,
   ⟨(some (.E 36)), .call k_impl_within [([0], (.E 33)), ([0], (ki 1)), ([0], (.E 35))], some ((.E 31), true)⟩,
   ⟨(some (.E 37)), .pick (.E 31) (.E 36) (kb false), none⟩,
   ⟨(some (.E 38)), .mv (.E 37), none⟩,
   ⟨(some (.E 39)), .faddr 7 (.V 1), some ((.E 38), true)⟩,
   ⟨(some (.E 40)), .load false 1 (.E 39), some ((.E 38), true)⟩,
   ⟨(some (.E 41)), .len (.E 40), some ((.E 38), true)⟩,
   ⟨(some (.E 42)), .bin .leq (.E 41) (ki 4), some ((.E 38), true)⟩,
   ⟨(some (.E 43)), .pick (.E 38) (.E 42) (kb false), none⟩,
   ⟨(some (.E 44)), .mv (.E 43), none⟩,
   ⟨(some (.E 45)), .faddr 7 (.V 1), some ((.E 44), true)⟩,
   ⟨(some (.E 46)), .load false 1 (.E 45), some ((.E 44), true)⟩,
   ⟨(some (.E 47)), .call k_slices_ContainsFunc___int_int_ [([1], (.E 46)), ([0], (.C (.fn k_impl_ConfigOk_1 [])))], some ((.E 44), true)⟩,
   ⟨(some (.E 48)), .un .not (.E 47), some ((.E 44), true)⟩,
   ⟨(some (.E 49)), .pick (.E 44) (.E 48) (kb false), none⟩,
   ⟨(some (.V 2)), .mv (.E 49), none⟩])
 (.ret))

def k_impl_ConfigOk_rv : List RV := [.tmp [0] 2]

def k_impl_Agrees_vars : List Nat := [0, 1, 2, 7, 6]

def k_impl_Agrees_ic : IC :=
 .seq (.reg [⟨(some (.V 6)), .mv (kb false), none⟩])
 (.seq (.seq (.reg [⟨(some (.V 7)), .mv (.V 0), none⟩])
 (.block 0 (.seq (.reg [⟨(some (.E 9)), .bin .eql (.V 7) (ki 1), none⟩,
    ⟨(some (.E 8)), .mv (.E 9), none⟩])
  (.cond (.E 8)
   (.seq (.reg [⟨(some (.E 10)), .mv (.V 1), none⟩,
     ⟨(some (.E 11)), .mv (.V 2), none⟩,
     ⟨(some (.E 12)), .bin .leq (.E 10) (.E 11), none⟩,
     ⟨(some (.V 6)), .mv (.E 12), none⟩])
   (.ret))
   (.seq (.reg [⟨(some (.E 14)), .bin .eql (.V 7) (ki (-1)), none⟩,
     ⟨(some (.E 13)), .mv (.E 14), none⟩])
   (.cond (.E 13)
    (.seq (.reg [⟨(some (.E 15)), .mv (.V 1), none⟩,
      ⟨(some (.E 16)), .mv (.V 2), none⟩,
      ⟨(some (.E 17)), .bin .geq (.E 15) (.E 16), none⟩,
      ⟨(some (.V 6)), .mv (.E 17), none⟩])
    (.ret))
    (.skip)))))))
 (.seq (.reg [⟨(some (.V 6)), .mv (kb true), none⟩])
 (.ret)))

def k_impl_Agrees_rv : List RV := [.tmp [0] 6]

def k_impl_SignFor_vars : List Nat := [0, 1, 2, 4]

def k_impl_SignFor_ic : IC :=
 .seq (.reg [⟨(some (.V 2)), .box (.V 0), none⟩,
   ⟨(some (.V 4)), .mv (ki 0), none⟩])
 (.seq (.seq (.reg [⟨(some (.E 5)), .mv (.V 1), none⟩,
   ⟨(some (.E 6)), .faddr 7 (.V 2), none⟩,
   ⟨(some (.E 7)), .load false 1 (.E 6), none⟩,
   ⟨(some (.E 8)), .len (.E 7), none⟩,
   ⟨(some (.E 9)), .bin .sub (.E 8) (ki 1), none⟩,
   ⟨(some (.E 10)), .call k_impl_within [([0], (.E 5)), ([0], (ki 0)), ([0], (.E 9))], none⟩,
   ⟨(some (.E 11)), .un .not (.E 10), none⟩])
 (.cond (.E 11)
  (.seq (.reg [⟨(some (.V 4)), .mv (ki 0), none⟩])
  (.ret))
  (.skip)))
 (.seq (.reg [⟨(some (.E 12)), .faddr 7 (.V 2), none⟩,
   ⟨(some (.E 13)), .load false 1 (.E 12), none⟩,
   ⟨(some (.E 14)), .mv (.V 1), none⟩,
   ⟨(some (.E 15)), .iaddr 1 (.E 13) (.E 14), none⟩,
   ⟨(some (.E 16)), .load false 1 (.E 15), none⟩,
   ⟨(some (.V 4)), .mv (.E 16), none⟩])
 (.ret)))

def k_impl_SignFor_rv : List RV := [.tmp [0] 4]

def k_impl_Improves_vars : List Nat := [0, 1, 2, 7, 5, 9, 6, 8, 10, 12, 11, 4]

def k_impl_Improves_ic : IC :=
 .seq (.reg [⟨(some (.V 2)), .box (.V 0), none⟩,
   ⟨(some (.V 4)), .mv (kb false), none⟩])
 (.seq (.reg [⟨(some (.E 14)), .load true 6 (.V 2), none⟩,
   ⟨(some (.E 15)), .mv (.V 1), none⟩,
   ⟨(some (.E 16)), .call k_impl_GainOf [([0, 0, 0, 0, 0, 0], (.E 14)), ([0], (.E 15))], none⟩,
   ⟨(some (.E 13)), .mv (.E 16), none⟩,
   ⟨(some (.E 17)), .ext 0 (.E 13), none⟩,
   ⟨(some (.E 18)), .ext 1 (.E 13), none⟩,
   ⟨(some (.V 5)), .alloc [(.v (.bool false)), (.v (.int .u64 0)), (.v (.int .u64 0)), (.v (.int .i64 0))], none⟩,
   ⟨none, .store [0, 0, 0, 0] (.V 5) (.E 17), none⟩,
   ⟨(some (.V 6)), .mv (.E 18), none⟩])
 (.seq (.reg [⟨(some (.E 20)), .load true 6 (.V 2), none⟩,
   ⟨(some (.E 21)), .call k_impl_BothOf [([0, 0, 0, 0, 0, 0], (.E 20))], none⟩,
   ⟨(some (.E 19)), .mv (.E 21), none⟩,
   ⟨(some (.E 22)), .ext 0 (.E 19), none⟩,
   ⟨(some (.E 23)), .ext 1 (.E 19), none⟩,
   ⟨(some (.V 7)), .alloc [(.v (.int .i64 0)), (.v (.int .i64 0))], none⟩,
   ⟨none, .store [0, 0] (.V 7) (.E 22), none⟩,
   ⟨(some (.V 8)), .mv (.E 23), none⟩])
 (.seq (.reg [⟨(some (.E 25)), .load true 2 (.V 7), none⟩,
   ⟨(some (.E 26)), .mv (.V 1), none⟩,
   ⟨(some (.E 27)), .call k_impl_PlainGain [([0, 0], (.E 25)), ([0], (.E 26))], none⟩,
   ⟨(some (.E 24)), .mv (.E 27), none⟩,
   ⟨(some (.E 28)), .ext 0 (.E 24), none⟩,
   ⟨(some (.E 29)), .ext 1 (.E 24), none⟩,
   ⟨(some (.V 9)), .alloc [(.v (.bool false)), (.v (.int .u64 0)), (.v (.int .u64 0)), (.v (.int .i64 0))], none⟩,
   ⟨none, .store [0, 0, 0, 0] (.V 9) (.E 28), none⟩,
   ⟨(some (.V 10)), .mv (.E 29), none⟩])
 (.seq (.reg [⟨(some (.E 31)), .load true 4 (.V 5), none⟩,
   ⟨(some (.E 32)), .load true 4 (.V 9), none⟩,
   ⟨(some (.E 33)), .call k_impl_CompareFrac [([0, 0, 0, 0], (.E 31)), ([0, 0, 0, 0], (.E 32))], none⟩,
   ⟨(some (.E 30)), .mv (.E 33), none⟩,
   ⟨(some (.E 34)), .ext 0 (.E 30), none⟩,
   ⟨(some (.E 35)), .ext 1 (.E 30), none⟩,
   ⟨(some (.V 11)), .mv (.E 34), none⟩,
   ⟨(some (.V 12)), .mv (.E 35), none⟩])
 (.seq (.reg [⟨(some (.E 36)), .mv (.V 6), none⟩,
   ⟨(some (.E 37)), .mv (.E 36), none⟩,
   ⟨(some (.E 38)), .mv (.V 8), some ((.E 37), true)⟩,
   ⟨(some (.E 39)), .pick (.E 37) (.E 38) (kb false), none⟩,
   ⟨(some (.E 40)), .mv (.E 39), none⟩,
   ⟨(some (.E 41)), .mv (.V 10), some ((.E 40), true)⟩,
   ⟨(some (.E 42)), .pick (.E 40) (.E 41) (kb false), none⟩,
   ⟨(some (.E 43)), .mv (.E 42), none⟩,
   ⟨(some (.E 44)), .mv (.V 12), some ((.E 43), true)⟩,
   ⟨(some (.E 45)), .pick (.E 43) (.E 44) (kb false), none⟩,
   ⟨(some (.E 46)), .mv (.E 45), none⟩,
   ⟨(some (.E 47)), .mv (.V 11), some ((.E 46), true)⟩,
   ⟨(some (.E 48)), .bin .gtr (.E 47) (ki 0), some ((.E 46), true)⟩,
   ⟨(some (.E 49)), .pick (.E 46) (.E 48) (kb false), none⟩,
   ⟨(some (.V 4)), .mv (.E 49), none⟩])
 (.ret))))))

def k_impl_Improves_rv : List RV := [.tmp [0] 4]

def k_spec_SideValues_vars : List Nat := [0, 1, 2, 5, 3, 4, 10, 12, 9, 11, 6, 7, 8]

def k_spec_SideValues_ic : IC :=
 .seq (.reg [⟨(some (.V 3)), .box (.V 0), none⟩,
   ⟨(some (.V 4)), .box (.V 1), none⟩,
   ⟨(some (.V 5)), .box (.V 2), none⟩,
   ⟨(some (.V 6)), .mv (ki 0), none⟩,
   ⟨(some (.V 7)), .mv (ki 0), none⟩,
   ⟨(some (.V 8)), .mv (kb false), none⟩])
 (.seq (.reg [⟨(some (.E 14)), .faddr 2 (.V 5), none⟩,
   ⟨(some (.E 15)), .load true 2 (.E 14), none⟩,
   ⟨(some (.E 16)), .faddr 3 (.V 3), none⟩,
   ⟨(some (.E 17)), .load false 1 (.E 16), none⟩,
   ⟨(some (.E 18)), .load true 2 (.V 4), none⟩,
   ⟨(some (.E 19)), .call k_spec_LeafOf [([0, 0], (.E 15)), ([0], (.E 17)), ([0, 0], (.E 18))], none⟩,
   ⟨(some (.E 13)), .mv (.E 19), none⟩,
   ⟨(some (.E 20)), .ext 0 (.E 13), none⟩,
   ⟨(some (.E 21)), .ext 1 (.E 13), none⟩,
   ⟨(some (.V 9)), .mv (.E 20), none⟩,
   ⟨(some (.V 10)), .mv (.E 21), none⟩])
 (.seq (.reg [⟨(some (.E 23)), .faddr 4 (.V 5), none⟩,
   ⟨(some (.E 24)), .load true 2 (.E 23), none⟩,
   ⟨(some (.E 25)), .faddr 3 (.V 3), none⟩,
   ⟨(some (.E 26)), .load false 1 (.E 25), none⟩,
   ⟨(some (.E 27)), .load true 2 (.V 4), none⟩,
   ⟨(some (.E 28)), .call k_spec_LeafOf [([0, 0], (.E 24)), ([0], (.E 26)), ([0, 0], (.E 27))], none⟩,
   ⟨(some (.E 22)), .mv (.E 28), none⟩,
   ⟨(some (.E 29)), .ext 0 (.E 22), none⟩,
   ⟨(some (.E 30)), .ext 1 (.E 22), none⟩,
   ⟨(some (.V 11)), .mv (.E 29), none⟩,
   ⟨(some (.V 12)), .mv (.E 30), none⟩])
 (.seq (.seq (.reg [⟨(some (.E 31)), .mv (.V 10), none⟩,
   ⟨(some (.E 32)), .un .not (.E 31), none⟩,
   ⟨(some (.E 33)), .mv (.E 32), none⟩,
   ⟨(some (.E 34)), .mv (.V 12), some ((.E 33), false)⟩,
   ⟨(some (.E 35)), .un .not (.E 34), some ((.E 33), false)⟩,
   ⟨(some (.E 36)), .pick (.E 33) (kb true) (.E 35), none⟩])
 (.cond (.E 36)
  (.seq (.reg [⟨(some (.V 6)), .mv (ki 0), none⟩,
    ⟨(some (.V 7)), .mv (ki 0), none⟩,
    ⟨(some (.V 8)), .mv (kb false), none⟩])
  (.ret))
  (.skip)))
 (.seq (.reg [⟨(some (.E 37)), .mv (.V 9), none⟩,
   ⟨(some (.E 38)), .mv (.V 11), none⟩,
   ⟨(some (.V 6)), .mv (.E 37), none⟩,
   ⟨(some (.V 7)), .mv (.E 38), none⟩,
   ⟨(some (.V 8)), .mv (kb true), none⟩])
 (.ret)))))

def k_spec_SideValues_rv : List RV := [.tmp [0] 6, .tmp [0] 7, .tmp [0] 8]

def k_spec_ConfigOk_vars : List Nat := [0, 1, 4, 3, 5, 2]

def k_spec_ConfigOk_b0 : IC :=
 .seq (.seq (.reg [⟨(some (.E 8)), .mv (.V 4), none⟩,
   ⟨(some (.E 9)), .bin .lss (.E 8) (ki 5), none⟩])
 (.cond (.E 9)
  (.skip)
  (.exit 0)))
 (.seq (.block 1 (.seq (.regD [(⟨(some (.E 12)), .mv (.V 3), none⟩, 0, 0),
    (⟨(some (.E 13)), .mv (.V 4), none⟩, 0, 0),
    (⟨(some (.E 14)), .iaddr 1 (.E 12) (.E 13), none⟩, 0, 2),
    (⟨(some (.E 15)), .load false 1 (.E 14), none⟩, 0, 2),
    (⟨(some (.E 16)), .call k_spec_l8Least [], none⟩, 0, 0),
    (⟨(some (.E 17)), .mv (.V 4), none⟩, 0, 0),
    (⟨(some (.E 18)), .iaddr 1 (.E 16) (.E 17), none⟩, 0, 1),
    (⟨(some (.E 19)), .load false 1 (.E 18), none⟩, 0, 1),
    (⟨(some (.E 20)), .call k_spec_l8Most [], none⟩, 0, 0),
    (⟨(some (.E 21)), .mv (.V 4), none⟩, 0, 0),
    (⟨(some (.E 22)), .iaddr 1 (.E 20) (.E 21), none⟩, 0, 0),
    (⟨(some (.E 23)), .load false 1 (.E 22), none⟩, 0, 0),
    (⟨(some (.E 24)), .call k_spec_l1In [([0], (.E 15)), ([0], (.E 19)), ([0], (.E 23))], none⟩, 0, 0),
    (⟨(some (.E 25)), .un .not (.E 24), none⟩, 0, 0)])
  (.cond (.E 25)
   (.seq (.reg [⟨(some (.V 2)), .mv (kb false), none⟩])
   (.ret))
   (.skip))))
 (.reg [⟨(some (.E 10)), .mv (.V 4), none⟩,
   ⟨(some (.E 11)), .bin .add (.E 10) (ki 1), none⟩,
   ⟨(some (.V 4)), .mv (.E 11), none⟩]))

def k_spec_ConfigOk_b1 : IC :=
 .seq (.seq (.reg [⟨(some (.E 26)), .mv (.V 5), none⟩,
   ⟨(some (.E 27)), .faddr 7 (.V 1), none⟩,
   ⟨(some (.E 28)), .load false 1 (.E 27), none⟩,
   ⟨(some (.E 29)), .len (.E 28), none⟩,
   ⟨(some (.E 30)), .bin .lss (.E 26) (.E 29), none⟩])
 (.cond (.E 30)
  (.skip)
  (.exit 2)))
 (.seq (.block 3 (.seq (.reg [⟨(some (.E 33)), .faddr 7 (.V 1), none⟩,
    ⟨(some (.E 34)), .load false 1 (.E 33), none⟩,
    ⟨(some (.E 35)), .mv (.V 5), none⟩,
    ⟨(some (.E 36)), .iaddr 1 (.E 34) (.E 35), none⟩,
    ⟨(some (.E 37)), .load false 1 (.E 36), none⟩,
    ⟨(some (.E 38)), .call k_spec_l1In [([0], (.E 37)), ([0], (ki (-1))), ([0], (ki 1))], none⟩,
    ⟨(some (.E 39)), .un .not (.E 38), none⟩])
  (.cond (.E 39)
   (.seq (.reg [⟨(some (.V 2)), .mv (kb false), none⟩])
   (.ret))
   (.skip))))
 (.reg [⟨(some (.E 31)), .mv (.V 5), none⟩,
   ⟨(some (.E 32)), .bin .add (.E 31) (ki 1), none⟩,
   ⟨(some (.V 5)), .mv (.E 32), none⟩]))

def k_spec_ConfigOk_ic : IC :=
 .seq (.reg [⟨(some (.V 1)), .box (.V 0), none⟩,
   ⟨(some (.V 2)), .mv (kb false), none⟩])
 (.seq (.reg [⟨(some (.E 6)), .load true 8 (.V 1), none⟩,
   ⟨(some (.E 7)), .call k_spec_l8Numbers [([0, 0, 0, 0, 0, 0, 0, 1], (.E 6))], none⟩,
   ⟨(some (.V 3)), .mv (.E 7), none⟩])
 (.seq (.seq (.reg [⟨(some (.V 4)), .mv (ki 0), none⟩])
 (.block 0 (.loop k_spec_ConfigOk_b0)))
 (.seq (.seq (.reg [⟨(some (.V 5)), .mv (ki 0), none⟩])
 (.block 2 (.loop k_spec_ConfigOk_b1)))
 (.seq (.reg [⟨(some (.E 40)), .faddr 6 (.V 1), none⟩,
   ⟨(some (.E 41)), .load false 1 (.E 40), none⟩,
   ⟨(some (.E 42)), .call k_spec_l1In [([0], (.E 41)), ([0], (ki 1)), ([0], (ki 1000))], none⟩,
   ⟨(some (.E 43)), .mv (.E 42), none⟩,
   ⟨(some (.E 44)), .faddr 5 (.V 1), some ((.E 43), true)⟩,
   ⟨(some (.E 45)), .load false 1 (.E 44), some ((.E 43), true)⟩,
   ⟨(some (.E 46)), .faddr 6 (.V 1), some ((.E 43), true)⟩,
   ⟨(some (.E 47)), .load false 1 (.E 46), some ((.E 43), true)⟩,
   ⟨(some (.E 48)), .call k_spec_l1In [([0], (.E 45)), ([0], (ki 1)), ([0], (.E 47))], some ((.E 43), true)⟩,
   ⟨(some (.E 49)), .pick (.E 43) (.E 48) (kb false), none⟩,
   ⟨(some (.E 50)), .mv (.E 49), none⟩,
   ⟨(some (.E 51)), .faddr 7 (.V 1), some ((.E 50), true)⟩,
   ⟨(some (.E 52)), .load false 1 (.E 51), some ((.E 50), true)⟩,
   ⟨(some (.E 53)), .len (.E 52), some ((.E 50), true)⟩,
   ⟨(some (.E 54)), .bin .leq (.E 53) (ki 4), some ((.E 50), true)⟩,
   ⟨(some (.E 55)), .pick (.E 50) (.E 54) (kb false), none⟩,
   ⟨(some (.V 2)), .mv (.E 55), none⟩])
 (.ret)))))

def k_spec_ConfigOk_rv : List RV := [.tmp [0] 2]

def k_spec_Agrees_vars : List Nat := [0, 1, 2, 6]

def k_spec_Agrees_ic : IC :=
 .seq (.reg [⟨(some (.V 6)), .mv (kb false), none⟩])
 (.seq (.reg [⟨(some (.E 7)), .mv (.V 0), none⟩,
   ⟨(some (.E 8)), .bin .neq (.E 7) (ki 1), none⟩,
   ⟨(some (.E 9)), .mv (.E 8), none⟩,
   ⟨(some (.E 10)), .mv (.V 0), some ((.E 9), true)⟩,
   ⟨(some (.E 11)), .bin .neq (.E 10) (ki (-1)), some ((.E 9), true)⟩,
   ⟨(some (.E 12)), .pick (.E 9) (.E 11) (kb false), none⟩,
   ⟨(some (.E 13)), .mv (.E 12), none⟩,
   ⟨(some (.E 14)), .mv (.V 0), some ((.E 13), false)⟩,
   ⟨(some (.E 15)), .bin .eql (.E 14) (ki 1), some ((.E 13), false)⟩,
   ⟨(some (.E 16)), .mv (.E 15), some ((.E 13), false)⟩,
   ⟨(some (.E 17)), .mv (.V 1), some ((.E 16), true)⟩,
   ⟨(some (.E 18)), .mv (.V 2), some ((.E 16), true)⟩,
   ⟨(some (.E 19)), .bin .leq (.E 17) (.E 18), some ((.E 16), true)⟩,
   ⟨(some (.E 20)), .pick (.E 16) (.E 19) (kb false), some ((.E 13), false)⟩,
   ⟨(some (.E 21)), .pick (.E 13) (kb true) (.E 20), none⟩,
   ⟨(some (.E 22)), .mv (.E 21), none⟩,
   ⟨(some (.E 23)), .mv (.V 0), some ((.E 22), false)⟩,
   ⟨(some (.E 24)), .bin .eql (.E 23) (ki (-1)), some ((.E 22), false)⟩,
   ⟨(some (.E 25)), .mv (.E 24), some ((.E 22), false)⟩,
   ⟨(some (.E 26)), .mv (.V 1), some ((.E 25), true)⟩,
   ⟨(some (.E 27)), .mv (.V 2), some ((.E 25), true)⟩,
   ⟨(some (.E 28)), .bin .geq (.E 26) (.E 27), some ((.E 25), true)⟩,
   ⟨(some (.E 29)), .pick (.E 25) (.E 28) (kb false), some ((.E 22), false)⟩,
   ⟨(some (.E 30)), .pick (.E 22) (kb true) (.E 29), none⟩,
   ⟨(some (.V 6)), .mv (.E 30), none⟩])
 (.ret))

def k_spec_Agrees_rv : List RV := [.tmp [0] 6]

def k_spec_SignFor_vars : List Nat := [0, 1, 2, 4]

def k_spec_SignFor_ic : IC :=
 .seq (.reg [⟨(some (.V 2)), .box (.V 0), none⟩,
   ⟨(some (.V 4)), .mv (ki 0), none⟩])
 (.seq (.seq (.reg [⟨(some (.E 5)), .mv (.V 1), none⟩,
   ⟨(some (.E 6)), .faddr 7 (.V 2), none⟩,
   ⟨(some (.E 7)), .load false 1 (.E 6), none⟩,
   ⟨(some (.E 8)), .len (.E 7), none⟩,
   ⟨(some (.E 9)), .bin .sub (.E 8) (ki 1), none⟩,
   ⟨(some (.E 10)), .call k_spec_l1In [([0], (.E 5)), ([0], (ki 0)), ([0], (.E 9))], none⟩,
   ⟨(some (.E 11)), .un .not (.E 10), none⟩])
 (.cond (.E 11)
  (.seq (.reg [⟨(some (.V 4)), .mv (ki 0), none⟩])
  (.ret))
  (.skip)))
 (.seq (.reg [⟨(some (.E 12)), .faddr 7 (.V 2), none⟩,
   ⟨(some (.E 13)), .load false 1 (.E 12), none⟩,
   ⟨(some (.E 14)), .mv (.V 1), none⟩,
   ⟨(some (.E 15)), .iaddr 1 (.E 13) (.E 14), none⟩,
   ⟨(some (.E 16)), .load false 1 (.E 15), none⟩,
   ⟨(some (.V 4)), .mv (.E 16), none⟩])
 (.ret)))

def k_spec_SignFor_rv : List RV := [.tmp [0] 4]

def k_spec_Improves_vars : List Nat := [0, 1, 2, 5, 6, 8, 10, 7, 9, 12, 11, 4]

def k_spec_Improves_ic : IC :=
 .seq (.reg [⟨(some (.V 2)), .box (.V 0), none⟩,
   ⟨(some (.V 4)), .mv (kb false), none⟩])
 (.seq (.reg [⟨(some (.E 14)), .load true 6 (.V 2), none⟩,
   ⟨(some (.E 15)), .call k_spec_BothOf [([0, 0, 0, 0, 0, 0], (.E 14))], none⟩,
   ⟨(some (.E 13)), .mv (.E 15), none⟩,
   ⟨(some (.E 16)), .ext 0 (.E 13), none⟩,
   ⟨(some (.E 17)), .ext 1 (.E 13), none⟩,
   ⟨(some (.V 5)), .alloc [(.v (.int .i64 0)), (.v (.int .i64 0))], none⟩,
   ⟨none, .store [0, 0] (.V 5) (.E 16), none⟩,
   ⟨(some (.V 6)), .mv (.E 17), none⟩])
 (.seq (.reg [⟨(some (.E 19)), .load true 6 (.V 2), none⟩,
   ⟨(some (.E 20)), .mv (.V 1), none⟩,
   ⟨(some (.E 21)), .call k_spec_GainOf [([0, 0, 0, 0, 0, 0], (.E 19)), ([0], (.E 20))], none⟩,
   ⟨(some (.E 18)), .mv (.E 21), none⟩,
   ⟨(some (.E 22)), .ext 0 (.E 18), none⟩,
   ⟨(some (.E 23)), .ext 1 (.E 18), none⟩,
   ⟨(some (.V 7)), .alloc [(.v (.bool false)), (.v (.int .u64 0)), (.v (.int .u64 0)), (.v (.int .i64 0))], none⟩,
   ⟨none, .store [0, 0, 0, 0] (.V 7) (.E 22), none⟩,
   ⟨(some (.V 8)), .mv (.E 23), none⟩])
 (.seq (.reg [⟨(some (.E 25)), .load true 2 (.V 5), none⟩,
   ⟨(some (.E 26)), .mv (.V 1), none⟩,
   ⟨(some (.E 27)), .call k_spec_PlainGain [([0, 0], (.E 25)), ([0], (.E 26))], none⟩,
   ⟨(some (.E 24)), .mv (.E 27), none⟩,
   ⟨(some (.E 28)), .ext 0 (.E 24), none⟩,
   ⟨(some (.E 29)), .ext 1 (.E 24), none⟩,
   ⟨(some (.V 9)), .alloc [(.v (.bool false)), (.v (.int .u64 0)), (.v (.int .u64 0)), (.v (.int .i64 0))], none⟩,
   ⟨none, .store [0, 0, 0, 0] (.V 9) (.E 28), none⟩,
   ⟨(some (.V 10)), .mv (.E 29), none⟩])
 (.seq (.seq (.reg [⟨(some (.E 30)), .mv (.V 6), none⟩,
   ⟨(some (.E 31)), .un .not (.E 30), none⟩,
   ⟨(some (.E 32)), .mv (.E 31), none⟩,
   ⟨(some (.E 33)), .mv (.V 8), some ((.E 32), false)⟩,
   ⟨(some (.E 34)), .un .not (.E 33), some ((.E 32), false)⟩,
   ⟨(some (.E 35)), .pick (.E 32) (kb true) (.E 34), none⟩,
   ⟨(some (.E 36)), .mv (.E 35), none⟩,
   ⟨(some (.E 37)), .mv (.V 10), some ((.E 36), false)⟩,
   ⟨(some (.E 38)), .un .not (.E 37), some ((.E 36), false)⟩,
   ⟨(some (.E 39)), .pick (.E 36) (kb true) (.E 38), none⟩])
 (.cond (.E 39)
  (.seq (.reg [⟨(some (.V 4)), .mv (kb false), none⟩])
  (.ret))
  (.skip)))
 (.seq (.reg [⟨(some (.E 41)), .load true 4 (.V 7), none⟩,
   ⟨(some (.E 42)), .load true 4 (.V 9), none⟩,
   ⟨(some (.E 43)), .call k_spec_CompareFrac [([0, 0, 0, 0], (.E 41)), ([0, 0, 0, 0], (.E 42))], none⟩,
   ⟨(some (.E 40)), .mv (.E 43), none⟩,
   ⟨(some (.E 44)), .ext 0 (.E 40), none⟩,
   ⟨(some (.E 45)), .ext 1 (.E 40), none⟩,
   ⟨(some (.V 11)), .mv (.E 44), none⟩,
   ⟨(some (.V 12)), .mv (.E 45), none⟩])
 (.seq (.reg [⟨(some (.E 46)), .mv (.V 12), none⟩,
   ⟨(some (.E 47)), .mv (.E 46), none⟩,
   ⟨(some (.E 48)), .mv (.V 11), some ((.E 47), true)⟩,
   ⟨(some (.E 49)), .bin .gtr (.E 48) (ki 0), some ((.E 47), true)⟩,
   ⟨(some (.E 50)), .pick (.E 47) (.E 49) (kb false), none⟩,
   ⟨(some (.V 4)), .mv (.E 50), none⟩])
 (.ret)))))))

def k_spec_Improves_rv : List RV := [.tmp [0] 4]

def k_impl_GainOf_vars : List Nat := [0, 1, 2, 7, 9, 4, 6, 8, 5]

def k_impl_GainOf_ic : IC :=
 .seq (.reg [⟨(some (.V 2)), .box (.V 0), none⟩,
   ⟨(some (.V 4)), .alloc [(.v (.bool false)), (.v (.int .u64 0)), (.v (.int .u64 0)), (.v (.int .i64 0))], none⟩,
   ⟨(some (.V 5)), .mv (kb false), none⟩])
 (.seq (.reg [⟨(some (.E 11)), .faddr 2 (.V 2), none⟩,
   ⟨(some (.E 12)), .load true 2 (.E 11), none⟩,
   ⟨(some (.E 13)), .mv (.V 1), none⟩,
   ⟨(some (.E 14)), .call k_impl_PlainGain [([0, 0], (.E 12)), ([0], (.E 13))], none⟩,
   ⟨(some (.E 10)), .mv (.E 14), none⟩,
   ⟨(some (.E 15)), .ext 0 (.E 10), none⟩,
   ⟨(some (.E 16)), .ext 1 (.E 10), none⟩,
   ⟨(some (.V 6)), .alloc [(.v (.bool false)), (.v (.int .u64 0)), (.v (.int .u64 0)), (.v (.int .i64 0))], none⟩,
   ⟨none, .store [0, 0, 0, 0] (.V 6) (.E 15), none⟩,
   ⟨(some (.V 7)), .mv (.E 16), none⟩])
 (.seq (.reg [⟨(some (.E 18)), .faddr 4 (.V 2), none⟩,
   ⟨(some (.E 19)), .load true 2 (.E 18), none⟩,
   ⟨(some (.E 20)), .mv (.V 1), none⟩,
   ⟨(some (.E 21)), .call k_impl_PlainGain [([0, 0], (.E 19)), ([0], (.E 20))], none⟩,
   ⟨(some (.E 17)), .mv (.E 21), none⟩,
   ⟨(some (.E 22)), .ext 0 (.E 17), none⟩,
   ⟨(some (.E 23)), .ext 1 (.E 17), none⟩,
   ⟨(some (.V 8)), .alloc [(.v (.bool false)), (.v (.int .u64 0)), (.v (.int .u64 0)), (.v (.int .i64 0))], none⟩,
   ⟨none, .store [0, 0, 0, 0] (.V 8) (.E 22), none⟩,
   ⟨(some (.V 9)), .mv (.E 23), none⟩])
 (.seq (.seq (.reg [⟨(some (.E 24)), .mv (.V 7), none⟩,
   ⟨(some (.E 25)), .un .not (.E 24), none⟩,
   ⟨(some (.E 26)), .mv (.E 25), none⟩,
   ⟨(some (.E 27)), .mv (.V 9), some ((.E 26), false)⟩,
   ⟨(some (.E 28)), .un .not (.E 27), some ((.E 26), false)⟩,
   ⟨(some (.E 29)), .pick (.E 26) (kb true) (.E 28), none⟩])
 (.cond (.E 29)
  (.seq (.reg [⟨(some (.E 30)), .build [(.v (.bool false)), (.v (.int .u64 0)), (.v (.int .u64 0)), (.v (.int .i64 0))] [], none⟩,
    ⟨none, .store [0, 0, 0, 0] (.V 4) (.E 30), none⟩,
    ⟨(some (.V 5)), .mv (kb false), none⟩])
  (.ret))
  (.skip)))
 (.seq (.reg [⟨(some (.E 31)), .load true 4 (.V 6), none⟩,
   ⟨(some (.E 32)), .load true 4 (.V 8), none⟩,
   ⟨(some (.E 33)), .call k_impl_AddFrac [([0, 0, 0, 0], (.E 31)), ([0, 0, 0, 0], (.E 32))], none⟩,
   ⟨(some (.E 34)), .ext 0 (.E 33), none⟩,
   ⟨(some (.E 35)), .ext 1 (.E 33), none⟩,
   ⟨none, .store [0, 0, 0, 0] (.V 4) (.E 34), none⟩,
   ⟨(some (.V 5)), .mv (.E 35), none⟩])
 (.ret)))))

def k_impl_GainOf_rv : List RV := [.cell [0, 0, 0, 0] 4 true, .tmp [0] 5]

def k_impl_CompareFrac_vars : List Nat := [0, 1, 2, 3, 8, 6, 7, 4, 5]

def k_impl_CompareFrac_ic : IC :=
 .seq (.reg [⟨(some (.V 2)), .box (.V 0), none⟩,
   ⟨(some (.V 3)), .box (.V 1), none⟩,
   ⟨(some (.V 4)), .mv (ki 0), none⟩,
   ⟨(some (.V 5)), .mv (kb false), none⟩])
 (.seq (.reg [⟨(some (.E 10)), .load true 4 (.V 2), none⟩,
   ⟨(some (.E 11)), .load true 4 (.V 3), none⟩,
   ⟨(some (.E 12)), .call k_impl_crossed [([0, 0, 0, 0], (.E 10)), ([0, 0, 0, 0], (.E 11))], none⟩,
   ⟨(some (.E 9)), .mv (.E 12), none⟩,
   ⟨(some (.E 13)), .ext 0 (.E 9), none⟩,
   ⟨(some (.E 14)), .ext 1 (.E 9), none⟩,
   ⟨(some (.E 15)), .ext 2 (.E 9), none⟩,
   ⟨(some (.V 6)), .alloc [(.v (.bool false)), (.v (.int .u64 0)), (.v (.int .u64 0))], none⟩,
   ⟨(some (.V 7)), .alloc [(.v (.bool false)), (.v (.int .u64 0)), (.v (.int .u64 0))], none⟩,
   ⟨none, .store [0, 0, 0] (.V 6) (.E 13), none⟩,
   ⟨none, .store [0, 0, 0] (.V 7) (.E 14), none⟩,
   ⟨(some (.V 8)), .mv (.E 15), none⟩])
 (.seq (.seq (.reg [⟨(some (.E 16)), .mv (.V 8), none⟩,
   ⟨(some (.E 17)), .un .not (.E 16), none⟩])
 (.cond (.E 17)
  (.seq (.reg [⟨(some (.V 4)), .mv (ki 0), none⟩,
    ⟨(some (.V 5)), .mv (kb false), none⟩])
  (.ret))
  (.skip)))
 (.seq (.reg [⟨(some (.E 18)), .load true 3 (.V 6), none⟩,
   ⟨(some (.E 19)), .load true 3 (.V 7), none⟩,
   ⟨(some (.E 20)), .call k_impl_CompareWide [([0, 0, 0], (.E 18)), ([0, 0, 0], (.E 19))], none⟩,
   ⟨(some (.V 4)), .mv (.E 20), none⟩,
   ⟨(some (.V 5)), .mv (kb true), none⟩])
 (.ret))))

def k_impl_CompareFrac_rv : List RV := [.tmp [0] 4, .tmp [0] 5]

def k_impl_CandLess_vars : List Nat := [0, 1, 2, 3, 4]

def k_impl_CandLess_ic : IC :=
 .seq (.reg [⟨(some (.V 2)), .box (.V 0), none⟩,
   ⟨(some (.V 3)), .box (.V 1), none⟩,
   ⟨(some (.V 4)), .mv (kb false), none⟩])
 (.seq (.regD [(⟨(some (.E 5)), .faddr 0 (.V 2), none⟩, 0, 0),
   (⟨(some (.E 6)), .load false 1 (.E 5), none⟩, 0, 0),
   (⟨(some (.E 7)), .faddr 0 (.V 3), none⟩, 0, 0),
   (⟨(some (.E 8)), .load false 1 (.E 7), none⟩, 0, 0),
   (⟨(some (.E 9)), .call k_cmp_Compare_int_ [([0], (.E 6)), ([0], (.E 8))], none⟩, 0, 0),
   (⟨(some (.E 10)), .faddr 1 (.V 2), none⟩, 1, 0),
   (⟨(some (.E 11)), .load false 1 (.E 10), none⟩, 1, 0),
   (⟨(some (.E 12)), .faddr 1 (.V 3), none⟩, 1, 0),
   (⟨(some (.E 13)), .load false 1 (.E 12), none⟩, 1, 0),
   (⟨(some (.E 14)), .call k_cmp_Compare_int_ [([0], (.E 11)), ([0], (.E 13))], none⟩, 0, 0),
   (⟨(some (.E 15)), .bslice 2 1 [(.v (.int .i64 0))] [(0, (.E 9)), (1, (.E 14))], none⟩, 0, 0),
   (⟨(some (.E 16)), .call k_cmp_Or_int_ [([1], (.E 15))], none⟩, 0, 0),
   (⟨(some (.E 17)), .bin .lss (.E 16) (ki 0), none⟩, 0, 0),
   (⟨(some (.V 4)), .mv (.E 17), none⟩, 0, 0)])
 (.ret))

def k_impl_CandLess_rv : List RV := [.tmp [0] 4]

def k_spec_PlainGain_vars : List Nat := [0, 1, 2, 4, 5]

def k_spec_PlainGain_ic : IC :=
 .seq (.reg [⟨(some (.V 2)), .box (.V 0), none⟩,
   ⟨(some (.V 4)), .alloc [(.v (.bool false)), (.v (.int .u64 0)), (.v (.int .u64 0)), (.v (.int .i64 0))], none⟩,
   ⟨(some (.V 5)), .mv (kb false), none⟩])
 (.seq (.seq (.reg [⟨(some (.E 6)), .faddr 0 (.V 2), none⟩,
   ⟨(some (.E 7)), .load false 1 (.E 6), none⟩,
   ⟨(some (.E 8)), .call k_spec_l1In [([0], (.E 7)), ([0], (ki 0)), ([0], (ki 40))], none⟩,
   ⟨(some (.E 9)), .un .not (.E 8), none⟩,
   ⟨(some (.E 10)), .mv (.E 9), none⟩,
   ⟨(some (.E 11)), .mv (.V 1), some ((.E 10), false)⟩,
   ⟨(some (.E 12)), .call k_spec_l1In [([0], (.E 11)), ([0], (ki 1)), ([0], (ki 100))], some ((.E 10), false)⟩,
   ⟨(some (.E 13)), .un .not (.E 12), some ((.E 10), false)⟩,
   ⟨(some (.E 14)), .pick (.E 10) (kb true) (.E 13), none⟩])
 (.cond (.E 14)
  (.seq (.reg [⟨(some (.E 15)), .build [(.v (.bool false)), (.v (.int .u64 0)), (.v (.int .u64 0)), (.v (.int .i64 0))] [], none⟩,
    ⟨none, .store [0, 0, 0, 0] (.V 4) (.E 15), none⟩,
    ⟨(some (.V 5)), .mv (kb false), none⟩])
  (.ret))
  (.skip)))
 (.seq (.reg [⟨(some (.E 16)), .faddr 1 (.V 2), none⟩,
   ⟨(some (.E 17)), .load false 1 (.E 16), none⟩,
   ⟨(some (.E 18)), .faddr 0 (.V 2), none⟩,
   ⟨(some (.E 19)), .load false 1 (.E 18), none⟩,
   ⟨(some (.E 20)), .mv (.V 1), none⟩,
   ⟨(some (.E 21)), .bin .add (.E 19) (.E 20), none⟩,
   ⟨(some (.E 22)), .call k_spec_SquareOver [([0], (.E 17)), ([0], (.E 21))], none⟩,
   ⟨(some (.E 23)), .ext 0 (.E 22), none⟩,
   ⟨(some (.E 24)), .ext 1 (.E 22), none⟩,
   ⟨none, .store [0, 0, 0, 0] (.V 4) (.E 23), none⟩,
   ⟨(some (.V 5)), .mv (.E 24), none⟩])
 (.ret)))

def k_spec_PlainGain_rv : List RV := [.cell [0, 0, 0, 0] 4 true, .tmp [0] 5]

def k_spec_AddFrac_vars : List Nat := [0, 1, 2, 3, 8, 4, 6, 7, 9, 10, 11, 5]

def k_spec_AddFrac_ic : IC :=
 .seq (.reg [⟨(some (.V 2)), .box (.V 0), none⟩,
   ⟨(some (.V 3)), .box (.V 1), none⟩,
   ⟨(some (.V 4)), .alloc [(.v (.bool false)), (.v (.int .u64 0)), (.v (.int .u64 0)), (.v (.int .i64 0))], none⟩,
   ⟨(some (.V 5)), .mv (kb false), none⟩])
 (.seq (.reg [⟨(some (.E 13)), .load true 4 (.V 2), none⟩,
   ⟨(some (.E 14)), .load true 4 (.V 3), none⟩,
   ⟨(some (.E 15)), .call k_spec_l5Cross [([0, 0, 0, 0], (.E 13)), ([0, 0, 0, 0], (.E 14))], none⟩,
   ⟨(some (.E 12)), .mv (.E 15), none⟩,
   ⟨(some (.E 16)), .ext 0 (.E 12), none⟩,
   ⟨(some (.E 17)), .ext 1 (.E 12), none⟩,
   ⟨(some (.E 18)), .ext 2 (.E 12), none⟩,
   ⟨(some (.V 6)), .alloc [(.v (.bool false)), (.v (.int .u64 0)), (.v (.int .u64 0))], none⟩,
   ⟨(some (.V 7)), .alloc [(.v (.bool false)), (.v (.int .u64 0)), (.v (.int .u64 0))], none⟩,
   ⟨none, .store [0, 0, 0] (.V 6) (.E 16), none⟩,
   ⟨none, .store [0, 0, 0] (.V 7) (.E 17), none⟩,
   ⟨(some (.V 8)), .mv (.E 18), none⟩])
 (.seq (.seq (.reg [⟨(some (.E 19)), .mv (.V 8), none⟩,
   ⟨(some (.E 20)), .un .not (.E 19), none⟩])
 (.cond (.E 20)
  (.seq (.reg [⟨(some (.E 21)), .build [(.v (.bool false)), (.v (.int .u64 0)), (.v (.int .u64 0)), (.v (.int .i64 0))] [], none⟩,
    ⟨none, .store [0, 0, 0, 0] (.V 4) (.E 21), none⟩,
    ⟨(some (.V 5)), .mv (kb false), none⟩])
  (.ret))
  (.skip)))
 (.seq (.reg [⟨(some (.E 23)), .load true 3 (.V 6), none⟩,
   ⟨(some (.E 24)), .load true 3 (.V 7), none⟩,
   ⟨(some (.E 25)), .call k_spec_AddWide [([0, 0, 0], (.E 23)), ([0, 0, 0], (.E 24))], none⟩,
   ⟨(some (.E 22)), .mv (.E 25), none⟩,
   ⟨(some (.E 26)), .ext 0 (.E 22), none⟩,
   ⟨(some (.E 27)), .ext 1 (.E 22), none⟩,
   ⟨(some (.V 9)), .alloc [(.v (.bool false)), (.v (.int .u64 0)), (.v (.int .u64 0))], none⟩,
   ⟨none, .store [0, 0, 0] (.V 9) (.E 26), none⟩,
   ⟨(some (.V 10)), .mv (.E 27), none⟩])
 (.seq (.reg [⟨(some (.E 28)), .load true 3 (.V 9), none⟩,
   ⟨(some (.E 29)), .faddr 3 (.V 2), none⟩,
   ⟨(some (.E 30)), .load false 1 (.E 29), none⟩,
   ⟨(some (.E 31)), .faddr 3 (.V 3), none⟩,
   ⟨(some (.E 32)), .load false 1 (.E 31), none⟩,
   ⟨(some (.E 33)), .bin .mul (.E 30) (.E 32), none⟩,
   ⟨(some (.E 34)), .build [(.v (.bool false)), (.v (.int .u64 0)), (.v (.int .u64 0)), (.v (.int .i64 0))] [(0, 3, (.E 28)), (3, 1, (.E 33))], none⟩,
   ⟨(some (.V 11)), .alloc [(.v (.bool false)), (.v (.int .u64 0)), (.v (.int .u64 0)), (.v (.int .i64 0))], none⟩,
   ⟨none, .store [0, 0, 0, 0] (.V 11) (.E 34), none⟩])
 (.seq (.seq (.reg [⟨(some (.E 35)), .mv (.V 10), none⟩,
   ⟨(some (.E 36)), .un .not (.E 35), none⟩,
   ⟨(some (.E 37)), .mv (.E 36), none⟩,
   ⟨(some (.E 38)), .load true 4 (.V 11), some ((.E 37), false)⟩,
   ⟨(some (.E 39)), .call k_spec_FracOk [([0, 0, 0, 0], (.E 38))], some ((.E 37), false)⟩,
   ⟨(some (.E 40)), .un .not (.E 39), some ((.E 37), false)⟩,
   ⟨(some (.E 41)), .pick (.E 37) (kb true) (.E 40), none⟩])
 (.cond (.E 41)
  (.seq (.reg [⟨(some (.E 42)), .build [(.v (.bool false)), (.v (.int .u64 0)), (.v (.int .u64 0)), (.v (.int .i64 0))] [], none⟩,
    ⟨none, .store [0, 0, 0, 0] (.V 4) (.E 42), none⟩,
    ⟨(some (.V 5)), .mv (kb false), none⟩])
  (.ret))
  (.skip)))
 (.seq (.reg [⟨(some (.E 43)), .load true 4 (.V 11), none⟩,
   ⟨none, .store [0, 0, 0, 0] (.V 4) (.E 43), none⟩,
   ⟨(some (.V 5)), .mv (kb true), none⟩])
 (.ret)))))))

def k_spec_AddFrac_rv : List RV := [.cell [0, 0, 0, 0] 4 true, .tmp [0] 5]

def k_spec_l5Cross_vars : List Nat := [0, 1, 2, 3, 4, 5, 7, 9, 8, 10, 6]

def k_spec_l5Cross_ic : IC :=
 .seq (.reg [⟨(some (.V 2)), .box (.V 0), none⟩,
   ⟨(some (.V 3)), .box (.V 1), none⟩,
   ⟨(some (.V 4)), .alloc [(.v (.bool false)), (.v (.int .u64 0)), (.v (.int .u64 0))], none⟩,
   ⟨(some (.V 5)), .alloc [(.v (.bool false)), (.v (.int .u64 0)), (.v (.int .u64 0))], none⟩,
   ⟨(some (.V 6)), .mv (kb false), none⟩])
 (.seq (.seq (.reg [⟨(some (.E 11)), .load true 4 (.V 2), none⟩,
   ⟨(some (.E 12)), .call k_spec_FracOk [([0, 0, 0, 0], (.E 11))], none⟩,
   ⟨(some (.E 13)), .un .not (.E 12), none⟩,
   ⟨(some (.E 14)), .mv (.E 13), none⟩,
   ⟨(some (.E 15)), .load true 4 (.V 3), some ((.E 14), false)⟩,
   ⟨(some (.E 16)), .call k_spec_FracOk [([0, 0, 0, 0], (.E 15))], some ((.E 14), false)⟩,
   ⟨(some (.E 17)), .un .not (.E 16), some ((.E 14), false)⟩,
   ⟨(some (.E 18)), .pick (.E 14) (kb true) (.E 17), none⟩])
 (.cond (.E 18)
  (.seq (.reg [⟨(some (.E 19)), .build [(.v (.bool false)), (.v (.int .u64 0)), (.v (.int .u64 0))] [], none⟩,
    ⟨(some (.E 20)), .build [(.v (.bool false)), (.v (.int .u64 0)), (.v (.int .u64 0))] [], none⟩,
    ⟨none, .store [0, 0, 0] (.V 4) (.E 19), none⟩,
    ⟨none, .store [0, 0, 0] (.V 5) (.E 20), none⟩,
    ⟨(some (.V 6)), .mv (kb false), none⟩])
  (.ret))
  (.skip)))
 (.seq (.reg [⟨(some (.E 22)), .faddr 0 (.V 2), none⟩,
   ⟨(some (.E 23)), .load true 3 (.E 22), none⟩,
   ⟨(some (.E 24)), .faddr 3 (.V 3), none⟩,
   ⟨(some (.E 25)), .load false 1 (.E 24), none⟩,
   ⟨(some (.E 26)), .call k_spec_ScaleWide [([0, 0, 0], (.E 23)), ([0], (.E 25))], none⟩,
   ⟨(some (.E 21)), .mv (.E 26), none⟩,
   ⟨(some (.E 27)), .ext 0 (.E 21), none⟩,
   ⟨(some (.E 28)), .ext 1 (.E 21), none⟩,
   ⟨(some (.V 7)), .alloc [(.v (.bool false)), (.v (.int .u64 0)), (.v (.int .u64 0))], none⟩,
   ⟨none, .store [0, 0, 0] (.V 7) (.E 27), none⟩,
   ⟨(some (.V 8)), .mv (.E 28), none⟩])
 (.seq (.reg [⟨(some (.E 30)), .faddr 0 (.V 3), none⟩,
   ⟨(some (.E 31)), .load true 3 (.E 30), none⟩,
   ⟨(some (.E 32)), .faddr 3 (.V 2), none⟩,
   ⟨(some (.E 33)), .load false 1 (.E 32), none⟩,
   ⟨(some (.E 34)), .call k_spec_ScaleWide [([0, 0, 0], (.E 31)), ([0], (.E 33))], none⟩,
   ⟨(some (.E 29)), .mv (.E 34), none⟩,
   ⟨(some (.E 35)), .ext 0 (.E 29), none⟩,
   ⟨(some (.E 36)), .ext 1 (.E 29), none⟩,
   ⟨(some (.V 9)), .alloc [(.v (.bool false)), (.v (.int .u64 0)), (.v (.int .u64 0))], none⟩,
   ⟨none, .store [0, 0, 0] (.V 9) (.E 35), none⟩,
   ⟨(some (.V 10)), .mv (.E 36), none⟩])
 (.seq (.regD [(⟨(some (.E 37)), .load true 3 (.V 7), none⟩, 0, 0),
   (⟨(some (.E 38)), .load true 3 (.V 9), none⟩, 0, 1),
   (⟨(some (.E 39)), .mv (.V 8), none⟩, 0, 0),
   (⟨(some (.E 40)), .mv (.E 39), none⟩, 0, 0),
   (⟨(some (.E 41)), .mv (.V 10), some ((.E 40), true)⟩, 0, 0),
   (⟨(some (.E 42)), .pick (.E 40) (.E 41) (kb false), none⟩, 0, 0),
   (⟨none, .store [0, 0, 0] (.V 4) (.E 37), none⟩, 0, 0),
   (⟨none, .store [0, 0, 0] (.V 5) (.E 38), none⟩, 0, 0),
   (⟨(some (.V 6)), .mv (.E 42), none⟩, 0, 0)])
 (.ret)))))

def k_spec_l5Cross_rv : List RV := [.cell [0, 0, 0] 4 true, .cell [0, 0, 0] 5 true, .tmp [0] 6]

def k_spec_CompareWide_vars : List Nat := [0, 1, 2, 3, 5, 6, 4]

def k_spec_CompareWide_ic : IC :=
 .seq (.reg [⟨(some (.V 2)), .box (.V 0), none⟩,
   ⟨(some (.V 3)), .box (.V 1), none⟩,
   ⟨(some (.V 4)), .mv (ki 0), none⟩])
 (.seq (.reg [⟨(some (.E 7)), .faddr 0 (.V 2), none⟩,
   ⟨(some (.E 8)), .load false 1 (.E 7), none⟩,
   ⟨(some (.E 9)), .mv (.E 8), none⟩,
   ⟨(some (.E 10)), .load true 3 (.V 2), some ((.E 9), true)⟩,
   ⟨(some (.E 11)), .call k_spec_l3Zero [([0, 0, 0], (.E 10))], some ((.E 9), true)⟩,
   ⟨(some (.E 12)), .un .not (.E 11), some ((.E 9), true)⟩,
   ⟨(some (.E 13)), .pick (.E 9) (.E 12) (kb false), none⟩,
   ⟨(some (.V 5)), .mv (.E 13), none⟩])
 (.seq (.reg [⟨(some (.E 14)), .faddr 0 (.V 3), none⟩,
   ⟨(some (.E 15)), .load false 1 (.E 14), none⟩,
   ⟨(some (.E 16)), .mv (.E 15), none⟩,
   ⟨(some (.E 17)), .load true 3 (.V 3), some ((.E 16), true)⟩,
   ⟨(some (.E 18)), .call k_spec_l3Zero [([0, 0, 0], (.E 17))], some ((.E 16), true)⟩,
   ⟨(some (.E 19)), .un .not (.E 18), some ((.E 16), true)⟩,
   ⟨(some (.E 20)), .pick (.E 16) (.E 19) (kb false), none⟩,
   ⟨(some (.V 6)), .mv (.E 20), none⟩])
 (.seq (.block 0 (.seq (.reg [⟨(some (.E 22)), .mv (.V 5), none⟩,
    ⟨(some (.E 23)), .mv (.E 22), none⟩,
    ⟨(some (.E 24)), .mv (.V 6), some ((.E 23), true)⟩,
    ⟨(some (.E 25)), .un .not (.E 24), some ((.E 23), true)⟩,
    ⟨(some (.E 26)), .pick (.E 23) (.E 25) (kb false), none⟩,
    ⟨(some (.E 21)), .mv (.E 26), none⟩])
  (.cond (.E 21)
   (.seq (.reg [⟨(some (.V 4)), .mv (ki (-1)), none⟩])
   (.ret))
   (.seq (.reg [⟨(some (.E 28)), .mv (.V 6), none⟩,
     ⟨(some (.E 29)), .mv (.E 28), none⟩,
     ⟨(some (.E 30)), .mv (.V 5), some ((.E 29), true)⟩,
     ⟨(some (.E 31)), .un .not (.E 30), some ((.E 29), true)⟩,
     ⟨(some (.E 32)), .pick (.E 29) (.E 31) (kb false), none⟩,
     ⟨(some (.E 27)), .mv (.E 32), none⟩])
   (.cond (.E 27)
    (.seq (.reg [⟨(some (.V 4)), .mv (ki 1), none⟩])
    (.ret))
    (.seq (.reg [⟨(some (.E 34)), .mv (.V 5), none⟩,
      ⟨(some (.E 33)), .mv (.E 34), none⟩])
    (.cond (.E 33)
     (.seq (.reg [⟨(some (.E 35)), .load true 3 (.V 3), none⟩,
       ⟨(some (.E 36)), .load true 3 (.V 2), none⟩,
       ⟨(some (.E 37)), .call k_spec_l3Order [([0, 0, 0], (.E 35)), ([0, 0, 0], (.E 36))], none⟩,
       ⟨(some (.V 4)), .mv (.E 37), none⟩])
     (.ret))
     (.skip))))))))
 (.seq (.reg [⟨(some (.E 38)), .load true 3 (.V 2), none⟩,
   ⟨(some (.E 39)), .load true 3 (.V 3), none⟩,
   ⟨(some (.E 40)), .call k_spec_l3Order [([0, 0, 0], (.E 38)), ([0, 0, 0], (.E 39))], none⟩,
   ⟨(some (.V 4)), .mv (.E 40), none⟩])
 (.ret)))))

def k_spec_CompareWide_rv : List RV := [.tmp [0] 4]

def k_laws_szIntSS_vars : List Nat := [0, 1, 5, 4]

def k_laws_szIntSS_b0 : IC :=
 .seq (.seq (.reg [⟨(some (.E 12)), .mv (.V 5), none⟩,
   ⟨(some (.E 13)), .mv (.V 0), none⟩,
   ⟨(some (.E 14)), .len (.E 13), none⟩,
   ⟨(some (.E 15)), .bin .lss (.E 12) (.E 14), none⟩])
 (.cond (.E 15)
  (.skip)
  (.exit 0)))
 (.seq (.block 1 (.seq (.reg [⟨(some (.E 18)), .mv (.V 0), none⟩,
    ⟨(some (.E 19)), .mv (.V 5), none⟩,
    ⟨(some (.E 20)), .iaddr 1 (.E 18) (.E 19), none⟩,
    ⟨(some (.E 21)), .load false 1 (.E 20), none⟩,
    ⟨(some (.E 22)), .mv (.V 1), none⟩,
    ⟨(some (.E 23)), .call k_laws_szIntS [([1], (.E 21)), ([0], (.E 22))], none⟩,
    ⟨(some (.V 1)), .mv (.E 23), none⟩])
  (.seq (.reg [⟨(some (.E 24)), .mv (.V 1), none⟩,
    ⟨(some (.E 25)), .bin .lss (.E 24) (ki 0), none⟩])
  (.cond (.E 25)
   (.seq (.reg [⟨(some (.V 4)), .mv (ki (-1)), none⟩])
   (.ret))
   (.skip)))))
 (.reg [⟨(some (.E 16)), .mv (.V 5), none⟩,
   ⟨(some (.E 17)), .bin .add (.E 16) (ki 1), none⟩,
   ⟨(some (.V 5)), .mv (.E 17), none⟩]))

def k_laws_szIntSS_ic : IC :=
 .seq (.reg [⟨(some (.V 4)), .mv (ki 0), none⟩])
 (.seq (.reg [⟨(some (.E 6)), .mv (.V 1), none⟩,
   ⟨(some (.E 7)), .mv (.V 0), none⟩,
   ⟨(some (.E 8)), .len (.E 7), none⟩,
   ⟨(some (.E 9)), .bin .sub (.E 6) (.E 8), none⟩,
   ⟨(some (.V 1)), .mv (.E 9), none⟩])
 (.seq (.seq (.reg [⟨(some (.E 10)), .mv (.V 1), none⟩,
   ⟨(some (.E 11)), .bin .lss (.E 10) (ki 0), none⟩])
 (.cond (.E 11)
  (.seq (.reg [⟨(some (.V 4)), .mv (ki (-1)), none⟩])
  (.ret))
  (.skip)))
 (.seq (.seq (.reg [⟨(some (.V 5)), .mv (ki 0), none⟩])
 (.block 0 (.loop k_laws_szIntSS_b0)))
 (.seq (.reg [⟨(some (.E 26)), .mv (.V 1), none⟩,
   ⟨(some (.V 4)), .mv (.E 26), none⟩])
 (.ret)))))

def k_laws_szIntSS_rv : List RV := [.tmp [0] 4]

def k_laws_szIntS_vars : List Nat := [0, 1, 4]

def k_laws_szIntS_ic : IC :=
 .seq (.reg [⟨(some (.V 4)), .mv (ki 0), none⟩])
 (.seq (.reg [⟨(some (.E 5)), .mv (.V 1), none⟩,
   ⟨(some (.E 6)), .mv (.V 0), none⟩,
   ⟨(some (.E 7)), .len (.E 6), none⟩,
   ⟨(some (.E 8)), .bin .sub (.E 5) (.E 7), none⟩,
   ⟨(some (.V 1)), .mv (.E 8), none⟩])
 (.seq (.seq (.reg [⟨(some (.E 9)), .mv (.V 1), none⟩,
   ⟨(some (.E 10)), .bin .lss (.E 9) (ki 0), none⟩])
 (.cond (.E 10)
  (.seq (.reg [⟨(some (.V 4)), .mv (ki (-1)), none⟩])
  (.ret))
  (.skip)))
 (.seq (.reg [⟨(some (.E 11)), .mv (.V 1), none⟩,
   ⟨(some (.V 4)), .mv (.E 11), none⟩])
 (.ret))))

def k_laws_szIntS_rv : List RV := [.tmp [0] 4]

def k_laws_toIntSS_vars : List Nat := [0, 4, 3, 2]

def k_laws_toIntSS_b0 : IC :=
 .seq (.seq (.reg [⟨(some (.E 8)), .mv (.V 4), none⟩,
   ⟨(some (.E 9)), .mv (.V 0), none⟩,
   ⟨(some (.E 10)), .len (.E 9), none⟩,
   ⟨(some (.E 11)), .bin .lss (.E 8) (.E 10), none⟩])
 (.cond (.E 11)
  (.skip)
  (.exit 0)))
 (.seq (.block 1 (.reg [⟨(some (.E 14)), .mv (.V 3), none⟩,
    ⟨(some (.E 15)), .mv (.V 4), none⟩,
    ⟨(some (.E 16)), .mv (.V 0), none⟩,
    ⟨(some (.E 17)), .mv (.V 4), none⟩,
    ⟨(some (.E 18)), .iaddr 1 (.E 16) (.E 17), none⟩,
    ⟨(some (.E 19)), .load false 1 (.E 18), none⟩,
    ⟨(some (.E 20)), .call k_laws_toIntS [([1], (.E 19))], none⟩,
    ⟨(some (.E 21)), .iaddr 1 (.E 14) (.E 15), none⟩,
    ⟨none, .store [1] (.E 21) (.E 20), none⟩]))
 (.reg [⟨(some (.E 12)), .mv (.V 4), none⟩,
   ⟨(some (.E 13)), .bin .add (.E 12) (ki 1), none⟩,
   ⟨(some (.V 4)), .mv (.E 13), none⟩]))

def k_laws_toIntSS_ic : IC :=
 .seq (.reg [⟨(some (.V 2)), .mv (.C .e0), none⟩])
 (.seq (.reg [⟨(some (.E 5)), .mv (.V 0), none⟩,
   ⟨(some (.E 6)), .len (.E 5), none⟩,
   ⟨(some (.E 7)), .mksl 24 1 [(.own 1 [])] (.E 6) (.E 6), none⟩,
   ⟨(some (.V 3)), .mv (.E 7), none⟩])
 (.seq (.seq (.reg [⟨(some (.V 4)), .mv (ki 0), none⟩])
 (.block 0 (.loop k_laws_toIntSS_b0)))
 (.seq (.reg [⟨(some (.E 22)), .mv (.V 3), none⟩,
   ⟨(some (.V 2)), .mv (.E 22), none⟩])
 (.ret))))

def k_laws_toIntSS_rv : List RV := [.tmp [1] 2]

def k_laws_eqIntSS_vars : List Nat := [0, 1, 5, 4]

def k_laws_eqIntSS_b0 : IC :=
 .seq (.seq (.reg [⟨(some (.E 11)), .mv (.V 5), none⟩,
   ⟨(some (.E 12)), .mv (.V 0), none⟩,
   ⟨(some (.E 13)), .len (.E 12), none⟩,
   ⟨(some (.E 14)), .bin .lss (.E 11) (.E 13), none⟩])
 (.cond (.E 14)
  (.skip)
  (.exit 0)))
 (.seq (.block 1 (.seq (.regD [(⟨(some (.E 17)), .mv (.V 0), none⟩, 0, 0),
    (⟨(some (.E 18)), .mv (.V 5), none⟩, 0, 0),
    (⟨(some (.E 19)), .iaddr 1 (.E 17) (.E 18), none⟩, 0, 0),
    (⟨(some (.E 20)), .load false 1 (.E 19), none⟩, 0, 0),
    (⟨(some (.E 21)), .mv (.V 1), none⟩, 0, 0),
    (⟨(some (.E 22)), .mv (.V 5), none⟩, 0, 0),
    (⟨(some (.E 23)), .iaddr 1 (.E 21) (.E 22), none⟩, 0, 0),
    (⟨(some (.E 24)), .load false 1 (.E 23), none⟩, 0, 0),
    (⟨(some (.E 25)), .call k_laws_eqIntS [([1], (.E 20)), ([1], (.E 24))], none⟩, 0, 0),
    (⟨(some (.E 26)), .un .not (.E 25), none⟩, 0, 0)])
  (.cond (.E 26)
   (.seq (.reg [⟨(some (.V 4)), .mv (kb false), none⟩])
   (.ret))
   (.skip))))
 (.reg [⟨(some (.E 15)), .mv (.V 5), none⟩,
   ⟨(some (.E 16)), .bin .add (.E 15) (ki 1), none⟩,
   ⟨(some (.V 5)), .mv (.E 16), none⟩]))

def k_laws_eqIntSS_ic : IC :=
 .seq (.reg [⟨(some (.V 4)), .mv (kb false), none⟩])
 (.seq (.seq (.reg [⟨(some (.E 6)), .mv (.V 0), none⟩,
   ⟨(some (.E 7)), .len (.E 6), none⟩,
   ⟨(some (.E 8)), .mv (.V 1), none⟩,
   ⟨(some (.E 9)), .len (.E 8), none⟩,
   ⟨(some (.E 10)), .bin .neq (.E 7) (.E 9), none⟩])
 (.cond (.E 10)
  (.seq (.reg [⟨(some (.V 4)), .mv (kb false), none⟩])
  (.ret))
  (.skip)))
 (.seq (.seq (.reg [⟨(some (.V 5)), .mv (ki 0), none⟩])
 (.block 0 (.loop k_laws_eqIntSS_b0)))
 (.seq (.reg [⟨(some (.V 4)), .mv (kb true), none⟩])
 (.ret))))

def k_laws_eqIntSS_rv : List RV := [.tmp [0] 4]

def k_spec_TaskOk_vars : List Nat := [0, 1, 2, 3, 5, 7, 6]

def k_spec_TaskOk_b0 : IC :=
 .seq (.seq (.reg [⟨(some (.E 23)), .mv (.V 7), none⟩,
   ⟨(some (.E 24)), .mv (.V 1), none⟩,
   ⟨(some (.E 25)), .len (.E 24), none⟩,
   ⟨(some (.E 26)), .bin .lss (.E 23) (.E 25), none⟩])
 (.cond (.E 26)
  (.skip)
  (.exit 0)))
 (.seq (.block 1 (.seq (.reg [⟨(some (.E 29)), .mv (.V 1), none⟩,
    ⟨(some (.E 30)), .mv (.V 7), none⟩,
    ⟨(some (.E 31)), .iaddr 1 (.E 29) (.E 30), none⟩,
    ⟨(some (.E 32)), .load false 1 (.E 31), none⟩,
    ⟨(some (.E 33)), .call k_spec_l1In [([0], (.E 32)), ([0], (ki (-2199023255552))), ([0], (ki 2199023255552))], none⟩,
    ⟨(some (.E 34)), .un .not (.E 33), none⟩])
  (.cond (.E 34)
   (.seq (.reg [⟨(some (.V 6)), .mv (kb false), none⟩])
   (.ret))
   (.skip))))
 (.reg [⟨(some (.E 27)), .mv (.V 7), none⟩,
   ⟨(some (.E 28)), .bin .add (.E 27) (ki 1), none⟩,
   ⟨(some (.V 7)), .mv (.E 28), none⟩]))

def k_spec_TaskOk_ic : IC :=
 .seq (.reg [⟨(some (.V 3)), .box (.V 0), none⟩,
   ⟨(some (.V 5)), .box (.V 2), none⟩,
   ⟨(some (.V 6)), .mv (kb false), none⟩])
 (.seq (.seq (.reg [⟨(some (.E 8)), .load true 2 (.V 3), none⟩,
   ⟨(some (.E 9)), .call k_spec_GridOk [([1, 1], (.E 8))], none⟩,
   ⟨(some (.E 10)), .un .not (.E 9), none⟩,
   ⟨(some (.E 11)), .mv (.E 10), none⟩,
   ⟨(some (.E 12)), .load true 8 (.V 5), some ((.E 11), false)⟩,
   ⟨(some (.E 13)), .call k_spec_ConfigOk [([0, 0, 0, 0, 0, 0, 0, 1], (.E 12))], some ((.E 11), false)⟩,
   ⟨(some (.E 14)), .un .not (.E 13), some ((.E 11), false)⟩,
   ⟨(some (.E 15)), .pick (.E 11) (kb true) (.E 14), none⟩,
   ⟨(some (.E 16)), .mv (.E 15), none⟩,
   ⟨(some (.E 17)), .mv (.V 1), some ((.E 16), false)⟩,
   ⟨(some (.E 18)), .len (.E 17), some ((.E 16), false)⟩,
   ⟨(some (.E 19)), .load true 2 (.V 3), some ((.E 16), false)⟩,
   ⟨(some (.E 20)), .call k_spec_RowsIn [([1, 1], (.E 19))], some ((.E 16), false)⟩,
   ⟨(some (.E 21)), .bin .neq (.E 18) (.E 20), some ((.E 16), false)⟩,
   ⟨(some (.E 22)), .pick (.E 16) (kb true) (.E 21), none⟩])
 (.cond (.E 22)
  (.seq (.reg [⟨(some (.V 6)), .mv (kb false), none⟩])
  (.ret))
  (.skip)))
 (.seq (.seq (.reg [⟨(some (.V 7)), .mv (ki 0), none⟩])
 (.block 0 (.loop k_spec_TaskOk_b0)))
 (.seq (.reg [⟨(some (.V 6)), .mv (kb true), none⟩])
 (.ret))))

def k_spec_TaskOk_rv : List RV := [.tmp [0] 6]

def k_impl_TaskOk_vars : List Nat := [0, 1, 2, 3, 5, 6]

def k_impl_TaskOk_ic : IC :=
 .seq (.reg [⟨(some (.V 3)), .box (.V 0), none⟩,
   ⟨(some (.V 5)), .box (.V 2), none⟩,
   ⟨(some (.V 6)), .mv (kb false), none⟩])
 (.seq (.reg [⟨(some (.E 7)), .load true 2 (.V 3), none⟩,
   ⟨(some (.E 8)), .call k_impl_GridOk [([1, 1], (.E 7))], none⟩,
   ⟨(some (.E 9)), .mv (.E 8), none⟩,
   ⟨(some (.E 10)), .load true 8 (.V 5), some ((.E 9), true)⟩,
   ⟨(some (.E 11)), .call k_impl_ConfigOk [([0, 0, 0, 0, 0, 0, 0, 1], (.E 10))], some ((.E 9), true)⟩,
   ⟨(some (.E 12)), .pick (.E 9) (.E 11) (kb false), none⟩,
   ⟨(some (.E 13)), .mv (.E 12), none⟩,
   ⟨(some (.E 14)), .mv (.V 1), some ((.E 13), true)⟩,
   ⟨(some (.E 15)), .len (.E 14), some ((.E 13), true)⟩,
   ⟨(some (.E 16)), .load true 2 (.V 3), some ((.E 13), true)⟩,
   ⟨(some (.E 17)), .call k_impl_RowsIn [([1, 1], (.E 16))], some ((.E 13), true)⟩,
   ⟨(some (.E 18)), .bin .eql (.E 15) (.E 17), some ((.E 13), true)⟩,
   ⟨(some (.E 19)), .pick (.E 13) (.E 18) (kb false), none⟩,
   ⟨(some (.E 20)), .mv (.E 19), none⟩,
   ⟨(some (.E 21)), .mv (.V 1), some ((.E 20), true)⟩,
   ⟨(some (.E 22)), .call k_slices_ContainsFunc___int_int_ [([1], (.E 21)), ([0], (.C (.fn k_impl_TaskOk_1 [])))], some ((.E 20), true)⟩,
   ⟨(some (.E 23)), .un .not (.E 22), some ((.E 20), true)⟩,
   ⟨(some (.E 24)), .pick (.E 20) (.E 23) (kb false), none⟩,
   ⟨(some (.V 6)), .mv (.E 24), none⟩])
 (.ret))

def k_impl_TaskOk_rv : List RV := [.tmp [0] 6]

def k_impl_RowsIn_vars : List Nat := [0, 1, 2]

def k_impl_RowsIn_ic : IC :=
 .seq (.reg [⟨(some (.V 1)), .box (.V 0), none⟩,
   ⟨(some (.V 2)), .mv (ki 0), none⟩])
 (.seq (.seq (.reg [⟨(some (.E 3)), .faddr 1 (.V 1), none⟩,
   ⟨(some (.E 4)), .load false 1 (.E 3), none⟩,
   ⟨(some (.E 5)), .len (.E 4), none⟩,
   ⟨(some (.E 6)), .bin .eql (.E 5) (ki 0), none⟩])
 (.cond (.E 6)
  (.seq (.reg [⟨(some (.V 2)), .mv (ki 0), none⟩])
  (.ret))
  (.skip)))
 (.seq (.reg [⟨(some (.E 7)), .faddr 1 (.V 1), none⟩,
   ⟨(some (.E 8)), .load false 1 (.E 7), none⟩,
   ⟨(some (.E 9)), .iaddr 1 (.E 8) (ki 0), none⟩,
   ⟨(some (.E 10)), .load false 1 (.E 9), none⟩,
   ⟨(some (.E 11)), .len (.E 10), none⟩,
   ⟨(some (.V 2)), .mv (.E 11), none⟩])
 (.ret)))

def k_impl_RowsIn_rv : List RV := [.tmp [0] 2]

def k_spec_NodeHists_vars : List Nat := [0, 1, 2, 3, 8, 9, 11, 10, 6, 7]

def k_spec_NodeHists_b0 : IC :=
 .seq (.seq (.reg [⟨(some (.E 17)), .mv (.V 9), none⟩,
   ⟨(some (.E 18)), .faddr 0 (.V 3), none⟩,
   ⟨(some (.E 19)), .load false 1 (.E 18), none⟩,
   ⟨(some (.E 20)), .len (.E 19), none⟩,
   ⟨(some (.E 21)), .bin .lss (.E 17) (.E 20), none⟩])
 (.cond (.E 21)
  (.skip)
  (.exit 0)))
 (.seq (.block 1 (.seq (.regD [(⟨(some (.E 25)), .faddr 1 (.V 3), none⟩, 0, 0),
    (⟨(some (.E 26)), .load false 1 (.E 25), none⟩, 0, 0),
    (⟨(some (.E 27)), .mv (.V 9), none⟩, 0, 0),
    (⟨(some (.E 28)), .iaddr 1 (.E 26) (.E 27), none⟩, 0, 0),
    (⟨(some (.E 29)), .load false 1 (.E 28), none⟩, 0, 0),
    (⟨(some (.E 30)), .mv (.V 1), none⟩, 0, 0),
    (⟨(some (.E 31)), .mv (.V 2), none⟩, 0, 0),
    (⟨(some (.E 32)), .faddr 0 (.V 3), none⟩, 0, 0),
    (⟨(some (.E 33)), .load false 1 (.E 32), none⟩, 0, 0),
    (⟨(some (.E 34)), .mv (.V 9), none⟩, 0, 0),
    (⟨(some (.E 35)), .iaddr 1 (.E 33) (.E 34), none⟩, 0, 0),
    (⟨(some (.E 36)), .load false 1 (.E 35), none⟩, 0, 0),
    (⟨(some (.E 37)), .len (.E 36), none⟩, 0, 0),
    (⟨(some (.E 38)), .bin .add (.E 37) (ki 1), none⟩, 0, 0),
    (⟨(some (.E 39)), .call k_spec_HistOf [([1], (.E 29)), ([1], (.E 30)), ([1], (.E 31)), ([0], (.E 38))], none⟩, 0, 0),
    (⟨(some (.E 24)), .mv (.E 39), none⟩, 0, 0),
    (⟨(some (.E 40)), .ext 0 (.E 24), none⟩, 0, 0),
    (⟨(some (.E 41)), .ext 1 (.E 24), none⟩, 0, 0),
    (⟨(some (.V 10)), .mv (.E 40), none⟩, 0, 0),
    (⟨(some (.V 11)), .mv (.E 41), none⟩, 0, 0)])
  (.seq (.seq (.reg [⟨(some (.E 42)), .mv (.V 11), none⟩,
    ⟨(some (.E 43)), .un .not (.E 42), none⟩])
  (.cond (.E 43)
   (.seq (.reg [⟨(some (.E 44)), .bslice 0 1 [(.own 2 [])] [], none⟩,
     ⟨(some (.V 6)), .mv (.E 44), none⟩,
     ⟨(some (.V 7)), .mv (kb false), none⟩])
   (.ret))
   (.skip)))
  (.reg [⟨(some (.E 45)), .mv (.V 8), none⟩,
    ⟨(some (.E 46)), .mv (.V 10), none⟩,
    ⟨(some (.E 47)), .bslice 1 1 [(.own 2 [])] [(0, (.E 46))], none⟩,
    ⟨(some (.E 48)), .app 24 1 (.E 45) (.E 47), none⟩,
    ⟨(some (.V 8)), .mv (.E 48), none⟩]))))
 (.reg [⟨(some (.E 22)), .mv (.V 9), none⟩,
   ⟨(some (.E 23)), .bin .add (.E 22) (ki 1), none⟩,
   ⟨(some (.V 9)), .mv (.E 23), none⟩]))

def k_spec_NodeHists_ic : IC :=
 .seq (.reg [⟨(some (.V 3)), .box (.V 0), none⟩,
   ⟨(some (.V 6)), .mv (.C .e0), none⟩,
   ⟨(some (.V 7)), .mv (kb false), none⟩])
 (.seq (.reg [⟨(some (.E 12)), .bslice 0 1 [(.own 2 [])] [], none⟩,
   ⟨(some (.V 8)), .mv (.E 12), none⟩])
 (.seq (.seq (.reg [⟨(some (.E 13)), .load true 2 (.V 3), none⟩,
   ⟨(some (.E 14)), .call k_spec_GridOk [([1, 1], (.E 13))], none⟩,
   ⟨(some (.E 15)), .un .not (.E 14), none⟩])
 (.cond (.E 15)
  (.seq (.reg [⟨(some (.E 16)), .mv (.V 8), none⟩,
    ⟨(some (.V 6)), .mv (.E 16), none⟩,
    ⟨(some (.V 7)), .mv (kb false), none⟩])
  (.ret))
  (.skip)))
 (.seq (.seq (.reg [⟨(some (.V 9)), .mv (ki 0), none⟩])
 (.block 0 (.loop k_spec_NodeHists_b0)))
 (.seq (.reg [⟨(some (.E 49)), .mv (.V 8), none⟩,
   ⟨(some (.V 6)), .mv (.E 49), none⟩,
   ⟨(some (.V 7)), .mv (kb true), none⟩])
 (.ret)))))

def k_spec_NodeHists_rv : List RV := [.tmp [1] 6, .tmp [0] 7]

def k_spec_CandsOf_vars : List Nat := [0, 1, 6, 8, 9, 7, 10, 12, 14, 11, 5, 13, 4]

def k_spec_CandsOf_b0 : IC :=
 .seq (.seq (.reg [⟨(some (.E 33)), .mv (.V 9), none⟩,
   ⟨(some (.E 34)), .bin .add (.E 33) (ki 1), none⟩,
   ⟨(some (.E 35)), .mv (.V 7), none⟩,
   ⟨(some (.E 36)), .len (.E 35), none⟩,
   ⟨(some (.E 37)), .bin .lss (.E 34) (.E 36), none⟩])
 (.cond (.E 37)
  (.skip)
  (.exit 2)))
 (.seq (.block 3 (.seq (.reg [⟨(some (.E 40)), .mv (.V 7), none⟩,
    ⟨(some (.E 41)), .mv (.V 7), none⟩,
    ⟨(some (.E 42)), .len (.E 41), none⟩,
    ⟨(some (.E 43)), .bin .sub (.E 42) (ki 1), none⟩,
    ⟨(some (.E 44)), .iaddr 2 (.E 40) (.E 43), none⟩,
    ⟨(some (.E 45)), .load true 2 (.E 44), none⟩,
    ⟨(some (.V 10)), .alloc [(.v (.int .i64 0)), (.v (.int .i64 0))], none⟩,
    ⟨none, .store [0, 0] (.V 10) (.E 45), none⟩])
  (.seq (.regD [(⟨(some (.E 47)), .faddr 0 (.V 10), none⟩, 0, 0),
    (⟨(some (.E 48)), .load false 1 (.E 47), none⟩, 0, 0),
    (⟨(some (.E 49)), .mv (.V 7), none⟩, 0, 0),
    (⟨(some (.E 50)), .mv (.V 9), none⟩, 0, 0),
    (⟨(some (.E 51)), .iaddr 2 (.E 49) (.E 50), none⟩, 0, 0),
    (⟨(some (.E 52)), .faddr 0 (.E 51), none⟩, 0, 0),
    (⟨(some (.E 53)), .load false 1 (.E 52), none⟩, 0, 0),
    (⟨(some (.E 54)), .call k_spec_SubInt [([0], (.E 48)), ([0], (.E 53))], none⟩, 0, 0),
    (⟨(some (.E 46)), .mv (.E 54), none⟩, 0, 0),
    (⟨(some (.E 55)), .ext 0 (.E 46), none⟩, 0, 0),
    (⟨(some (.E 56)), .ext 1 (.E 46), none⟩, 0, 0),
    (⟨(some (.V 11)), .mv (.E 55), none⟩, 0, 0),
    (⟨(some (.V 12)), .mv (.E 56), none⟩, 0, 0)])
  (.seq (.regD [(⟨(some (.E 58)), .faddr 1 (.V 10), none⟩, 0, 0),
    (⟨(some (.E 59)), .load false 1 (.E 58), none⟩, 0, 0),
    (⟨(some (.E 60)), .mv (.V 7), none⟩, 0, 0),
    (⟨(some (.E 61)), .mv (.V 9), none⟩, 0, 0),
    (⟨(some (.E 62)), .iaddr 2 (.E 60) (.E 61), none⟩, 0, 0),
    (⟨(some (.E 63)), .faddr 1 (.E 62), none⟩, 0, 0),
    (⟨(some (.E 64)), .load false 1 (.E 63), none⟩, 0, 0),
    (⟨(some (.E 65)), .call k_spec_SubInt [([0], (.E 59)), ([0], (.E 64))], none⟩, 0, 0),
    (⟨(some (.E 57)), .mv (.E 65), none⟩, 0, 0),
    (⟨(some (.E 66)), .ext 0 (.E 57), none⟩, 0, 0),
    (⟨(some (.E 67)), .ext 1 (.E 57), none⟩, 0, 0),
    (⟨(some (.V 13)), .mv (.E 66), none⟩, 0, 0),
    (⟨(some (.V 14)), .mv (.E 67), none⟩, 0, 0)])
  (.seq (.seq (.reg [⟨(some (.E 68)), .mv (.V 12), none⟩,
    ⟨(some (.E 69)), .un .not (.E 68), none⟩,
    ⟨(some (.E 70)), .mv (.E 69), none⟩,
    ⟨(some (.E 71)), .mv (.V 14), some ((.E 70), false)⟩,
    ⟨(some (.E 72)), .un .not (.E 71), some ((.E 70), false)⟩,
    ⟨(some (.E 73)), .pick (.E 70) (kb true) (.E 72), none⟩])
  (.cond (.E 73)
   (.seq (.reg [⟨(some (.E 74)), .bslice 0 6 [(.v (.int .i64 0)), (.v (.int .i64 0)), (.v (.int .i64 0)), (.v (.int .i64 0)), (.v (.int .i64 0)), (.v (.int .i64 0))] [], none⟩,
     ⟨(some (.V 4)), .mv (.E 74), none⟩])
   (.ret))
   (.skip)))
  (.seq (.reg [⟨(some (.E 75)), .mv (.V 7), none⟩,
    ⟨(some (.E 76)), .mv (.V 9), none⟩,
    ⟨(some (.E 77)), .iaddr 2 (.E 75) (.E 76), none⟩,
    ⟨(some (.E 78)), .faddr 0 (.E 77), none⟩,
    ⟨(some (.E 79)), .load false 1 (.E 78), none⟩,
    ⟨(some (.E 80)), .mv (.V 1), none⟩,
    ⟨(some (.E 81)), .bin .geq (.E 79) (.E 80), none⟩,
    ⟨(some (.E 82)), .mv (.E 81), none⟩,
    ⟨(some (.E 83)), .mv (.V 11), some ((.E 82), true)⟩,
    ⟨(some (.E 84)), .mv (.V 1), some ((.E 82), true)⟩,
    ⟨(some (.E 85)), .bin .geq (.E 83) (.E 84), some ((.E 82), true)⟩,
    ⟨(some (.E 86)), .pick (.E 82) (.E 85) (kb false), none⟩])
  (.cond (.E 86)
   (.reg [⟨(some (.E 87)), .mv (.V 5), none⟩,
     ⟨(some (.E 88)), .mv (.V 6), none⟩,
     ⟨(some (.E 89)), .mv (.V 9), none⟩,
     ⟨(some (.E 90)), .mv (.V 7), none⟩,
     ⟨(some (.E 91)), .mv (.V 9), none⟩,
     ⟨(some (.E 92)), .iaddr 2 (.E 90) (.E 91), none⟩,
     ⟨(some (.E 93)), .load true 2 (.E 92), none⟩,
     ⟨(some (.E 94)), .mv (.V 11), none⟩,
     ⟨(some (.E 95)), .mv (.V 13), none⟩,
     ⟨(some (.E 96)), .build [(.v (.int .i64 0)), (.v (.int .i64 0))] [(0, 1, (.E 94)), (1, 1, (.E 95))], none⟩,
     ⟨(some (.E 97)), .build [(.v (.int .i64 0)), (.v (.int .i64 0)), (.v (.int .i64 0)), (.v (.int .i64 0)), (.v (.int .i64 0)), (.v (.int .i64 0))] [(0, 1, (.E 88)), (1, 1, (.E 89)), (2, 2, (.E 93)), (4, 2, (.E 96))], none⟩,
     ⟨(some (.E 98)), .bslice 1 6 [(.v (.int .i64 0)), (.v (.int .i64 0)), (.v (.int .i64 0)), (.v (.int .i64 0)), (.v (.int .i64 0)), (.v (.int .i64 0))] [(0, (.E 97))], none⟩,
     ⟨(some (.E 99)), .app 48 6 (.E 87) (.E 98), none⟩,
     ⟨(some (.V 5)), .mv (.E 99), none⟩])
   (.skip))))))))
 (.reg [⟨(some (.E 38)), .mv (.V 9), none⟩,
   ⟨(some (.E 39)), .bin .add (.E 38) (ki 1), none⟩,
   ⟨(some (.V 9)), .mv (.E 39), none⟩]))

def k_spec_CandsOf_b1 : IC :=
 .seq (.seq (.reg [⟨(some (.E 16)), .mv (.V 6), none⟩,
   ⟨(some (.E 17)), .mv (.V 0), none⟩,
   ⟨(some (.E 18)), .len (.E 17), none⟩,
   ⟨(some (.E 19)), .bin .lss (.E 16) (.E 18), none⟩])
 (.cond (.E 19)
  (.skip)
  (.exit 0)))
 (.seq (.block 1 (.seq (.reg [⟨(some (.E 23)), .mv (.V 0), none⟩,
    ⟨(some (.E 24)), .mv (.V 6), none⟩,
    ⟨(some (.E 25)), .iaddr 1 (.E 23) (.E 24), none⟩,
    ⟨(some (.E 26)), .load false 1 (.E 25), none⟩,
    ⟨(some (.E 27)), .call k_spec_Prefix [([2], (.E 26))], none⟩,
    ⟨(some (.E 22)), .mv (.E 27), none⟩,
    ⟨(some (.E 28)), .ext 0 (.E 22), none⟩,
    ⟨(some (.E 29)), .ext 1 (.E 22), none⟩,
    ⟨(some (.V 7)), .mv (.E 28), none⟩,
    ⟨(some (.V 8)), .mv (.E 29), none⟩])
  (.seq (.seq (.reg [⟨(some (.E 30)), .mv (.V 8), none⟩,
    ⟨(some (.E 31)), .un .not (.E 30), none⟩])
  (.cond (.E 31)
   (.seq (.reg [⟨(some (.E 32)), .bslice 0 6 [(.v (.int .i64 0)), (.v (.int .i64 0)), (.v (.int .i64 0)), (.v (.int .i64 0)), (.v (.int .i64 0)), (.v (.int .i64 0))] [], none⟩,
     ⟨(some (.V 4)), .mv (.E 32), none⟩])
   (.ret))
   (.skip)))
  (.seq (.reg [⟨(some (.V 9)), .mv (ki 0), none⟩])
  (.block 2 (.loop k_spec_CandsOf_b0))))))
 (.reg [⟨(some (.E 20)), .mv (.V 6), none⟩,
   ⟨(some (.E 21)), .bin .add (.E 20) (ki 1), none⟩,
   ⟨(some (.V 6)), .mv (.E 21), none⟩]))

def k_spec_CandsOf_ic : IC :=
 .seq (.reg [⟨(some (.V 4)), .mv (.C .e0), none⟩])
 (.seq (.reg [⟨(some (.E 15)), .bslice 0 6 [(.v (.int .i64 0)), (.v (.int .i64 0)), (.v (.int .i64 0)), (.v (.int .i64 0)), (.v (.int .i64 0)), (.v (.int .i64 0))] [], none⟩,
   ⟨(some (.V 5)), .mv (.E 15), none⟩])
 (.seq (.seq (.reg [⟨(some (.V 6)), .mv (ki 0), none⟩])
 (.block 0 (.loop k_spec_CandsOf_b1)))
 (.seq (.reg [⟨(some (.E 100)), .mv (.V 5), none⟩,
   ⟨(some (.V 4)), .mv (.E 100), none⟩])
 (.ret))))

def k_spec_CandsOf_rv : List RV := [.tmp [6] 4]

def k_impl_NodeHists_vars : List Nat := [0, 1, 2, 3, 20, 19, 18, 9, 10, 12, 8, 11, 6, 7]

def k_impl_NodeHists_b0 : IC :=
 .seq (.reg [⟨(some (.E 21)), .bin .lss (.V 20) (.V 19), none⟩])
 (.seq (.cond (.E 21)
  (.skip)
  (.exit 0))
 (.seq (.block 1 (.seq (.reg [⟨(some (.E 22)), .mv (.V 20), none⟩,
    ⟨(some (.E 23)), .iaddr 1 (.V 18) (.V 20), none⟩,
    ⟨(some (.E 24)), .load false 1 (.E 23), none⟩,
    ⟨(some (.V 9)), .mv (.E 22), none⟩,
    ⟨(some (.V 10)), .mv (.E 24), none⟩])
  (.seq (.reg [⟨(some (.E 26)), .faddr 1 (.V 3), none⟩,
    ⟨(some (.E 27)), .load false 1 (.E 26), none⟩,
    ⟨(some (.E 28)), .mv (.V 9), none⟩,
    ⟨(some (.E 29)), .iaddr 1 (.E 27) (.E 28), none⟩,
    ⟨(some (.E 30)), .load false 1 (.E 29), none⟩,
    ⟨(some (.E 31)), .mv (.V 1), none⟩,
    ⟨(some (.E 32)), .mv (.V 2), none⟩,
    ⟨(some (.E 33)), .mv (.V 10), none⟩,
    ⟨(some (.E 34)), .len (.E 33), none⟩,
    ⟨(some (.E 35)), .bin .add (.E 34) (ki 1), none⟩,
    ⟨(some (.E 36)), .call k_impl_HistOf [([1], (.E 30)), ([1], (.E 31)), ([1], (.E 32)), ([0], (.E 35))], none⟩,
    ⟨(some (.E 25)), .mv (.E 36), none⟩,
    ⟨(some (.E 37)), .ext 0 (.E 25), none⟩,
    ⟨(some (.E 38)), .ext 1 (.E 25), none⟩,
    ⟨(some (.V 11)), .mv (.E 37), none⟩,
    ⟨(some (.V 12)), .mv (.E 38), none⟩])
  (.seq (.seq (.reg [⟨(some (.E 39)), .mv (.V 12), none⟩,
    ⟨(some (.E 40)), .un .not (.E 39), none⟩])
  (.cond (.E 40)
   (.seq (.reg [⟨(some (.V 6)), .mv (.C .e0), none⟩,
     ⟨(some (.V 7)), .mv (kb false), none⟩])
   (.ret))
   (.skip)))
  (.reg [⟨(some (.E 41)), .mv (.V 8), none⟩,
    ⟨(some (.E 42)), .mv (.V 11), none⟩,
    ⟨(some (.E 43)), .bslice 1 1 [(.own 2 [])] [(0, (.E 42))], none⟩,
    ⟨(some (.E 44)), .app 24 1 (.E 41) (.E 43), none⟩,
    ⟨(some (.V 8)), .mv (.E 44), none⟩])))))
 (.reg [⟨(some (.E 45)), .bin .add (.V 20) (ki 1), none⟩,
   ⟨(some (.V 20)), .mv (.E 45), none⟩])))

def k_impl_NodeHists_ic : IC :=
 .seq (.reg [⟨(some (.V 3)), .box (.V 0), none⟩,
   ⟨(some (.V 6)), .mv (.C .e0), none⟩,
   ⟨(some (.V 7)), .mv (kb false), none⟩])
 (.seq (.seq (.reg [⟨(some (.E 13)), .load true 2 (.V 3), none⟩,
   ⟨(some (.E 14)), .call k_impl_GridOk [([1, 1], (.E 13))], none⟩,
   ⟨(some (.E 15)), .un .not (.E 14), none⟩])
 (.cond (.E 15)
  (.seq (.reg [⟨(some (.V 6)), .mv (.C .e0), none⟩,
    ⟨(some (.V 7)), .mv (kb false), none⟩])
  (.ret))
  (.skip)))
 (.seq (.reg [⟨(some (.E 16)), .bslice 0 1 [(.own 2 [])] [], none⟩,
   ⟨(some (.V 8)), .mv (.E 16), none⟩])
 (.seq (.seq (.reg [⟨(some (.E 17)), .faddr 0 (.V 3), none⟩,
   ⟨(some (.V 18)), .load false 1 (.E 17), none⟩,
   ⟨(some (.V 19)), .len (.V 18), none⟩,
   ⟨(some (.V 20)), .mv (ki 0), none⟩])
 (.block 0 (.loop k_impl_NodeHists_b0)))
 (.seq (.reg [⟨(some (.E 46)), .mv (.V 8), none⟩,
   ⟨(some (.V 6)), .mv (.E 46), none⟩,
   ⟨(some (.V 7)), .mv (kb true), none⟩])
 (.ret)))))

def k_impl_NodeHists_rv : List RV := [.tmp [1] 6, .tmp [0] 7]

def k_impl_CandsOf_vars : List Nat := [0, 1, 16, 15, 14, 7, 9, 10, 8, 12, 11, 5, 6, 4]

def k_impl_CandsOf_b0 : IC :=
 .seq (.seq (.reg [⟨(some (.E 28)), .mv (.V 10), none⟩,
   ⟨(some (.E 29)), .mv (.V 8), none⟩,
   ⟨(some (.E 30)), .len (.E 29), none⟩,
   ⟨(some (.E 31)), .bin .sub (.E 30) (ki 1), none⟩,
   ⟨(some (.E 32)), .bin .lss (.E 28) (.E 31), none⟩])
 (.cond (.E 32)
  (.skip)
  (.exit 2)))
 (.seq (.block 3 (.seq (.regD [(⟨(some (.E 36)), .mv (.V 8), none⟩, 0, 0),
    (⟨(some (.E 37)), .mv (.V 8), none⟩, 0, 0),
    (⟨(some (.E 38)), .len (.E 37), none⟩, 0, 0),
    (⟨(some (.E 39)), .bin .sub (.E 38) (ki 1), none⟩, 0, 0),
    (⟨(some (.E 40)), .iaddr 2 (.E 36) (.E 39), none⟩, 0, 0),
    (⟨(some (.E 41)), .load true 2 (.E 40), none⟩, 0, 0),
    (⟨(some (.E 42)), .mv (.V 8), none⟩, 0, 0),
    (⟨(some (.E 43)), .mv (.V 10), none⟩, 0, 0),
    (⟨(some (.E 44)), .iaddr 2 (.E 42) (.E 43), none⟩, 0, 0),
    (⟨(some (.E 45)), .load true 2 (.E 44), none⟩, 0, 0),
    (⟨(some (.E 46)), .call k__impl_Slot__minus [([0, 0], (.E 41)), ([0, 0], (.E 45))], none⟩, 0, 0),
    (⟨(some (.E 35)), .mv (.E 46), none⟩, 0, 0),
    (⟨(some (.E 47)), .ext 0 (.E 35), none⟩, 0, 0),
    (⟨(some (.E 48)), .ext 1 (.E 35), none⟩, 0, 0),
    (⟨(some (.V 11)), .allocL [(.v (.int .i64 0)), (.v (.int .i64 0))], none⟩, 0, 0),
    (⟨none, .store [0, 0] (.V 11) (.E 47), none⟩, 0, 0),
    (⟨(some (.V 12)), .mv (.E 48), none⟩, 0, 0)])
  (.seq (.seq (.reg [⟨(some (.E 49)), .mv (.V 12), none⟩,
    ⟨(some (.E 50)), .un .not (.E 49), none⟩])
  (.cond (.E 50)
   (.seq (.reg [⟨(some (.V 4)), .mv (.C .e0), none⟩])
   (.ret))
   (.skip)))
  (.seq (.reg [⟨(some (.E 51)), .mv (.V 8), none⟩,
    ⟨(some (.E 52)), .mv (.V 10), none⟩,
    ⟨(some (.E 53)), .iaddr 2 (.E 51) (.E 52), none⟩,
    ⟨(some (.E 54)), .faddr 0 (.E 53), none⟩,
    ⟨(some (.E 55)), .load false 1 (.E 54), none⟩,
    ⟨(some (.E 56)), .mv (.V 1), none⟩,
    ⟨(some (.E 57)), .bin .geq (.E 55) (.E 56), none⟩,
    ⟨(some (.E 58)), .mv (.E 57), none⟩,
    ⟨(some (.E 59)), .faddr 0 (.V 11), some ((.E 58), true)⟩,
    ⟨(some (.E 60)), .load false 1 (.E 59), some ((.E 58), true)⟩,
    ⟨(some (.E 61)), .mv (.V 1), some ((.E 58), true)⟩,
    ⟨(some (.E 62)), .bin .geq (.E 60) (.E 61), some ((.E 58), true)⟩,
    ⟨(some (.E 63)), .pick (.E 58) (.E 62) (kb false), none⟩])
  (.cond (.E 63)
   (.regD [(⟨(some (.E 64)), .mv (.V 5), none⟩, 0, 0),
     (⟨(some (.E 65)), .mv (.V 6), none⟩, 0, 0),
     (⟨(some (.E 66)), .mv (.V 10), none⟩, 0, 0),
     (⟨(some (.E 67)), .mv (.V 8), none⟩, 0, 0),
     (⟨(some (.E 68)), .mv (.V 10), none⟩, 0, 0),
     (⟨(some (.E 69)), .iaddr 2 (.E 67) (.E 68), none⟩, 0, 0),
     (⟨(some (.E 70)), .load true 2 (.E 69), none⟩, 0, 0),
     (⟨(some (.E 71)), .load true 2 (.V 11), none⟩, 0, 0),
     (⟨(some (.E 72)), .build [(.v (.int .i64 0)), (.v (.int .i64 0)), (.v (.int .i64 0)), (.v (.int .i64 0)), (.v (.int .i64 0)), (.v (.int .i64 0))] [(0, 1, (.E 65)), (1, 1, (.E 66)), (2, 2, (.E 70)), (4, 2, (.E 71))], none⟩, 0, 0),
     (⟨(some (.E 73)), .bslice 1 6 [(.v (.int .i64 0)), (.v (.int .i64 0)), (.v (.int .i64 0)), (.v (.int .i64 0)), (.v (.int .i64 0)), (.v (.int .i64 0))] [(0, (.E 72))], none⟩, 0, 0),
     (⟨(some (.E 74)), .app 48 6 (.E 64) (.E 73), none⟩, 0, 0),
     (⟨(some (.V 5)), .mv (.E 74), none⟩, 0, 0)])
   (.skip))))))
 (.reg [⟨(some (.E 33)), .mv (.V 10), none⟩,
   ⟨(some (.E 34)), .bin .add (.E 33) (ki 1), none⟩,
   ⟨(some (.V 10)), .mv (.E 34), none⟩]))

def k_impl_CandsOf_b1 : IC :=
 .seq (.reg [⟨(some (.E 17)), .bin .lss (.V 16) (.V 15), none⟩])
 (.seq (.cond (.E 17)
  (.skip)
  (.exit 0))
 (.seq (.block 1 (.seq (.reg [⟨(some (.E 18)), .mv (.V 16), none⟩,
    ⟨(some (.E 19)), .iaddr 1 (.V 14) (.V 16), none⟩,
    ⟨(some (.E 20)), .load false 1 (.E 19), none⟩,
    ⟨(some (.V 6)), .mv (.E 18), none⟩,
    ⟨(some (.V 7)), .mv (.E 20), none⟩])
  (.seq (.reg [⟨(some (.E 22)), .mv (.V 7), none⟩,
    ⟨(some (.E 23)), .call k_impl_Prefix [([2], (.E 22))], none⟩,
    ⟨(some (.E 21)), .mv (.E 23), none⟩,
    ⟨(some (.E 24)), .ext 0 (.E 21), none⟩,
    ⟨(some (.E 25)), .ext 1 (.E 21), none⟩,
    ⟨(some (.V 8)), .mv (.E 24), none⟩,
    ⟨(some (.V 9)), .mv (.E 25), none⟩])
  (.seq (.seq (.reg [⟨(some (.E 26)), .mv (.V 9), none⟩,
    ⟨(some (.E 27)), .un .not (.E 26), none⟩])
  (.cond (.E 27)
   (.seq (.reg [⟨(some (.V 4)), .mv (.C .e0), none⟩])
   (.ret))
   (.skip)))
  (.seq (.reg [⟨(some (.V 10)), .mv (ki 0), none⟩])
  (.block 2 (.loop k_impl_CandsOf_b0)))))))
 (.reg [⟨(some (.E 75)), .bin .add (.V 16) (ki 1), none⟩,
   ⟨(some (.V 16)), .mv (.E 75), none⟩])))

def k_impl_CandsOf_ic : IC :=
 .seq (.reg [⟨(some (.V 4)), .mv (.C .e0), none⟩])
 (.seq (.reg [⟨(some (.E 13)), .bslice 0 6 [(.v (.int .i64 0)), (.v (.int .i64 0)), (.v (.int .i64 0)), (.v (.int .i64 0)), (.v (.int .i64 0)), (.v (.int .i64 0))] [], none⟩,
   ⟨(some (.V 5)), .mv (.E 13), none⟩])
 (.seq (.seq (.reg [⟨(some (.V 14)), .mv (.V 0), none⟩,
   ⟨(some (.V 15)), .len (.V 14), none⟩,
   ⟨(some (.V 16)), .mv (ki 0), none⟩])
 (.block 0 (.loop k_impl_CandsOf_b1)))
 (.seq (.reg [⟨(some (.E 76)), .mv (.V 5), none⟩,
   ⟨(some (.V 4)), .mv (.E 76), none⟩])
 (.ret))))

def k_impl_CandsOf_rv : List RV := [.tmp [6] 4]

def k_laws_eqSlot_vars : List Nat := [0, 1, 2, 3, 4]

def k_laws_eqSlot_ic : IC :=
 .seq (.reg [⟨(some (.V 2)), .box (.V 0), none⟩,
   ⟨(some (.V 3)), .box (.V 1), none⟩,
   ⟨(some (.V 4)), .mv (kb false), none⟩])
 (.seq (.seq (.reg [⟨(some (.E 5)), .faddr 0 (.V 2), none⟩,
   ⟨(some (.E 6)), .load false 1 (.E 5), none⟩,
   ⟨(some (.E 7)), .faddr 0 (.V 3), none⟩,
   ⟨(some (.E 8)), .load false 1 (.E 7), none⟩,
   ⟨(some (.E 9)), .bin .neq (.E 6) (.E 8), none⟩])
 (.cond (.E 9)
  (.seq (.reg [⟨(some (.V 4)), .mv (kb false), none⟩])
  (.ret))
  (.skip)))
 (.seq (.seq (.reg [⟨(some (.E 10)), .faddr 1 (.V 2), none⟩,
   ⟨(some (.E 11)), .load false 1 (.E 10), none⟩,
   ⟨(some (.E 12)), .faddr 1 (.V 3), none⟩,
   ⟨(some (.E 13)), .load false 1 (.E 12), none⟩,
   ⟨(some (.E 14)), .bin .neq (.E 11) (.E 13), none⟩])
 (.cond (.E 14)
  (.seq (.reg [⟨(some (.V 4)), .mv (kb false), none⟩])
  (.ret))
  (.skip)))
 (.seq (.reg [⟨(some (.V 4)), .mv (kb true), none⟩])
 (.ret))))

def k_laws_eqSlot_rv : List RV := [.tmp [0] 4]

def k_spec_l1In_vars : List Nat := [0, 1, 2, 6]

def k_spec_l1In_ic : IC :=
 .seq (.reg [⟨(some (.V 6)), .mv (kb false), none⟩])
 (.seq (.reg [⟨(some (.E 7)), .mv (.V 0), none⟩,
   ⟨(some (.E 8)), .mv (.V 1), none⟩,
   ⟨(some (.E 9)), .bin .geq (.E 7) (.E 8), none⟩,
   ⟨(some (.E 10)), .mv (.E 9), none⟩,
   ⟨(some (.E 11)), .mv (.V 0), some ((.E 10), true)⟩,
   ⟨(some (.E 12)), .mv (.V 2), some ((.E 10), true)⟩,
   ⟨(some (.E 13)), .bin .leq (.E 11) (.E 12), some ((.E 10), true)⟩,
   ⟨(some (.E 14)), .pick (.E 10) (.E 13) (kb false), none⟩,
   ⟨(some (.V 6)), .mv (.E 14), none⟩])
 (.ret))

def k_spec_l1In_rv : List RV := [.tmp [0] 6]

def k_spec_LeafOf_vars : List Nat := [0, 1, 2, 3, 5, 8, 6, 7]

def k_spec_LeafOf_ic : IC :=
 .seq (.reg [⟨(some (.V 3)), .box (.V 0), none⟩,
   ⟨(some (.V 5)), .box (.V 2), none⟩,
   ⟨(some (.V 6)), .mv (ki 0), none⟩,
   ⟨(some (.V 7)), .mv (kb false), none⟩])
 (.seq (.seq (.reg [⟨(some (.E 10)), .faddr 0 (.V 3), none⟩,
   ⟨(some (.E 11)), .load false 1 (.E 10), none⟩,
   ⟨(some (.E 12)), .call k_spec_l1In [([0], (.E 11)), ([0], (ki 0)), ([0], (ki 40))], none⟩,
   ⟨(some (.E 13)), .un .not (.E 12), none⟩,
   ⟨(some (.E 14)), .mv (.E 13), none⟩,
   ⟨(some (.E 15)), .mv (.V 1), some ((.E 14), false)⟩,
   ⟨(some (.E 16)), .call k_spec_l1In [([0], (.E 15)), ([0], (ki 1)), ([0], (ki 100))], some ((.E 14), false)⟩,
   ⟨(some (.E 17)), .un .not (.E 16), some ((.E 14), false)⟩,
   ⟨(some (.E 18)), .pick (.E 14) (kb true) (.E 17), none⟩,
   ⟨(some (.E 19)), .mv (.E 18), none⟩,
   ⟨(some (.E 20)), .load true 2 (.V 5), some ((.E 19), false)⟩,
   ⟨(some (.E 21)), .call k_spec_BoundOk [([0, 0], (.E 20))], some ((.E 19), false)⟩,
   ⟨(some (.E 22)), .un .not (.E 21), some ((.E 19), false)⟩,
   ⟨(some (.E 23)), .pick (.E 19) (kb true) (.E 22), none⟩])
 (.cond (.E 23)
  (.seq (.reg [⟨(some (.V 6)), .mv (ki 0), none⟩,
    ⟨(some (.V 7)), .mv (kb false), none⟩])
  (.ret))
  (.skip)))
 (.seq (.reg [⟨(some (.E 25)), .faddr 1 (.V 3), none⟩,
   ⟨(some (.E 26)), .load false 1 (.E 25), none⟩,
   ⟨(some (.E 27)), .faddr 0 (.V 3), none⟩,
   ⟨(some (.E 28)), .load false 1 (.E 27), none⟩,
   ⟨(some (.E 29)), .mv (.V 1), none⟩,
   ⟨(some (.E 30)), .bin .add (.E 28) (.E 29), none⟩,
   ⟨(some (.E 31)), .call k_spec_FloorDiv [([0], (.E 26)), ([0], (.E 30))], none⟩,
   ⟨(some (.E 24)), .mv (.E 31), none⟩,
   ⟨(some (.E 32)), .ext 0 (.E 24), none⟩,
   ⟨(some (.E 33)), .ext 1 (.E 24), none⟩,
   ⟨(some (.V 8)), .mv (.E 32), none⟩,
   ⟨(some (.E 9)), .mv (.E 33), none⟩])
 (.seq (.reg [⟨(some (.E 34)), .mv (.V 8), none⟩,
   ⟨(some (.E 35)), .faddr 0 (.V 5), none⟩,
   ⟨(some (.E 36)), .load false 1 (.E 35), none⟩,
   ⟨(some (.E 37)), .faddr 1 (.V 5), none⟩,
   ⟨(some (.E 38)), .load false 1 (.E 37), none⟩,
   ⟨(some (.E 39)), .call k_spec_Brought [([0], (.E 34)), ([0], (.E 36)), ([0], (.E 38))], none⟩,
   ⟨(some (.V 6)), .mv (.E 39), none⟩,
   ⟨(some (.V 7)), .mv (kb true), none⟩])
 (.ret))))

def k_spec_LeafOf_rv : List RV := [.tmp [0] 6, .tmp [0] 7]

def k_impl_LeafOf_vars : List Nat := [0, 1, 2, 3, 5, 8, 6, 7]

def k_impl_LeafOf_ic : IC :=
 .seq (.reg [⟨(some (.V 3)), .box (.V 0), none⟩,
   ⟨(some (.V 5)), .box (.V 2), none⟩,
   ⟨(some (.V 6)), .mv (ki 0), none⟩,
   ⟨(some (.V 7)), .mv (kb false), none⟩])
 (.seq (.seq (.reg [⟨(some (.E 10)), .faddr 0 (.V 3), none⟩,
   ⟨(some (.E 11)), .load false 1 (.E 10), none⟩,
   ⟨(some (.E 12)), .mv (.V 1), none⟩,
   ⟨(some (.E 13)), .call k_impl_isCount [([0], (.E 11)), ([0], (.E 12))], none⟩,
   ⟨(some (.E 14)), .un .not (.E 13), none⟩,
   ⟨(some (.E 15)), .mv (.E 14), none⟩,
   ⟨(some (.E 16)), .load true 2 (.V 5), some ((.E 15), false)⟩,
   ⟨(some (.E 17)), .call k_impl_BoundOk [([0, 0], (.E 16))], some ((.E 15), false)⟩,
   ⟨(some (.E 18)), .un .not (.E 17), some ((.E 15), false)⟩,
   ⟨(some (.E 19)), .pick (.E 15) (kb true) (.E 18), none⟩])
 (.cond (.E 19)
  (.seq (.reg [⟨(some (.V 6)), .mv (ki 0), none⟩,
    ⟨(some (.V 7)), .mv (kb false), none⟩])
  (.ret))
  (.skip)))
 (.seq (.reg [⟨(some (.E 21)), .faddr 1 (.V 3), none⟩,
   ⟨(some (.E 22)), .load false 1 (.E 21), none⟩,
   ⟨(some (.E 23)), .faddr 0 (.V 3), none⟩,
   ⟨(some (.E 24)), .load false 1 (.E 23), none⟩,
   ⟨(some (.E 25)), .mv (.V 1), none⟩,
   ⟨(some (.E 26)), .bin .add (.E 24) (.E 25), none⟩,
   ⟨(some (.E 27)), .call k_impl_FloorDiv [([0], (.E 22)), ([0], (.E 26))], none⟩,
   ⟨(some (.E 20)), .mv (.E 27), none⟩,
   ⟨(some (.E 28)), .ext 0 (.E 20), none⟩,
   ⟨(some (.E 29)), .ext 1 (.E 20), none⟩,
   ⟨(some (.V 8)), .mv (.E 28), none⟩,
   ⟨(some (.E 9)), .mv (.E 29), none⟩])
 (.seq (.reg [⟨(some (.E 30)), .mv (.V 8), none⟩,
   ⟨(some (.E 31)), .faddr 0 (.V 5), none⟩,
   ⟨(some (.E 32)), .load false 1 (.E 31), none⟩,
   ⟨(some (.E 33)), .faddr 1 (.V 5), none⟩,
   ⟨(some (.E 34)), .load false 1 (.E 33), none⟩,
   ⟨(some (.E 35)), .call k_impl_Brought [([0], (.E 30)), ([0], (.E 32)), ([0], (.E 34))], none⟩,
   ⟨(some (.V 6)), .mv (.E 35), none⟩,
   ⟨(some (.V 7)), .mv (kb true), none⟩])
 (.ret))))

def k_impl_LeafOf_rv : List RV := [.tmp [0] 6, .tmp [0] 7]

def k_spec_CandLess_vars : List Nat := [0, 1, 2, 3, 4]

def k_spec_CandLess_ic : IC :=
 .seq (.reg [⟨(some (.V 2)), .box (.V 0), none⟩,
   ⟨(some (.V 3)), .box (.V 1), none⟩,
   ⟨(some (.V 4)), .mv (kb false), none⟩])
 (.seq (.reg [⟨(some (.E 5)), .faddr 0 (.V 2), none⟩,
   ⟨(some (.E 6)), .load false 1 (.E 5), none⟩,
   ⟨(some (.E 7)), .faddr 0 (.V 3), none⟩,
   ⟨(some (.E 8)), .load false 1 (.E 7), none⟩,
   ⟨(some (.E 9)), .bin .lss (.E 6) (.E 8), none⟩,
   ⟨(some (.E 10)), .mv (.E 9), none⟩,
   ⟨(some (.E 11)), .faddr 0 (.V 2), some ((.E 10), false)⟩,
   ⟨(some (.E 12)), .load false 1 (.E 11), some ((.E 10), false)⟩,
   ⟨(some (.E 13)), .faddr 0 (.V 3), some ((.E 10), false)⟩,
   ⟨(some (.E 14)), .load false 1 (.E 13), some ((.E 10), false)⟩,
   ⟨(some (.E 15)), .bin .eql (.E 12) (.E 14), some ((.E 10), false)⟩,
   ⟨(some (.E 16)), .mv (.E 15), some ((.E 10), false)⟩,
   ⟨(some (.E 17)), .faddr 1 (.V 2), some ((.E 16), true)⟩,
   ⟨(some (.E 18)), .load false 1 (.E 17), some ((.E 16), true)⟩,
   ⟨(some (.E 19)), .faddr 1 (.V 3), some ((.E 16), true)⟩,
   ⟨(some (.E 20)), .load false 1 (.E 19), some ((.E 16), true)⟩,
   ⟨(some (.E 21)), .bin .lss (.E 18) (.E 20), some ((.E 16), true)⟩,
   ⟨(some (.E 22)), .pick (.E 16) (.E 21) (kb false), some ((.E 10), false)⟩,
   ⟨(some (.E 23)), .pick (.E 10) (kb true) (.E 22), none⟩,
   ⟨(some (.V 4)), .mv (.E 23), none⟩])
 (.ret))

def k_spec_CandLess_rv : List RV := [.tmp [0] 4]

def k_impl_within_vars : List Nat := [0, 1, 2, 6]

def k_impl_within_ic : IC :=
 .seq (.reg [⟨(some (.V 6)), .mv (kb false), none⟩])
 (.seq (.reg [⟨(some (.E 7)), .mv (.V 0), none⟩,
   ⟨(some (.E 8)), .mv (.V 1), none⟩,
   ⟨(some (.E 9)), .bin .geq (.E 7) (.E 8), none⟩,
   ⟨(some (.E 10)), .mv (.E 9), none⟩,
   ⟨(some (.E 11)), .mv (.V 0), some ((.E 10), true)⟩,
   ⟨(some (.E 12)), .mv (.V 2), some ((.E 10), true)⟩,
   ⟨(some (.E 13)), .bin .leq (.E 11) (.E 12), some ((.E 10), true)⟩,
   ⟨(some (.E 14)), .pick (.E 10) (.E 13) (kb false), none⟩,
   ⟨(some (.V 6)), .mv (.E 14), none⟩])
 (.ret))

def k_impl_within_rv : List RV := [.tmp [0] 6]

def k_slices_ContainsFunc___int_int__vars : List Nat := [0, 1, 4]

def k_slices_ContainsFunc___int_int__ic : IC :=
 .seq (.reg [⟨(some (.V 4)), .mv (kb false), none⟩])
 (.seq (.reg [⟨(some (.E 5)), .mv (.V 0), none⟩,
   ⟨(some (.E 6)), .mv (.V 1), none⟩,
   ⟨(some (.E 7)), .call k_slices_IndexFunc___int_int_ [([1], (.E 5)), ([0], (.E 6))], none⟩,
   ⟨(some (.E 8)), .bin .geq (.E 7) (ki 0), none⟩,
   ⟨(some (.V 4)), .mv (.E 8), none⟩])
 (.ret))

def k_slices_ContainsFunc___int_int__rv : List RV := [.tmp [0] 4]

def k_impl_ConfigOk_1_vars : List Nat := [0, 2]

def k_impl_ConfigOk_1_ic : IC :=
 .seq (.reg [⟨(some (.V 2)), .mv (kb false), none⟩])
 (.seq (.reg [⟨(some (.E 3)), .mv (.V 0), none⟩,
   ⟨(some (.E 4)), .call k_impl_isSign [([0], (.E 3))], none⟩,
   ⟨(some (.E 5)), .un .not (.E 4), none⟩,
   ⟨(some (.V 2)), .mv (.E 5), none⟩])
 (.ret))

def k_impl_ConfigOk_1_rv : List RV := [.tmp [0] 2]

def k_impl_isSign_vars : List Nat := [0, 2]

def k_impl_isSign_ic : IC :=
 .seq (.reg [⟨(some (.V 2)), .mv (kb false), none⟩])
 (.seq (.reg [⟨(some (.E 3)), .mv (.V 0), none⟩,
   ⟨(some (.E 4)), .call k_impl_within [([0], (.E 3)), ([0], (ki (-1))), ([0], (ki 1))], none⟩,
   ⟨(some (.V 2)), .mv (.E 4), none⟩])
 (.ret))

def k_impl_isSign_rv : List RV := [.tmp [0] 2]

def k_impl_BothOf_vars : List Nat := [0, 1, 2, 3]

def k_impl_BothOf_ic : IC :=
 .seq (.reg [⟨(some (.V 1)), .box (.V 0), none⟩,
   ⟨(some (.V 2)), .alloc [(.v (.int .i64 0)), (.v (.int .i64 0))], none⟩,
   ⟨(some (.V 3)), .mv (kb false), none⟩])
 (.seq (.reg [⟨(some (.E 4)), .faddr 2 (.V 1), none⟩,
   ⟨(some (.E 5)), .load true 2 (.E 4), none⟩,
   ⟨(some (.E 6)), .faddr 4 (.V 1), none⟩,
   ⟨(some (.E 7)), .load true 2 (.E 6), none⟩,
   ⟨(some (.E 8)), .call k__impl_Slot__plus [([0, 0], (.E 5)), ([0, 0], (.E 7))], none⟩,
   ⟨(some (.E 9)), .ext 0 (.E 8), none⟩,
   ⟨(some (.E 10)), .ext 1 (.E 8), none⟩,
   ⟨none, .store [0, 0] (.V 2) (.E 9), none⟩,
   ⟨(some (.V 3)), .mv (.E 10), none⟩])
 (.ret))

def k_impl_BothOf_rv : List RV := [.cell [0, 0] 2 true, .tmp [0] 3]

def k_impl_PlainGain_vars : List Nat := [0, 1, 2, 4, 5]

def k_impl_PlainGain_ic : IC :=
 .seq (.reg [⟨(some (.V 2)), .box (.V 0), none⟩,
   ⟨(some (.V 4)), .alloc [(.v (.bool false)), (.v (.int .u64 0)), (.v (.int .u64 0)), (.v (.int .i64 0))], none⟩,
   ⟨(some (.V 5)), .mv (kb false), none⟩])
 (.seq (.seq (.reg [⟨(some (.E 6)), .faddr 0 (.V 2), none⟩,
   ⟨(some (.E 7)), .load false 1 (.E 6), none⟩,
   ⟨(some (.E 8)), .mv (.V 1), none⟩,
   ⟨(some (.E 9)), .call k_impl_isCount [([0], (.E 7)), ([0], (.E 8))], none⟩,
   ⟨(some (.E 10)), .un .not (.E 9), none⟩])
 (.cond (.E 10)
  (.seq (.reg [⟨(some (.E 11)), .build [(.v (.bool false)), (.v (.int .u64 0)), (.v (.int .u64 0)), (.v (.int .i64 0))] [], none⟩,
    ⟨none, .store [0, 0, 0, 0] (.V 4) (.E 11), none⟩,
    ⟨(some (.V 5)), .mv (kb false), none⟩])
  (.ret))
  (.skip)))
 (.seq (.reg [⟨(some (.E 12)), .faddr 1 (.V 2), none⟩,
   ⟨(some (.E 13)), .load false 1 (.E 12), none⟩,
   ⟨(some (.E 14)), .faddr 0 (.V 2), none⟩,
   ⟨(some (.E 15)), .load false 1 (.E 14), none⟩,
   ⟨(some (.E 16)), .mv (.V 1), none⟩,
   ⟨(some (.E 17)), .bin .add (.E 15) (.E 16), none⟩,
   ⟨(some (.E 18)), .call k_impl_SquareOver [([0], (.E 13)), ([0], (.E 17))], none⟩,
   ⟨(some (.E 19)), .ext 0 (.E 18), none⟩,
   ⟨(some (.E 20)), .ext 1 (.E 18), none⟩,
   ⟨none, .store [0, 0, 0, 0] (.V 4) (.E 19), none⟩,
   ⟨(some (.V 5)), .mv (.E 20), none⟩])
 (.ret)))

def k_impl_PlainGain_rv : List RV := [.cell [0, 0, 0, 0] 4 true, .tmp [0] 5]

def k_spec_l8Numbers_vars : List Nat := [0, 1, 2]

def k_spec_l8Numbers_ic : IC :=
 .seq (.reg [⟨(some (.V 1)), .box (.V 0), none⟩,
   ⟨(some (.V 2)), .mv (.C .e0), none⟩])
 (.seq (.reg [⟨(some (.E 3)), .faddr 0 (.V 1), none⟩,
   ⟨(some (.E 4)), .load false 1 (.E 3), none⟩,
   ⟨(some (.E 5)), .faddr 1 (.V 1), none⟩,
   ⟨(some (.E 6)), .load false 1 (.E 5), none⟩,
   ⟨(some (.E 7)), .faddr 2 (.V 1), none⟩,
   ⟨(some (.E 8)), .load false 1 (.E 7), none⟩,
   ⟨(some (.E 9)), .faddr 3 (.V 1), none⟩,
   ⟨(some (.E 10)), .load false 1 (.E 9), none⟩,
   ⟨(some (.E 11)), .faddr 4 (.V 1), none⟩,
   ⟨(some (.E 12)), .load false 1 (.E 11), none⟩,
   ⟨(some (.E 13)), .bslice 5 1 [(.v (.int .i64 0))] [(0, (.E 4)), (1, (.E 6)), (2, (.E 8)), (3, (.E 10)), (4, (.E 12))], none⟩,
   ⟨(some (.V 2)), .mv (.E 13), none⟩])
 (.ret))

def k_spec_l8Numbers_rv : List RV := [.tmp [1] 2]

def k_spec_l8Least_vars : List Nat := [0]

def k_spec_l8Least_ic : IC :=
 .seq (.reg [⟨(some (.V 0)), .mv (.C .e0), none⟩])
 (.seq (.reg [⟨(some (.E 1)), .bslice 5 1 [(.v (.int .i64 0))] [(0, (ki 1)), (1, (ki 0)), (2, (ki 2)), (3, (ki 1)), (4, (ki 1))], none⟩,
   ⟨(some (.V 0)), .mv (.E 1), none⟩])
 (.ret))

def k_spec_l8Least_rv : List RV := [.tmp [1] 0]

def k_spec_l8Most_vars : List Nat := [0]

def k_spec_l8Most_ic : IC :=
 .seq (.reg [⟨(some (.V 0)), .mv (.C .e0), none⟩])
 (.seq (.reg [⟨(some (.E 1)), .bslice 5 1 [(.v (.int .i64 0))] [(0, (ki 8)), (1, (ki 4)), (2, (ki 8)), (3, (ki 100)), (4, (ki 20))], none⟩,
   ⟨(some (.V 0)), .mv (.E 1), none⟩])
 (.ret))

def k_spec_l8Most_rv : List RV := [.tmp [1] 0]

def k_spec_BothOf_vars : List Nat := [0, 1, 2, 3]

def k_spec_BothOf_ic : IC :=
 .seq (.reg [⟨(some (.V 1)), .box (.V 0), none⟩,
   ⟨(some (.V 2)), .alloc [(.v (.int .i64 0)), (.v (.int .i64 0))], none⟩,
   ⟨(some (.V 3)), .mv (kb false), none⟩])
 (.seq (.reg [⟨(some (.E 4)), .faddr 2 (.V 1), none⟩,
   ⟨(some (.E 5)), .load true 2 (.E 4), none⟩,
   ⟨(some (.E 6)), .faddr 4 (.V 1), none⟩,
   ⟨(some (.E 7)), .load true 2 (.E 6), none⟩,
   ⟨(some (.E 8)), .call k_spec_l13Add [([0, 0], (.E 5)), ([0, 0], (.E 7))], none⟩,
   ⟨(some (.E 9)), .ext 0 (.E 8), none⟩,
   ⟨(some (.E 10)), .ext 1 (.E 8), none⟩,
   ⟨none, .store [0, 0] (.V 2) (.E 9), none⟩,
   ⟨(some (.V 3)), .mv (.E 10), none⟩])
 (.ret))

def k_spec_BothOf_rv : List RV := [.cell [0, 0] 2 true, .tmp [0] 3]

def k_impl_AddFrac_vars : List Nat := [0, 1, 2, 3, 8, 4, 6, 7, 9, 5]

def k_impl_AddFrac_ic : IC :=
 .seq (.reg [⟨(some (.V 2)), .box (.V 0), none⟩,
   ⟨(some (.V 3)), .box (.V 1), none⟩,
   ⟨(some (.V 4)), .alloc [(.v (.bool false)), (.v (.int .u64 0)), (.v (.int .u64 0)), (.v (.int .i64 0))], none⟩,
   ⟨(some (.V 5)), .mv (kb false), none⟩])
 (.seq (.reg [⟨(some (.E 11)), .load true 4 (.V 2), none⟩,
   ⟨(some (.E 12)), .load true 4 (.V 3), none⟩,
   ⟨(some (.E 13)), .call k_impl_crossed [([0, 0, 0, 0], (.E 11)), ([0, 0, 0, 0], (.E 12))], none⟩,
   ⟨(some (.E 10)), .mv (.E 13), none⟩,
   ⟨(some (.E 14)), .ext 0 (.E 10), none⟩,
   ⟨(some (.E 15)), .ext 1 (.E 10), none⟩,
   ⟨(some (.E 16)), .ext 2 (.E 10), none⟩,
   ⟨(some (.V 6)), .alloc [(.v (.bool false)), (.v (.int .u64 0)), (.v (.int .u64 0))], none⟩,
   ⟨(some (.V 7)), .alloc [(.v (.bool false)), (.v (.int .u64 0)), (.v (.int .u64 0))], none⟩,
   ⟨none, .store [0, 0, 0] (.V 6) (.E 14), none⟩,
   ⟨none, .store [0, 0, 0] (.V 7) (.E 15), none⟩,
   ⟨(some (.V 8)), .mv (.E 16), none⟩])
 (.seq (.seq (.reg [⟨(some (.E 17)), .mv (.V 8), none⟩,
   ⟨(some (.E 18)), .un .not (.E 17), none⟩])
 (.cond (.E 18)
  (.seq (.reg [⟨(some (.E 19)), .build [(.v (.bool false)), (.v (.int .u64 0)), (.v (.int .u64 0)), (.v (.int .i64 0))] [], none⟩,
    ⟨none, .store [0, 0, 0, 0] (.V 4) (.E 19), none⟩,
    ⟨(some (.V 5)), .mv (kb false), none⟩])
  (.ret))
  (.skip)))
 (.seq (.reg [⟨(some (.E 21)), .load true 3 (.V 6), none⟩,
   ⟨(some (.E 22)), .load true 3 (.V 7), none⟩,
   ⟨(some (.E 23)), .call k_impl_AddWide [([0, 0, 0], (.E 21)), ([0, 0, 0], (.E 22))], none⟩,
   ⟨(some (.E 20)), .mv (.E 23), none⟩,
   ⟨(some (.E 24)), .ext 0 (.E 20), none⟩,
   ⟨(some (.E 25)), .ext 1 (.E 20), none⟩,
   ⟨(some (.V 9)), .alloc [(.v (.bool false)), (.v (.int .u64 0)), (.v (.int .u64 0))], none⟩,
   ⟨none, .store [0, 0, 0] (.V 9) (.E 24), none⟩,
   ⟨(some (.V 8)), .mv (.E 25), none⟩])
 (.seq (.seq (.reg [⟨(some (.E 26)), .mv (.V 8), none⟩,
   ⟨(some (.E 27)), .un .not (.E 26), none⟩])
 (.cond (.E 27)
  (.seq (.reg [⟨(some (.E 28)), .build [(.v (.bool false)), (.v (.int .u64 0)), (.v (.int .u64 0)), (.v (.int .i64 0))] [], none⟩,
    ⟨none, .store [0, 0, 0, 0] (.V 4) (.E 28), none⟩,
    ⟨(some (.V 5)), .mv (kb false), none⟩])
  (.ret))
  (.skip)))
 (.seq (.reg [⟨(some (.E 29)), .load true 3 (.V 9), none⟩,
   ⟨(some (.E 30)), .faddr 3 (.V 2), none⟩,
   ⟨(some (.E 31)), .load false 1 (.E 30), none⟩,
   ⟨(some (.E 32)), .faddr 3 (.V 3), none⟩,
   ⟨(some (.E 33)), .load false 1 (.E 32), none⟩,
   ⟨(some (.E 34)), .bin .mul (.E 31) (.E 33), none⟩,
   ⟨(some (.E 35)), .call k_impl_fracOf [([0, 0, 0], (.E 29)), ([0], (.E 34))], none⟩,
   ⟨(some (.E 36)), .ext 0 (.E 35), none⟩,
   ⟨(some (.E 37)), .ext 1 (.E 35), none⟩,
   ⟨none, .store [0, 0, 0, 0] (.V 4) (.E 36), none⟩,
   ⟨(some (.V 5)), .mv (.E 37), none⟩])
 (.ret))))))

def k_impl_AddFrac_rv : List RV := [.cell [0, 0, 0, 0] 4 true, .tmp [0] 5]

def k_impl_crossed_vars : List Nat := [0, 1, 2, 3, 4, 5, 7, 9, 8, 10, 6]

def k_impl_crossed_ic : IC :=
 .seq (.reg [⟨(some (.V 2)), .box (.V 0), none⟩,
   ⟨(some (.V 3)), .box (.V 1), none⟩,
   ⟨(some (.V 4)), .alloc [(.v (.bool false)), (.v (.int .u64 0)), (.v (.int .u64 0))], none⟩,
   ⟨(some (.V 5)), .alloc [(.v (.bool false)), (.v (.int .u64 0)), (.v (.int .u64 0))], none⟩,
   ⟨(some (.V 6)), .mv (kb false), none⟩])
 (.seq (.seq (.reg [⟨(some (.E 11)), .load true 4 (.V 2), none⟩,
   ⟨(some (.E 12)), .call k_impl_FracOk [([0, 0, 0, 0], (.E 11))], none⟩,
   ⟨(some (.E 13)), .un .not (.E 12), none⟩,
   ⟨(some (.E 14)), .mv (.E 13), none⟩,
   ⟨(some (.E 15)), .load true 4 (.V 3), some ((.E 14), false)⟩,
   ⟨(some (.E 16)), .call k_impl_FracOk [([0, 0, 0, 0], (.E 15))], some ((.E 14), false)⟩,
   ⟨(some (.E 17)), .un .not (.E 16), some ((.E 14), false)⟩,
   ⟨(some (.E 18)), .pick (.E 14) (kb true) (.E 17), none⟩])
 (.cond (.E 18)
  (.seq (.reg [⟨(some (.E 19)), .build [(.v (.bool false)), (.v (.int .u64 0)), (.v (.int .u64 0))] [], none⟩,
    ⟨(some (.E 20)), .build [(.v (.bool false)), (.v (.int .u64 0)), (.v (.int .u64 0))] [], none⟩,
    ⟨none, .store [0, 0, 0] (.V 4) (.E 19), none⟩,
    ⟨none, .store [0, 0, 0] (.V 5) (.E 20), none⟩,
    ⟨(some (.V 6)), .mv (kb false), none⟩])
  (.ret))
  (.skip)))
 (.seq (.reg [⟨(some (.E 22)), .faddr 0 (.V 2), none⟩,
   ⟨(some (.E 23)), .load true 3 (.E 22), none⟩,
   ⟨(some (.E 24)), .faddr 3 (.V 3), none⟩,
   ⟨(some (.E 25)), .load false 1 (.E 24), none⟩,
   ⟨(some (.E 26)), .call k_impl_ScaleWide [([0, 0, 0], (.E 23)), ([0], (.E 25))], none⟩,
   ⟨(some (.E 21)), .mv (.E 26), none⟩,
   ⟨(some (.E 27)), .ext 0 (.E 21), none⟩,
   ⟨(some (.E 28)), .ext 1 (.E 21), none⟩,
   ⟨(some (.V 7)), .alloc [(.v (.bool false)), (.v (.int .u64 0)), (.v (.int .u64 0))], none⟩,
   ⟨none, .store [0, 0, 0] (.V 7) (.E 27), none⟩,
   ⟨(some (.V 8)), .mv (.E 28), none⟩])
 (.seq (.reg [⟨(some (.E 30)), .faddr 0 (.V 3), none⟩,
   ⟨(some (.E 31)), .load true 3 (.E 30), none⟩,
   ⟨(some (.E 32)), .faddr 3 (.V 2), none⟩,
   ⟨(some (.E 33)), .load false 1 (.E 32), none⟩,
   ⟨(some (.E 34)), .call k_impl_ScaleWide [([0, 0, 0], (.E 31)), ([0], (.E 33))], none⟩,
   ⟨(some (.E 29)), .mv (.E 34), none⟩,
   ⟨(some (.E 35)), .ext 0 (.E 29), none⟩,
   ⟨(some (.E 36)), .ext 1 (.E 29), none⟩,
   ⟨(some (.V 9)), .alloc [(.v (.bool false)), (.v (.int .u64 0)), (.v (.int .u64 0))], none⟩,
   ⟨none, .store [0, 0, 0] (.V 9) (.E 35), none⟩,
   ⟨(some (.V 10)), .mv (.E 36), none⟩])
 (.seq (.regD [(⟨(some (.E 37)), .load true 3 (.V 7), none⟩, 0, 0),
   (⟨(some (.E 38)), .load true 3 (.V 9), none⟩, 0, 1),
   (⟨(some (.E 39)), .mv (.V 8), none⟩, 0, 0),
   (⟨(some (.E 40)), .mv (.E 39), none⟩, 0, 0),
   (⟨(some (.E 41)), .mv (.V 10), some ((.E 40), true)⟩, 0, 0),
   (⟨(some (.E 42)), .pick (.E 40) (.E 41) (kb false), none⟩, 0, 0),
   (⟨none, .store [0, 0, 0] (.V 4) (.E 37), none⟩, 0, 0),
   (⟨none, .store [0, 0, 0] (.V 5) (.E 38), none⟩, 0, 0),
   (⟨(some (.V 6)), .mv (.E 42), none⟩, 0, 0)])
 (.ret)))))

def k_impl_crossed_rv : List RV := [.cell [0, 0, 0] 4 true, .cell [0, 0, 0] 5 true, .tmp [0] 6]

def k_impl_CompareWide_vars : List Nat := [0, 1, 2, 3, 4]

def k_impl_CompareWide_ic : IC :=
 .seq (.reg [⟨(some (.V 2)), .box (.V 0), none⟩,
   ⟨(some (.V 3)), .box (.V 1), none⟩,
   ⟨(some (.V 4)), .mv (ki 0), none⟩])
 (.seq (.regD [(⟨(some (.E 5)), .faddr 0 (.V 2), none⟩, 0, 0),
   (⟨(some (.E 6)), .load false 1 (.E 5), none⟩, 0, 0),
   (⟨(some (.E 7)), .faddr 1 (.V 2), none⟩, 0, 0),
   (⟨(some (.E 8)), .load false 1 (.E 7), none⟩, 0, 0),
   (⟨(some (.E 9)), .faddr 2 (.V 2), none⟩, 0, 0),
   (⟨(some (.E 10)), .load false 1 (.E 9), none⟩, 0, 0),
   (⟨(some (.E 11)), .call k_impl_wideOf [([0], (.E 6)), ([0], (.E 8)), ([0], (.E 10))], none⟩, 0, 0),
   (⟨(some (.E 12)), .faddr 0 (.V 3), none⟩, 1, 0),
   (⟨(some (.E 13)), .load false 1 (.E 12), none⟩, 1, 0),
   (⟨(some (.E 14)), .faddr 1 (.V 3), none⟩, 1, 0),
   (⟨(some (.E 15)), .load false 1 (.E 14), none⟩, 1, 0),
   (⟨(some (.E 16)), .faddr 2 (.V 3), none⟩, 1, 0),
   (⟨(some (.E 17)), .load false 1 (.E 16), none⟩, 1, 0),
   (⟨(some (.E 18)), .call k_impl_wideOf [([0], (.E 13)), ([0], (.E 15)), ([0], (.E 17))], none⟩, 0, 0),
   (⟨none, .store [0, 0, 0] (.V 2) (.E 11), none⟩, 0, 0),
   (⟨none, .store [0, 0, 0] (.V 3) (.E 18), none⟩, 0, 0)])
 (.seq (.block 0 (.seq (.reg [⟨(some (.E 20)), .faddr 0 (.V 2), none⟩,
    ⟨(some (.E 21)), .load false 1 (.E 20), none⟩,
    ⟨(some (.E 22)), .mv (.E 21), none⟩,
    ⟨(some (.E 23)), .faddr 0 (.V 3), some ((.E 22), true)⟩,
    ⟨(some (.E 24)), .load false 1 (.E 23), some ((.E 22), true)⟩,
    ⟨(some (.E 25)), .un .not (.E 24), some ((.E 22), true)⟩,
    ⟨(some (.E 26)), .pick (.E 22) (.E 25) (kb false), none⟩,
    ⟨(some (.E 19)), .mv (.E 26), none⟩])
  (.cond (.E 19)
   (.seq (.reg [⟨(some (.V 4)), .mv (ki (-1)), none⟩])
   (.ret))
   (.seq (.reg [⟨(some (.E 28)), .faddr 0 (.V 3), none⟩,
     ⟨(some (.E 29)), .load false 1 (.E 28), none⟩,
     ⟨(some (.E 30)), .mv (.E 29), none⟩,
     ⟨(some (.E 31)), .faddr 0 (.V 2), some ((.E 30), true)⟩,
     ⟨(some (.E 32)), .load false 1 (.E 31), some ((.E 30), true)⟩,
     ⟨(some (.E 33)), .un .not (.E 32), some ((.E 30), true)⟩,
     ⟨(some (.E 34)), .pick (.E 30) (.E 33) (kb false), none⟩,
     ⟨(some (.E 27)), .mv (.E 34), none⟩])
   (.cond (.E 27)
    (.seq (.reg [⟨(some (.V 4)), .mv (ki 1), none⟩])
    (.ret))
    (.seq (.reg [⟨(some (.E 36)), .faddr 0 (.V 2), none⟩,
      ⟨(some (.E 37)), .load false 1 (.E 36), none⟩,
      ⟨(some (.E 35)), .mv (.E 37), none⟩])
    (.cond (.E 35)
     (.seq (.reg [⟨(some (.E 38)), .load true 3 (.V 3), none⟩,
       ⟨(some (.E 39)), .load true 3 (.V 2), none⟩,
       ⟨(some (.E 40)), .call k_impl_compareSizes [([0, 0, 0], (.E 38)), ([0, 0, 0], (.E 39))], none⟩,
       ⟨(some (.V 4)), .mv (.E 40), none⟩])
     (.ret))
     (.skip))))))))
 (.seq (.reg [⟨(some (.E 41)), .load true 3 (.V 2), none⟩,
   ⟨(some (.E 42)), .load true 3 (.V 3), none⟩,
   ⟨(some (.E 43)), .call k_impl_compareSizes [([0, 0, 0], (.E 41)), ([0, 0, 0], (.E 42))], none⟩,
   ⟨(some (.V 4)), .mv (.E 43), none⟩])
 (.ret))))

def k_impl_CompareWide_rv : List RV := [.tmp [0] 4]

def k_cmp_Or_int__vars : List Nat := [0, 8, 7, 6, 5, 3, 2]

def k_cmp_Or_int__b0 : IC :=
 .seq (.reg [⟨(some (.E 9)), .bin .lss (.V 8) (.V 7), none⟩])
 (.seq (.cond (.E 9)
  (.skip)
  (.exit 0))
 (.seq (.block 1 (.seq (.reg [⟨(some (.E 10)), .iaddr 1 (.V 6) (.V 8), none⟩,
    ⟨(some (.E 11)), .load false 1 (.E 10), none⟩,
    ⟨(some (.V 5)), .mv (.E 11), none⟩])
  (.seq (.reg [⟨(some (.E 12)), .mv (.V 5), none⟩,
    ⟨(some (.E 13)), .mv (.V 3), none⟩,
    ⟨(some (.E 14)), .bin .neq (.E 12) (.E 13), none⟩])
  (.cond (.E 14)
   (.seq (.reg [⟨(some (.E 15)), .mv (.V 5), none⟩,
     ⟨(some (.V 2)), .mv (.E 15), none⟩])
   (.ret))
   (.skip)))))
 (.reg [⟨(some (.E 16)), .bin .add (.V 8) (ki 1), none⟩,
   ⟨(some (.V 8)), .mv (.E 16), none⟩])))

def k_cmp_Or_int__ic : IC :=
 .seq (.reg [⟨(some (.V 2)), .mv (ki 0), none⟩])
 (.seq (.reg [⟨(some (.V 3)), .mv (ki 0), none⟩])
 (.seq (.seq (.reg [⟨(some (.V 6)), .mv (.V 0), none⟩,
   ⟨(some (.V 7)), .len (.V 6), none⟩,
   ⟨(some (.V 8)), .mv (ki 0), none⟩])
 (.block 0 (.loop k_cmp_Or_int__b0)))
 (.seq (.reg [⟨(some (.E 17)), .mv (.V 3), none⟩,
   ⟨(some (.V 2)), .mv (.E 17), none⟩])
 (.ret))))

def k_cmp_Or_int__rv : List RV := [.tmp [0] 2]

def k_cmp_Compare_int__vars : List Nat := [0, 1, 5, 6, 4]

def k_cmp_Compare_int__ic : IC :=
 .seq (.reg [⟨(some (.V 4)), .mv (ki 0), none⟩])
 (.seq (.reg [⟨(some (.E 7)), .mv (.V 0), none⟩,
   ⟨(some (.E 8)), .call k_cmp_isNaN_int_ [([0], (.E 7))], none⟩,
   ⟨(some (.V 5)), .mv (.E 8), none⟩])
 (.seq (.reg [⟨(some (.E 9)), .mv (.V 1), none⟩,
   ⟨(some (.E 10)), .call k_cmp_isNaN_int_ [([0], (.E 9))], none⟩,
   ⟨(some (.V 6)), .mv (.E 10), none⟩])
 (.seq (.seq (.reg [⟨(some (.E 11)), .mv (.V 5), none⟩])
 (.cond (.E 11)
  (.seq (.seq (.reg [⟨(some (.E 12)), .mv (.V 6), none⟩])
  (.cond (.E 12)
   (.seq (.reg [⟨(some (.V 4)), .mv (ki 0), none⟩])
   (.ret))
   (.skip)))
  (.seq (.reg [⟨(some (.V 4)), .mv (ki (-1)), none⟩])
  (.ret)))
  (.skip)))
 (.seq (.seq (.reg [⟨(some (.E 13)), .mv (.V 6), none⟩])
 (.cond (.E 13)
  (.seq (.reg [⟨(some (.V 4)), .mv (ki 1), none⟩])
  (.ret))
  (.skip)))
 (.seq (.seq (.reg [⟨(some (.E 14)), .mv (.V 0), none⟩,
   ⟨(some (.E 15)), .mv (.V 1), none⟩,
   ⟨(some (.E 16)), .bin .lss (.E 14) (.E 15), none⟩])
 (.cond (.E 16)
  (.seq (.reg [⟨(some (.V 4)), .mv (ki (-1)), none⟩])
  (.ret))
  (.skip)))
 (.seq (.seq (.reg [⟨(some (.E 17)), .mv (.V 0), none⟩,
   ⟨(some (.E 18)), .mv (.V 1), none⟩,
   ⟨(some (.E 19)), .bin .gtr (.E 17) (.E 18), none⟩])
 (.cond (.E 19)
  (.seq (.reg [⟨(some (.V 4)), .mv (ki 1), none⟩])
  (.ret))
  (.skip)))
 (.seq (.reg [⟨(some (.V 4)), .mv (ki 0), none⟩])
 (.ret))))))))

def k_cmp_Compare_int__rv : List RV := [.tmp [0] 4]

def k_spec_SquareOver_vars : List Nat := [0, 1, 6, 4, 5]

def k_spec_SquareOver_ic : IC :=
 .seq (.reg [⟨(some (.V 4)), .alloc [(.v (.bool false)), (.v (.int .u64 0)), (.v (.int .u64 0)), (.v (.int .i64 0))], none⟩,
   ⟨(some (.V 5)), .mv (kb false), none⟩])
 (.seq (.reg [⟨(some (.E 7)), .mv (.V 0), none⟩,
   ⟨(some (.E 8)), .mv (.V 0), none⟩,
   ⟨(some (.E 9)), .call k_spec_MulWide [([0], (.E 7)), ([0], (.E 8))], none⟩,
   ⟨(some (.E 10)), .mv (.V 1), none⟩,
   ⟨(some (.E 11)), .build [(.v (.bool false)), (.v (.int .u64 0)), (.v (.int .u64 0)), (.v (.int .i64 0))] [(0, 3, (.E 9)), (3, 1, (.E 10))], none⟩,
   ⟨(some (.V 6)), .alloc [(.v (.bool false)), (.v (.int .u64 0)), (.v (.int .u64 0)), (.v (.int .i64 0))], none⟩,
   ⟨none, .store [0, 0, 0, 0] (.V 6) (.E 11), none⟩])
 (.seq (.seq (.reg [⟨(some (.E 12)), .load true 4 (.V 6), none⟩,
   ⟨(some (.E 13)), .call k_spec_FracOk [([0, 0, 0, 0], (.E 12))], none⟩,
   ⟨(some (.E 14)), .un .not (.E 13), none⟩])
 (.cond (.E 14)
  (.seq (.reg [⟨(some (.E 15)), .build [(.v (.bool false)), (.v (.int .u64 0)), (.v (.int .u64 0)), (.v (.int .i64 0))] [], none⟩,
    ⟨none, .store [0, 0, 0, 0] (.V 4) (.E 15), none⟩,
    ⟨(some (.V 5)), .mv (kb false), none⟩])
  (.ret))
  (.skip)))
 (.seq (.reg [⟨(some (.E 16)), .load true 4 (.V 6), none⟩,
   ⟨none, .store [0, 0, 0, 0] (.V 4) (.E 16), none⟩,
   ⟨(some (.V 5)), .mv (kb true), none⟩])
 (.ret))))

def k_spec_SquareOver_rv : List RV := [.cell [0, 0, 0, 0] 4 true, .tmp [0] 5]

def k_spec_AddWide_vars : List Nat := [0, 1, 2, 3, 4, 6, 7, 8, 9, 5]

def k_spec_AddWide_ic : IC :=
 .seq (.reg [⟨(some (.V 2)), .box (.V 0), none⟩,
   ⟨(some (.V 3)), .box (.V 1), none⟩,
   ⟨(some (.V 4)), .alloc [(.v (.bool false)), (.v (.int .u64 0)), (.v (.int .u64 0))], none⟩,
   ⟨(some (.V 5)), .mv (kb false), none⟩])
 (.seq (.seq (.reg [⟨(some (.E 10)), .load true 3 (.V 2), none⟩,
   ⟨(some (.E 11)), .call k_spec_WideOk [([0, 0, 0], (.E 10))], none⟩,
   ⟨(some (.E 12)), .un .not (.E 11), none⟩,
   ⟨(some (.E 13)), .mv (.E 12), none⟩,
   ⟨(some (.E 14)), .load true 3 (.V 3), some ((.E 13), false)⟩,
   ⟨(some (.E 15)), .call k_spec_WideOk [([0, 0, 0], (.E 14))], some ((.E 13), false)⟩,
   ⟨(some (.E 16)), .un .not (.E 15), some ((.E 13), false)⟩,
   ⟨(some (.E 17)), .pick (.E 13) (kb true) (.E 16), none⟩])
 (.cond (.E 17)
  (.seq (.reg [⟨(some (.E 18)), .build [(.v (.bool false)), (.v (.int .u64 0)), (.v (.int .u64 0))] [], none⟩,
    ⟨none, .store [0, 0, 0] (.V 4) (.E 18), none⟩,
    ⟨(some (.V 5)), .mv (kb false), none⟩])
  (.ret))
  (.skip)))
 (.seq (.seq (.reg [⟨(some (.E 19)), .faddr 0 (.V 2), none⟩,
   ⟨(some (.E 20)), .load false 1 (.E 19), none⟩,
   ⟨(some (.E 21)), .faddr 0 (.V 3), none⟩,
   ⟨(some (.E 22)), .load false 1 (.E 21), none⟩,
   ⟨(some (.E 23)), .eqb false [.b] (.E 20) (.E 22), none⟩])
 (.cond (.E 23)
  (.seq (.reg [⟨(some (.E 24)), .faddr 0 (.V 2), none⟩,
    ⟨(some (.E 25)), .load false 1 (.E 24), none⟩,
    ⟨(some (.E 26)), .faddr 1 (.V 2), none⟩,
    ⟨(some (.E 27)), .load false 1 (.E 26), none⟩,
    ⟨(some (.E 28)), .faddr 1 (.V 3), none⟩,
    ⟨(some (.E 29)), .load false 1 (.E 28), none⟩,
    ⟨(some (.E 30)), .bin .add (.E 27) (.E 29), none⟩,
    ⟨(some (.E 31)), .faddr 2 (.V 2), none⟩,
    ⟨(some (.E 32)), .load false 1 (.E 31), none⟩,
    ⟨(some (.E 33)), .faddr 2 (.V 3), none⟩,
    ⟨(some (.E 34)), .load false 1 (.E 33), none⟩,
    ⟨(some (.E 35)), .bin .add (.E 32) (.E 34), none⟩,
    ⟨(some (.E 36)), .build [(.v (.bool false)), (.v (.int .u64 0)), (.v (.int .u64 0))] [(0, 1, (.E 25)), (1, 1, (.E 30)), (2, 1, (.E 35))], none⟩,
    ⟨(some (.V 6)), .alloc [(.v (.bool false)), (.v (.int .u64 0)), (.v (.int .u64 0))], none⟩,
    ⟨none, .store [0, 0, 0] (.V 6) (.E 36), none⟩])
  (.seq (.seq (.reg [⟨(some (.E 37)), .faddr 2 (.V 6), none⟩,
    ⟨(some (.E 38)), .load false 1 (.E 37), none⟩,
    ⟨(some (.E 39)), .faddr 2 (.V 2), none⟩,
    ⟨(some (.E 40)), .load false 1 (.E 39), none⟩,
    ⟨(some (.E 41)), .bin .lss (.E 38) (.E 40), none⟩])
  (.cond (.E 41)
   (.reg [⟨(some (.E 42)), .faddr 1 (.V 6), none⟩,
     ⟨(some (.E 43)), .load false 1 (.E 42), none⟩,
     ⟨(some (.E 44)), .bin .add (.E 43) (.C (.v (.int .u64 1))), none⟩,
     ⟨(some (.E 45)), .faddr 1 (.V 6), none⟩,
     ⟨none, .store [0] (.E 45) (.E 44), none⟩])
   (.skip)))
  (.seq (.seq (.reg [⟨(some (.E 46)), .load true 3 (.V 6), none⟩,
    ⟨(some (.E 47)), .call k_spec_WideOk [([0, 0, 0], (.E 46))], none⟩,
    ⟨(some (.E 48)), .un .not (.E 47), none⟩])
  (.cond (.E 48)
   (.seq (.reg [⟨(some (.E 49)), .build [(.v (.bool false)), (.v (.int .u64 0)), (.v (.int .u64 0))] [], none⟩,
     ⟨none, .store [0, 0, 0] (.V 4) (.E 49), none⟩,
     ⟨(some (.V 5)), .mv (kb false), none⟩])
   (.ret))
   (.skip)))
  (.seq (.reg [⟨(some (.E 50)), .load true 3 (.V 6), none⟩,
    ⟨none, .store [0, 0, 0] (.V 4) (.E 50), none⟩,
    ⟨(some (.V 5)), .mv (kb true), none⟩])
  (.ret)))))
  (.skip)))
 (.seq (.reg [⟨(some (.E 51)), .load true 3 (.V 2), none⟩,
   ⟨(some (.V 7)), .alloc [(.v (.bool false)), (.v (.int .u64 0)), (.v (.int .u64 0))], none⟩,
   ⟨none, .store [0, 0, 0] (.V 7) (.E 51), none⟩])
 (.seq (.reg [⟨(some (.E 52)), .load true 3 (.V 3), none⟩,
   ⟨(some (.V 8)), .alloc [(.v (.bool false)), (.v (.int .u64 0)), (.v (.int .u64 0))], none⟩,
   ⟨none, .store [0, 0, 0] (.V 8) (.E 52), none⟩])
 (.seq (.seq (.reg [⟨(some (.E 53)), .load true 3 (.V 2), none⟩,
   ⟨(some (.E 54)), .load true 3 (.V 3), none⟩,
   ⟨(some (.E 55)), .call k_spec_l3Order [([0, 0, 0], (.E 53)), ([0, 0, 0], (.E 54))], none⟩,
   ⟨(some (.E 56)), .bin .lss (.E 55) (ki 0), none⟩])
 (.cond (.E 56)
  (.seq (.reg [⟨(some (.E 57)), .load true 3 (.V 3), none⟩,
    ⟨none, .store [0, 0, 0] (.V 7) (.E 57), none⟩])
  (.reg [⟨(some (.E 58)), .load true 3 (.V 2), none⟩,
    ⟨none, .store [0, 0, 0] (.V 8) (.E 58), none⟩]))
  (.skip)))
 (.seq (.reg [⟨(some (.E 59)), .faddr 0 (.V 7), none⟩,
   ⟨(some (.E 60)), .load false 1 (.E 59), none⟩,
   ⟨(some (.E 61)), .faddr 1 (.V 7), none⟩,
   ⟨(some (.E 62)), .load false 1 (.E 61), none⟩,
   ⟨(some (.E 63)), .faddr 1 (.V 8), none⟩,
   ⟨(some (.E 64)), .load false 1 (.E 63), none⟩,
   ⟨(some (.E 65)), .bin .sub (.E 62) (.E 64), none⟩,
   ⟨(some (.E 66)), .faddr 2 (.V 7), none⟩,
   ⟨(some (.E 67)), .load false 1 (.E 66), none⟩,
   ⟨(some (.E 68)), .faddr 2 (.V 8), none⟩,
   ⟨(some (.E 69)), .load false 1 (.E 68), none⟩,
   ⟨(some (.E 70)), .bin .sub (.E 67) (.E 69), none⟩,
   ⟨(some (.E 71)), .build [(.v (.bool false)), (.v (.int .u64 0)), (.v (.int .u64 0))] [(0, 1, (.E 60)), (1, 1, (.E 65)), (2, 1, (.E 70))], none⟩,
   ⟨(some (.V 9)), .alloc [(.v (.bool false)), (.v (.int .u64 0)), (.v (.int .u64 0))], none⟩,
   ⟨none, .store [0, 0, 0] (.V 9) (.E 71), none⟩])
 (.seq (.seq (.reg [⟨(some (.E 72)), .faddr 2 (.V 7), none⟩,
   ⟨(some (.E 73)), .load false 1 (.E 72), none⟩,
   ⟨(some (.E 74)), .faddr 2 (.V 8), none⟩,
   ⟨(some (.E 75)), .load false 1 (.E 74), none⟩,
   ⟨(some (.E 76)), .bin .lss (.E 73) (.E 75), none⟩])
 (.cond (.E 76)
  (.reg [⟨(some (.E 77)), .faddr 1 (.V 9), none⟩,
    ⟨(some (.E 78)), .load false 1 (.E 77), none⟩,
    ⟨(some (.E 79)), .bin .sub (.E 78) (.C (.v (.int .u64 1))), none⟩,
    ⟨(some (.E 80)), .faddr 1 (.V 9), none⟩,
    ⟨none, .store [0] (.E 80) (.E 79), none⟩])
  (.skip)))
 (.seq (.seq (.reg [⟨(some (.E 81)), .load true 3 (.V 9), none⟩,
   ⟨(some (.E 82)), .call k_spec_l3Zero [([0, 0, 0], (.E 81))], none⟩])
 (.cond (.E 82)
  (.reg [⟨(some (.E 83)), .faddr 0 (.V 9), none⟩,
    ⟨none, .store [0] (.E 83) (kb false), none⟩])
  (.skip)))
 (.seq (.reg [⟨(some (.E 84)), .load true 3 (.V 9), none⟩,
   ⟨none, .store [0, 0, 0] (.V 4) (.E 84), none⟩,
   ⟨(some (.V 5)), .mv (kb true), none⟩])
 (.ret))))))))))

def k_spec_AddWide_rv : List RV := [.cell [0, 0, 0] 4 true, .tmp [0] 5]

def k_spec_FracOk_vars : List Nat := [0, 1, 2]

def k_spec_FracOk_ic : IC :=
 .seq (.reg [⟨(some (.V 1)), .box (.V 0), none⟩,
   ⟨(some (.V 2)), .mv (kb false), none⟩])
 (.seq (.reg [⟨(some (.E 3)), .faddr 0 (.V 1), none⟩,
   ⟨(some (.E 4)), .load true 3 (.E 3), none⟩,
   ⟨(some (.E 5)), .call k_spec_WideOk [([0, 0, 0], (.E 4))], none⟩,
   ⟨(some (.E 6)), .mv (.E 5), none⟩,
   ⟨(some (.E 7)), .faddr 3 (.V 1), some ((.E 6), true)⟩,
   ⟨(some (.E 8)), .load false 1 (.E 7), some ((.E 6), true)⟩,
   ⟨(some (.E 9)), .call k_spec_l1In [([0], (.E 8)), ([0], (ki 1)), ([0], (ki 1000000))], some ((.E 6), true)⟩,
   ⟨(some (.E 10)), .pick (.E 6) (.E 9) (kb false), none⟩,
   ⟨(some (.V 2)), .mv (.E 10), none⟩])
 (.ret))

def k_spec_FracOk_rv : List RV := [.tmp [0] 2]

def k_spec_ScaleWide_vars : List Nat := [0, 1, 2, 4, 6, 8, 9, 11, 10, 12, 7, 5]

def k_spec_ScaleWide_ic : IC :=
 .seq (.reg [⟨(some (.V 2)), .box (.V 0), none⟩,
   ⟨(some (.V 4)), .alloc [(.v (.bool false)), (.v (.int .u64 0)), (.v (.int .u64 0))], none⟩,
   ⟨(some (.V 5)), .mv (kb false), none⟩])
 (.seq (.seq (.reg [⟨(some (.E 13)), .load true 3 (.V 2), none⟩,
   ⟨(some (.E 14)), .call k_spec_WideOk [([0, 0, 0], (.E 13))], none⟩,
   ⟨(some (.E 15)), .un .not (.E 14), none⟩])
 (.cond (.E 15)
  (.seq (.reg [⟨(some (.E 16)), .build [(.v (.bool false)), (.v (.int .u64 0)), (.v (.int .u64 0))] [], none⟩,
    ⟨none, .store [0, 0, 0] (.V 4) (.E 16), none⟩,
    ⟨(some (.V 5)), .mv (kb false), none⟩])
  (.ret))
  (.skip)))
 (.seq (.reg [⟨(some (.E 17)), .mv (.V 1), none⟩,
   ⟨(some (.E 18)), .call k_spec_l3Abs [([0], (.E 17))], none⟩,
   ⟨(some (.V 6)), .mv (.E 18), none⟩])
 (.seq (.reg [⟨(some (.E 20)), .faddr 1 (.V 2), none⟩,
   ⟨(some (.E 21)), .load false 1 (.E 20), none⟩,
   ⟨(some (.E 22)), .mv (.V 6), none⟩,
   ⟨(some (.E 23)), .call k_spec_l3Product [([0], (.E 21)), ([0], (.E 22))], none⟩,
   ⟨(some (.E 19)), .mv (.E 23), none⟩,
   ⟨(some (.E 24)), .ext 0 (.E 19), none⟩,
   ⟨(some (.E 25)), .ext 1 (.E 19), none⟩,
   ⟨(some (.V 7)), .mv (.E 24), none⟩,
   ⟨(some (.V 8)), .mv (.E 25), none⟩])
 (.seq (.reg [⟨(some (.E 27)), .faddr 2 (.V 2), none⟩,
   ⟨(some (.E 28)), .load false 1 (.E 27), none⟩,
   ⟨(some (.E 29)), .mv (.V 6), none⟩,
   ⟨(some (.E 30)), .call k_spec_l3Product [([0], (.E 28)), ([0], (.E 29))], none⟩,
   ⟨(some (.E 26)), .mv (.E 30), none⟩,
   ⟨(some (.E 31)), .ext 0 (.E 26), none⟩,
   ⟨(some (.E 32)), .ext 1 (.E 26), none⟩,
   ⟨(some (.V 9)), .mv (.E 31), none⟩,
   ⟨(some (.V 10)), .mv (.E 32), none⟩])
 (.seq (.reg [⟨(some (.E 33)), .mv (.V 8), none⟩,
   ⟨(some (.E 34)), .mv (.V 9), none⟩,
   ⟨(some (.E 35)), .bin .add (.E 33) (.E 34), none⟩,
   ⟨(some (.V 11)), .mv (.E 35), none⟩])
 (.seq (.reg [⟨(some (.E 36)), .faddr 0 (.V 2), none⟩,
   ⟨(some (.E 37)), .load false 1 (.E 36), none⟩,
   ⟨(some (.E 38)), .mv (.V 1), none⟩,
   ⟨(some (.E 39)), .bin .lss (.E 38) (ki 0), none⟩,
   ⟨(some (.E 40)), .eqb true [.b] (.E 37) (.E 39), none⟩,
   ⟨(some (.E 41)), .mv (.V 11), none⟩,
   ⟨(some (.E 42)), .mv (.V 10), none⟩,
   ⟨(some (.E 43)), .build [(.v (.bool false)), (.v (.int .u64 0)), (.v (.int .u64 0))] [(0, 1, (.E 40)), (1, 1, (.E 41)), (2, 1, (.E 42))], none⟩,
   ⟨(some (.V 12)), .alloc [(.v (.bool false)), (.v (.int .u64 0)), (.v (.int .u64 0))], none⟩,
   ⟨none, .store [0, 0, 0] (.V 12) (.E 43), none⟩])
 (.seq (.seq (.reg [⟨(some (.E 44)), .load true 3 (.V 12), none⟩,
   ⟨(some (.E 45)), .call k_spec_l3Zero [([0, 0, 0], (.E 44))], none⟩])
 (.cond (.E 45)
  (.reg [⟨(some (.E 46)), .faddr 0 (.V 12), none⟩,
    ⟨none, .store [0] (.E 46) (kb false), none⟩])
  (.skip)))
 (.seq (.seq (.reg [⟨(some (.E 47)), .mv (.V 7), none⟩,
   ⟨(some (.E 48)), .bin .gtr (.E 47) (.C (.v (.int .u64 0))), none⟩,
   ⟨(some (.E 49)), .mv (.E 48), none⟩,
   ⟨(some (.E 50)), .mv (.V 11), some ((.E 49), false)⟩,
   ⟨(some (.E 51)), .mv (.V 8), some ((.E 49), false)⟩,
   ⟨(some (.E 52)), .bin .lss (.E 50) (.E 51), some ((.E 49), false)⟩,
   ⟨(some (.E 53)), .pick (.E 49) (kb true) (.E 52), none⟩,
   ⟨(some (.E 54)), .mv (.E 53), none⟩,
   ⟨(some (.E 55)), .load true 3 (.V 12), some ((.E 54), false)⟩,
   ⟨(some (.E 56)), .call k_spec_WideOk [([0, 0, 0], (.E 55))], some ((.E 54), false)⟩,
   ⟨(some (.E 57)), .un .not (.E 56), some ((.E 54), false)⟩,
   ⟨(some (.E 58)), .pick (.E 54) (kb true) (.E 57), none⟩])
 (.cond (.E 58)
  (.seq (.reg [⟨(some (.E 59)), .build [(.v (.bool false)), (.v (.int .u64 0)), (.v (.int .u64 0))] [], none⟩,
    ⟨none, .store [0, 0, 0] (.V 4) (.E 59), none⟩,
    ⟨(some (.V 5)), .mv (kb false), none⟩])
  (.ret))
  (.skip)))
 (.seq (.reg [⟨(some (.E 60)), .load true 3 (.V 12), none⟩,
   ⟨none, .store [0, 0, 0] (.V 4) (.E 60), none⟩,
   ⟨(some (.V 5)), .mv (kb true), none⟩])
 (.ret))))))))))

def k_spec_ScaleWide_rv : List RV := [.cell [0, 0, 0] 4 true, .tmp [0] 5]

def k_spec_l3Zero_vars : List Nat := [0, 1, 2]

def k_spec_l3Zero_ic : IC :=
 .seq (.reg [⟨(some (.V 1)), .box (.V 0), none⟩,
   ⟨(some (.V 2)), .mv (kb false), none⟩])
 (.seq (.reg [⟨(some (.E 3)), .faddr 1 (.V 1), none⟩,
   ⟨(some (.E 4)), .load false 1 (.E 3), none⟩,
   ⟨(some (.E 5)), .bin .eql (.E 4) (.C (.v (.int .u64 0))), none⟩,
   ⟨(some (.E 6)), .mv (.E 5), none⟩,
   ⟨(some (.E 7)), .faddr 2 (.V 1), some ((.E 6), true)⟩,
   ⟨(some (.E 8)), .load false 1 (.E 7), some ((.E 6), true)⟩,
   ⟨(some (.E 9)), .bin .eql (.E 8) (.C (.v (.int .u64 0))), some ((.E 6), true)⟩,
   ⟨(some (.E 10)), .pick (.E 6) (.E 9) (kb false), none⟩,
   ⟨(some (.V 2)), .mv (.E 10), none⟩])
 (.ret))

def k_spec_l3Zero_rv : List RV := [.tmp [0] 2]

def k_spec_l3Order_vars : List Nat := [0, 1, 2, 3, 4]

def k_spec_l3Order_ic : IC :=
 .seq (.reg [⟨(some (.V 2)), .box (.V 0), none⟩,
   ⟨(some (.V 3)), .box (.V 1), none⟩,
   ⟨(some (.V 4)), .mv (ki 0), none⟩])
 (.seq (.block 0 (.seq (.reg [⟨(some (.E 6)), .faddr 1 (.V 2), none⟩,
    ⟨(some (.E 7)), .load false 1 (.E 6), none⟩,
    ⟨(some (.E 8)), .faddr 1 (.V 3), none⟩,
    ⟨(some (.E 9)), .load false 1 (.E 8), none⟩,
    ⟨(some (.E 10)), .bin .lss (.E 7) (.E 9), none⟩,
    ⟨(some (.E 11)), .mv (.E 10), none⟩,
    ⟨(some (.E 12)), .faddr 1 (.V 2), some ((.E 11), false)⟩,
    ⟨(some (.E 13)), .load false 1 (.E 12), some ((.E 11), false)⟩,
    ⟨(some (.E 14)), .faddr 1 (.V 3), some ((.E 11), false)⟩,
    ⟨(some (.E 15)), .load false 1 (.E 14), some ((.E 11), false)⟩,
    ⟨(some (.E 16)), .bin .eql (.E 13) (.E 15), some ((.E 11), false)⟩,
    ⟨(some (.E 17)), .mv (.E 16), some ((.E 11), false)⟩,
    ⟨(some (.E 18)), .faddr 2 (.V 2), some ((.E 17), true)⟩,
    ⟨(some (.E 19)), .load false 1 (.E 18), some ((.E 17), true)⟩,
    ⟨(some (.E 20)), .faddr 2 (.V 3), some ((.E 17), true)⟩,
    ⟨(some (.E 21)), .load false 1 (.E 20), some ((.E 17), true)⟩,
    ⟨(some (.E 22)), .bin .lss (.E 19) (.E 21), some ((.E 17), true)⟩,
    ⟨(some (.E 23)), .pick (.E 17) (.E 22) (kb false), some ((.E 11), false)⟩,
    ⟨(some (.E 24)), .pick (.E 11) (kb true) (.E 23), none⟩,
    ⟨(some (.E 5)), .mv (.E 24), none⟩])
  (.cond (.E 5)
   (.seq (.reg [⟨(some (.V 4)), .mv (ki (-1)), none⟩])
   (.ret))
   (.seq (.reg [⟨(some (.E 26)), .faddr 1 (.V 2), none⟩,
     ⟨(some (.E 27)), .load false 1 (.E 26), none⟩,
     ⟨(some (.E 28)), .faddr 1 (.V 3), none⟩,
     ⟨(some (.E 29)), .load false 1 (.E 28), none⟩,
     ⟨(some (.E 30)), .bin .gtr (.E 27) (.E 29), none⟩,
     ⟨(some (.E 31)), .mv (.E 30), none⟩,
     ⟨(some (.E 32)), .faddr 2 (.V 2), some ((.E 31), false)⟩,
     ⟨(some (.E 33)), .load false 1 (.E 32), some ((.E 31), false)⟩,
     ⟨(some (.E 34)), .faddr 2 (.V 3), some ((.E 31), false)⟩,
     ⟨(some (.E 35)), .load false 1 (.E 34), some ((.E 31), false)⟩,
     ⟨(some (.E 36)), .bin .gtr (.E 33) (.E 35), some ((.E 31), false)⟩,
     ⟨(some (.E 37)), .pick (.E 31) (kb true) (.E 36), none⟩,
     ⟨(some (.E 25)), .mv (.E 37), none⟩])
   (.cond (.E 25)
    (.seq (.reg [⟨(some (.V 4)), .mv (ki 1), none⟩])
    (.ret))
    (.skip))))))
 (.seq (.reg [⟨(some (.V 4)), .mv (ki 0), none⟩])
 (.ret)))

def k_spec_l3Order_rv : List RV := [.tmp [0] 4]

def k_spec_l6Value_vars : List Nat := [0, 2]

def k_spec_l6Value_ic : IC :=
 .seq (.reg [⟨(some (.V 2)), .mv (kb false), none⟩])
 (.seq (.reg [⟨(some (.E 3)), .mv (.V 0), none⟩,
   ⟨(some (.E 4)), .call k_spec_l1In [([0], (.E 3)), ([0], (ki (-2147483647))), ([0], (ki 2147483647))], none⟩,
   ⟨(some (.V 2)), .mv (.E 4), none⟩])
 (.ret))

def k_spec_l6Value_rv : List RV := [.tmp [0] 2]

def k_spec_AddInt_vars : List Nat := [0, 1, 4, 5]

def k_spec_AddInt_ic : IC :=
 .seq (.reg [⟨(some (.V 4)), .mv (ki 0), none⟩,
   ⟨(some (.V 5)), .mv (kb false), none⟩])
 (.seq (.seq (.reg [⟨(some (.E 6)), .mv (.V 1), none⟩,
   ⟨(some (.E 7)), .bin .gtr (.E 6) (ki 0), none⟩,
   ⟨(some (.E 8)), .mv (.E 7), none⟩,
   ⟨(some (.E 9)), .mv (.V 0), some ((.E 8), true)⟩,
   ⟨(some (.E 10)), .mv (.V 1), some ((.E 8), true)⟩,
   ⟨(some (.E 11)), .bin .sub (ki 9223372036854775807) (.E 10), some ((.E 8), true)⟩,
   ⟨(some (.E 12)), .bin .gtr (.E 9) (.E 11), some ((.E 8), true)⟩,
   ⟨(some (.E 13)), .pick (.E 8) (.E 12) (kb false), none⟩,
   ⟨(some (.E 14)), .mv (.E 13), none⟩,
   ⟨(some (.E 15)), .mv (.V 1), some ((.E 14), false)⟩,
   ⟨(some (.E 16)), .bin .lss (.E 15) (ki 0), some ((.E 14), false)⟩,
   ⟨(some (.E 17)), .mv (.E 16), some ((.E 14), false)⟩,
   ⟨(some (.E 18)), .mv (.V 0), some ((.E 17), true)⟩,
   ⟨(some (.E 19)), .mv (.V 1), some ((.E 17), true)⟩,
   ⟨(some (.E 20)), .bin .sub (ki (-9223372036854775808)) (.E 19), some ((.E 17), true)⟩,
   ⟨(some (.E 21)), .bin .lss (.E 18) (.E 20), some ((.E 17), true)⟩,
   ⟨(some (.E 22)), .pick (.E 17) (.E 21) (kb false), some ((.E 14), false)⟩,
   ⟨(some (.E 23)), .pick (.E 14) (kb true) (.E 22), none⟩])
 (.cond (.E 23)
  (.seq (.reg [⟨(some (.V 4)), .mv (ki 0), none⟩,
    ⟨(some (.V 5)), .mv (kb false), none⟩])
  (.ret))
  (.skip)))
 (.seq (.reg [⟨(some (.E 24)), .mv (.V 0), none⟩,
   ⟨(some (.E 25)), .mv (.V 1), none⟩,
   ⟨(some (.E 26)), .bin .add (.E 24) (.E 25), none⟩,
   ⟨(some (.V 4)), .mv (.E 26), none⟩,
   ⟨(some (.V 5)), .mv (kb true), none⟩])
 (.ret)))

def k_spec_AddInt_rv : List RV := [.tmp [0] 4, .tmp [0] 5]

def k_spec_FloorDiv_vars : List Nat := [0, 1, 6, 4, 5]

def k_spec_FloorDiv_ic : IC :=
 .seq (.reg [⟨(some (.V 4)), .mv (ki 0), none⟩,
   ⟨(some (.V 5)), .mv (kb false), none⟩])
 (.seq (.seq (.reg [⟨(some (.E 7)), .mv (.V 1), none⟩,
   ⟨(some (.E 8)), .bin .eql (.E 7) (ki 0), none⟩,
   ⟨(some (.E 9)), .mv (.E 8), none⟩,
   ⟨(some (.E 10)), .mv (.V 1), some ((.E 9), false)⟩,
   ⟨(some (.E 11)), .bin .eql (.E 10) (ki (-1)), some ((.E 9), false)⟩,
   ⟨(some (.E 12)), .mv (.E 11), some ((.E 9), false)⟩,
   ⟨(some (.E 13)), .mv (.V 0), some ((.E 12), true)⟩,
   ⟨(some (.E 14)), .bin .eql (.E 13) (ki (-9223372036854775808)), some ((.E 12), true)⟩,
   ⟨(some (.E 15)), .pick (.E 12) (.E 14) (kb false), some ((.E 9), false)⟩,
   ⟨(some (.E 16)), .pick (.E 9) (kb true) (.E 15), none⟩])
 (.cond (.E 16)
  (.seq (.reg [⟨(some (.V 4)), .mv (ki 0), none⟩,
    ⟨(some (.V 5)), .mv (kb false), none⟩])
  (.ret))
  (.skip)))
 (.seq (.reg [⟨(some (.E 17)), .mv (.V 0), none⟩,
   ⟨(some (.E 18)), .mv (.V 1), none⟩,
   ⟨(some (.E 19)), .bin .quo (.E 17) (.E 18), none⟩,
   ⟨(some (.V 6)), .mv (.E 19), none⟩])
 (.seq (.seq (.reg [⟨(some (.E 20)), .mv (.V 0), none⟩,
   ⟨(some (.E 21)), .mv (.V 1), none⟩,
   ⟨(some (.E 22)), .bin .rem (.E 20) (.E 21), none⟩,
   ⟨(some (.E 23)), .bin .neq (.E 22) (ki 0), none⟩,
   ⟨(some (.E 24)), .mv (.E 23), none⟩,
   ⟨(some (.E 25)), .mv (.V 0), some ((.E 24), true)⟩,
   ⟨(some (.E 26)), .bin .lss (.E 25) (ki 0), some ((.E 24), true)⟩,
   ⟨(some (.E 27)), .mv (.V 1), some ((.E 24), true)⟩,
   ⟨(some (.E 28)), .bin .lss (.E 27) (ki 0), some ((.E 24), true)⟩,
   ⟨(some (.E 29)), .eqb true [.b] (.E 26) (.E 28), some ((.E 24), true)⟩,
   ⟨(some (.E 30)), .pick (.E 24) (.E 29) (kb false), none⟩])
 (.cond (.E 30)
  (.reg [⟨(some (.E 31)), .mv (.V 6), none⟩,
    ⟨(some (.E 32)), .bin .sub (.E 31) (ki 1), none⟩,
    ⟨(some (.V 6)), .mv (.E 32), none⟩])
  (.skip)))
 (.seq (.reg [⟨(some (.E 33)), .mv (.V 6), none⟩,
   ⟨(some (.V 4)), .mv (.E 33), none⟩,
   ⟨(some (.V 5)), .mv (kb true), none⟩])
 (.ret)))))

def k_spec_FloorDiv_rv : List RV := [.tmp [0] 4, .tmp [0] 5]

def k_impl_areDecimals_vars : List Nat := [0, 2]

def k_impl_areDecimals_ic : IC :=
 .seq (.reg [⟨(some (.V 2)), .mv (kb false), none⟩])
 (.seq (.reg [⟨(some (.E 3)), .mv (.V 0), none⟩,
   ⟨(some (.E 4)), .call k_slices_ContainsFunc___int_int_ [([1], (.E 3)), ([0], (.C (.fn k_impl_areDecimals_1 [])))], none⟩,
   ⟨(some (.E 5)), .un .not (.E 4), none⟩,
   ⟨(some (.V 2)), .mv (.E 5), none⟩])
 (.ret))

def k_impl_areDecimals_rv : List RV := [.tmp [0] 2]

def k_impl_AddInt_vars : List Nat := [0, 1, 6, 4, 5]

def k_impl_AddInt_ic : IC :=
 .seq (.reg [⟨(some (.V 4)), .mv (ki 0), none⟩,
   ⟨(some (.V 5)), .mv (kb false), none⟩])
 (.seq (.reg [⟨(some (.E 7)), .mv (.V 0), none⟩,
   ⟨(some (.E 8)), .mv (.V 1), none⟩,
   ⟨(some (.E 9)), .bin .add (.E 7) (.E 8), none⟩,
   ⟨(some (.V 6)), .mv (.E 9), none⟩])
 (.seq (.seq (.reg [⟨(some (.E 10)), .mv (.V 0), none⟩,
   ⟨(some (.E 11)), .bin .lss (.E 10) (ki 0), none⟩,
   ⟨(some (.E 12)), .mv (.V 1), none⟩,
   ⟨(some (.E 13)), .bin .lss (.E 12) (ki 0), none⟩,
   ⟨(some (.E 14)), .eqb false [.b] (.E 11) (.E 13), none⟩,
   ⟨(some (.E 15)), .mv (.E 14), none⟩,
   ⟨(some (.E 16)), .mv (.V 6), some ((.E 15), true)⟩,
   ⟨(some (.E 17)), .bin .lss (.E 16) (ki 0), some ((.E 15), true)⟩,
   ⟨(some (.E 18)), .mv (.V 0), some ((.E 15), true)⟩,
   ⟨(some (.E 19)), .bin .lss (.E 18) (ki 0), some ((.E 15), true)⟩,
   ⟨(some (.E 20)), .eqb true [.b] (.E 17) (.E 19), some ((.E 15), true)⟩,
   ⟨(some (.E 21)), .pick (.E 15) (.E 20) (kb false), none⟩])
 (.cond (.E 21)
  (.seq (.reg [⟨(some (.V 4)), .mv (ki 0), none⟩,
    ⟨(some (.V 5)), .mv (kb false), none⟩])
  (.ret))
  (.skip)))
 (.seq (.reg [⟨(some (.E 22)), .mv (.V 6), none⟩,
   ⟨(some (.V 4)), .mv (.E 22), none⟩,
   ⟨(some (.V 5)), .mv (kb true), none⟩])
 (.ret))))

def k_impl_AddInt_rv : List RV := [.tmp [0] 4, .tmp [0] 5]

def k_impl_FloorDiv_vars : List Nat := [0, 1, 6, 4, 5]

def k_impl_FloorDiv_ic : IC :=
 .seq (.reg [⟨(some (.V 4)), .mv (ki 0), none⟩,
   ⟨(some (.V 5)), .mv (kb false), none⟩])
 (.seq (.seq (.reg [⟨(some (.E 7)), .mv (.V 1), none⟩,
   ⟨(some (.E 8)), .bin .eql (.E 7) (ki 0), none⟩,
   ⟨(some (.E 9)), .mv (.E 8), none⟩,
   ⟨(some (.E 10)), .mv (.V 0), some ((.E 9), false)⟩,
   ⟨(some (.E 11)), .bin .eql (.E 10) (ki (-9223372036854775808)), some ((.E 9), false)⟩,
   ⟨(some (.E 12)), .mv (.E 11), some ((.E 9), false)⟩,
   ⟨(some (.E 13)), .mv (.V 1), some ((.E 12), true)⟩,
   ⟨(some (.E 14)), .bin .eql (.E 13) (ki (-1)), some ((.E 12), true)⟩,
   ⟨(some (.E 15)), .pick (.E 12) (.E 14) (kb false), some ((.E 9), false)⟩,
   ⟨(some (.E 16)), .pick (.E 9) (kb true) (.E 15), none⟩])
 (.cond (.E 16)
  (.seq (.reg [⟨(some (.V 4)), .mv (ki 0), none⟩,
    ⟨(some (.V 5)), .mv (kb false), none⟩])
  (.ret))
  (.skip)))
 (.seq (.reg [⟨(some (.E 17)), .mv (.V 0), none⟩,
   ⟨(some (.E 18)), .mv (.V 1), none⟩,
   ⟨(some (.E 19)), .bin .quo (.E 17) (.E 18), none⟩,
   ⟨(some (.V 6)), .mv (.E 19), none⟩])
 (.seq (.seq (.reg [⟨(some (.E 20)), .mv (.V 0), none⟩,
   ⟨(some (.E 21)), .mv (.V 1), none⟩,
   ⟨(some (.E 22)), .bin .rem (.E 20) (.E 21), none⟩,
   ⟨(some (.E 23)), .bin .neq (.E 22) (ki 0), none⟩,
   ⟨(some (.E 24)), .mv (.E 23), none⟩,
   ⟨(some (.E 25)), .mv (.V 0), some ((.E 24), true)⟩,
   ⟨(some (.E 26)), .bin .lss (.E 25) (ki 0), some ((.E 24), true)⟩,
   ⟨(some (.E 27)), .mv (.V 1), some ((.E 24), true)⟩,
   ⟨(some (.E 28)), .bin .lss (.E 27) (ki 0), some ((.E 24), true)⟩,
   ⟨(some (.E 29)), .eqb true [.b] (.E 26) (.E 28), some ((.E 24), true)⟩,
   ⟨(some (.E 30)), .pick (.E 24) (.E 29) (kb false), none⟩])
 (.cond (.E 30)
  (.reg [⟨(some (.E 31)), .mv (.V 6), none⟩,
    ⟨(some (.E 32)), .bin .sub (.E 31) (ki 1), none⟩,
    ⟨(some (.V 6)), .mv (.E 32), none⟩])
  (.skip)))
 (.seq (.reg [⟨(some (.E 33)), .mv (.V 6), none⟩,
   ⟨(some (.V 4)), .mv (.E 33), none⟩,
   ⟨(some (.V 5)), .mv (kb true), none⟩])
 (.ret)))))

def k_impl_FloorDiv_rv : List RV := [.tmp [0] 4, .tmp [0] 5]

def k_impl_isDecimal_vars : List Nat := [0, 2]

def k_impl_isDecimal_ic : IC :=
 .seq (.reg [⟨(some (.V 2)), .mv (kb false), none⟩])
 (.seq (.reg [⟨(some (.E 3)), .mv (.V 0), none⟩,
   ⟨(some (.E 4)), .call k_impl_within [([0], (.E 3)), ([0], (ki (-2147483647))), ([0], (ki 2147483647))], none⟩,
   ⟨(some (.V 2)), .mv (.E 4), none⟩])
 (.ret))

def k_impl_isDecimal_rv : List RV := [.tmp [0] 2]

def k_spec_GridOk_vars : List Nat := [0, 1, 3, 4, 2]

def k_spec_GridOk_b0 : IC :=
 .seq (.seq (.reg [⟨(some (.E 50)), .mv (.V 4), none⟩,
   ⟨(some (.E 51)), .faddr 1 (.V 1), none⟩,
   ⟨(some (.E 52)), .load false 1 (.E 51), none⟩,
   ⟨(some (.E 53)), .mv (.V 3), none⟩,
   ⟨(some (.E 54)), .iaddr 1 (.E 52) (.E 53), none⟩,
   ⟨(some (.E 55)), .load false 1 (.E 54), none⟩,
   ⟨(some (.E 56)), .len (.E 55), none⟩,
   ⟨(some (.E 57)), .bin .lss (.E 50) (.E 56), none⟩])
 (.cond (.E 57)
  (.skip)
  (.exit 2)))
 (.seq (.block 3 (.seq (.regD [(⟨(some (.E 60)), .faddr 1 (.V 1), none⟩, 0, 0),
    (⟨(some (.E 61)), .load false 1 (.E 60), none⟩, 0, 0),
    (⟨(some (.E 62)), .mv (.V 3), none⟩, 0, 0),
    (⟨(some (.E 63)), .iaddr 1 (.E 61) (.E 62), none⟩, 0, 0),
    (⟨(some (.E 64)), .load false 1 (.E 63), none⟩, 0, 0),
    (⟨(some (.E 65)), .mv (.V 4), none⟩, 0, 0),
    (⟨(some (.E 66)), .iaddr 1 (.E 64) (.E 65), none⟩, 0, 0),
    (⟨(some (.E 67)), .load false 1 (.E 66), none⟩, 0, 0),
    (⟨(some (.E 68)), .faddr 0 (.V 1), none⟩, 0, 0),
    (⟨(some (.E 69)), .load false 1 (.E 68), none⟩, 0, 0),
    (⟨(some (.E 70)), .mv (.V 3), none⟩, 0, 0),
    (⟨(some (.E 71)), .iaddr 1 (.E 69) (.E 70), none⟩, 0, 0),
    (⟨(some (.E 72)), .load false 1 (.E 71), none⟩, 0, 0),
    (⟨(some (.E 73)), .len (.E 72), none⟩, 0, 0),
    (⟨(some (.E 74)), .call k_spec_l1In [([0], (.E 67)), ([0], (ki 0)), ([0], (.E 73))], none⟩, 0, 0),
    (⟨(some (.E 75)), .un .not (.E 74), none⟩, 0, 0)])
  (.cond (.E 75)
   (.seq (.reg [⟨(some (.V 2)), .mv (kb false), none⟩])
   (.ret))
   (.skip))))
 (.reg [⟨(some (.E 58)), .mv (.V 4), none⟩,
   ⟨(some (.E 59)), .bin .add (.E 58) (ki 1), none⟩,
   ⟨(some (.V 4)), .mv (.E 59), none⟩]))

def k_spec_GridOk_b1 : IC :=
 .seq (.seq (.reg [⟨(some (.E 25)), .mv (.V 3), none⟩,
   ⟨(some (.E 26)), .faddr 0 (.V 1), none⟩,
   ⟨(some (.E 27)), .load false 1 (.E 26), none⟩,
   ⟨(some (.E 28)), .len (.E 27), none⟩,
   ⟨(some (.E 29)), .bin .lss (.E 25) (.E 28), none⟩])
 (.cond (.E 29)
  (.skip)
  (.exit 0)))
 (.seq (.block 1 (.seq (.seq (.regD [(⟨(some (.E 32)), .faddr 0 (.V 1), none⟩, 0, 0),
    (⟨(some (.E 33)), .load false 1 (.E 32), none⟩, 0, 0),
    (⟨(some (.E 34)), .mv (.V 3), none⟩, 0, 0),
    (⟨(some (.E 35)), .iaddr 1 (.E 33) (.E 34), none⟩, 0, 0),
    (⟨(some (.E 36)), .load false 1 (.E 35), none⟩, 0, 0),
    (⟨(some (.E 37)), .call k_spec_CutsOk [([1], (.E 36))], none⟩, 0, 0),
    (⟨(some (.E 38)), .un .not (.E 37), none⟩, 0, 0),
    (⟨(some (.E 39)), .mv (.E 38), none⟩, 0, 0),
    (⟨(some (.E 40)), .faddr 1 (.V 1), some ((.E 39), false)⟩, 0, 1),
    (⟨(some (.E 41)), .load false 1 (.E 40), some ((.E 39), false)⟩, 0, 1),
    (⟨(some (.E 42)), .mv (.V 3), some ((.E 39), false)⟩, 0, 0),
    (⟨(some (.E 43)), .iaddr 1 (.E 41) (.E 42), some ((.E 39), false)⟩, 0, 1),
    (⟨(some (.E 44)), .load false 1 (.E 43), some ((.E 39), false)⟩, 0, 1),
    (⟨(some (.E 45)), .len (.E 44), some ((.E 39), false)⟩, 0, 1),
    (⟨(some (.E 46)), .load true 2 (.V 1), some ((.E 39), false)⟩, 0, 0),
    (⟨(some (.E 47)), .call k_spec_RowsIn [([1, 1], (.E 46))], some ((.E 39), false)⟩, 0, 0),
    (⟨(some (.E 48)), .bin .neq (.E 45) (.E 47), some ((.E 39), false)⟩, 0, 0),
    (⟨(some (.E 49)), .pick (.E 39) (kb true) (.E 48), none⟩, 0, 0)])
  (.cond (.E 49)
   (.seq (.reg [⟨(some (.V 2)), .mv (kb false), none⟩])
   (.ret))
   (.skip)))
  (.seq (.reg [⟨(some (.V 4)), .mv (ki 0), none⟩])
  (.block 2 (.loop k_spec_GridOk_b0)))))
 (.reg [⟨(some (.E 30)), .mv (.V 3), none⟩,
   ⟨(some (.E 31)), .bin .add (.E 30) (ki 1), none⟩,
   ⟨(some (.V 3)), .mv (.E 31), none⟩]))

def k_spec_GridOk_ic : IC :=
 .seq (.reg [⟨(some (.V 1)), .box (.V 0), none⟩,
   ⟨(some (.V 2)), .mv (kb false), none⟩])
 (.seq (.seq (.reg [⟨(some (.E 5)), .faddr 0 (.V 1), none⟩,
   ⟨(some (.E 6)), .load false 1 (.E 5), none⟩,
   ⟨(some (.E 7)), .len (.E 6), none⟩,
   ⟨(some (.E 8)), .call k_spec_l1In [([0], (.E 7)), ([0], (ki 1)), ([0], (ki 4))], none⟩,
   ⟨(some (.E 9)), .un .not (.E 8), none⟩,
   ⟨(some (.E 10)), .mv (.E 9), none⟩,
   ⟨(some (.E 11)), .faddr 1 (.V 1), some ((.E 10), false)⟩,
   ⟨(some (.E 12)), .load false 1 (.E 11), some ((.E 10), false)⟩,
   ⟨(some (.E 13)), .len (.E 12), some ((.E 10), false)⟩,
   ⟨(some (.E 14)), .faddr 0 (.V 1), some ((.E 10), false)⟩,
   ⟨(some (.E 15)), .load false 1 (.E 14), some ((.E 10), false)⟩,
   ⟨(some (.E 16)), .len (.E 15), some ((.E 10), false)⟩,
   ⟨(some (.E 17)), .bin .neq (.E 13) (.E 16), some ((.E 10), false)⟩,
   ⟨(some (.E 18)), .pick (.E 10) (kb true) (.E 17), none⟩,
   ⟨(some (.E 19)), .mv (.E 18), none⟩,
   ⟨(some (.E 20)), .load true 2 (.V 1), some ((.E 19), false)⟩,
   ⟨(some (.E 21)), .call k_spec_RowsIn [([1, 1], (.E 20))], some ((.E 19), false)⟩,
   ⟨(some (.E 22)), .call k_spec_l1In [([0], (.E 21)), ([0], (ki 1)), ([0], (ki 40))], some ((.E 19), false)⟩,
   ⟨(some (.E 23)), .un .not (.E 22), some ((.E 19), false)⟩,
   ⟨(some (.E 24)), .pick (.E 19) (kb true) (.E 23), none⟩])
 (.cond (.E 24)
  (.seq (.reg [⟨(some (.V 2)), .mv (kb false), none⟩])
  (.ret))
  (.skip)))
 (.seq (.seq (.reg [⟨(some (.V 3)), .mv (ki 0), none⟩])
 (.block 0 (.loop k_spec_GridOk_b1)))
 (.seq (.reg [⟨(some (.V 2)), .mv (kb true), none⟩])
 (.ret))))

def k_spec_GridOk_rv : List RV := [.tmp [0] 2]

def k_spec_RowsIn_vars : List Nat := [0, 1, 2]

def k_spec_RowsIn_ic : IC :=
 .seq (.reg [⟨(some (.V 1)), .box (.V 0), none⟩,
   ⟨(some (.V 2)), .mv (ki 0), none⟩])
 (.seq (.seq (.reg [⟨(some (.E 3)), .faddr 1 (.V 1), none⟩,
   ⟨(some (.E 4)), .load false 1 (.E 3), none⟩,
   ⟨(some (.E 5)), .len (.E 4), none⟩,
   ⟨(some (.E 6)), .bin .eql (.E 5) (ki 0), none⟩])
 (.cond (.E 6)
  (.seq (.reg [⟨(some (.V 2)), .mv (ki 0), none⟩])
  (.ret))
  (.skip)))
 (.seq (.reg [⟨(some (.E 7)), .faddr 1 (.V 1), none⟩,
   ⟨(some (.E 8)), .load false 1 (.E 7), none⟩,
   ⟨(some (.E 9)), .iaddr 1 (.E 8) (ki 0), none⟩,
   ⟨(some (.E 10)), .load false 1 (.E 9), none⟩,
   ⟨(some (.E 11)), .len (.E 10), none⟩,
   ⟨(some (.V 2)), .mv (.E 11), none⟩])
 (.ret)))

def k_spec_RowsIn_rv : List RV := [.tmp [0] 2]

def k_impl_GridOk_vars : List Nat := [0, 1, 28, 27, 26, 4, 3, 2]

def k_impl_GridOk_b0 : IC :=
 .seq (.reg [⟨(some (.E 29)), .bin .lss (.V 28) (.V 27), none⟩])
 (.seq (.cond (.E 29)
  (.skip)
  (.exit 0))
 (.seq (.block 1 (.seq (.reg [⟨(some (.E 30)), .mv (.V 28), none⟩,
    ⟨(some (.E 31)), .iaddr 1 (.V 26) (.V 28), none⟩,
    ⟨(some (.E 32)), .load false 1 (.E 31), none⟩,
    ⟨(some (.V 4)), .alloc [.e0], none⟩,
    ⟨(some (.V 3)), .mv (.E 30), none⟩,
    ⟨none, .store [1] (.V 4) (.E 32), none⟩])
  (.seq (.regD [(⟨(some (.E 33)), .load false 1 (.V 4), none⟩, 0, 0),
    (⟨(some (.E 34)), .call k_impl_CutsOk [([1], (.E 33))], none⟩, 0, 0),
    (⟨(some (.E 35)), .un .not (.E 34), none⟩, 0, 0),
    (⟨(some (.E 36)), .mv (.E 35), none⟩, 0, 0),
    (⟨(some (.E 37)), .faddr 1 (.V 1), some ((.E 36), false)⟩, 0, 1),
    (⟨(some (.E 38)), .load false 1 (.E 37), some ((.E 36), false)⟩, 0, 1),
    (⟨(some (.E 39)), .mv (.V 3), some ((.E 36), false)⟩, 0, 0),
    (⟨(some (.E 40)), .iaddr 1 (.E 38) (.E 39), some ((.E 36), false)⟩, 0, 1),
    (⟨(some (.E 41)), .load false 1 (.E 40), some ((.E 36), false)⟩, 0, 1),
    (⟨(some (.E 42)), .len (.E 41), some ((.E 36), false)⟩, 0, 1),
    (⟨(some (.E 43)), .load true 2 (.V 1), some ((.E 36), false)⟩, 0, 0),
    (⟨(some (.E 44)), .call k_impl_RowsIn [([1, 1], (.E 43))], some ((.E 36), false)⟩, 0, 0),
    (⟨(some (.E 45)), .bin .neq (.E 42) (.E 44), some ((.E 36), false)⟩, 0, 0),
    (⟨(some (.E 46)), .pick (.E 36) (kb true) (.E 45), none⟩, 0, 0),
    (⟨(some (.E 47)), .mv (.E 46), none⟩, 0, 0),
    (⟨(some (.E 48)), .faddr 1 (.V 1), some ((.E 47), false)⟩, 0, 0),
    (⟨(some (.E 49)), .load false 1 (.E 48), some ((.E 47), false)⟩, 0, 0),
    (⟨(some (.E 50)), .mv (.V 3), some ((.E 47), false)⟩, 0, 0),
    (⟨(some (.E 51)), .iaddr 1 (.E 49) (.E 50), some ((.E 47), false)⟩, 0, 0),
    (⟨(some (.E 52)), .load false 1 (.E 51), some ((.E 47), false)⟩, 0, 0),
    (⟨(some (.E 53)), .mkfn k_impl_GridOk_1 [(.V 4)], some ((.E 47), false)⟩, 0, 0),
    (⟨(some (.E 54)), .call k_slices_ContainsFunc___int_int_ [([1], (.E 52)), ([0], (.E 53))], some ((.E 47), false)⟩, 0, 0),
    (⟨(some (.E 55)), .pick (.E 47) (kb true) (.E 54), none⟩, 0, 0)])
  (.cond (.E 55)
   (.seq (.reg [⟨(some (.V 2)), .mv (kb false), none⟩])
   (.ret))
   (.skip)))))
 (.reg [⟨(some (.E 56)), .bin .add (.V 28) (ki 1), none⟩,
   ⟨(some (.V 28)), .mv (.E 56), none⟩])))

def k_impl_GridOk_ic : IC :=
 .seq (.reg [⟨(some (.V 1)), .box (.V 0), none⟩,
   ⟨(some (.V 2)), .mv (kb false), none⟩])
 (.seq (.seq (.reg [⟨(some (.E 5)), .faddr 0 (.V 1), none⟩,
   ⟨(some (.E 6)), .load false 1 (.E 5), none⟩,
   ⟨(some (.E 7)), .len (.E 6), none⟩,
   ⟨(some (.E 8)), .call k_impl_within [([0], (.E 7)), ([0], (ki 1)), ([0], (ki 4))], none⟩,
   ⟨(some (.E 9)), .un .not (.E 8), none⟩,
   ⟨(some (.E 10)), .mv (.E 9), none⟩,
   ⟨(some (.E 11)), .faddr 1 (.V 1), some ((.E 10), false)⟩,
   ⟨(some (.E 12)), .load false 1 (.E 11), some ((.E 10), false)⟩,
   ⟨(some (.E 13)), .len (.E 12), some ((.E 10), false)⟩,
   ⟨(some (.E 14)), .faddr 0 (.V 1), some ((.E 10), false)⟩,
   ⟨(some (.E 15)), .load false 1 (.E 14), some ((.E 10), false)⟩,
   ⟨(some (.E 16)), .len (.E 15), some ((.E 10), false)⟩,
   ⟨(some (.E 17)), .bin .neq (.E 13) (.E 16), some ((.E 10), false)⟩,
   ⟨(some (.E 18)), .pick (.E 10) (kb true) (.E 17), none⟩,
   ⟨(some (.E 19)), .mv (.E 18), none⟩,
   ⟨(some (.E 20)), .load true 2 (.V 1), some ((.E 19), false)⟩,
   ⟨(some (.E 21)), .call k_impl_RowsIn [([1, 1], (.E 20))], some ((.E 19), false)⟩,
   ⟨(some (.E 22)), .call k_impl_within [([0], (.E 21)), ([0], (ki 1)), ([0], (ki 40))], some ((.E 19), false)⟩,
   ⟨(some (.E 23)), .un .not (.E 22), some ((.E 19), false)⟩,
   ⟨(some (.E 24)), .pick (.E 19) (kb true) (.E 23), none⟩])
 (.cond (.E 24)
  (.seq (.reg [⟨(some (.V 2)), .mv (kb false), none⟩])
  (.ret))
  (.skip)))
 (.seq (.seq (.reg [⟨(some (.E 25)), .faddr 0 (.V 1), none⟩,
   ⟨(some (.V 26)), .load false 1 (.E 25), none⟩,
   ⟨(some (.V 27)), .len (.V 26), none⟩,
   ⟨(some (.V 28)), .mv (ki 0), none⟩])
 (.block 0 (.loop k_impl_GridOk_b0)))
 (.seq (.reg [⟨(some (.V 2)), .mv (kb true), none⟩])
 (.ret))))

def k_impl_GridOk_rv : List RV := [.tmp [0] 2]

def k_impl_TaskOk_1_vars : List Nat := [0, 2]

def k_impl_TaskOk_1_ic : IC :=
 .seq (.reg [⟨(some (.V 2)), .mv (kb false), none⟩])
 (.seq (.reg [⟨(some (.E 3)), .mv (.V 0), none⟩,
   ⟨(some (.E 4)), .call k_impl_within [([0], (.E 3)), ([0], (ki (-2199023255552))), ([0], (ki 2199023255552))], none⟩,
   ⟨(some (.E 5)), .un .not (.E 4), none⟩,
   ⟨(some (.V 2)), .mv (.E 5), none⟩])
 (.ret))

def k_impl_TaskOk_1_rv : List RV := [.tmp [0] 2]

def k_spec_HistOf_vars : List Nat := [0, 1, 2, 3, 10, 12, 13, 11, 15, 14, 8, 9]

def k_spec_HistOf_b0 : IC :=
 .seq (.seq (.reg [⟨(some (.E 23)), .mv (.V 12), none⟩,
   ⟨(some (.E 24)), .mv (.V 2), none⟩,
   ⟨(some (.E 25)), .len (.E 24), none⟩,
   ⟨(some (.E 26)), .bin .lss (.E 23) (.E 25), none⟩])
 (.cond (.E 26)
  (.skip)
  (.exit 0)))
 (.seq (.block 1 (.seq (.reg [⟨(some (.E 29)), .mv (.V 2), none⟩,
    ⟨(some (.E 30)), .mv (.V 12), none⟩,
    ⟨(some (.E 31)), .iaddr 1 (.E 29) (.E 30), none⟩,
    ⟨(some (.E 32)), .load false 1 (.E 31), none⟩,
    ⟨(some (.V 13)), .mv (.E 32), none⟩])
  (.seq (.seq (.reg [⟨(some (.E 33)), .mv (.V 13), none⟩,
    ⟨(some (.E 34)), .mv (.V 0), none⟩,
    ⟨(some (.E 35)), .len (.E 34), none⟩,
    ⟨(some (.E 36)), .bin .sub (.E 35) (ki 1), none⟩,
    ⟨(some (.E 37)), .call k_spec_l1In [([0], (.E 33)), ([0], (ki 0)), ([0], (.E 36))], none⟩,
    ⟨(some (.E 38)), .un .not (.E 37), none⟩,
    ⟨(some (.E 39)), .mv (.E 38), none⟩,
    ⟨(some (.E 40)), .mv (.V 13), some ((.E 39), false)⟩,
    ⟨(some (.E 41)), .mv (.V 1), some ((.E 39), false)⟩,
    ⟨(some (.E 42)), .len (.E 41), some ((.E 39), false)⟩,
    ⟨(some (.E 43)), .bin .sub (.E 42) (ki 1), some ((.E 39), false)⟩,
    ⟨(some (.E 44)), .call k_spec_l1In [([0], (.E 40)), ([0], (ki 0)), ([0], (.E 43))], some ((.E 39), false)⟩,
    ⟨(some (.E 45)), .un .not (.E 44), some ((.E 39), false)⟩,
    ⟨(some (.E 46)), .pick (.E 39) (kb true) (.E 45), none⟩,
    ⟨(some (.E 47)), .mv (.E 46), none⟩,
    ⟨(some (.E 48)), .mv (.V 0), some ((.E 47), false)⟩,
    ⟨(some (.E 49)), .mv (.V 13), some ((.E 47), false)⟩,
    ⟨(some (.E 50)), .iaddr 1 (.E 48) (.E 49), some ((.E 47), false)⟩,
    ⟨(some (.E 51)), .load false 1 (.E 50), some ((.E 47), false)⟩,
    ⟨(some (.E 52)), .mv (.V 3), some ((.E 47), false)⟩,
    ⟨(some (.E 53)), .bin .sub (.E 52) (ki 1), some ((.E 47), false)⟩,
    ⟨(some (.E 54)), .call k_spec_l1In [([0], (.E 51)), ([0], (ki 0)), ([0], (.E 53))], some ((.E 47), false)⟩,
    ⟨(some (.E 55)), .un .not (.E 54), some ((.E 47), false)⟩,
    ⟨(some (.E 56)), .pick (.E 47) (kb true) (.E 55), none⟩])
  (.cond (.E 56)
   (.seq (.reg [⟨(some (.E 57)), .mv (.V 10), none⟩,
     ⟨(some (.V 8)), .mv (.E 57), none⟩,
     ⟨(some (.V 9)), .mv (kb false), none⟩])
   (.ret))
   (.skip)))
  (.seq (.regD [(⟨(some (.E 59)), .mv (.V 11), none⟩, 0, 0),
    (⟨(some (.E 60)), .mv (.V 0), none⟩, 0, 0),
    (⟨(some (.E 61)), .mv (.V 13), none⟩, 0, 0),
    (⟨(some (.E 62)), .iaddr 1 (.E 60) (.E 61), none⟩, 0, 0),
    (⟨(some (.E 63)), .load false 1 (.E 62), none⟩, 0, 0),
    (⟨(some (.E 64)), .iaddr 2 (.E 59) (.E 63), none⟩, 0, 0),
    (⟨(some (.E 65)), .load true 2 (.E 64), none⟩, 0, 0),
    (⟨(some (.E 66)), .mv (.V 1), none⟩, 0, 0),
    (⟨(some (.E 67)), .mv (.V 13), none⟩, 0, 0),
    (⟨(some (.E 68)), .iaddr 1 (.E 66) (.E 67), none⟩, 0, 0),
    (⟨(some (.E 69)), .load false 1 (.E 68), none⟩, 0, 0),
    (⟨(some (.E 70)), .build [(.v (.int .i64 0)), (.v (.int .i64 0))] [(0, 1, (ki 1)), (1, 1, (.E 69))], none⟩, 0, 0),
    (⟨(some (.E 71)), .call k_spec_l13Add [([0, 0], (.E 65)), ([0, 0], (.E 70))], none⟩, 0, 0),
    (⟨(some (.E 58)), .mv (.E 71), none⟩, 0, 0),
    (⟨(some (.E 72)), .ext 0 (.E 58), none⟩, 0, 0),
    (⟨(some (.E 73)), .ext 1 (.E 58), none⟩, 0, 0),
    (⟨(some (.V 14)), .allocL [(.v (.int .i64 0)), (.v (.int .i64 0))], none⟩, 0, 0),
    (⟨none, .store [0, 0] (.V 14) (.E 72), none⟩, 0, 0),
    (⟨(some (.V 15)), .mv (.E 73), none⟩, 0, 0)])
  (.seq (.seq (.reg [⟨(some (.E 74)), .mv (.V 15), none⟩,
    ⟨(some (.E 75)), .un .not (.E 74), none⟩])
  (.cond (.E 75)
   (.seq (.reg [⟨(some (.E 76)), .mv (.V 10), none⟩,
     ⟨(some (.V 8)), .mv (.E 76), none⟩,
     ⟨(some (.V 9)), .mv (kb false), none⟩])
   (.ret))
   (.skip)))
  (.regD [(⟨(some (.E 77)), .mv (.V 11), none⟩, 0, 0),
    (⟨(some (.E 78)), .mv (.V 0), none⟩, 0, 0),
    (⟨(some (.E 79)), .mv (.V 13), none⟩, 0, 0),
    (⟨(some (.E 80)), .iaddr 1 (.E 78) (.E 79), none⟩, 0, 0),
    (⟨(some (.E 81)), .load false 1 (.E 80), none⟩, 0, 0),
    (⟨(some (.E 82)), .load true 2 (.V 14), none⟩, 0, 0),
    (⟨(some (.E 83)), .iaddr 2 (.E 77) (.E 81), none⟩, 0, 0),
    (⟨none, .store [0, 0] (.E 83) (.E 82), none⟩, 0, 0)]))))))
 (.reg [⟨(some (.E 27)), .mv (.V 12), none⟩,
   ⟨(some (.E 28)), .bin .add (.E 27) (ki 1), none⟩,
   ⟨(some (.V 12)), .mv (.E 28), none⟩]))

def k_spec_HistOf_ic : IC :=
 .seq (.reg [⟨(some (.V 8)), .mv (.C .e0), none⟩,
   ⟨(some (.V 9)), .mv (kb false), none⟩])
 (.seq (.reg [⟨(some (.E 16)), .bslice 0 2 [(.v (.int .i64 0)), (.v (.int .i64 0))] [], none⟩,
   ⟨(some (.V 10)), .mv (.E 16), none⟩])
 (.seq (.seq (.reg [⟨(some (.E 17)), .mv (.V 3), none⟩,
   ⟨(some (.E 18)), .call k_spec_l1In [([0], (.E 17)), ([0], (ki 1)), ([0], (ki 8))], none⟩,
   ⟨(some (.E 19)), .un .not (.E 18), none⟩])
 (.cond (.E 19)
  (.seq (.reg [⟨(some (.E 20)), .mv (.V 10), none⟩,
    ⟨(some (.V 8)), .mv (.E 20), none⟩,
    ⟨(some (.V 9)), .mv (kb false), none⟩])
  (.ret))
  (.skip)))
 (.seq (.reg [⟨(some (.E 21)), .mv (.V 3), none⟩,
   ⟨(some (.E 22)), .mksl 16 2 [(.v (.int .i64 0)), (.v (.int .i64 0))] (.E 21) (.E 21), none⟩,
   ⟨(some (.V 11)), .mv (.E 22), none⟩])
 (.seq (.seq (.reg [⟨(some (.V 12)), .mv (ki 0), none⟩])
 (.block 0 (.loop k_spec_HistOf_b0)))
 (.seq (.reg [⟨(some (.E 84)), .mv (.V 11), none⟩,
   ⟨(some (.V 8)), .mv (.E 84), none⟩,
   ⟨(some (.V 9)), .mv (kb true), none⟩])
 (.ret))))))

def k_spec_HistOf_rv : List RV := [.tmp [2] 8, .tmp [0] 9]

def k_spec_Prefix_vars : List Nat := [0, 6, 5, 8, 7, 4, 2, 3]

def k_spec_Prefix_b0 : IC :=
 .seq (.seq (.reg [⟨(some (.E 11)), .mv (.V 6), none⟩,
   ⟨(some (.E 12)), .mv (.V 0), none⟩,
   ⟨(some (.E 13)), .len (.E 12), none⟩,
   ⟨(some (.E 14)), .bin .lss (.E 11) (.E 13), none⟩])
 (.cond (.E 14)
  (.skip)
  (.exit 0)))
 (.seq (.block 1 (.seq (.regD [(⟨(some (.E 18)), .load true 2 (.V 5), none⟩, 0, 0),
    (⟨(some (.E 19)), .mv (.V 0), none⟩, 0, 0),
    (⟨(some (.E 20)), .mv (.V 6), none⟩, 0, 0),
    (⟨(some (.E 21)), .iaddr 2 (.E 19) (.E 20), none⟩, 0, 0),
    (⟨(some (.E 22)), .load true 2 (.E 21), none⟩, 0, 0),
    (⟨(some (.E 23)), .call k_spec_l13Add [([0, 0], (.E 18)), ([0, 0], (.E 22))], none⟩, 0, 0),
    (⟨(some (.E 17)), .mv (.E 23), none⟩, 0, 0),
    (⟨(some (.E 24)), .ext 0 (.E 17), none⟩, 0, 0),
    (⟨(some (.E 25)), .ext 1 (.E 17), none⟩, 0, 0),
    (⟨(some (.V 7)), .allocL [(.v (.int .i64 0)), (.v (.int .i64 0))], none⟩, 0, 0),
    (⟨none, .store [0, 0] (.V 7) (.E 24), none⟩, 0, 0),
    (⟨(some (.V 8)), .mv (.E 25), none⟩, 0, 0)])
  (.seq (.seq (.reg [⟨(some (.E 26)), .mv (.V 8), none⟩,
    ⟨(some (.E 27)), .un .not (.E 26), none⟩])
  (.cond (.E 27)
   (.seq (.reg [⟨(some (.E 28)), .bslice 0 2 [(.v (.int .i64 0)), (.v (.int .i64 0))] [], none⟩,
     ⟨(some (.V 2)), .mv (.E 28), none⟩,
     ⟨(some (.V 3)), .mv (kb false), none⟩])
   (.ret))
   (.skip)))
  (.seq (.reg [⟨(some (.E 29)), .load true 2 (.V 7), none⟩,
    ⟨none, .store [0, 0] (.V 5) (.E 29), none⟩])
  (.reg [⟨(some (.E 30)), .mv (.V 4), none⟩,
    ⟨(some (.E 31)), .load true 2 (.V 5), none⟩,
    ⟨(some (.E 32)), .bslice 1 2 [(.v (.int .i64 0)), (.v (.int .i64 0))] [(0, (.E 31))], none⟩,
    ⟨(some (.E 33)), .app 16 2 (.E 30) (.E 32), none⟩,
    ⟨(some (.V 4)), .mv (.E 33), none⟩])))))
 (.reg [⟨(some (.E 15)), .mv (.V 6), none⟩,
   ⟨(some (.E 16)), .bin .add (.E 15) (ki 1), none⟩,
   ⟨(some (.V 6)), .mv (.E 16), none⟩]))

def k_spec_Prefix_ic : IC :=
 .seq (.reg [⟨(some (.V 2)), .mv (.C .e0), none⟩,
   ⟨(some (.V 3)), .mv (kb false), none⟩])
 (.seq (.reg [⟨(some (.E 9)), .bslice 0 2 [(.v (.int .i64 0)), (.v (.int .i64 0))] [], none⟩,
   ⟨(some (.V 4)), .mv (.E 9), none⟩])
 (.seq (.reg [⟨(some (.E 10)), .build [(.v (.int .i64 0)), (.v (.int .i64 0))] [], none⟩,
   ⟨(some (.V 5)), .alloc [(.v (.int .i64 0)), (.v (.int .i64 0))], none⟩,
   ⟨none, .store [0, 0] (.V 5) (.E 10), none⟩])
 (.seq (.seq (.reg [⟨(some (.V 6)), .mv (ki 0), none⟩])
 (.block 0 (.loop k_spec_Prefix_b0)))
 (.seq (.reg [⟨(some (.E 34)), .mv (.V 4), none⟩,
   ⟨(some (.V 2)), .mv (.E 34), none⟩,
   ⟨(some (.V 3)), .mv (kb true), none⟩])
 (.ret)))))

def k_spec_Prefix_rv : List RV := [.tmp [2] 2, .tmp [0] 3]

def k_spec_SubInt_vars : List Nat := [0, 1, 4, 5]

def k_spec_SubInt_ic : IC :=
 .seq (.reg [⟨(some (.V 4)), .mv (ki 0), none⟩,
   ⟨(some (.V 5)), .mv (kb false), none⟩])
 (.seq (.seq (.reg [⟨(some (.E 6)), .mv (.V 1), none⟩,
   ⟨(some (.E 7)), .bin .lss (.E 6) (ki 0), none⟩,
   ⟨(some (.E 8)), .mv (.E 7), none⟩,
   ⟨(some (.E 9)), .mv (.V 0), some ((.E 8), true)⟩,
   ⟨(some (.E 10)), .mv (.V 1), some ((.E 8), true)⟩,
   ⟨(some (.E 11)), .bin .add (ki 9223372036854775807) (.E 10), some ((.E 8), true)⟩,
   ⟨(some (.E 12)), .bin .gtr (.E 9) (.E 11), some ((.E 8), true)⟩,
   ⟨(some (.E 13)), .pick (.E 8) (.E 12) (kb false), none⟩,
   ⟨(some (.E 14)), .mv (.E 13), none⟩,
   ⟨(some (.E 15)), .mv (.V 1), some ((.E 14), false)⟩,
   ⟨(some (.E 16)), .bin .gtr (.E 15) (ki 0), some ((.E 14), false)⟩,
   ⟨(some (.E 17)), .mv (.E 16), some ((.E 14), false)⟩,
   ⟨(some (.E 18)), .mv (.V 0), some ((.E 17), true)⟩,
   ⟨(some (.E 19)), .mv (.V 1), some ((.E 17), true)⟩,
   ⟨(some (.E 20)), .bin .add (ki (-9223372036854775808)) (.E 19), some ((.E 17), true)⟩,
   ⟨(some (.E 21)), .bin .lss (.E 18) (.E 20), some ((.E 17), true)⟩,
   ⟨(some (.E 22)), .pick (.E 17) (.E 21) (kb false), some ((.E 14), false)⟩,
   ⟨(some (.E 23)), .pick (.E 14) (kb true) (.E 22), none⟩])
 (.cond (.E 23)
  (.seq (.reg [⟨(some (.V 4)), .mv (ki 0), none⟩,
    ⟨(some (.V 5)), .mv (kb false), none⟩])
  (.ret))
  (.skip)))
 (.seq (.reg [⟨(some (.E 24)), .mv (.V 0), none⟩,
   ⟨(some (.E 25)), .mv (.V 1), none⟩,
   ⟨(some (.E 26)), .bin .sub (.E 24) (.E 25), none⟩,
   ⟨(some (.V 4)), .mv (.E 26), none⟩,
   ⟨(some (.V 5)), .mv (kb true), none⟩])
 (.ret)))

def k_spec_SubInt_rv : List RV := [.tmp [0] 4, .tmp [0] 5]

def k_impl_HistOf_vars : List Nat := [0, 1, 2, 3, 22, 21, 20, 12, 10, 14, 13, 8, 9]

def k_impl_HistOf_b0 : IC :=
 .seq (.reg [⟨(some (.E 23)), .bin .lss (.V 22) (.V 21), none⟩])
 (.seq (.cond (.E 23)
  (.skip)
  (.exit 0))
 (.seq (.block 1 (.seq (.reg [⟨(some (.E 24)), .iaddr 1 (.V 20) (.V 22), none⟩,
    ⟨(some (.E 25)), .load false 1 (.E 24), none⟩,
    ⟨(some (.V 12)), .mv (.E 25), none⟩])
  (.seq (.seq (.reg [⟨(some (.E 26)), .mv (.V 12), none⟩,
    ⟨(some (.E 27)), .mv (.V 0), none⟩,
    ⟨(some (.E 28)), .len (.E 27), none⟩,
    ⟨(some (.E 29)), .mv (.V 1), none⟩,
    ⟨(some (.E 30)), .len (.E 29), none⟩,
    ⟨(some (.E 31)), .mx false (.E 28) (.E 30), none⟩,
    ⟨(some (.E 32)), .bin .sub (.E 31) (ki 1), none⟩,
    ⟨(some (.E 33)), .call k_impl_within [([0], (.E 26)), ([0], (ki 0)), ([0], (.E 32))], none⟩,
    ⟨(some (.E 34)), .un .not (.E 33), none⟩,
    ⟨(some (.E 35)), .mv (.E 34), none⟩,
    ⟨(some (.E 36)), .mv (.V 0), some ((.E 35), false)⟩,
    ⟨(some (.E 37)), .mv (.V 12), some ((.E 35), false)⟩,
    ⟨(some (.E 38)), .iaddr 1 (.E 36) (.E 37), some ((.E 35), false)⟩,
    ⟨(some (.E 39)), .load false 1 (.E 38), some ((.E 35), false)⟩,
    ⟨(some (.E 40)), .mv (.V 3), some ((.E 35), false)⟩,
    ⟨(some (.E 41)), .bin .sub (.E 40) (ki 1), some ((.E 35), false)⟩,
    ⟨(some (.E 42)), .call k_impl_within [([0], (.E 39)), ([0], (ki 0)), ([0], (.E 41))], some ((.E 35), false)⟩,
    ⟨(some (.E 43)), .un .not (.E 42), some ((.E 35), false)⟩,
    ⟨(some (.E 44)), .pick (.E 35) (kb true) (.E 43), none⟩])
  (.cond (.E 44)
   (.seq (.reg [⟨(some (.V 8)), .mv (.C .e0), none⟩,
     ⟨(some (.V 9)), .mv (kb false), none⟩])
   (.ret))
   (.skip)))
  (.seq (.regD [(⟨(some (.E 46)), .mv (.V 10), none⟩, 0, 0),
    (⟨(some (.E 47)), .mv (.V 0), none⟩, 0, 0),
    (⟨(some (.E 48)), .mv (.V 12), none⟩, 0, 0),
    (⟨(some (.E 49)), .iaddr 1 (.E 47) (.E 48), none⟩, 0, 0),
    (⟨(some (.E 50)), .load false 1 (.E 49), none⟩, 0, 0),
    (⟨(some (.E 51)), .iaddr 2 (.E 46) (.E 50), none⟩, 0, 0),
    (⟨(some (.E 52)), .load true 2 (.E 51), none⟩, 0, 0),
    (⟨(some (.E 53)), .mv (.V 1), none⟩, 0, 0),
    (⟨(some (.E 54)), .mv (.V 12), none⟩, 0, 0),
    (⟨(some (.E 55)), .iaddr 1 (.E 53) (.E 54), none⟩, 0, 0),
    (⟨(some (.E 56)), .load false 1 (.E 55), none⟩, 0, 0),
    (⟨(some (.E 57)), .build [(.v (.int .i64 0)), (.v (.int .i64 0))] [(0, 1, (ki 1)), (1, 1, (.E 56))], none⟩, 0, 0),
    (⟨(some (.E 58)), .call k__impl_Slot__plus [([0, 0], (.E 52)), ([0, 0], (.E 57))], none⟩, 0, 0),
    (⟨(some (.E 45)), .mv (.E 58), none⟩, 0, 0),
    (⟨(some (.E 59)), .ext 0 (.E 45), none⟩, 0, 0),
    (⟨(some (.E 60)), .ext 1 (.E 45), none⟩, 0, 0),
    (⟨(some (.V 13)), .allocL [(.v (.int .i64 0)), (.v (.int .i64 0))], none⟩, 0, 0),
    (⟨none, .store [0, 0] (.V 13) (.E 59), none⟩, 0, 0),
    (⟨(some (.V 14)), .mv (.E 60), none⟩, 0, 0)])
  (.seq (.seq (.reg [⟨(some (.E 61)), .mv (.V 14), none⟩,
    ⟨(some (.E 62)), .un .not (.E 61), none⟩])
  (.cond (.E 62)
   (.seq (.reg [⟨(some (.V 8)), .mv (.C .e0), none⟩,
     ⟨(some (.V 9)), .mv (kb false), none⟩])
   (.ret))
   (.skip)))
  (.regD [(⟨(some (.E 63)), .mv (.V 10), none⟩, 0, 0),
    (⟨(some (.E 64)), .mv (.V 0), none⟩, 0, 0),
    (⟨(some (.E 65)), .mv (.V 12), none⟩, 0, 0),
    (⟨(some (.E 66)), .iaddr 1 (.E 64) (.E 65), none⟩, 0, 0),
    (⟨(some (.E 67)), .load false 1 (.E 66), none⟩, 0, 0),
    (⟨(some (.E 68)), .load true 2 (.V 13), none⟩, 0, 0),
    (⟨(some (.E 69)), .iaddr 2 (.E 63) (.E 67), none⟩, 0, 0),
    (⟨none, .store [0, 0] (.E 69) (.E 68), none⟩, 0, 0)]))))))
 (.reg [⟨(some (.E 70)), .bin .add (.V 22) (ki 1), none⟩,
   ⟨(some (.V 22)), .mv (.E 70), none⟩])))

def k_impl_HistOf_ic : IC :=
 .seq (.reg [⟨(some (.V 8)), .mv (.C .e0), none⟩,
   ⟨(some (.V 9)), .mv (kb false), none⟩])
 (.seq (.seq (.reg [⟨(some (.E 15)), .mv (.V 3), none⟩,
   ⟨(some (.E 16)), .call k_impl_within [([0], (.E 15)), ([0], (ki 1)), ([0], (ki 8))], none⟩,
   ⟨(some (.E 17)), .un .not (.E 16), none⟩])
 (.cond (.E 17)
  (.seq (.reg [⟨(some (.V 8)), .mv (.C .e0), none⟩,
    ⟨(some (.V 9)), .mv (kb false), none⟩])
  (.ret))
  (.skip)))
 (.seq (.reg [⟨(some (.E 18)), .mv (.V 3), none⟩,
   ⟨(some (.E 19)), .mksl 16 2 [(.v (.int .i64 0)), (.v (.int .i64 0))] (.E 18) (.E 18), none⟩,
   ⟨(some (.V 10)), .mv (.E 19), none⟩])
 (.seq (.seq (.reg [⟨(some (.V 20)), .mv (.V 2), none⟩,
   ⟨(some (.V 21)), .len (.V 20), none⟩,
   ⟨(some (.V 22)), .mv (ki 0), none⟩])
 (.block 0 (.loop k_impl_HistOf_b0)))
 (.seq (.reg [⟨(some (.E 71)), .mv (.V 10), none⟩,
   ⟨(some (.V 8)), .mv (.E 71), none⟩,
   ⟨(some (.V 9)), .mv (kb true), none⟩])
 (.ret)))))

def k_impl_HistOf_rv : List RV := [.tmp [2] 8, .tmp [0] 9]

def k_impl_Prefix_vars : List Nat := [0, 14, 13, 12, 5, 7, 9, 8, 4, 2, 3]

def k_impl_Prefix_b0 : IC :=
 .seq (.reg [⟨(some (.E 15)), .bin .lss (.V 14) (.V 13), none⟩])
 (.seq (.cond (.E 15)
  (.skip)
  (.exit 0))
 (.seq (.block 1 (.seq (.reg [⟨(some (.E 16)), .iaddr 2 (.V 12) (.V 14), none⟩,
    ⟨(some (.E 17)), .load true 2 (.E 16), none⟩,
    ⟨(some (.V 7)), .alloc [(.v (.int .i64 0)), (.v (.int .i64 0))], none⟩,
    ⟨none, .store [0, 0] (.V 7) (.E 17), none⟩])
  (.seq (.reg [⟨(some (.E 19)), .load true 2 (.V 5), none⟩,
    ⟨(some (.E 20)), .load true 2 (.V 7), none⟩,
    ⟨(some (.E 21)), .call k__impl_Slot__plus [([0, 0], (.E 19)), ([0, 0], (.E 20))], none⟩,
    ⟨(some (.E 18)), .mv (.E 21), none⟩,
    ⟨(some (.E 22)), .ext 0 (.E 18), none⟩,
    ⟨(some (.E 23)), .ext 1 (.E 18), none⟩,
    ⟨(some (.V 8)), .alloc [(.v (.int .i64 0)), (.v (.int .i64 0))], none⟩,
    ⟨none, .store [0, 0] (.V 8) (.E 22), none⟩,
    ⟨(some (.V 9)), .mv (.E 23), none⟩])
  (.seq (.seq (.reg [⟨(some (.E 24)), .mv (.V 9), none⟩,
    ⟨(some (.E 25)), .un .not (.E 24), none⟩])
  (.cond (.E 25)
   (.seq (.reg [⟨(some (.V 2)), .mv (.C .e0), none⟩,
     ⟨(some (.V 3)), .mv (kb false), none⟩])
   (.ret))
   (.skip)))
  (.regD [(⟨(some (.E 26)), .load true 2 (.V 8), none⟩, 0, 2),
    (⟨(some (.E 27)), .mv (.V 4), none⟩, 0, 0),
    (⟨(some (.E 28)), .load true 2 (.V 8), none⟩, 0, 0),
    (⟨(some (.E 29)), .bslice 1 2 [(.v (.int .i64 0)), (.v (.int .i64 0))] [(0, (.E 28))], none⟩, 0, 0),
    (⟨(some (.E 30)), .app 16 2 (.E 27) (.E 29), none⟩, 0, 0),
    (⟨none, .store [0, 0] (.V 5) (.E 26), none⟩, 0, 0),
    (⟨(some (.V 4)), .mv (.E 30), none⟩, 0, 0)])))))
 (.reg [⟨(some (.E 31)), .bin .add (.V 14) (ki 1), none⟩,
   ⟨(some (.V 14)), .mv (.E 31), none⟩])))

def k_impl_Prefix_ic : IC :=
 .seq (.reg [⟨(some (.V 2)), .mv (.C .e0), none⟩,
   ⟨(some (.V 3)), .mv (kb false), none⟩])
 (.seq (.reg [⟨(some (.E 10)), .bslice 0 2 [(.v (.int .i64 0)), (.v (.int .i64 0))] [], none⟩,
   ⟨(some (.E 11)), .build [(.v (.int .i64 0)), (.v (.int .i64 0))] [], none⟩,
   ⟨(some (.V 5)), .alloc [(.v (.int .i64 0)), (.v (.int .i64 0))], none⟩,
   ⟨(some (.V 4)), .mv (.E 10), none⟩,
   ⟨none, .store [0, 0] (.V 5) (.E 11), none⟩])
 (.seq (.seq (.reg [⟨(some (.V 12)), .mv (.V 0), none⟩,
   ⟨(some (.V 13)), .len (.V 12), none⟩,
   ⟨(some (.V 14)), .mv (ki 0), none⟩])
 (.block 0 (.loop k_impl_Prefix_b0)))
 (.seq (.reg [⟨(some (.E 32)), .mv (.V 4), none⟩,
   ⟨(some (.V 2)), .mv (.E 32), none⟩,
   ⟨(some (.V 3)), .mv (kb true), none⟩])
 (.ret))))

def k_impl_Prefix_rv : List RV := [.tmp [2] 2, .tmp [0] 3]

def k__impl_Slot__minus_vars : List Nat := [0, 1, 2, 3, 7, 9, 4, 6, 8, 5]

def k__impl_Slot__minus_ic : IC :=
 .seq (.reg [⟨(some (.V 2)), .box (.V 0), none⟩,
   ⟨(some (.V 3)), .box (.V 1), none⟩,
   ⟨(some (.V 4)), .alloc [(.v (.int .i64 0)), (.v (.int .i64 0))], none⟩,
   ⟨(some (.V 5)), .mv (kb false), none⟩])
 (.seq (.reg [⟨(some (.E 11)), .faddr 0 (.V 2), none⟩,
   ⟨(some (.E 12)), .load false 1 (.E 11), none⟩,
   ⟨(some (.E 13)), .faddr 0 (.V 3), none⟩,
   ⟨(some (.E 14)), .load false 1 (.E 13), none⟩,
   ⟨(some (.E 15)), .call k_impl_SubInt [([0], (.E 12)), ([0], (.E 14))], none⟩,
   ⟨(some (.E 10)), .mv (.E 15), none⟩,
   ⟨(some (.E 16)), .ext 0 (.E 10), none⟩,
   ⟨(some (.E 17)), .ext 1 (.E 10), none⟩,
   ⟨(some (.V 6)), .mv (.E 16), none⟩,
   ⟨(some (.V 7)), .mv (.E 17), none⟩])
 (.seq (.reg [⟨(some (.E 19)), .faddr 1 (.V 2), none⟩,
   ⟨(some (.E 20)), .load false 1 (.E 19), none⟩,
   ⟨(some (.E 21)), .faddr 1 (.V 3), none⟩,
   ⟨(some (.E 22)), .load false 1 (.E 21), none⟩,
   ⟨(some (.E 23)), .call k_impl_SubInt [([0], (.E 20)), ([0], (.E 22))], none⟩,
   ⟨(some (.E 18)), .mv (.E 23), none⟩,
   ⟨(some (.E 24)), .ext 0 (.E 18), none⟩,
   ⟨(some (.E 25)), .ext 1 (.E 18), none⟩,
   ⟨(some (.V 8)), .mv (.E 24), none⟩,
   ⟨(some (.V 9)), .mv (.E 25), none⟩])
 (.seq (.seq (.reg [⟨(some (.E 26)), .mv (.V 7), none⟩,
   ⟨(some (.E 27)), .un .not (.E 26), none⟩,
   ⟨(some (.E 28)), .mv (.E 27), none⟩,
   ⟨(some (.E 29)), .mv (.V 9), some ((.E 28), false)⟩,
   ⟨(some (.E 30)), .un .not (.E 29), some ((.E 28), false)⟩,
   ⟨(some (.E 31)), .pick (.E 28) (kb true) (.E 30), none⟩])
 (.cond (.E 31)
  (.seq (.reg [⟨(some (.E 32)), .build [(.v (.int .i64 0)), (.v (.int .i64 0))] [], none⟩,
    ⟨none, .store [0, 0] (.V 4) (.E 32), none⟩,
    ⟨(some (.V 5)), .mv (kb false), none⟩])
  (.ret))
  (.skip)))
 (.seq (.reg [⟨(some (.E 33)), .mv (.V 6), none⟩,
   ⟨(some (.E 34)), .mv (.V 8), none⟩,
   ⟨(some (.E 35)), .build [(.v (.int .i64 0)), (.v (.int .i64 0))] [(0, 1, (.E 33)), (1, 1, (.E 34))], none⟩,
   ⟨none, .store [0, 0] (.V 4) (.E 35), none⟩,
   ⟨(some (.V 5)), .mv (kb true), none⟩])
 (.ret)))))

def k__impl_Slot__minus_rv : List RV := [.cell [0, 0] 4 true, .tmp [0] 5]

def k_spec_BoundOk_vars : List Nat := [0, 1, 2]

def k_spec_BoundOk_ic : IC :=
 .seq (.reg [⟨(some (.V 1)), .box (.V 0), none⟩,
   ⟨(some (.V 2)), .mv (kb false), none⟩])
 (.seq (.reg [⟨(some (.E 3)), .faddr 0 (.V 1), none⟩,
   ⟨(some (.E 4)), .load false 1 (.E 3), none⟩,
   ⟨(some (.E 5)), .faddr 1 (.V 1), none⟩,
   ⟨(some (.E 6)), .load false 1 (.E 5), none⟩,
   ⟨(some (.E 7)), .bin .leq (.E 4) (.E 6), none⟩,
   ⟨(some (.E 8)), .mv (.E 7), none⟩,
   ⟨(some (.E 9)), .faddr 0 (.V 1), some ((.E 8), true)⟩,
   ⟨(some (.E 10)), .load false 1 (.E 9), some ((.E 8), true)⟩,
   ⟨(some (.E 11)), .call k_spec_l14Leaf [([0], (.E 10))], some ((.E 8), true)⟩,
   ⟨(some (.E 12)), .pick (.E 8) (.E 11) (kb false), none⟩,
   ⟨(some (.E 13)), .mv (.E 12), none⟩,
   ⟨(some (.E 14)), .faddr 1 (.V 1), some ((.E 13), true)⟩,
   ⟨(some (.E 15)), .load false 1 (.E 14), some ((.E 13), true)⟩,
   ⟨(some (.E 16)), .call k_spec_l14Leaf [([0], (.E 15))], some ((.E 13), true)⟩,
   ⟨(some (.E 17)), .pick (.E 13) (.E 16) (kb false), none⟩,
   ⟨(some (.V 2)), .mv (.E 17), none⟩])
 (.ret))

def k_spec_BoundOk_rv : List RV := [.tmp [0] 2]

def k_spec_Brought_vars : List Nat := [0, 1, 2, 6]

def k_spec_Brought_ic : IC :=
 .seq (.reg [⟨(some (.V 6)), .mv (ki 0), none⟩])
 (.seq (.seq (.reg [⟨(some (.E 7)), .mv (.V 0), none⟩,
   ⟨(some (.E 8)), .mv (.V 1), none⟩,
   ⟨(some (.E 9)), .bin .lss (.E 7) (.E 8), none⟩])
 (.cond (.E 9)
  (.seq (.reg [⟨(some (.E 10)), .mv (.V 1), none⟩,
    ⟨(some (.V 6)), .mv (.E 10), none⟩])
  (.ret))
  (.skip)))
 (.seq (.seq (.reg [⟨(some (.E 11)), .mv (.V 0), none⟩,
   ⟨(some (.E 12)), .mv (.V 2), none⟩,
   ⟨(some (.E 13)), .bin .gtr (.E 11) (.E 12), none⟩])
 (.cond (.E 13)
  (.seq (.reg [⟨(some (.E 14)), .mv (.V 2), none⟩,
    ⟨(some (.V 6)), .mv (.E 14), none⟩])
  (.ret))
  (.skip)))
 (.seq (.reg [⟨(some (.E 15)), .mv (.V 0), none⟩,
   ⟨(some (.V 6)), .mv (.E 15), none⟩])
 (.ret))))

def k_spec_Brought_rv : List RV := [.tmp [0] 6]

def k_impl_isCount_vars : List Nat := [0, 1, 4]

def k_impl_isCount_ic : IC :=
 .seq (.reg [⟨(some (.V 4)), .mv (kb false), none⟩])
 (.seq (.reg [⟨(some (.E 5)), .mv (.V 0), none⟩,
   ⟨(some (.E 6)), .call k_impl_within [([0], (.E 5)), ([0], (ki 0)), ([0], (ki 40))], none⟩,
   ⟨(some (.E 7)), .mv (.E 6), none⟩,
   ⟨(some (.E 8)), .mv (.V 1), some ((.E 7), true)⟩,
   ⟨(some (.E 9)), .call k_impl_within [([0], (.E 8)), ([0], (ki 1)), ([0], (ki 100))], some ((.E 7), true)⟩,
   ⟨(some (.E 10)), .pick (.E 7) (.E 9) (kb false), none⟩,
   ⟨(some (.V 4)), .mv (.E 10), none⟩])
 (.ret))

def k_impl_isCount_rv : List RV := [.tmp [0] 4]

def k_impl_BoundOk_vars : List Nat := [0, 1, 2]

def k_impl_BoundOk_ic : IC :=
 .seq (.reg [⟨(some (.V 1)), .box (.V 0), none⟩,
   ⟨(some (.V 2)), .mv (kb false), none⟩])
 (.seq (.reg [⟨(some (.E 3)), .faddr 0 (.V 1), none⟩,
   ⟨(some (.E 4)), .load false 1 (.E 3), none⟩,
   ⟨(some (.E 5)), .faddr 1 (.V 1), none⟩,
   ⟨(some (.E 6)), .load false 1 (.E 5), none⟩,
   ⟨(some (.E 7)), .bin .leq (.E 4) (.E 6), none⟩,
   ⟨(some (.E 8)), .mv (.E 7), none⟩,
   ⟨(some (.E 9)), .faddr 0 (.V 1), some ((.E 8), true)⟩,
   ⟨(some (.E 10)), .load false 1 (.E 9), some ((.E 8), true)⟩,
   ⟨(some (.E 11)), .call k_impl_isLeafValue [([0], (.E 10))], some ((.E 8), true)⟩,
   ⟨(some (.E 12)), .pick (.E 8) (.E 11) (kb false), none⟩,
   ⟨(some (.E 13)), .mv (.E 12), none⟩,
   ⟨(some (.E 14)), .faddr 1 (.V 1), some ((.E 13), true)⟩,
   ⟨(some (.E 15)), .load false 1 (.E 14), some ((.E 13), true)⟩,
   ⟨(some (.E 16)), .call k_impl_isLeafValue [([0], (.E 15))], some ((.E 13), true)⟩,
   ⟨(some (.E 17)), .pick (.E 13) (.E 16) (kb false), none⟩,
   ⟨(some (.V 2)), .mv (.E 17), none⟩])
 (.ret))

def k_impl_BoundOk_rv : List RV := [.tmp [0] 2]

def k_impl_Brought_vars : List Nat := [0, 1, 2, 6]

def k_impl_Brought_ic : IC :=
 .seq (.reg [⟨(some (.V 6)), .mv (ki 0), none⟩])
 (.seq (.block 0 (.seq (.reg [⟨(some (.E 8)), .mv (.V 0), none⟩,
    ⟨(some (.E 9)), .mv (.V 1), none⟩,
    ⟨(some (.E 10)), .bin .lss (.E 8) (.E 9), none⟩,
    ⟨(some (.E 7)), .mv (.E 10), none⟩])
  (.cond (.E 7)
   (.seq (.reg [⟨(some (.E 11)), .mv (.V 1), none⟩,
     ⟨(some (.V 6)), .mv (.E 11), none⟩])
   (.ret))
   (.seq (.reg [⟨(some (.E 13)), .mv (.V 0), none⟩,
     ⟨(some (.E 14)), .mv (.V 2), none⟩,
     ⟨(some (.E 15)), .bin .gtr (.E 13) (.E 14), none⟩,
     ⟨(some (.E 12)), .mv (.E 15), none⟩])
   (.cond (.E 12)
    (.seq (.reg [⟨(some (.E 16)), .mv (.V 2), none⟩,
      ⟨(some (.V 6)), .mv (.E 16), none⟩])
    (.ret))
    (.skip))))))
 (.seq (.reg [⟨(some (.E 17)), .mv (.V 0), none⟩,
   ⟨(some (.V 6)), .mv (.E 17), none⟩])
 (.ret)))

def k_impl_Brought_rv : List RV := [.tmp [0] 6]

def k_slices_IndexFunc___int_int__vars : List Nat := [0, 1, 8, 7, 5, 4]

def k_slices_IndexFunc___int_int__b0 : IC :=
 .seq (.reg [⟨(some (.E 9)), .bin .lss (.V 8) (.V 7), none⟩])
 (.seq (.cond (.E 9)
  (.skip)
  (.exit 0))
 (.seq (.block 1 (.seq (.reg [⟨(some (.E 10)), .mv (.V 8), none⟩,
    ⟨(some (.V 5)), .mv (.E 10), none⟩])
  (.seq (.reg [⟨(some (.E 11)), .mv (.V 1), none⟩,
    ⟨(some (.E 12)), .mv (.V 0), none⟩,
    ⟨(some (.E 13)), .mv (.V 5), none⟩,
    ⟨(some (.E 14)), .iaddr 1 (.E 12) (.E 13), none⟩,
    ⟨(some (.E 15)), .load false 1 (.E 14), none⟩,
    ⟨(some (.E 16)), .callv (.E 11) [([0], (.E 15))], none⟩])
  (.cond (.E 16)
   (.seq (.reg [⟨(some (.E 17)), .mv (.V 5), none⟩,
     ⟨(some (.V 4)), .mv (.E 17), none⟩])
   (.ret))
   (.skip)))))
 (.reg [⟨(some (.E 18)), .bin .add (.V 8) (ki 1), none⟩,
   ⟨(some (.V 8)), .mv (.E 18), none⟩])))

def k_slices_IndexFunc___int_int__ic : IC :=
 .seq (.reg [⟨(some (.V 4)), .mv (ki 0), none⟩])
 (.seq (.seq (.reg [⟨(some (.E 6)), .mv (.V 0), none⟩,
   ⟨(some (.V 7)), .len (.E 6), none⟩,
   ⟨(some (.V 8)), .mv (ki 0), none⟩])
 (.block 0 (.loop k_slices_IndexFunc___int_int__b0)))
 (.seq (.reg [⟨(some (.V 4)), .mv (ki (-1)), none⟩])
 (.ret)))

def k_slices_IndexFunc___int_int__rv : List RV := [.tmp [0] 4]

def k__impl_Slot__plus_vars : List Nat := [0, 1, 2, 3, 7, 9, 4, 6, 8, 5]

def k__impl_Slot__plus_ic : IC :=
 .seq (.reg [⟨(some (.V 2)), .box (.V 0), none⟩,
   ⟨(some (.V 3)), .box (.V 1), none⟩,
   ⟨(some (.V 4)), .alloc [(.v (.int .i64 0)), (.v (.int .i64 0))], none⟩,
   ⟨(some (.V 5)), .mv (kb false), none⟩])
 (.seq (.reg [⟨(some (.E 11)), .faddr 0 (.V 2), none⟩,
   ⟨(some (.E 12)), .load false 1 (.E 11), none⟩,
   ⟨(some (.E 13)), .faddr 0 (.V 3), none⟩,
   ⟨(some (.E 14)), .load false 1 (.E 13), none⟩,
   ⟨(some (.E 15)), .call k_impl_AddInt [([0], (.E 12)), ([0], (.E 14))], none⟩,
   ⟨(some (.E 10)), .mv (.E 15), none⟩,
   ⟨(some (.E 16)), .ext 0 (.E 10), none⟩,
   ⟨(some (.E 17)), .ext 1 (.E 10), none⟩,
   ⟨(some (.V 6)), .mv (.E 16), none⟩,
   ⟨(some (.V 7)), .mv (.E 17), none⟩])
 (.seq (.reg [⟨(some (.E 19)), .faddr 1 (.V 2), none⟩,
   ⟨(some (.E 20)), .load false 1 (.E 19), none⟩,
   ⟨(some (.E 21)), .faddr 1 (.V 3), none⟩,
   ⟨(some (.E 22)), .load false 1 (.E 21), none⟩,
   ⟨(some (.E 23)), .call k_impl_AddInt [([0], (.E 20)), ([0], (.E 22))], none⟩,
   ⟨(some (.E 18)), .mv (.E 23), none⟩,
   ⟨(some (.E 24)), .ext 0 (.E 18), none⟩,
   ⟨(some (.E 25)), .ext 1 (.E 18), none⟩,
   ⟨(some (.V 8)), .mv (.E 24), none⟩,
   ⟨(some (.V 9)), .mv (.E 25), none⟩])
 (.seq (.seq (.reg [⟨(some (.E 26)), .mv (.V 7), none⟩,
   ⟨(some (.E 27)), .un .not (.E 26), none⟩,
   ⟨(some (.E 28)), .mv (.E 27), none⟩,
   ⟨(some (.E 29)), .mv (.V 9), some ((.E 28), false)⟩,
   ⟨(some (.E 30)), .un .not (.E 29), some ((.E 28), false)⟩,
   ⟨(some (.E 31)), .pick (.E 28) (kb true) (.E 30), none⟩])
 (.cond (.E 31)
  (.seq (.reg [⟨(some (.E 32)), .build [(.v (.int .i64 0)), (.v (.int .i64 0))] [], none⟩,
    ⟨none, .store [0, 0] (.V 4) (.E 32), none⟩,
    ⟨(some (.V 5)), .mv (kb false), none⟩])
  (.ret))
  (.skip)))
 (.seq (.reg [⟨(some (.E 33)), .mv (.V 6), none⟩,
   ⟨(some (.E 34)), .mv (.V 8), none⟩,
   ⟨(some (.E 35)), .build [(.v (.int .i64 0)), (.v (.int .i64 0))] [(0, 1, (.E 33)), (1, 1, (.E 34))], none⟩,
   ⟨none, .store [0, 0] (.V 4) (.E 35), none⟩,
   ⟨(some (.V 5)), .mv (kb true), none⟩])
 (.ret)))))

def k__impl_Slot__plus_rv : List RV := [.cell [0, 0] 4 true, .tmp [0] 5]

def k_impl_SquareOver_vars : List Nat := [0, 1, 4, 5]

def k_impl_SquareOver_ic : IC :=
 .seq (.reg [⟨(some (.V 4)), .alloc [(.v (.bool false)), (.v (.int .u64 0)), (.v (.int .u64 0)), (.v (.int .i64 0))], none⟩,
   ⟨(some (.V 5)), .mv (kb false), none⟩])
 (.seq (.reg [⟨(some (.E 6)), .mv (.V 0), none⟩,
   ⟨(some (.E 7)), .mv (.V 0), none⟩,
   ⟨(some (.E 8)), .call k_impl_MulWide [([0], (.E 6)), ([0], (.E 7))], none⟩,
   ⟨(some (.E 9)), .mv (.V 1), none⟩,
   ⟨(some (.E 10)), .call k_impl_fracOf [([0, 0, 0], (.E 8)), ([0], (.E 9))], none⟩,
   ⟨(some (.E 11)), .ext 0 (.E 10), none⟩,
   ⟨(some (.E 12)), .ext 1 (.E 10), none⟩,
   ⟨none, .store [0, 0, 0, 0] (.V 4) (.E 11), none⟩,
   ⟨(some (.V 5)), .mv (.E 12), none⟩])
 (.ret))

def k_impl_SquareOver_rv : List RV := [.cell [0, 0, 0, 0] 4 true, .tmp [0] 5]

def k_spec_l13Add_vars : List Nat := [0, 1, 2, 3, 7, 9, 4, 6, 8, 5]

def k_spec_l13Add_ic : IC :=
 .seq (.reg [⟨(some (.V 2)), .box (.V 0), none⟩,
   ⟨(some (.V 3)), .box (.V 1), none⟩,
   ⟨(some (.V 4)), .alloc [(.v (.int .i64 0)), (.v (.int .i64 0))], none⟩,
   ⟨(some (.V 5)), .mv (kb false), none⟩])
 (.seq (.reg [⟨(some (.E 11)), .faddr 0 (.V 2), none⟩,
   ⟨(some (.E 12)), .load false 1 (.E 11), none⟩,
   ⟨(some (.E 13)), .faddr 0 (.V 3), none⟩,
   ⟨(some (.E 14)), .load false 1 (.E 13), none⟩,
   ⟨(some (.E 15)), .call k_spec_AddInt [([0], (.E 12)), ([0], (.E 14))], none⟩,
   ⟨(some (.E 10)), .mv (.E 15), none⟩,
   ⟨(some (.E 16)), .ext 0 (.E 10), none⟩,
   ⟨(some (.E 17)), .ext 1 (.E 10), none⟩,
   ⟨(some (.V 6)), .mv (.E 16), none⟩,
   ⟨(some (.V 7)), .mv (.E 17), none⟩])
 (.seq (.reg [⟨(some (.E 19)), .faddr 1 (.V 2), none⟩,
   ⟨(some (.E 20)), .load false 1 (.E 19), none⟩,
   ⟨(some (.E 21)), .faddr 1 (.V 3), none⟩,
   ⟨(some (.E 22)), .load false 1 (.E 21), none⟩,
   ⟨(some (.E 23)), .call k_spec_AddInt [([0], (.E 20)), ([0], (.E 22))], none⟩,
   ⟨(some (.E 18)), .mv (.E 23), none⟩,
   ⟨(some (.E 24)), .ext 0 (.E 18), none⟩,
   ⟨(some (.E 25)), .ext 1 (.E 18), none⟩,
   ⟨(some (.V 8)), .mv (.E 24), none⟩,
   ⟨(some (.V 9)), .mv (.E 25), none⟩])
 (.seq (.seq (.reg [⟨(some (.E 26)), .mv (.V 7), none⟩,
   ⟨(some (.E 27)), .un .not (.E 26), none⟩,
   ⟨(some (.E 28)), .mv (.E 27), none⟩,
   ⟨(some (.E 29)), .mv (.V 9), some ((.E 28), false)⟩,
   ⟨(some (.E 30)), .un .not (.E 29), some ((.E 28), false)⟩,
   ⟨(some (.E 31)), .pick (.E 28) (kb true) (.E 30), none⟩])
 (.cond (.E 31)
  (.seq (.reg [⟨(some (.E 32)), .build [(.v (.int .i64 0)), (.v (.int .i64 0))] [], none⟩,
    ⟨none, .store [0, 0] (.V 4) (.E 32), none⟩,
    ⟨(some (.V 5)), .mv (kb false), none⟩])
  (.ret))
  (.skip)))
 (.seq (.reg [⟨(some (.E 33)), .mv (.V 6), none⟩,
   ⟨(some (.E 34)), .mv (.V 8), none⟩,
   ⟨(some (.E 35)), .build [(.v (.int .i64 0)), (.v (.int .i64 0))] [(0, 1, (.E 33)), (1, 1, (.E 34))], none⟩,
   ⟨none, .store [0, 0] (.V 4) (.E 35), none⟩,
   ⟨(some (.V 5)), .mv (kb true), none⟩])
 (.ret)))))

def k_spec_l13Add_rv : List RV := [.cell [0, 0] 4 true, .tmp [0] 5]

def k_impl_AddWide_vars : List Nat := [0, 1, 2, 3, 4, 7, 8, 6, 11, 12, 10, 14, 5]

def k_impl_AddWide_ic : IC :=
 .seq (.reg [⟨(some (.V 2)), .box (.V 0), none⟩,
   ⟨(some (.V 3)), .box (.V 1), none⟩,
   ⟨(some (.V 4)), .alloc [(.v (.bool false)), (.v (.int .u64 0)), (.v (.int .u64 0))], none⟩,
   ⟨(some (.V 5)), .mv (kb false), none⟩])
 (.seq (.seq (.reg [⟨(some (.E 15)), .load true 3 (.V 2), none⟩,
   ⟨(some (.E 16)), .call k_impl_WideOk [([0, 0, 0], (.E 15))], none⟩,
   ⟨(some (.E 17)), .un .not (.E 16), none⟩,
   ⟨(some (.E 18)), .mv (.E 17), none⟩,
   ⟨(some (.E 19)), .load true 3 (.V 3), some ((.E 18), false)⟩,
   ⟨(some (.E 20)), .call k_impl_WideOk [([0, 0, 0], (.E 19))], some ((.E 18), false)⟩,
   ⟨(some (.E 21)), .un .not (.E 20), some ((.E 18), false)⟩,
   ⟨(some (.E 22)), .pick (.E 18) (kb true) (.E 21), none⟩])
 (.cond (.E 22)
  (.seq (.reg [⟨(some (.E 23)), .build [(.v (.bool false)), (.v (.int .u64 0)), (.v (.int .u64 0))] [], none⟩,
    ⟨none, .store [0, 0, 0] (.V 4) (.E 23), none⟩,
    ⟨(some (.V 5)), .mv (kb false), none⟩])
  (.ret))
  (.skip)))
 (.seq (.seq (.reg [⟨(some (.E 24)), .faddr 0 (.V 2), none⟩,
   ⟨(some (.E 25)), .load false 1 (.E 24), none⟩,
   ⟨(some (.E 26)), .faddr 0 (.V 3), none⟩,
   ⟨(some (.E 27)), .load false 1 (.E 26), none⟩,
   ⟨(some (.E 28)), .eqb true [.b] (.E 25) (.E 27), none⟩])
 (.cond (.E 28)
  (.seq (.seq (.reg [⟨(some (.E 29)), .load true 3 (.V 2), none⟩,
    ⟨(some (.E 30)), .load true 3 (.V 3), none⟩,
    ⟨(some (.E 31)), .call k_impl_compareSizes [([0, 0, 0], (.E 29)), ([0, 0, 0], (.E 30))], none⟩,
    ⟨(some (.E 32)), .bin .lss (.E 31) (ki 0), none⟩])
  (.cond (.E 32)
   (.reg [⟨(some (.E 33)), .load true 3 (.V 3), none⟩,
     ⟨(some (.E 34)), .load true 3 (.V 2), none⟩,
     ⟨none, .store [0, 0, 0] (.V 2) (.E 33), none⟩,
     ⟨none, .store [0, 0, 0] (.V 3) (.E 34), none⟩])
   (.skip)))
  (.seq (.reg [⟨(some (.E 36)), .faddr 2 (.V 2), none⟩,
    ⟨(some (.E 37)), .load false 1 (.E 36), none⟩,
    ⟨(some (.E 38)), .faddr 2 (.V 3), none⟩,
    ⟨(some (.E 39)), .load false 1 (.E 38), none⟩,
    ⟨(some (.E 40)), .call k_math_bits_Sub64 [([0], (.E 37)), ([0], (.E 39)), ([0], (.C (.v (.int .u64 0))))], none⟩,
    ⟨(some (.E 35)), .mv (.E 40), none⟩,
    ⟨(some (.E 41)), .ext 0 (.E 35), none⟩,
    ⟨(some (.E 42)), .ext 1 (.E 35), none⟩,
    ⟨(some (.V 6)), .mv (.E 41), none⟩,
    ⟨(some (.V 7)), .mv (.E 42), none⟩])
  (.seq (.reg [⟨(some (.E 44)), .faddr 1 (.V 2), none⟩,
    ⟨(some (.E 45)), .load false 1 (.E 44), none⟩,
    ⟨(some (.E 46)), .faddr 1 (.V 3), none⟩,
    ⟨(some (.E 47)), .load false 1 (.E 46), none⟩,
    ⟨(some (.E 48)), .mv (.V 7), none⟩,
    ⟨(some (.E 49)), .call k_math_bits_Sub64 [([0], (.E 45)), ([0], (.E 47)), ([0], (.E 48))], none⟩,
    ⟨(some (.E 43)), .mv (.E 49), none⟩,
    ⟨(some (.E 50)), .ext 0 (.E 43), none⟩,
    ⟨(some (.E 51)), .ext 1 (.E 43), none⟩,
    ⟨(some (.V 8)), .mv (.E 50), none⟩,
    ⟨(some (.E 9)), .mv (.E 51), none⟩])
  (.seq (.reg [⟨(some (.E 52)), .faddr 0 (.V 2), none⟩,
    ⟨(some (.E 53)), .load false 1 (.E 52), none⟩,
    ⟨(some (.E 54)), .mv (.V 8), none⟩,
    ⟨(some (.E 55)), .mv (.V 6), none⟩,
    ⟨(some (.E 56)), .call k_impl_wideOf [([0], (.E 53)), ([0], (.E 54)), ([0], (.E 55))], none⟩,
    ⟨none, .store [0, 0, 0] (.V 4) (.E 56), none⟩,
    ⟨(some (.V 5)), .mv (kb true), none⟩])
  (.ret)))))
  (.skip)))
 (.seq (.reg [⟨(some (.E 58)), .faddr 2 (.V 2), none⟩,
   ⟨(some (.E 59)), .load false 1 (.E 58), none⟩,
   ⟨(some (.E 60)), .faddr 2 (.V 3), none⟩,
   ⟨(some (.E 61)), .load false 1 (.E 60), none⟩,
   ⟨(some (.E 62)), .call k_math_bits_Add64 [([0], (.E 59)), ([0], (.E 61)), ([0], (.C (.v (.int .u64 0))))], none⟩,
   ⟨(some (.E 57)), .mv (.E 62), none⟩,
   ⟨(some (.E 63)), .ext 0 (.E 57), none⟩,
   ⟨(some (.E 64)), .ext 1 (.E 57), none⟩,
   ⟨(some (.V 10)), .mv (.E 63), none⟩,
   ⟨(some (.V 11)), .mv (.E 64), none⟩])
 (.seq (.reg [⟨(some (.E 66)), .faddr 1 (.V 2), none⟩,
   ⟨(some (.E 67)), .load false 1 (.E 66), none⟩,
   ⟨(some (.E 68)), .faddr 1 (.V 3), none⟩,
   ⟨(some (.E 69)), .load false 1 (.E 68), none⟩,
   ⟨(some (.E 70)), .mv (.V 11), none⟩,
   ⟨(some (.E 71)), .call k_math_bits_Add64 [([0], (.E 67)), ([0], (.E 69)), ([0], (.E 70))], none⟩,
   ⟨(some (.E 65)), .mv (.E 71), none⟩,
   ⟨(some (.E 72)), .ext 0 (.E 65), none⟩,
   ⟨(some (.E 73)), .ext 1 (.E 65), none⟩,
   ⟨(some (.V 12)), .mv (.E 72), none⟩,
   ⟨(some (.E 13)), .mv (.E 73), none⟩])
 (.seq (.reg [⟨(some (.E 74)), .faddr 0 (.V 2), none⟩,
   ⟨(some (.E 75)), .load false 1 (.E 74), none⟩,
   ⟨(some (.E 76)), .mv (.V 12), none⟩,
   ⟨(some (.E 77)), .mv (.V 10), none⟩,
   ⟨(some (.E 78)), .call k_impl_wideOf [([0], (.E 75)), ([0], (.E 76)), ([0], (.E 77))], none⟩,
   ⟨(some (.V 14)), .alloc [(.v (.bool false)), (.v (.int .u64 0)), (.v (.int .u64 0))], none⟩,
   ⟨none, .store [0, 0, 0] (.V 14) (.E 78), none⟩])
 (.seq (.seq (.reg [⟨(some (.E 79)), .load true 3 (.V 14), none⟩,
   ⟨(some (.E 80)), .call k_impl_WideOk [([0, 0, 0], (.E 79))], none⟩,
   ⟨(some (.E 81)), .un .not (.E 80), none⟩])
 (.cond (.E 81)
  (.seq (.reg [⟨(some (.E 82)), .build [(.v (.bool false)), (.v (.int .u64 0)), (.v (.int .u64 0))] [], none⟩,
    ⟨none, .store [0, 0, 0] (.V 4) (.E 82), none⟩,
    ⟨(some (.V 5)), .mv (kb false), none⟩])
  (.ret))
  (.skip)))
 (.seq (.reg [⟨(some (.E 83)), .load true 3 (.V 14), none⟩,
   ⟨none, .store [0, 0, 0] (.V 4) (.E 83), none⟩,
   ⟨(some (.V 5)), .mv (kb true), none⟩])
 (.ret))))))))

def k_impl_AddWide_rv : List RV := [.cell [0, 0, 0] 4 true, .tmp [0] 5]

def k_impl_fracOf_vars : List Nat := [0, 1, 2, 6, 4, 5]

def k_impl_fracOf_ic : IC :=
 .seq (.reg [⟨(some (.V 2)), .box (.V 0), none⟩,
   ⟨(some (.V 4)), .alloc [(.v (.bool false)), (.v (.int .u64 0)), (.v (.int .u64 0)), (.v (.int .i64 0))], none⟩,
   ⟨(some (.V 5)), .mv (kb false), none⟩])
 (.seq (.reg [⟨(some (.E 7)), .load true 3 (.V 2), none⟩,
   ⟨(some (.E 8)), .mv (.V 1), none⟩,
   ⟨(some (.E 9)), .build [(.v (.bool false)), (.v (.int .u64 0)), (.v (.int .u64 0)), (.v (.int .i64 0))] [(0, 3, (.E 7)), (3, 1, (.E 8))], none⟩,
   ⟨(some (.V 6)), .alloc [(.v (.bool false)), (.v (.int .u64 0)), (.v (.int .u64 0)), (.v (.int .i64 0))], none⟩,
   ⟨none, .store [0, 0, 0, 0] (.V 6) (.E 9), none⟩])
 (.seq (.seq (.reg [⟨(some (.E 10)), .load true 4 (.V 6), none⟩,
   ⟨(some (.E 11)), .call k_impl_FracOk [([0, 0, 0, 0], (.E 10))], none⟩,
   ⟨(some (.E 12)), .un .not (.E 11), none⟩])
 (.cond (.E 12)
  (.seq (.reg [⟨(some (.E 13)), .build [(.v (.bool false)), (.v (.int .u64 0)), (.v (.int .u64 0)), (.v (.int .i64 0))] [], none⟩,
    ⟨none, .store [0, 0, 0, 0] (.V 4) (.E 13), none⟩,
    ⟨(some (.V 5)), .mv (kb false), none⟩])
  (.ret))
  (.skip)))
 (.seq (.reg [⟨(some (.E 14)), .load true 4 (.V 6), none⟩,
   ⟨none, .store [0, 0, 0, 0] (.V 4) (.E 14), none⟩,
   ⟨(some (.V 5)), .mv (kb true), none⟩])
 (.ret))))

def k_impl_fracOf_rv : List RV := [.cell [0, 0, 0, 0] 4 true, .tmp [0] 5]

def k_impl_FracOk_vars : List Nat := [0, 1, 2]

def k_impl_FracOk_ic : IC :=
 .seq (.reg [⟨(some (.V 1)), .box (.V 0), none⟩,
   ⟨(some (.V 2)), .mv (kb false), none⟩])
 (.seq (.reg [⟨(some (.E 3)), .faddr 0 (.V 1), none⟩,
   ⟨(some (.E 4)), .load true 3 (.E 3), none⟩,
   ⟨(some (.E 5)), .call k_impl_WideOk [([0, 0, 0], (.E 4))], none⟩,
   ⟨(some (.E 6)), .mv (.E 5), none⟩,
   ⟨(some (.E 7)), .faddr 3 (.V 1), some ((.E 6), true)⟩,
   ⟨(some (.E 8)), .load false 1 (.E 7), some ((.E 6), true)⟩,
   ⟨(some (.E 9)), .call k_impl_within [([0], (.E 8)), ([0], (ki 1)), ([0], (ki 1000000))], some ((.E 6), true)⟩,
   ⟨(some (.E 10)), .pick (.E 6) (.E 9) (kb false), none⟩,
   ⟨(some (.V 2)), .mv (.E 10), none⟩])
 (.ret))

def k_impl_FracOk_rv : List RV := [.tmp [0] 2]

def k_impl_ScaleWide_vars : List Nat := [0, 1, 2, 4, 6, 8, 9, 10, 7, 11, 12, 5]

def k_impl_ScaleWide_ic : IC :=
 .seq (.reg [⟨(some (.V 2)), .box (.V 0), none⟩,
   ⟨(some (.V 4)), .alloc [(.v (.bool false)), (.v (.int .u64 0)), (.v (.int .u64 0))], none⟩,
   ⟨(some (.V 5)), .mv (kb false), none⟩])
 (.seq (.seq (.reg [⟨(some (.E 13)), .load true 3 (.V 2), none⟩,
   ⟨(some (.E 14)), .call k_impl_WideOk [([0, 0, 0], (.E 13))], none⟩,
   ⟨(some (.E 15)), .un .not (.E 14), none⟩])
 (.cond (.E 15)
  (.seq (.reg [⟨(some (.E 16)), .build [(.v (.bool false)), (.v (.int .u64 0)), (.v (.int .u64 0))] [], none⟩,
    ⟨none, .store [0, 0, 0] (.V 4) (.E 16), none⟩,
    ⟨(some (.V 5)), .mv (kb false), none⟩])
  (.ret))
  (.skip)))
 (.seq (.reg [⟨(some (.E 17)), .mv (.V 1), none⟩,
   ⟨(some (.E 18)), .call k_impl_size [([0], (.E 17))], none⟩,
   ⟨(some (.V 6)), .mv (.E 18), none⟩])
 (.seq (.reg [⟨(some (.E 20)), .faddr 1 (.V 2), none⟩,
   ⟨(some (.E 21)), .load false 1 (.E 20), none⟩,
   ⟨(some (.E 22)), .mv (.V 6), none⟩,
   ⟨(some (.E 23)), .call k_math_bits_Mul64 [([0], (.E 21)), ([0], (.E 22))], none⟩,
   ⟨(some (.E 19)), .mv (.E 23), none⟩,
   ⟨(some (.E 24)), .ext 0 (.E 19), none⟩,
   ⟨(some (.E 25)), .ext 1 (.E 19), none⟩,
   ⟨(some (.V 7)), .mv (.E 24), none⟩,
   ⟨(some (.V 8)), .mv (.E 25), none⟩])
 (.seq (.reg [⟨(some (.E 27)), .faddr 2 (.V 2), none⟩,
   ⟨(some (.E 28)), .load false 1 (.E 27), none⟩,
   ⟨(some (.E 29)), .mv (.V 6), none⟩,
   ⟨(some (.E 30)), .call k_math_bits_Mul64 [([0], (.E 28)), ([0], (.E 29))], none⟩,
   ⟨(some (.E 26)), .mv (.E 30), none⟩,
   ⟨(some (.E 31)), .ext 0 (.E 26), none⟩,
   ⟨(some (.E 32)), .ext 1 (.E 26), none⟩,
   ⟨(some (.V 9)), .mv (.E 31), none⟩,
   ⟨(some (.V 10)), .mv (.E 32), none⟩])
 (.seq (.reg [⟨(some (.E 34)), .mv (.V 8), none⟩,
   ⟨(some (.E 35)), .mv (.V 9), none⟩,
   ⟨(some (.E 36)), .call k_math_bits_Add64 [([0], (.E 34)), ([0], (.E 35)), ([0], (.C (.v (.int .u64 0))))], none⟩,
   ⟨(some (.E 33)), .mv (.E 36), none⟩,
   ⟨(some (.E 37)), .ext 0 (.E 33), none⟩,
   ⟨(some (.E 38)), .ext 1 (.E 33), none⟩,
   ⟨(some (.V 8)), .mv (.E 37), none⟩,
   ⟨(some (.V 11)), .mv (.E 38), none⟩])
 (.seq (.reg [⟨(some (.E 39)), .faddr 0 (.V 2), none⟩,
   ⟨(some (.E 40)), .load false 1 (.E 39), none⟩,
   ⟨(some (.E 41)), .mv (.V 1), none⟩,
   ⟨(some (.E 42)), .bin .lss (.E 41) (ki 0), none⟩,
   ⟨(some (.E 43)), .eqb true [.b] (.E 40) (.E 42), none⟩,
   ⟨(some (.E 44)), .mv (.V 8), none⟩,
   ⟨(some (.E 45)), .mv (.V 10), none⟩,
   ⟨(some (.E 46)), .call k_impl_wideOf [([0], (.E 43)), ([0], (.E 44)), ([0], (.E 45))], none⟩,
   ⟨(some (.V 12)), .alloc [(.v (.bool false)), (.v (.int .u64 0)), (.v (.int .u64 0))], none⟩,
   ⟨none, .store [0, 0, 0] (.V 12) (.E 46), none⟩])
 (.seq (.seq (.reg [⟨(some (.E 47)), .mv (.V 7), none⟩,
   ⟨(some (.E 48)), .bin .gtr (.E 47) (.C (.v (.int .u64 0))), none⟩,
   ⟨(some (.E 49)), .mv (.E 48), none⟩,
   ⟨(some (.E 50)), .mv (.V 11), some ((.E 49), false)⟩,
   ⟨(some (.E 51)), .bin .gtr (.E 50) (.C (.v (.int .u64 0))), some ((.E 49), false)⟩,
   ⟨(some (.E 52)), .pick (.E 49) (kb true) (.E 51), none⟩,
   ⟨(some (.E 53)), .mv (.E 52), none⟩,
   ⟨(some (.E 54)), .load true 3 (.V 12), some ((.E 53), false)⟩,
   ⟨(some (.E 55)), .call k_impl_WideOk [([0, 0, 0], (.E 54))], some ((.E 53), false)⟩,
   ⟨(some (.E 56)), .un .not (.E 55), some ((.E 53), false)⟩,
   ⟨(some (.E 57)), .pick (.E 53) (kb true) (.E 56), none⟩])
 (.cond (.E 57)
  (.seq (.reg [⟨(some (.E 58)), .build [(.v (.bool false)), (.v (.int .u64 0)), (.v (.int .u64 0))] [], none⟩,
    ⟨none, .store [0, 0, 0] (.V 4) (.E 58), none⟩,
    ⟨(some (.V 5)), .mv (kb false), none⟩])
  (.ret))
  (.skip)))
 (.seq (.reg [⟨(some (.E 59)), .load true 3 (.V 12), none⟩,
   ⟨none, .store [0, 0, 0] (.V 4) (.E 59), none⟩,
   ⟨(some (.V 5)), .mv (kb true), none⟩])
 (.ret)))))))))

def k_impl_ScaleWide_rv : List RV := [.cell [0, 0, 0] 4 true, .tmp [0] 5]

def k_impl_wideOf_vars : List Nat := [0, 1, 2, 6]

def k_impl_wideOf_ic : IC :=
 .seq (.reg [⟨(some (.V 6)), .alloc [(.v (.bool false)), (.v (.int .u64 0)), (.v (.int .u64 0))], none⟩])
 (.seq (.reg [⟨(some (.E 7)), .mv (.V 0), none⟩,
   ⟨(some (.E 8)), .mv (.E 7), none⟩,
   ⟨(some (.E 9)), .mv (.V 1), some ((.E 8), true)⟩,
   ⟨(some (.E 10)), .bin .gtr (.E 9) (.C (.v (.int .u64 0))), some ((.E 8), true)⟩,
   ⟨(some (.E 11)), .mv (.E 10), some ((.E 8), true)⟩,
   ⟨(some (.E 12)), .mv (.V 2), some ((.E 11), false)⟩,
   ⟨(some (.E 13)), .bin .gtr (.E 12) (.C (.v (.int .u64 0))), some ((.E 11), false)⟩,
   ⟨(some (.E 14)), .pick (.E 11) (kb true) (.E 13), some ((.E 8), true)⟩,
   ⟨(some (.E 15)), .pick (.E 8) (.E 14) (kb false), none⟩,
   ⟨(some (.E 16)), .mv (.V 1), none⟩,
   ⟨(some (.E 17)), .mv (.V 2), none⟩,
   ⟨(some (.E 18)), .build [(.v (.bool false)), (.v (.int .u64 0)), (.v (.int .u64 0))] [(0, 1, (.E 15)), (1, 1, (.E 16)), (2, 1, (.E 17))], none⟩,
   ⟨none, .store [0, 0, 0] (.V 6) (.E 18), none⟩])
 (.ret))

def k_impl_wideOf_rv : List RV := [.cell [0, 0, 0] 6 true]

def k_impl_compareSizes_vars : List Nat := [0, 1, 2, 3, 4]

def k_impl_compareSizes_ic : IC :=
 .seq (.reg [⟨(some (.V 2)), .box (.V 0), none⟩,
   ⟨(some (.V 3)), .box (.V 1), none⟩,
   ⟨(some (.V 4)), .mv (ki 0), none⟩])
 (.seq (.regD [(⟨(some (.E 5)), .faddr 1 (.V 2), none⟩, 0, 0),
   (⟨(some (.E 6)), .load false 1 (.E 5), none⟩, 0, 0),
   (⟨(some (.E 7)), .faddr 1 (.V 3), none⟩, 0, 0),
   (⟨(some (.E 8)), .load false 1 (.E 7), none⟩, 0, 0),
   (⟨(some (.E 9)), .call k_cmp_Compare_uint64_ [([0], (.E 6)), ([0], (.E 8))], none⟩, 0, 0),
   (⟨(some (.E 10)), .faddr 2 (.V 2), none⟩, 1, 0),
   (⟨(some (.E 11)), .load false 1 (.E 10), none⟩, 1, 0),
   (⟨(some (.E 12)), .faddr 2 (.V 3), none⟩, 1, 0),
   (⟨(some (.E 13)), .load false 1 (.E 12), none⟩, 1, 0),
   (⟨(some (.E 14)), .call k_cmp_Compare_uint64_ [([0], (.E 11)), ([0], (.E 13))], none⟩, 0, 0),
   (⟨(some (.E 15)), .bslice 2 1 [(.v (.int .i64 0))] [(0, (.E 9)), (1, (.E 14))], none⟩, 0, 0),
   (⟨(some (.E 16)), .call k_cmp_Or_int_ [([1], (.E 15))], none⟩, 0, 0),
   (⟨(some (.V 4)), .mv (.E 16), none⟩, 0, 0)])
 (.ret))

def k_impl_compareSizes_rv : List RV := [.tmp [0] 4]

def k_cmp_isNaN_int__vars : List Nat := [0, 2]

def k_cmp_isNaN_int__ic : IC :=
 .seq (.reg [⟨(some (.V 2)), .mv (kb false), none⟩])
 (.seq (.reg [⟨(some (.E 3)), .mv (.V 0), none⟩,
   ⟨(some (.E 4)), .mv (.V 0), none⟩,
   ⟨(some (.E 5)), .bin .neq (.E 3) (.E 4), none⟩,
   ⟨(some (.V 2)), .mv (.E 5), none⟩])
 (.ret))

def k_cmp_isNaN_int__rv : List RV := [.tmp [0] 2]

def k_spec_MulWide_vars : List Nat := [0, 1, 5, 6, 4]

def k_spec_MulWide_ic : IC :=
 .seq (.reg [⟨(some (.V 4)), .alloc [(.v (.bool false)), (.v (.int .u64 0)), (.v (.int .u64 0))], none⟩])
 (.seq (.reg [⟨(some (.E 8)), .mv (.V 0), none⟩,
   ⟨(some (.E 9)), .call k_spec_l3Abs [([0], (.E 8))], none⟩,
   ⟨(some (.E 10)), .mv (.V 1), none⟩,
   ⟨(some (.E 11)), .call k_spec_l3Abs [([0], (.E 10))], none⟩,
   ⟨(some (.E 12)), .call k_spec_l3Product [([0], (.E 9)), ([0], (.E 11))], none⟩,
   ⟨(some (.E 7)), .mv (.E 12), none⟩,
   ⟨(some (.E 13)), .ext 0 (.E 7), none⟩,
   ⟨(some (.E 14)), .ext 1 (.E 7), none⟩,
   ⟨(some (.V 5)), .mv (.E 13), none⟩,
   ⟨(some (.V 6)), .mv (.E 14), none⟩])
 (.seq (.reg [⟨(some (.E 15)), .mv (.V 0), none⟩,
   ⟨(some (.E 16)), .bin .lss (.E 15) (ki 0), none⟩,
   ⟨(some (.E 17)), .mv (.V 1), none⟩,
   ⟨(some (.E 18)), .bin .lss (.E 17) (ki 0), none⟩,
   ⟨(some (.E 19)), .eqb true [.b] (.E 16) (.E 18), none⟩,
   ⟨(some (.E 20)), .mv (.E 19), none⟩,
   ⟨(some (.E 21)), .mv (.V 0), some ((.E 20), true)⟩,
   ⟨(some (.E 22)), .bin .neq (.E 21) (ki 0), some ((.E 20), true)⟩,
   ⟨(some (.E 23)), .pick (.E 20) (.E 22) (kb false), none⟩,
   ⟨(some (.E 24)), .mv (.E 23), none⟩,
   ⟨(some (.E 25)), .mv (.V 1), some ((.E 24), true)⟩,
   ⟨(some (.E 26)), .bin .neq (.E 25) (ki 0), some ((.E 24), true)⟩,
   ⟨(some (.E 27)), .pick (.E 24) (.E 26) (kb false), none⟩,
   ⟨(some (.E 28)), .mv (.V 5), none⟩,
   ⟨(some (.E 29)), .mv (.V 6), none⟩,
   ⟨(some (.E 30)), .build [(.v (.bool false)), (.v (.int .u64 0)), (.v (.int .u64 0))] [(0, 1, (.E 27)), (1, 1, (.E 28)), (2, 1, (.E 29))], none⟩,
   ⟨none, .store [0, 0, 0] (.V 4) (.E 30), none⟩])
 (.ret)))

def k_spec_MulWide_rv : List RV := [.cell [0, 0, 0] 4 true]

def k_spec_WideOk_vars : List Nat := [0, 1, 2]

def k_spec_WideOk_ic : IC :=
 .seq (.reg [⟨(some (.V 1)), .box (.V 0), none⟩,
   ⟨(some (.V 2)), .mv (kb false), none⟩])
 (.seq (.reg [⟨(some (.E 3)), .faddr 1 (.V 1), none⟩,
   ⟨(some (.E 4)), .load false 1 (.E 3), none⟩,
   ⟨(some (.E 5)), .bin .lss (.E 4) (.C (.v (.int .u64 9223372036854775808))), none⟩,
   ⟨(some (.E 6)), .mv (.E 5), none⟩,
   ⟨(some (.E 7)), .faddr 0 (.V 1), some ((.E 6), true)⟩,
   ⟨(some (.E 8)), .load false 1 (.E 7), some ((.E 6), true)⟩,
   ⟨(some (.E 9)), .un .not (.E 8), some ((.E 6), true)⟩,
   ⟨(some (.E 10)), .mv (.E 9), some ((.E 6), true)⟩,
   ⟨(some (.E 11)), .faddr 1 (.V 1), some ((.E 10), false)⟩,
   ⟨(some (.E 12)), .load false 1 (.E 11), some ((.E 10), false)⟩,
   ⟨(some (.E 13)), .bin .gtr (.E 12) (.C (.v (.int .u64 0))), some ((.E 10), false)⟩,
   ⟨(some (.E 14)), .pick (.E 10) (kb true) (.E 13), some ((.E 6), true)⟩,
   ⟨(some (.E 15)), .mv (.E 14), some ((.E 6), true)⟩,
   ⟨(some (.E 16)), .faddr 2 (.V 1), some ((.E 15), false)⟩,
   ⟨(some (.E 17)), .load false 1 (.E 16), some ((.E 15), false)⟩,
   ⟨(some (.E 18)), .bin .gtr (.E 17) (.C (.v (.int .u64 0))), some ((.E 15), false)⟩,
   ⟨(some (.E 19)), .pick (.E 15) (kb true) (.E 18), some ((.E 6), true)⟩,
   ⟨(some (.E 20)), .pick (.E 6) (.E 19) (kb false), none⟩,
   ⟨(some (.V 2)), .mv (.E 20), none⟩])
 (.ret))

def k_spec_WideOk_rv : List RV := [.tmp [0] 2]

def k_spec_l3Abs_vars : List Nat := [0, 2]

def k_spec_l3Abs_ic : IC :=
 .seq (.reg [⟨(some (.V 2)), .mv (.C (.v (.int .u64 0))), none⟩])
 (.seq (.seq (.reg [⟨(some (.E 3)), .mv (.V 0), none⟩,
   ⟨(some (.E 4)), .bin .lss (.E 3) (ki 0), none⟩])
 (.cond (.E 4)
  (.seq (.reg [⟨(some (.E 5)), .mv (.V 0), none⟩,
    ⟨(some (.E 6)), .bin .add (.E 5) (ki 1), none⟩,
    ⟨(some (.E 7)), .un .neg (.E 6), none⟩,
    ⟨(some (.E 8)), .convI .u64 (.E 7), none⟩,
    ⟨(some (.E 9)), .bin .add (.E 8) (.C (.v (.int .u64 1))), none⟩,
    ⟨(some (.V 2)), .mv (.E 9), none⟩])
  (.ret))
  (.skip)))
 (.seq (.reg [⟨(some (.E 10)), .mv (.V 0), none⟩,
   ⟨(some (.E 11)), .convI .u64 (.E 10), none⟩,
   ⟨(some (.V 2)), .mv (.E 11), none⟩])
 (.ret)))

def k_spec_l3Abs_rv : List RV := [.tmp [0] 2]

def k_spec_l3Product_vars : List Nat := [0, 1, 7, 9, 6, 10, 8, 11, 12, 4, 5]

def k_spec_l3Product_ic : IC :=
 .seq (.reg [⟨(some (.V 4)), .mv (.C (.v (.int .u64 0))), none⟩,
   ⟨(some (.V 5)), .mv (.C (.v (.int .u64 0))), none⟩])
 (.seq (.reg [⟨(some (.E 13)), .mv (.V 0), none⟩,
   ⟨(some (.E 14)), .bin .shr (.E 13) (.C (.v (.int .u64 32))), none⟩,
   ⟨(some (.V 6)), .mv (.E 14), none⟩])
 (.seq (.reg [⟨(some (.E 15)), .mv (.V 0), none⟩,
   ⟨(some (.E 16)), .bin .and (.E 15) (.C (.v (.int .u64 4294967295))), none⟩,
   ⟨(some (.V 7)), .mv (.E 16), none⟩])
 (.seq (.reg [⟨(some (.E 17)), .mv (.V 1), none⟩,
   ⟨(some (.E 18)), .bin .shr (.E 17) (.C (.v (.int .u64 32))), none⟩,
   ⟨(some (.V 8)), .mv (.E 18), none⟩])
 (.seq (.reg [⟨(some (.E 19)), .mv (.V 1), none⟩,
   ⟨(some (.E 20)), .bin .and (.E 19) (.C (.v (.int .u64 4294967295))), none⟩,
   ⟨(some (.V 9)), .mv (.E 20), none⟩])
 (.seq (.reg [⟨(some (.E 21)), .mv (.V 7), none⟩,
   ⟨(some (.E 22)), .mv (.V 9), none⟩,
   ⟨(some (.E 23)), .bin .mul (.E 21) (.E 22), none⟩,
   ⟨(some (.V 10)), .mv (.E 23), none⟩])
 (.seq (.reg [⟨(some (.E 24)), .mv (.V 6), none⟩,
   ⟨(some (.E 25)), .mv (.V 9), none⟩,
   ⟨(some (.E 26)), .bin .mul (.E 24) (.E 25), none⟩,
   ⟨(some (.E 27)), .mv (.V 10), none⟩,
   ⟨(some (.E 28)), .bin .shr (.E 27) (.C (.v (.int .u64 32))), none⟩,
   ⟨(some (.E 29)), .bin .add (.E 26) (.E 28), none⟩,
   ⟨(some (.V 11)), .mv (.E 29), none⟩])
 (.seq (.reg [⟨(some (.E 30)), .mv (.V 7), none⟩,
   ⟨(some (.E 31)), .mv (.V 8), none⟩,
   ⟨(some (.E 32)), .bin .mul (.E 30) (.E 31), none⟩,
   ⟨(some (.E 33)), .mv (.V 11), none⟩,
   ⟨(some (.E 34)), .bin .and (.E 33) (.C (.v (.int .u64 4294967295))), none⟩,
   ⟨(some (.E 35)), .bin .add (.E 32) (.E 34), none⟩,
   ⟨(some (.V 12)), .mv (.E 35), none⟩])
 (.seq (.reg [⟨(some (.E 36)), .mv (.V 6), none⟩,
   ⟨(some (.E 37)), .mv (.V 8), none⟩,
   ⟨(some (.E 38)), .bin .mul (.E 36) (.E 37), none⟩,
   ⟨(some (.E 39)), .mv (.V 11), none⟩,
   ⟨(some (.E 40)), .bin .shr (.E 39) (.C (.v (.int .u64 32))), none⟩,
   ⟨(some (.E 41)), .bin .add (.E 38) (.E 40), none⟩,
   ⟨(some (.E 42)), .mv (.V 12), none⟩,
   ⟨(some (.E 43)), .bin .shr (.E 42) (.C (.v (.int .u64 32))), none⟩,
   ⟨(some (.E 44)), .bin .add (.E 41) (.E 43), none⟩,
   ⟨(some (.E 45)), .mv (.V 12), none⟩,
   ⟨(some (.E 46)), .bin .shl (.E 45) (.C (.v (.int .u64 32))), none⟩,
   ⟨(some (.E 47)), .mv (.V 10), none⟩,
   ⟨(some (.E 48)), .bin .and (.E 47) (.C (.v (.int .u64 4294967295))), none⟩,
   ⟨(some (.E 49)), .bin .add (.E 46) (.E 48), none⟩,
   ⟨(some (.V 4)), .mv (.E 44), none⟩,
   ⟨(some (.V 5)), .mv (.E 49), none⟩])
 (.ret)))))))))

def k_spec_l3Product_rv : List RV := [.tmp [0] 4, .tmp [0] 5]

def k_impl_areDecimals_1_vars : List Nat := [0, 2]

def k_impl_areDecimals_1_ic : IC :=
 .seq (.reg [⟨(some (.V 2)), .mv (kb false), none⟩])
 (.seq (.reg [⟨(some (.E 3)), .mv (.V 0), none⟩,
   ⟨(some (.E 4)), .call k_impl_isDecimal [([0], (.E 3))], none⟩,
   ⟨(some (.E 5)), .un .not (.E 4), none⟩,
   ⟨(some (.V 2)), .mv (.E 5), none⟩])
 (.ret))

def k_impl_areDecimals_1_rv : List RV := [.tmp [0] 2]

def k_spec_CutsOk_vars : List Nat := [0, 3, 2]

def k_spec_CutsOk_b0 : IC :=
 .seq (.seq (.reg [⟨(some (.E 4)), .mv (.V 3), none⟩,
   ⟨(some (.E 5)), .mv (.V 0), none⟩,
   ⟨(some (.E 6)), .len (.E 5), none⟩,
   ⟨(some (.E 7)), .bin .lss (.E 4) (.E 6), none⟩])
 (.cond (.E 7)
  (.skip)
  (.exit 0)))
 (.seq (.block 1 (.seq (.regD [(⟨(some (.E 10)), .mv (.V 0), none⟩, 0, 0),
    (⟨(some (.E 11)), .mv (.V 3), none⟩, 0, 0),
    (⟨(some (.E 12)), .iaddr 1 (.E 10) (.E 11), none⟩, 0, 0),
    (⟨(some (.E 13)), .load false 1 (.E 12), none⟩, 0, 0),
    (⟨(some (.E 14)), .call k_spec_l6Value [([0], (.E 13))], none⟩, 0, 0),
    (⟨(some (.E 15)), .un .not (.E 14), none⟩, 0, 0),
    (⟨(some (.E 16)), .mv (.E 15), none⟩, 0, 0),
    (⟨(some (.E 17)), .mv (.V 3), some ((.E 16), false)⟩, 0, 0),
    (⟨(some (.E 18)), .bin .gtr (.E 17) (ki 0), some ((.E 16), false)⟩, 0, 0),
    (⟨(some (.E 19)), .mv (.E 18), some ((.E 16), false)⟩, 0, 0),
    (⟨(some (.E 20)), .mv (.V 0), some ((.E 19), true)⟩, 0, 0),
    (⟨(some (.E 21)), .mv (.V 3), some ((.E 19), true)⟩, 0, 0),
    (⟨(some (.E 22)), .bin .sub (.E 21) (ki 1), some ((.E 19), true)⟩, 0, 0),
    (⟨(some (.E 23)), .iaddr 1 (.E 20) (.E 22), some ((.E 19), true)⟩, 0, 0),
    (⟨(some (.E 24)), .load false 1 (.E 23), some ((.E 19), true)⟩, 0, 0),
    (⟨(some (.E 25)), .mv (.V 0), some ((.E 19), true)⟩, 0, 0),
    (⟨(some (.E 26)), .mv (.V 3), some ((.E 19), true)⟩, 0, 0),
    (⟨(some (.E 27)), .iaddr 1 (.E 25) (.E 26), some ((.E 19), true)⟩, 0, 0),
    (⟨(some (.E 28)), .load false 1 (.E 27), some ((.E 19), true)⟩, 0, 0),
    (⟨(some (.E 29)), .bin .geq (.E 24) (.E 28), some ((.E 19), true)⟩, 0, 0),
    (⟨(some (.E 30)), .pick (.E 19) (.E 29) (kb false), some ((.E 16), false)⟩, 0, 0),
    (⟨(some (.E 31)), .pick (.E 16) (kb true) (.E 30), none⟩, 0, 0)])
  (.cond (.E 31)
   (.seq (.reg [⟨(some (.V 2)), .mv (kb false), none⟩])
   (.ret))
   (.skip))))
 (.reg [⟨(some (.E 8)), .mv (.V 3), none⟩,
   ⟨(some (.E 9)), .bin .add (.E 8) (ki 1), none⟩,
   ⟨(some (.V 3)), .mv (.E 9), none⟩]))

def k_spec_CutsOk_ic : IC :=
 .seq (.reg [⟨(some (.V 2)), .mv (kb false), none⟩])
 (.seq (.seq (.reg [⟨(some (.V 3)), .mv (ki 0), none⟩])
 (.block 0 (.loop k_spec_CutsOk_b0)))
 (.seq (.reg [⟨(some (.E 32)), .mv (.V 0), none⟩,
   ⟨(some (.E 33)), .len (.E 32), none⟩,
   ⟨(some (.E 34)), .bin .leq (.E 33) (ki 7), none⟩,
   ⟨(some (.V 2)), .mv (.E 34), none⟩])
 (.ret)))

def k_spec_CutsOk_rv : List RV := [.tmp [0] 2]

def k_impl_CutsOk_vars : List Nat := [0, 3, 2]

def k_impl_CutsOk_b0 : IC :=
 .seq (.seq (.reg [⟨(some (.E 4)), .mv (.V 3), none⟩,
   ⟨(some (.E 5)), .mv (.V 0), none⟩,
   ⟨(some (.E 6)), .len (.E 5), none⟩,
   ⟨(some (.E 7)), .bin .lss (.E 4) (.E 6), none⟩])
 (.cond (.E 7)
  (.skip)
  (.exit 0)))
 (.seq (.block 1 (.seq (.regD [(⟨(some (.E 10)), .mv (.V 0), none⟩, 0, 0),
    (⟨(some (.E 11)), .mv (.V 3), none⟩, 0, 0),
    (⟨(some (.E 12)), .bin .sub (.E 11) (ki 1), none⟩, 0, 0),
    (⟨(some (.E 13)), .iaddr 1 (.E 10) (.E 12), none⟩, 0, 0),
    (⟨(some (.E 14)), .load false 1 (.E 13), none⟩, 0, 0),
    (⟨(some (.E 15)), .mv (.V 0), none⟩, 0, 0),
    (⟨(some (.E 16)), .mv (.V 3), none⟩, 0, 0),
    (⟨(some (.E 17)), .iaddr 1 (.E 15) (.E 16), none⟩, 0, 0),
    (⟨(some (.E 18)), .load false 1 (.E 17), none⟩, 0, 0),
    (⟨(some (.E 19)), .bin .geq (.E 14) (.E 18), none⟩, 0, 0)])
  (.cond (.E 19)
   (.seq (.reg [⟨(some (.V 2)), .mv (kb false), none⟩])
   (.ret))
   (.skip))))
 (.reg [⟨(some (.E 8)), .mv (.V 3), none⟩,
   ⟨(some (.E 9)), .bin .add (.E 8) (ki 1), none⟩,
   ⟨(some (.V 3)), .mv (.E 9), none⟩]))

def k_impl_CutsOk_ic : IC :=
 .seq (.reg [⟨(some (.V 2)), .mv (kb false), none⟩])
 (.seq (.seq (.reg [⟨(some (.V 3)), .mv (ki 1), none⟩])
 (.block 0 (.loop k_impl_CutsOk_b0)))
 (.seq (.reg [⟨(some (.E 20)), .mv (.V 0), none⟩,
   ⟨(some (.E 21)), .len (.E 20), none⟩,
   ⟨(some (.E 22)), .bin .leq (.E 21) (ki 7), none⟩,
   ⟨(some (.E 23)), .mv (.E 22), none⟩,
   ⟨(some (.E 24)), .mv (.V 0), some ((.E 23), true)⟩,
   ⟨(some (.E 25)), .call k_impl_areDecimals [([1], (.E 24))], some ((.E 23), true)⟩,
   ⟨(some (.E 26)), .pick (.E 23) (.E 25) (kb false), none⟩,
   ⟨(some (.V 2)), .mv (.E 26), none⟩])
 (.ret)))

def k_impl_CutsOk_rv : List RV := [.tmp [0] 2]

def k_impl_GridOk_1_vars : List Nat := [0, 1, 3]

def k_impl_GridOk_1_ic : IC :=
 .seq (.reg [⟨(some (.V 3)), .mv (kb false), none⟩])
 (.seq (.reg [⟨(some (.E 4)), .mv (.V 0), none⟩,
   ⟨(some (.E 5)), .load false 1 (.V 1), none⟩,
   ⟨(some (.E 6)), .len (.E 5), none⟩,
   ⟨(some (.E 7)), .call k_impl_within [([0], (.E 4)), ([0], (ki 0)), ([0], (.E 6))], none⟩,
   ⟨(some (.E 8)), .un .not (.E 7), none⟩,
   ⟨(some (.V 3)), .mv (.E 8), none⟩])
 (.ret))

def k_impl_GridOk_1_rv : List RV := [.tmp [0] 3]

def k_impl_SubInt_vars : List Nat := [0, 1, 6, 4, 5]

def k_impl_SubInt_ic : IC :=
 .seq (.reg [⟨(some (.V 4)), .mv (ki 0), none⟩,
   ⟨(some (.V 5)), .mv (kb false), none⟩])
 (.seq (.reg [⟨(some (.E 7)), .mv (.V 0), none⟩,
   ⟨(some (.E 8)), .mv (.V 1), none⟩,
   ⟨(some (.E 9)), .bin .sub (.E 7) (.E 8), none⟩,
   ⟨(some (.V 6)), .mv (.E 9), none⟩])
 (.seq (.seq (.reg [⟨(some (.E 10)), .mv (.V 0), none⟩,
   ⟨(some (.E 11)), .bin .lss (.E 10) (ki 0), none⟩,
   ⟨(some (.E 12)), .mv (.V 1), none⟩,
   ⟨(some (.E 13)), .bin .lss (.E 12) (ki 0), none⟩,
   ⟨(some (.E 14)), .eqb true [.b] (.E 11) (.E 13), none⟩,
   ⟨(some (.E 15)), .mv (.E 14), none⟩,
   ⟨(some (.E 16)), .mv (.V 6), some ((.E 15), true)⟩,
   ⟨(some (.E 17)), .bin .lss (.E 16) (ki 0), some ((.E 15), true)⟩,
   ⟨(some (.E 18)), .mv (.V 0), some ((.E 15), true)⟩,
   ⟨(some (.E 19)), .bin .lss (.E 18) (ki 0), some ((.E 15), true)⟩,
   ⟨(some (.E 20)), .eqb true [.b] (.E 17) (.E 19), some ((.E 15), true)⟩,
   ⟨(some (.E 21)), .pick (.E 15) (.E 20) (kb false), none⟩])
 (.cond (.E 21)
  (.seq (.reg [⟨(some (.V 4)), .mv (ki 0), none⟩,
    ⟨(some (.V 5)), .mv (kb false), none⟩])
  (.ret))
  (.skip)))
 (.seq (.reg [⟨(some (.E 22)), .mv (.V 6), none⟩,
   ⟨(some (.V 4)), .mv (.E 22), none⟩,
   ⟨(some (.V 5)), .mv (kb true), none⟩])
 (.ret))))

def k_impl_SubInt_rv : List RV := [.tmp [0] 4, .tmp [0] 5]

def k_spec_l14Leaf_vars : List Nat := [0, 2]

def k_spec_l14Leaf_ic : IC :=
 .seq (.reg [⟨(some (.V 2)), .mv (kb false), none⟩])
 (.seq (.reg [⟨(some (.E 3)), .mv (.V 0), none⟩,
   ⟨(some (.E 4)), .call k_spec_l1In [([0], (.E 3)), ([0], (ki (-1099511627776))), ([0], (ki 1099511627776))], none⟩,
   ⟨(some (.V 2)), .mv (.E 4), none⟩])
 (.ret))

def k_spec_l14Leaf_rv : List RV := [.tmp [0] 2]

def k_impl_isLeafValue_vars : List Nat := [0, 2]

def k_impl_isLeafValue_ic : IC :=
 .seq (.reg [⟨(some (.V 2)), .mv (kb false), none⟩])
 (.seq (.reg [⟨(some (.E 3)), .mv (.V 0), none⟩,
   ⟨(some (.E 4)), .call k_impl_within [([0], (.E 3)), ([0], (ki (-1099511627776))), ([0], (ki 1099511627776))], none⟩,
   ⟨(some (.V 2)), .mv (.E 4), none⟩])
 (.ret))

def k_impl_isLeafValue_rv : List RV := [.tmp [0] 2]

def k_impl_MulWide_vars : List Nat := [0, 1, 5, 6, 4]

def k_impl_MulWide_ic : IC :=
 .seq (.reg [⟨(some (.V 4)), .alloc [(.v (.bool false)), (.v (.int .u64 0)), (.v (.int .u64 0))], none⟩])
 (.seq (.reg [⟨(some (.E 8)), .mv (.V 0), none⟩,
   ⟨(some (.E 9)), .call k_impl_size [([0], (.E 8))], none⟩,
   ⟨(some (.E 10)), .mv (.V 1), none⟩,
   ⟨(some (.E 11)), .call k_impl_size [([0], (.E 10))], none⟩,
   ⟨(some (.E 12)), .call k_math_bits_Mul64 [([0], (.E 9)), ([0], (.E 11))], none⟩,
   ⟨(some (.E 7)), .mv (.E 12), none⟩,
   ⟨(some (.E 13)), .ext 0 (.E 7), none⟩,
   ⟨(some (.E 14)), .ext 1 (.E 7), none⟩,
   ⟨(some (.V 5)), .mv (.E 13), none⟩,
   ⟨(some (.V 6)), .mv (.E 14), none⟩])
 (.seq (.reg [⟨(some (.E 15)), .mv (.V 0), none⟩,
   ⟨(some (.E 16)), .bin .lss (.E 15) (ki 0), none⟩,
   ⟨(some (.E 17)), .mv (.V 1), none⟩,
   ⟨(some (.E 18)), .bin .lss (.E 17) (ki 0), none⟩,
   ⟨(some (.E 19)), .eqb true [.b] (.E 16) (.E 18), none⟩,
   ⟨(some (.E 20)), .mv (.V 5), none⟩,
   ⟨(some (.E 21)), .mv (.V 6), none⟩,
   ⟨(some (.E 22)), .call k_impl_wideOf [([0], (.E 19)), ([0], (.E 20)), ([0], (.E 21))], none⟩,
   ⟨none, .store [0, 0, 0] (.V 4) (.E 22), none⟩])
 (.ret)))

def k_impl_MulWide_rv : List RV := [.cell [0, 0, 0] 4 true]

def k_impl_WideOk_vars : List Nat := [0, 1, 2]

def k_impl_WideOk_ic : IC :=
 .seq (.reg [⟨(some (.V 1)), .box (.V 0), none⟩,
   ⟨(some (.V 2)), .mv (kb false), none⟩])
 (.seq (.reg [⟨(some (.E 3)), .faddr 1 (.V 1), none⟩,
   ⟨(some (.E 4)), .load false 1 (.E 3), none⟩,
   ⟨(some (.E 5)), .bin .lss (.E 4) (.C (.v (.int .u64 9223372036854775808))), none⟩,
   ⟨(some (.E 6)), .mv (.E 5), none⟩,
   ⟨(some (.E 7)), .faddr 0 (.V 1), some ((.E 6), true)⟩,
   ⟨(some (.E 8)), .load false 1 (.E 7), some ((.E 6), true)⟩,
   ⟨(some (.E 9)), .un .not (.E 8), some ((.E 6), true)⟩,
   ⟨(some (.E 10)), .mv (.E 9), some ((.E 6), true)⟩,
   ⟨(some (.E 11)), .faddr 1 (.V 1), some ((.E 10), false)⟩,
   ⟨(some (.E 12)), .load false 1 (.E 11), some ((.E 10), false)⟩,
   ⟨(some (.E 13)), .bin .gtr (.E 12) (.C (.v (.int .u64 0))), some ((.E 10), false)⟩,
   ⟨(some (.E 14)), .pick (.E 10) (kb true) (.E 13), some ((.E 6), true)⟩,
   ⟨(some (.E 15)), .mv (.E 14), some ((.E 6), true)⟩,
   ⟨(some (.E 16)), .faddr 2 (.V 1), some ((.E 15), false)⟩,
   ⟨(some (.E 17)), .load false 1 (.E 16), some ((.E 15), false)⟩,
   ⟨(some (.E 18)), .bin .gtr (.E 17) (.C (.v (.int .u64 0))), some ((.E 15), false)⟩,
   ⟨(some (.E 19)), .pick (.E 15) (kb true) (.E 18), some ((.E 6), true)⟩,
   ⟨(some (.E 20)), .pick (.E 6) (.E 19) (kb false), none⟩,
   ⟨(some (.V 2)), .mv (.E 20), none⟩])
 (.ret))

def k_impl_WideOk_rv : List RV := [.tmp [0] 2]

def k_impl_size_vars : List Nat := [0, 2]

def k_impl_size_ic : IC :=
 .seq (.reg [⟨(some (.V 2)), .mv (.C (.v (.int .u64 0))), none⟩])
 (.seq (.seq (.reg [⟨(some (.E 3)), .mv (.V 0), none⟩,
   ⟨(some (.E 4)), .bin .lss (.E 3) (ki 0), none⟩])
 (.cond (.E 4)
  (.seq (.reg [⟨(some (.E 5)), .mv (.V 0), none⟩,
    ⟨(some (.E 6)), .convI .u64 (.E 5), none⟩,
    ⟨(some (.E 7)), .un .neg (.E 6), none⟩,
    ⟨(some (.V 2)), .mv (.E 7), none⟩])
  (.ret))
  (.skip)))
 (.seq (.reg [⟨(some (.E 8)), .mv (.V 0), none⟩,
   ⟨(some (.E 9)), .convI .u64 (.E 8), none⟩,
   ⟨(some (.V 2)), .mv (.E 9), none⟩])
 (.ret)))

def k_impl_size_rv : List RV := [.tmp [0] 2]

def k_math_bits_Mul64_vars : List Nat := [0, 1, 6, 8, 7, 10, 11, 12, 9, 13, 4, 5]

def k_math_bits_Mul64_ic : IC :=
 .seq (.reg [⟨(some (.V 4)), .mv (.C (.v (.int .u64 0))), none⟩,
   ⟨(some (.V 5)), .mv (.C (.v (.int .u64 0))), none⟩])
 (.seq (.reg [⟨(some (.E 14)), .mv (.V 0), none⟩,
   ⟨(some (.E 15)), .bin .and (.E 14) (.C (.v (.int .u64 4294967295))), none⟩,
   ⟨(some (.V 6)), .mv (.E 15), none⟩])
 (.seq (.reg [⟨(some (.E 16)), .mv (.V 0), none⟩,
   ⟨(some (.E 17)), .bin .shr (.E 16) (.C (.v (.int .u64 32))), none⟩,
   ⟨(some (.V 7)), .mv (.E 17), none⟩])
 (.seq (.reg [⟨(some (.E 18)), .mv (.V 1), none⟩,
   ⟨(some (.E 19)), .bin .and (.E 18) (.C (.v (.int .u64 4294967295))), none⟩,
   ⟨(some (.V 8)), .mv (.E 19), none⟩])
 (.seq (.reg [⟨(some (.E 20)), .mv (.V 1), none⟩,
   ⟨(some (.E 21)), .bin .shr (.E 20) (.C (.v (.int .u64 32))), none⟩,
   ⟨(some (.V 9)), .mv (.E 21), none⟩])
 (.seq (.reg [⟨(some (.E 22)), .mv (.V 6), none⟩,
   ⟨(some (.E 23)), .mv (.V 8), none⟩,
   ⟨(some (.E 24)), .bin .mul (.E 22) (.E 23), none⟩,
   ⟨(some (.V 10)), .mv (.E 24), none⟩])
 (.seq (.reg [⟨(some (.E 25)), .mv (.V 7), none⟩,
   ⟨(some (.E 26)), .mv (.V 8), none⟩,
   ⟨(some (.E 27)), .bin .mul (.E 25) (.E 26), none⟩,
   ⟨(some (.E 28)), .mv (.V 10), none⟩,
   ⟨(some (.E 29)), .bin .shr (.E 28) (.C (.v (.int .u64 32))), none⟩,
   ⟨(some (.E 30)), .bin .add (.E 27) (.E 29), none⟩,
   ⟨(some (.V 11)), .mv (.E 30), none⟩])
 (.seq (.reg [⟨(some (.E 31)), .mv (.V 11), none⟩,
   ⟨(some (.E 32)), .bin .and (.E 31) (.C (.v (.int .u64 4294967295))), none⟩,
   ⟨(some (.V 12)), .mv (.E 32), none⟩])
 (.seq (.reg [⟨(some (.E 33)), .mv (.V 11), none⟩,
   ⟨(some (.E 34)), .bin .shr (.E 33) (.C (.v (.int .u64 32))), none⟩,
   ⟨(some (.V 13)), .mv (.E 34), none⟩])
 (.seq (.reg [⟨(some (.E 35)), .mv (.V 12), none⟩,
   ⟨(some (.E 36)), .mv (.V 6), none⟩,
   ⟨(some (.E 37)), .mv (.V 9), none⟩,
   ⟨(some (.E 38)), .bin .mul (.E 36) (.E 37), none⟩,
   ⟨(some (.E 39)), .bin .add (.E 35) (.E 38), none⟩,
   ⟨(some (.V 12)), .mv (.E 39), none⟩])
 (.seq (.reg [⟨(some (.E 40)), .mv (.V 7), none⟩,
   ⟨(some (.E 41)), .mv (.V 9), none⟩,
   ⟨(some (.E 42)), .bin .mul (.E 40) (.E 41), none⟩,
   ⟨(some (.E 43)), .mv (.V 13), none⟩,
   ⟨(some (.E 44)), .bin .add (.E 42) (.E 43), none⟩,
   ⟨(some (.E 45)), .mv (.V 12), none⟩,
   ⟨(some (.E 46)), .bin .shr (.E 45) (.C (.v (.int .u64 32))), none⟩,
   ⟨(some (.E 47)), .bin .add (.E 44) (.E 46), none⟩,
   ⟨(some (.V 4)), .mv (.E 47), none⟩])
 (.seq (.reg [⟨(some (.E 48)), .mv (.V 0), none⟩,
   ⟨(some (.E 49)), .mv (.V 1), none⟩,
   ⟨(some (.E 50)), .bin .mul (.E 48) (.E 49), none⟩,
   ⟨(some (.V 5)), .mv (.E 50), none⟩])
 (.ret))))))))))))

def k_math_bits_Mul64_rv : List RV := [.tmp [0] 4, .tmp [0] 5]

def k_cmp_Compare_uint64__vars : List Nat := [0, 1, 5, 6, 4]

def k_cmp_Compare_uint64__ic : IC :=
 .seq (.reg [⟨(some (.V 4)), .mv (ki 0), none⟩])
 (.seq (.reg [⟨(some (.E 7)), .mv (.V 0), none⟩,
   ⟨(some (.E 8)), .call k_cmp_isNaN_uint64_ [([0], (.E 7))], none⟩,
   ⟨(some (.V 5)), .mv (.E 8), none⟩])
 (.seq (.reg [⟨(some (.E 9)), .mv (.V 1), none⟩,
   ⟨(some (.E 10)), .call k_cmp_isNaN_uint64_ [([0], (.E 9))], none⟩,
   ⟨(some (.V 6)), .mv (.E 10), none⟩])
 (.seq (.seq (.reg [⟨(some (.E 11)), .mv (.V 5), none⟩])
 (.cond (.E 11)
  (.seq (.seq (.reg [⟨(some (.E 12)), .mv (.V 6), none⟩])
  (.cond (.E 12)
   (.seq (.reg [⟨(some (.V 4)), .mv (ki 0), none⟩])
   (.ret))
   (.skip)))
  (.seq (.reg [⟨(some (.V 4)), .mv (ki (-1)), none⟩])
  (.ret)))
  (.skip)))
 (.seq (.seq (.reg [⟨(some (.E 13)), .mv (.V 6), none⟩])
 (.cond (.E 13)
  (.seq (.reg [⟨(some (.V 4)), .mv (ki 1), none⟩])
  (.ret))
  (.skip)))
 (.seq (.seq (.reg [⟨(some (.E 14)), .mv (.V 0), none⟩,
   ⟨(some (.E 15)), .mv (.V 1), none⟩,
   ⟨(some (.E 16)), .bin .lss (.E 14) (.E 15), none⟩])
 (.cond (.E 16)
  (.seq (.reg [⟨(some (.V 4)), .mv (ki (-1)), none⟩])
  (.ret))
  (.skip)))
 (.seq (.seq (.reg [⟨(some (.E 17)), .mv (.V 0), none⟩,
   ⟨(some (.E 18)), .mv (.V 1), none⟩,
   ⟨(some (.E 19)), .bin .gtr (.E 17) (.E 18), none⟩])
 (.cond (.E 19)
  (.seq (.reg [⟨(some (.V 4)), .mv (ki 1), none⟩])
  (.ret))
  (.skip)))
 (.seq (.reg [⟨(some (.V 4)), .mv (ki 0), none⟩])
 (.ret))))))))

def k_cmp_Compare_uint64__rv : List RV := [.tmp [0] 4]

def k_cmp_isNaN_uint64__vars : List Nat := [0, 2]

def k_cmp_isNaN_uint64__ic : IC :=
 .seq (.reg [⟨(some (.V 2)), .mv (kb false), none⟩])
 (.seq (.reg [⟨(some (.E 3)), .mv (.V 0), none⟩,
   ⟨(some (.E 4)), .mv (.V 0), none⟩,
   ⟨(some (.E 5)), .bin .neq (.E 3) (.E 4), none⟩,
   ⟨(some (.V 2)), .mv (.E 5), none⟩])
 (.ret))

def k_cmp_isNaN_uint64__rv : List RV := [.tmp [0] 2]

def tbl : List (Nat × Fun) := [
  (k_laws_FnExactPartOf, fnOf k_laws_FnExactPartOf_ic k_laws_FnExactPartOf_rv []),
  (k_impl_BestOf, fnOf k_impl_BestOf_ic k_impl_BestOf_rv []),
  (k_spec_BestOf, fnOf k_spec_BestOf_ic k_spec_BestOf_rv []),
  (k_impl_MayPart, fnOf k_impl_MayPart_ic k_impl_MayPart_rv []),
  (k_spec_MayPart, fnOf k_spec_MayPart_ic k_spec_MayPart_rv []),
  (k_impl_Better, fnOf k_impl_Better_ic k_impl_Better_rv []),
  (k_spec_GainOf, fnOf k_spec_GainOf_ic k_spec_GainOf_rv []),
  (k_spec_CompareFrac, fnOf k_spec_CompareFrac_ic k_spec_CompareFrac_rv []),
  (k_laws_szConfig, fnOf k_laws_szConfig_ic k_laws_szConfig_rv []),
  (k_laws_toConfig, fnOf k_laws_toConfig_ic k_laws_toConfig_rv []),
  (k_laws_eqConfig, fnOf k_laws_eqConfig_ic k_laws_eqConfig_rv []),
  (k_laws_szGrid, fnOf k_laws_szGrid_ic k_laws_szGrid_rv []),
  (k_laws_toGrid, fnOf k_laws_toGrid_ic k_laws_toGrid_rv []),
  (k_laws_toIntS, fnOf k_laws_toIntS_ic k_laws_toIntS_rv []),
  (k_laws_eqGrid, fnOf k_laws_eqGrid_ic k_laws_eqGrid_rv []),
  (k_laws_eqIntS, fnOf k_laws_eqIntS_ic k_laws_eqIntS_rv []),
  (k_spec_PartOf, fnOf k_spec_PartOf_ic k_spec_PartOf_rv []),
  (k_laws_toBound, fnOf k_laws_toBound_ic k_laws_toBound_rv []),
  (k_impl_PartOf, fnOf k_impl_PartOf_ic k_impl_PartOf_rv []),
  (k_laws_eqCand, fnOf k_laws_eqCand_ic k_laws_eqCand_rv []),
  (k_spec_Better, fnOf k_spec_Better_ic k_spec_Better_rv []),
  (k_impl_SideValues, fnOf k_impl_SideValues_ic k_impl_SideValues_rv []),
  (k_impl_ConfigOk, fnOf k_impl_ConfigOk_ic k_impl_ConfigOk_rv []),
  (k_impl_Agrees, fnOf k_impl_Agrees_ic k_impl_Agrees_rv []),
  (k_impl_SignFor, fnOf k_impl_SignFor_ic k_impl_SignFor_rv []),
  (k_impl_Improves, fnOf k_impl_Improves_ic k_impl_Improves_rv []),
  (k_spec_SideValues, fnOf k_spec_SideValues_ic k_spec_SideValues_rv []),
  (k_spec_ConfigOk, fnOf k_spec_ConfigOk_ic k_spec_ConfigOk_rv []),
  (k_spec_Agrees, fnOf k_spec_Agrees_ic k_spec_Agrees_rv []),
  (k_spec_SignFor, fnOf k_spec_SignFor_ic k_spec_SignFor_rv []),
  (k_spec_Improves, fnOf k_spec_Improves_ic k_spec_Improves_rv []),
  (k_impl_GainOf, fnOf k_impl_GainOf_ic k_impl_GainOf_rv []),
  (k_impl_CompareFrac, fnOf k_impl_CompareFrac_ic k_impl_CompareFrac_rv []),
  (k_impl_CandLess, fnOf k_impl_CandLess_ic k_impl_CandLess_rv []),
  (k_spec_PlainGain, fnOf k_spec_PlainGain_ic k_spec_PlainGain_rv []),
  (k_spec_AddFrac, fnOf k_spec_AddFrac_ic k_spec_AddFrac_rv []),
  (k_spec_l5Cross, fnOf k_spec_l5Cross_ic k_spec_l5Cross_rv []),
  (k_spec_CompareWide, fnOf k_spec_CompareWide_ic k_spec_CompareWide_rv []),
  (k_laws_szIntSS, fnOf k_laws_szIntSS_ic k_laws_szIntSS_rv []),
  (k_laws_szIntS, fnOf k_laws_szIntS_ic k_laws_szIntS_rv []),
  (k_laws_toIntSS, fnOf k_laws_toIntSS_ic k_laws_toIntSS_rv []),
  (k_laws_eqIntSS, fnOf k_laws_eqIntSS_ic k_laws_eqIntSS_rv []),
  (k_spec_TaskOk, fnOf k_spec_TaskOk_ic k_spec_TaskOk_rv []),
  (k_impl_TaskOk, fnOf k_impl_TaskOk_ic k_impl_TaskOk_rv []),
  (k_impl_RowsIn, fnOf k_impl_RowsIn_ic k_impl_RowsIn_rv []),
  (k_spec_NodeHists, fnOf k_spec_NodeHists_ic k_spec_NodeHists_rv []),
  (k_spec_CandsOf, fnOf k_spec_CandsOf_ic k_spec_CandsOf_rv []),
  (k_impl_NodeHists, fnOf k_impl_NodeHists_ic k_impl_NodeHists_rv []),
  (k_impl_CandsOf, fnOf k_impl_CandsOf_ic k_impl_CandsOf_rv []),
  (k_laws_eqSlot, fnOf k_laws_eqSlot_ic k_laws_eqSlot_rv []),
  (k_spec_l1In, fnOf k_spec_l1In_ic k_spec_l1In_rv []),
  (k_spec_LeafOf, fnOf k_spec_LeafOf_ic k_spec_LeafOf_rv []),
  (k_impl_LeafOf, fnOf k_impl_LeafOf_ic k_impl_LeafOf_rv []),
  (k_spec_CandLess, fnOf k_spec_CandLess_ic k_spec_CandLess_rv []),
  (k_impl_within, fnOf k_impl_within_ic k_impl_within_rv []),
  (k_slices_ContainsFunc___int_int_, fnOf k_slices_ContainsFunc___int_int__ic k_slices_ContainsFunc___int_int__rv []),
  (k_impl_ConfigOk_1, fnOf k_impl_ConfigOk_1_ic k_impl_ConfigOk_1_rv []),
  (k_impl_isSign, fnOf k_impl_isSign_ic k_impl_isSign_rv []),
  (k_impl_BothOf, fnOf k_impl_BothOf_ic k_impl_BothOf_rv []),
  (k_impl_PlainGain, fnOf k_impl_PlainGain_ic k_impl_PlainGain_rv []),
  (k_spec_l8Numbers, fnOf k_spec_l8Numbers_ic k_spec_l8Numbers_rv []),
  (k_spec_l8Least, fnOf k_spec_l8Least_ic k_spec_l8Least_rv []),
  (k_spec_l8Most, fnOf k_spec_l8Most_ic k_spec_l8Most_rv []),
  (k_spec_BothOf, fnOf k_spec_BothOf_ic k_spec_BothOf_rv []),
  (k_impl_AddFrac, fnOf k_impl_AddFrac_ic k_impl_AddFrac_rv []),
  (k_impl_crossed, fnOf k_impl_crossed_ic k_impl_crossed_rv []),
  (k_impl_CompareWide, fnOf k_impl_CompareWide_ic k_impl_CompareWide_rv []),
  (k_cmp_Or_int_, fnOf k_cmp_Or_int__ic k_cmp_Or_int__rv []),
  (k_cmp_Compare_int_, fnOf k_cmp_Compare_int__ic k_cmp_Compare_int__rv []),
  (k_spec_SquareOver, fnOf k_spec_SquareOver_ic k_spec_SquareOver_rv []),
  (k_spec_AddWide, fnOf k_spec_AddWide_ic k_spec_AddWide_rv []),
  (k_spec_FracOk, fnOf k_spec_FracOk_ic k_spec_FracOk_rv []),
  (k_spec_ScaleWide, fnOf k_spec_ScaleWide_ic k_spec_ScaleWide_rv []),
  (k_spec_l3Zero, fnOf k_spec_l3Zero_ic k_spec_l3Zero_rv []),
  (k_spec_l3Order, fnOf k_spec_l3Order_ic k_spec_l3Order_rv []),
  (k_spec_l6Value, fnOf k_spec_l6Value_ic k_spec_l6Value_rv []),
  (k_spec_AddInt, fnOf k_spec_AddInt_ic k_spec_AddInt_rv []),
  (k_spec_FloorDiv, fnOf k_spec_FloorDiv_ic k_spec_FloorDiv_rv []),
  (k_impl_areDecimals, fnOf k_impl_areDecimals_ic k_impl_areDecimals_rv []),
  (k_impl_AddInt, fnOf k_impl_AddInt_ic k_impl_AddInt_rv []),
  (k_impl_FloorDiv, fnOf k_impl_FloorDiv_ic k_impl_FloorDiv_rv []),
  (k_impl_isDecimal, fnOf k_impl_isDecimal_ic k_impl_isDecimal_rv []),
  (k_spec_GridOk, fnOf k_spec_GridOk_ic k_spec_GridOk_rv []),
  (k_spec_RowsIn, fnOf k_spec_RowsIn_ic k_spec_RowsIn_rv []),
  (k_impl_GridOk, fnOf k_impl_GridOk_ic k_impl_GridOk_rv []),
  (k_impl_TaskOk_1, fnOf k_impl_TaskOk_1_ic k_impl_TaskOk_1_rv []),
  (k_spec_HistOf, fnOf k_spec_HistOf_ic k_spec_HistOf_rv []),
  (k_spec_Prefix, fnOf k_spec_Prefix_ic k_spec_Prefix_rv []),
  (k_spec_SubInt, fnOf k_spec_SubInt_ic k_spec_SubInt_rv []),
  (k_impl_HistOf, fnOf k_impl_HistOf_ic k_impl_HistOf_rv []),
  (k_impl_Prefix, fnOf k_impl_Prefix_ic k_impl_Prefix_rv []),
  (k__impl_Slot__minus, fnOf k__impl_Slot__minus_ic k__impl_Slot__minus_rv []),
  (k_spec_BoundOk, fnOf k_spec_BoundOk_ic k_spec_BoundOk_rv []),
  (k_spec_Brought, fnOf k_spec_Brought_ic k_spec_Brought_rv []),
  (k_impl_isCount, fnOf k_impl_isCount_ic k_impl_isCount_rv []),
  (k_impl_BoundOk, fnOf k_impl_BoundOk_ic k_impl_BoundOk_rv []),
  (k_impl_Brought, fnOf k_impl_Brought_ic k_impl_Brought_rv []),
  (k_slices_IndexFunc___int_int_, fnOf k_slices_IndexFunc___int_int__ic k_slices_IndexFunc___int_int__rv []),
  (k__impl_Slot__plus, fnOf k__impl_Slot__plus_ic k__impl_Slot__plus_rv []),
  (k_impl_SquareOver, fnOf k_impl_SquareOver_ic k_impl_SquareOver_rv []),
  (k_spec_l13Add, fnOf k_spec_l13Add_ic k_spec_l13Add_rv []),
  (k_impl_AddWide, fnOf k_impl_AddWide_ic k_impl_AddWide_rv []),
  (k_impl_fracOf, fnOf k_impl_fracOf_ic k_impl_fracOf_rv []),
  (k_impl_FracOk, fnOf k_impl_FracOk_ic k_impl_FracOk_rv []),
  (k_impl_ScaleWide, fnOf k_impl_ScaleWide_ic k_impl_ScaleWide_rv []),
  (k_impl_wideOf, fnOf k_impl_wideOf_ic k_impl_wideOf_rv []),
  (k_impl_compareSizes, fnOf k_impl_compareSizes_ic k_impl_compareSizes_rv []),
  (k_cmp_isNaN_int_, fnOf k_cmp_isNaN_int__ic k_cmp_isNaN_int__rv []),
  (k_spec_MulWide, fnOf k_spec_MulWide_ic k_spec_MulWide_rv []),
  (k_spec_WideOk, fnOf k_spec_WideOk_ic k_spec_WideOk_rv []),
  (k_spec_l3Abs, fnOf k_spec_l3Abs_ic k_spec_l3Abs_rv []),
  (k_spec_l3Product, fnOf k_spec_l3Product_ic k_spec_l3Product_rv []),
  (k_impl_areDecimals_1, fnOf k_impl_areDecimals_1_ic k_impl_areDecimals_1_rv []),
  (k_spec_CutsOk, fnOf k_spec_CutsOk_ic k_spec_CutsOk_rv []),
  (k_impl_CutsOk, fnOf k_impl_CutsOk_ic k_impl_CutsOk_rv []),
  (k_impl_GridOk_1, fnOf k_impl_GridOk_1_ic k_impl_GridOk_1_rv []),
  (k_impl_SubInt, fnOf k_impl_SubInt_ic k_impl_SubInt_rv []),
  (k_spec_l14Leaf, fnOf k_spec_l14Leaf_ic k_spec_l14Leaf_rv []),
  (k_impl_isLeafValue, fnOf k_impl_isLeafValue_ic k_impl_isLeafValue_rv []),
  (k_impl_MulWide, fnOf k_impl_MulWide_ic k_impl_MulWide_rv []),
  (k_impl_WideOk, fnOf k_impl_WideOk_ic k_impl_WideOk_rv []),
  (k_math_bits_Sub64, .ext sub64G),
  (k_math_bits_Add64, .ext add64G),
  (k_impl_size, fnOf k_impl_size_ic k_impl_size_rv []),
  (k_math_bits_Mul64, fnOf k_math_bits_Mul64_ic k_math_bits_Mul64_rv []),
  (k_cmp_Compare_uint64_, fnOf k_cmp_Compare_uint64__ic k_cmp_Compare_uint64__rv []),
  (k_cmp_isNaN_uint64_, fnOf k_cmp_isNaN_uint64__ic k_cmp_isNaN_uint64__rv [])]

def T : Table := fun f => (tbl.find? fun q => q.1 == f).map fun q => q.2

theorem T_laws_FnExactPartOf : T k_laws_FnExactPartOf = some (fnOf k_laws_FnExactPartOf_ic k_laws_FnExactPartOf_rv []) := rfl

@[simp] theorem M_laws_FnExactPartOf : modesOf T k_laws_FnExactPartOf = [] := modesOf_code T_laws_FnExactPartOf

theorem T_impl_BestOf : T k_impl_BestOf = some (fnOf k_impl_BestOf_ic k_impl_BestOf_rv []) := rfl

@[simp] theorem M_impl_BestOf : modesOf T k_impl_BestOf = [] := modesOf_code T_impl_BestOf

theorem T_spec_BestOf : T k_spec_BestOf = some (fnOf k_spec_BestOf_ic k_spec_BestOf_rv []) := rfl

@[simp] theorem M_spec_BestOf : modesOf T k_spec_BestOf = [] := modesOf_code T_spec_BestOf

theorem T_impl_MayPart : T k_impl_MayPart = some (fnOf k_impl_MayPart_ic k_impl_MayPart_rv []) := rfl

@[simp] theorem M_impl_MayPart : modesOf T k_impl_MayPart = [] := modesOf_code T_impl_MayPart

theorem T_spec_MayPart : T k_spec_MayPart = some (fnOf k_spec_MayPart_ic k_spec_MayPart_rv []) := rfl

@[simp] theorem M_spec_MayPart : modesOf T k_spec_MayPart = [] := modesOf_code T_spec_MayPart

theorem T_impl_Better : T k_impl_Better = some (fnOf k_impl_Better_ic k_impl_Better_rv []) := rfl

@[simp] theorem M_impl_Better : modesOf T k_impl_Better = [] := modesOf_code T_impl_Better

theorem T_spec_GainOf : T k_spec_GainOf = some (fnOf k_spec_GainOf_ic k_spec_GainOf_rv []) := rfl

@[simp] theorem M_spec_GainOf : modesOf T k_spec_GainOf = [] := modesOf_code T_spec_GainOf

theorem T_spec_CompareFrac : T k_spec_CompareFrac = some (fnOf k_spec_CompareFrac_ic k_spec_CompareFrac_rv []) := rfl

@[simp] theorem M_spec_CompareFrac : modesOf T k_spec_CompareFrac = [] := modesOf_code T_spec_CompareFrac

theorem T_laws_szConfig : T k_laws_szConfig = some (fnOf k_laws_szConfig_ic k_laws_szConfig_rv []) := rfl

@[simp] theorem M_laws_szConfig : modesOf T k_laws_szConfig = [] := modesOf_code T_laws_szConfig

theorem T_laws_toConfig : T k_laws_toConfig = some (fnOf k_laws_toConfig_ic k_laws_toConfig_rv []) := rfl

end Go.Pe
