/- The compact texts of the functions that the law reaches; no condition. -/
import Derived.Test.YtoilifakgbifmaaEvA0
set_option linter.all false
namespace Go.Pe
open Go
def bs (l : List UInt8) : ByteArray := ⟨l.toArray⟩

def k_laws_FnNodeHists : Nat := 12

def k_spec_NodeHists : Nat := 31

def k_impl_NodeHists : Nat := 34

def k_laws_big : Nat := 70

def k_spec_DrawNodeHists : Nat := 71

def k_impl_TotalOf : Nat := 72

def k_spec_GridOk : Nat := 99

def k_spec_HistOf : Nat := 100

def k_impl_GridOk : Nat := 101

def k_impl_HistOf : Nat := 102

def k_spec_l1In : Nat := 106

def k_spec_l6Value : Nat := 107

def k_spec_NameOk : Nat := 108

def k_spec_l9Has : Nat := 109

def k_impl_within : Nat := 111

def k_slices_ContainsFunc___int_int_ : Nat := 113

def k_impl_isDecimal : Nat := 116

def k_spec_TableOk : Nat := 120

def k_spec_Distinct : Nat := 134

def k_spec_l19Args : Nat := 136

def k_spec_l12Rows : Nat := 137

def k_impl_Prefix : Nat := 138

def k_spec_l1New : Nat := 139

def k_spec_l1Once : Nat := 141

def k_spec_l1Below : Nat := 142

def k_spec_RowsIn : Nat := 156

def k_spec_CutsOk : Nat := 157

def k_spec_l13Add : Nat := 158

def k_impl_RowsIn : Nat := 159

def k_impl_CutsOk : Nat := 160

def k_impl_GridOk_1 : Nat := 161

def k__impl_Slot__plus : Nat := 162

def k_slices_IndexFunc___int_int_ : Nat := 169

def k_spec_AddInt : Nat := 174

def k_impl_areDecimals : Nat := 176

def k_impl_AddInt : Nat := 179

def k_spec_SortInts : Nat := 189

def k_spec_l11Right : Nat := 192

def k_spec_l13Grads : Nat := 193

def k_spec_l1PickInt : Nat := 194

def k_spec_l8Right : Nat := 195

def k_spec_l8Bent : Nat := 196

def k_spec_l11Bent : Nat := 197

def k_spec_l1Byte : Nat := 202

def k_spec_l1Whole : Nat := 203

def k_impl_areDecimals_1 : Nat := 214

def k_spec_GridOf : Nat := 232

def k_spec_l9Right : Nat := 233

def k_spec_l6Small : Nat := 234

def k_spec_Column : Nat := 242

def k_spec_CutsOf : Nat := 243

def k_spec_BinOf : Nat := 244

def k_laws_FnNodeHists_vars : List Nat := [0, 3, 4, 5, 7, 9, 10, 6, 12, 14, 11, 13, 2]

def k_laws_FnNodeHists_b0 : IC := .seq (.seq (.reg [oE 40 (.mv (.V 10)), oE 41 (.mv (.V 6)), oE 42 (.len (.E 41)), oE 43 (.bin .lss (.E 40) (.E 42)), oE 44 (.mv (.E 43)), ⟨(some (.E 45)), .mv (.V 7), some ((.E 44), true)⟩, oE 46 (.pick (.E 44) (.E 45) (kb false))]) (.cond (.E 46) .skip (.exit 0))) (.seq (.block 1 (.seq (.reg [oE 50 (.mv (.V 6)), oE 51 (.mv (.V 10)), oE 52 (.iaddr 1 (.E 50) (.E 51)), oE 53 (.load false 1 (.E 52)), oE 54 (.call k_impl_TotalOf [([2], (.E 53))]), oE 49 (.mv (.E 54)), oE 55 (.ext 0 (.E 49)), oE 56 (.ext 1 (.E 49)), oV 11 (.alloc [iv 0, iv 0]), oN (.store [0, 0] (.V 11) (.E 55)), oV 12 (.mv (.E 56))]) (.seq (.reg [oE 58 (.mv (.V 6)), oE 59 (.iaddr 1 (.E 58) (ki 0)), oE 60 (.load false 1 (.E 59)), oE 61 (.call k_impl_TotalOf [([2], (.E 60))]), oE 57 (.mv (.E 61)), oE 62 (.ext 0 (.E 57)), oE 63 (.ext 1 (.E 57)), oV 13 (.alloc [iv 0, iv 0]), oN (.store [0, 0] (.V 13) (.E 62)), oV 14 (.mv (.E 63))]) (.seq (.reg [oE 64 (.mv (.V 12)), oE 65 (.mv (.E 64)), ⟨(some (.E 66)), .mv (.V 14), some ((.E 65), true)⟩, oE 67 (.pick (.E 65) (.E 66) (kb false)), oE 68 (.mv (.E 67)), ⟨(some (.E 69)), .load true 2 (.V 11), some ((.E 68), true)⟩, ⟨(some (.E 70)), .load true 2 (.V 13), some ((.E 68), true)⟩, ⟨(some (.E 71)), .eqb true [.i .i64, .i .i64] (.E 69) (.E 70), some ((.E 68), true)⟩, oE 72 (.pick (.E 68) (.E 71) (kb false)), oE 73 (.mv (.E 72)), ⟨(some (.E 74)), .mv (.V 12), some ((.E 73), false)⟩, ⟨(some (.E 75)), .mv (.E 74), some ((.E 73), false)⟩, ⟨(some (.E 76)), .faddr 0 (.V 11), some ((.E 75), true)⟩, ⟨(some (.E 77)), .load false 1 (.E 76), some ((.E 75), true)⟩, ⟨(some (.E 78)), .mv (.V 5), some ((.E 75), true)⟩, ⟨(some (.E 79)), .len (.E 78), some ((.E 75), true)⟩, ⟨(some (.E 80)), .bin .neq (.E 77) (.E 79), some ((.E 75), true)⟩, ⟨(some (.E 81)), .pick (.E 75) (.E 80) (kb false), some ((.E 73), false)⟩, oE 82 (.pick (.E 73) (kb true) (.E 81))]) (.cond (.E 82) (.seq (.reg [oV 2 (.mv (kb false))]) .ret) .skip))))) (.reg [oE 47 (.mv (.V 10)), oE 48 (.bin .add (.E 47) (ki 1)), oV 10 (.mv (.E 48))]))

def k_laws_FnNodeHists_ic : IC := .seq (.reg [oV 2 (.mv (kb false))]) (.seq (.seq (.reg [oE 15 (.mv (.V 0)), oE 16 (.call k_laws_big [([1], (.E 15))])]) (.cond (.E 16) (.seq (.reg [oV 2 (.mv (kb true))]) .ret) .skip)) (.seq (.reg [oE 18 (.mv (.V 0)), oE 19 (.call k_spec_DrawNodeHists [([1], (.E 18))]), oE 17 (.mv (.E 19)), oE 20 (.ext 0 (.E 17)), oE 21 (.ext 1 (.E 17)), oE 22 (.ext 2 (.E 17)), oV 3 (.alloc [.e0, .e0]), oN (.store [1, 1] (.V 3) (.E 20)), oV 4 (.mv (.E 21)), oV 5 (.mv (.E 22))]) (.seq (.reg [oE 24 (.load true 2 (.V 3)), oE 25 (.mv (.V 4)), oE 26 (.mv (.V 5)), oE 27 (.call k_impl_NodeHists [([1, 1], (.E 24)), ([1], (.E 25)), ([1], (.E 26))]), oE 23 (.mv (.E 27)), oE 28 (.ext 0 (.E 23)), oE 29 (.ext 1 (.E 23)), oV 6 (.mv (.E 28)), oV 7 (.mv (.E 29))]) (.seq (.reg [oE 31 (.load true 2 (.V 3)), oE 32 (.mv (.V 4)), oE 33 (.mv (.V 5)), oE 34 (.call k_spec_NodeHists [([1, 1], (.E 31)), ([1], (.E 32)), ([1], (.E 33))]), oE 30 (.mv (.E 34)), oE 35 (.ext 0 (.E 30)), oE 36 (.ext 1 (.E 30)), oE 8 (.mv (.E 35)), oV 9 (.mv (.E 36))]) (.seq (.seq (.reg [oE 37 (.mv (.V 7)), oE 38 (.mv (.V 9)), oE 39 (.eqb true [.b] (.E 37) (.E 38))]) (.cond (.E 39) (.seq (.reg [oV 2 (.mv (kb false))]) .ret) .skip)) (.seq (.seq (.reg [oV 10 (.mv (ki 0))]) (.block 0 (.loop k_laws_FnNodeHists_b0))) (.seq (.reg [oE 83 (.mv (.V 7)), oE 84 (.un .not (.E 83)), oE 85 (.mv (.E 84)), ⟨(some (.E 86)), .mv (.V 6), some ((.E 85), true)⟩, ⟨(some (.E 87)), .len (.E 86), some ((.E 85), true)⟩, ⟨(some (.E 88)), .bin .eql (.E 87) (ki 0), some ((.E 85), true)⟩, oE 89 (.pick (.E 85) (.E 88) (kb false)), oE 90 (.mv (.E 89)), ⟨(some (.E 91)), .mv (.V 7), some ((.E 90), false)⟩, ⟨(some (.E 92)), .mv (.E 91), some ((.E 90), false)⟩, ⟨(some (.E 93)), .mv (.V 6), some ((.E 92), true)⟩, ⟨(some (.E 94)), .len (.E 93), some ((.E 92), true)⟩, ⟨(some (.E 95)), .faddr 0 (.V 3), some ((.E 92), true)⟩, ⟨(some (.E 96)), .load false 1 (.E 95), some ((.E 92), true)⟩, ⟨(some (.E 97)), .len (.E 96), some ((.E 92), true)⟩, ⟨(some (.E 98)), .bin .eql (.E 94) (.E 97), some ((.E 92), true)⟩, ⟨(some (.E 99)), .pick (.E 92) (.E 98) (kb false), some ((.E 90), false)⟩, oE 100 (.pick (.E 90) (kb true) (.E 99)), oV 2 (.mv (.E 100))]) .ret)))))))

def k_laws_FnNodeHists_rv : List RV := [.tmp [0] 2]

def k_spec_NodeHists_vars : List Nat := [0, 1, 2, 3, 8, 9, 11, 10, 6, 7]

def k_spec_NodeHists_b0 : IC := .seq (.seq (.reg [oE 17 (.mv (.V 9)), oE 18 (.faddr 0 (.V 3)), oE 19 (.load false 1 (.E 18)), oE 20 (.len (.E 19)), oE 21 (.bin .lss (.E 17) (.E 20))]) (.cond (.E 21) .skip (.exit 0))) (.seq (.block 1 (.seq (.regD [(oE 25 (.faddr 1 (.V 3)), 0, 0), (oE 26 (.load false 1 (.E 25)), 0, 0), (oE 27 (.mv (.V 9)), 0, 0), (oE 28 (.iaddr 1 (.E 26) (.E 27)), 0, 0), (oE 29 (.load false 1 (.E 28)), 0, 0), (oE 30 (.mv (.V 1)), 0, 0), (oE 31 (.mv (.V 2)), 0, 0), (oE 32 (.faddr 0 (.V 3)), 0, 0), (oE 33 (.load false 1 (.E 32)), 0, 0), (oE 34 (.mv (.V 9)), 0, 0), (oE 35 (.iaddr 1 (.E 33) (.E 34)), 0, 0), (oE 36 (.load false 1 (.E 35)), 0, 0), (oE 37 (.len (.E 36)), 0, 0), (oE 38 (.bin .add (.E 37) (ki 1)), 0, 0), (oE 39 (.call k_spec_HistOf [([1], (.E 29)), ([1], (.E 30)), ([1], (.E 31)), ([0], (.E 38))]), 0, 0), (oE 24 (.mv (.E 39)), 0, 0), (oE 40 (.ext 0 (.E 24)), 0, 0), (oE 41 (.ext 1 (.E 24)), 0, 0), (oV 10 (.mv (.E 40)), 0, 0), (oV 11 (.mv (.E 41)), 0, 0)]) (.seq (.seq (.reg [oE 42 (.mv (.V 11)), oE 43 (.un .not (.E 42))]) (.cond (.E 43) (.seq (.reg [oE 44 (.bslice 0 1 [(.own 2 [])] []), oV 6 (.mv (.E 44)), oV 7 (.mv (kb false))]) .ret) .skip)) (.reg [oE 45 (.mv (.V 8)), oE 46 (.mv (.V 10)), oE 47 (.bslice 1 1 [(.own 2 [])] [(0, (.E 46))]), oE 48 (.app 24 1 (.E 45) (.E 47)), oV 8 (.mv (.E 48))])))) (.reg [oE 22 (.mv (.V 9)), oE 23 (.bin .add (.E 22) (ki 1)), oV 9 (.mv (.E 23))]))

def k_spec_NodeHists_ic : IC := .seq (.reg [oV 3 (.box (.V 0)), oV 6 (.mv (.C .e0)), oV 7 (.mv (kb false))]) (.seq (.reg [oE 12 (.bslice 0 1 [(.own 2 [])] []), oV 8 (.mv (.E 12))]) (.seq (.seq (.reg [oE 13 (.load true 2 (.V 3)), oE 14 (.call k_spec_GridOk [([1, 1], (.E 13))]), oE 15 (.un .not (.E 14))]) (.cond (.E 15) (.seq (.reg [oE 16 (.mv (.V 8)), oV 6 (.mv (.E 16)), oV 7 (.mv (kb false))]) .ret) .skip)) (.seq (.seq (.reg [oV 9 (.mv (ki 0))]) (.block 0 (.loop k_spec_NodeHists_b0))) (.seq (.reg [oE 49 (.mv (.V 8)), oV 6 (.mv (.E 49)), oV 7 (.mv (kb true))]) .ret))))

def k_spec_NodeHists_rv : List RV := [.tmp [1] 6, .tmp [0] 7]

def k_impl_NodeHists_vars : List Nat := [0, 1, 2, 3, 20, 19, 18, 9, 10, 12, 8, 11, 6, 7]

def k_impl_NodeHists_b0 : IC := .seq (.reg [oE 21 (.bin .lss (.V 20) (.V 19))]) (.seq (.cond (.E 21) .skip (.exit 0)) (.seq (.block 1 (.seq (.reg [oE 22 (.mv (.V 20)), oE 23 (.iaddr 1 (.V 18) (.V 20)), oE 24 (.load false 1 (.E 23)), oV 9 (.mv (.E 22)), oV 10 (.mv (.E 24))]) (.seq (.reg [oE 26 (.faddr 1 (.V 3)), oE 27 (.load false 1 (.E 26)), oE 28 (.mv (.V 9)), oE 29 (.iaddr 1 (.E 27) (.E 28)), oE 30 (.load false 1 (.E 29)), oE 31 (.mv (.V 1)), oE 32 (.mv (.V 2)), oE 33 (.mv (.V 10)), oE 34 (.len (.E 33)), oE 35 (.bin .add (.E 34) (ki 1)), oE 36 (.call k_impl_HistOf [([1], (.E 30)), ([1], (.E 31)), ([1], (.E 32)), ([0], (.E 35))]), oE 25 (.mv (.E 36)), oE 37 (.ext 0 (.E 25)), oE 38 (.ext 1 (.E 25)), oV 11 (.mv (.E 37)), oV 12 (.mv (.E 38))]) (.seq (.seq (.reg [oE 39 (.mv (.V 12)), oE 40 (.un .not (.E 39))]) (.cond (.E 40) (.seq (.reg [oV 6 (.mv (.C .e0)), oV 7 (.mv (kb false))]) .ret) .skip)) (.reg [oE 41 (.mv (.V 8)), oE 42 (.mv (.V 11)), oE 43 (.bslice 1 1 [(.own 2 [])] [(0, (.E 42))]), oE 44 (.app 24 1 (.E 41) (.E 43)), oV 8 (.mv (.E 44))]))))) (.reg [oE 45 (.bin .add (.V 20) (ki 1)), oV 20 (.mv (.E 45))])))

def k_impl_NodeHists_ic : IC := .seq (.reg [oV 3 (.box (.V 0)), oV 6 (.mv (.C .e0)), oV 7 (.mv (kb false))]) (.seq (.seq (.reg [oE 13 (.load true 2 (.V 3)), oE 14 (.call k_impl_GridOk [([1, 1], (.E 13))]), oE 15 (.un .not (.E 14))]) (.cond (.E 15) (.seq (.reg [oV 6 (.mv (.C .e0)), oV 7 (.mv (kb false))]) .ret) .skip)) (.seq (.reg [oE 16 (.bslice 0 1 [(.own 2 [])] []), oV 8 (.mv (.E 16))]) (.seq (.seq (.reg [oE 17 (.faddr 0 (.V 3)), oV 18 (.load false 1 (.E 17)), oV 19 (.len (.V 18)), oV 20 (.mv (ki 0))]) (.block 0 (.loop k_impl_NodeHists_b0))) (.seq (.reg [oE 46 (.mv (.V 8)), oV 6 (.mv (.E 46)), oV 7 (.mv (kb true))]) .ret))))

def k_impl_NodeHists_rv : List RV := [.tmp [1] 6, .tmp [0] 7]

def k_laws_big_vars : List Nat := [0, 2]

def k_laws_big_ic : IC := .seq (.reg [oV 2 (.mv (kb false))]) (.seq (.reg [oE 3 (.mv (.V 0)), oE 4 (.len (.E 3)), oE 5 (.bin .gtr (.E 4) (ki 1048576)), oV 2 (.mv (.E 5))]) .ret)

def k_laws_big_rv : List RV := [.tmp [0] 2]

def k_spec_DrawNodeHists_vars : List Nat := [0, 6, 7, 5, 2, 3, 4]

def k_spec_DrawNodeHists_ic : IC := .seq (.reg [oV 2 (.alloc [.e0, .e0]), oV 3 (.mv (.C .e0)), oV 4 (.mv (.C .e0))]) (.seq (.reg [oE 10 (.mv (.V 0)), oE 11 (.call k_spec_l19Args [([1], (.E 10))]), oE 9 (.mv (.E 11)), oE 12 (.ext 0 (.E 9)), oE 13 (.ext 1 (.E 9)), oE 14 (.ext 2 (.E 9)), oE 15 (.ext 3 (.E 9)), oV 6 (.alloc [.e0, .e0]), oE 8 (.alloc [iv 0, iv 0, iv 0, iv 0, iv 0, iv 0, iv 0, .e0]), oV 5 (.mv (.E 12)), oN (.store [1, 1] (.V 6) (.E 13)), oV 7 (.mv (.E 14)), oN (.store [0, 0, 0, 0, 0, 0, 0, 1] (.E 8) (.E 15))]) (.seq (.regD [(oE 16 (.load true 2 (.V 6)), 0, 1), (oE 17 (.mv (.V 7)), 0, 0), (oE 18 (.mv (.V 5)), 0, 0), (oE 19 (.mv (.V 7)), 0, 0), (oE 20 (.len (.E 19)), 0, 0), (oE 21 (.call k_spec_l12Rows [([0], (.E 18)), ([0], (.E 20))]), 0, 0), (oN (.store [1, 1] (.V 2) (.E 16)), 0, 0), (oV 3 (.mv (.E 17)), 0, 0), (oV 4 (.mv (.E 21)), 0, 0)]) .ret))

def k_spec_DrawNodeHists_rv : List RV := [.cell [1, 1] 2 true, .tmp [1] 3, .tmp [1] 4]

def k_impl_TotalOf_vars : List Nat := [0, 5, 4, 2, 3]

def k_impl_TotalOf_ic : IC := .seq (.reg [oV 2 (.alloc [iv 0, iv 0]), oV 3 (.mv (kb false))]) (.seq (.reg [oE 7 (.mv (.V 0)), oE 8 (.call k_impl_Prefix [([2], (.E 7))]), oE 6 (.mv (.E 8)), oE 9 (.ext 0 (.E 6)), oE 10 (.ext 1 (.E 6)), oV 4 (.mv (.E 9)), oV 5 (.mv (.E 10))]) (.seq (.seq (.reg [oE 11 (.mv (.V 5)), oE 12 (.un .not (.E 11)), oE 13 (.mv (.E 12)), ⟨(some (.E 14)), .mv (.V 4), some ((.E 13), false)⟩, ⟨(some (.E 15)), .len (.E 14), some ((.E 13), false)⟩, ⟨(some (.E 16)), .bin .eql (.E 15) (ki 0), some ((.E 13), false)⟩, oE 17 (.pick (.E 13) (kb true) (.E 16))]) (.cond (.E 17) (.seq (.reg [oE 18 (.build [iv 0, iv 0] []), oE 19 (.mv (.V 5)), oN (.store [0, 0] (.V 2) (.E 18)), oV 3 (.mv (.E 19))]) .ret) .skip)) (.seq (.reg [oE 20 (.mv (.V 4)), oE 21 (.mv (.V 4)), oE 22 (.len (.E 21)), oE 23 (.bin .sub (.E 22) (ki 1)), oE 24 (.iaddr 2 (.E 20) (.E 23)), oE 25 (.load true 2 (.E 24)), oN (.store [0, 0] (.V 2) (.E 25)), oV 3 (.mv (kb true))]) .ret)))

def k_impl_TotalOf_rv : List RV := [.cell [0, 0] 2 true, .tmp [0] 3]

def k_spec_GridOk_vars : List Nat := [0, 1, 3, 4, 2]

def k_spec_GridOk_b0 : IC := .seq (.seq (.reg [oE 50 (.mv (.V 4)), oE 51 (.faddr 1 (.V 1)), oE 52 (.load false 1 (.E 51)), oE 53 (.mv (.V 3)), oE 54 (.iaddr 1 (.E 52) (.E 53)), oE 55 (.load false 1 (.E 54)), oE 56 (.len (.E 55)), oE 57 (.bin .lss (.E 50) (.E 56))]) (.cond (.E 57) .skip (.exit 2))) (.seq (.block 3 (.seq (.regD [(oE 60 (.faddr 1 (.V 1)), 0, 0), (oE 61 (.load false 1 (.E 60)), 0, 0), (oE 62 (.mv (.V 3)), 0, 0), (oE 63 (.iaddr 1 (.E 61) (.E 62)), 0, 0), (oE 64 (.load false 1 (.E 63)), 0, 0), (oE 65 (.mv (.V 4)), 0, 0), (oE 66 (.iaddr 1 (.E 64) (.E 65)), 0, 0), (oE 67 (.load false 1 (.E 66)), 0, 0), (oE 68 (.faddr 0 (.V 1)), 0, 0), (oE 69 (.load false 1 (.E 68)), 0, 0), (oE 70 (.mv (.V 3)), 0, 0), (oE 71 (.iaddr 1 (.E 69) (.E 70)), 0, 0), (oE 72 (.load false 1 (.E 71)), 0, 0), (oE 73 (.len (.E 72)), 0, 0), (oE 74 (.call k_spec_l1In [([0], (.E 67)), ([0], (ki 0)), ([0], (.E 73))]), 0, 0), (oE 75 (.un .not (.E 74)), 0, 0)]) (.cond (.E 75) (.seq (.reg [oV 2 (.mv (kb false))]) .ret) .skip))) (.reg [oE 58 (.mv (.V 4)), oE 59 (.bin .add (.E 58) (ki 1)), oV 4 (.mv (.E 59))]))

def k_spec_GridOk_b1 : IC := .seq (.seq (.reg [oE 25 (.mv (.V 3)), oE 26 (.faddr 0 (.V 1)), oE 27 (.load false 1 (.E 26)), oE 28 (.len (.E 27)), oE 29 (.bin .lss (.E 25) (.E 28))]) (.cond (.E 29) .skip (.exit 0))) (.seq (.block 1 (.seq (.seq (.regD [(oE 32 (.faddr 0 (.V 1)), 0, 0), (oE 33 (.load false 1 (.E 32)), 0, 0), (oE 34 (.mv (.V 3)), 0, 0), (oE 35 (.iaddr 1 (.E 33) (.E 34)), 0, 0), (oE 36 (.load false 1 (.E 35)), 0, 0), (oE 37 (.call k_spec_CutsOk [([1], (.E 36))]), 0, 0), (oE 38 (.un .not (.E 37)), 0, 0), (oE 39 (.mv (.E 38)), 0, 0), (⟨(some (.E 40)), .faddr 1 (.V 1), some ((.E 39), false)⟩, 0, 1), (⟨(some (.E 41)), .load false 1 (.E 40), some ((.E 39), false)⟩, 0, 1), (⟨(some (.E 42)), .mv (.V 3), some ((.E 39), false)⟩, 0, 0), (⟨(some (.E 43)), .iaddr 1 (.E 41) (.E 42), some ((.E 39), false)⟩, 0, 1), (⟨(some (.E 44)), .load false 1 (.E 43), some ((.E 39), false)⟩, 0, 1), (⟨(some (.E 45)), .len (.E 44), some ((.E 39), false)⟩, 0, 1), (⟨(some (.E 46)), .load true 2 (.V 1), some ((.E 39), false)⟩, 0, 0), (⟨(some (.E 47)), .call k_spec_RowsIn [([1, 1], (.E 46))], some ((.E 39), false)⟩, 0, 0), (⟨(some (.E 48)), .bin .neq (.E 45) (.E 47), some ((.E 39), false)⟩, 0, 0), (oE 49 (.pick (.E 39) (kb true) (.E 48)), 0, 0)]) (.cond (.E 49) (.seq (.reg [oV 2 (.mv (kb false))]) .ret) .skip)) (.seq (.reg [oV 4 (.mv (ki 0))]) (.block 2 (.loop k_spec_GridOk_b0))))) (.reg [oE 30 (.mv (.V 3)), oE 31 (.bin .add (.E 30) (ki 1)), oV 3 (.mv (.E 31))]))

def k_spec_GridOk_ic : IC := .seq (.reg [oV 1 (.box (.V 0)), oV 2 (.mv (kb false))]) (.seq (.seq (.reg [oE 5 (.faddr 0 (.V 1)), oE 6 (.load false 1 (.E 5)), oE 7 (.len (.E 6)), oE 8 (.call k_spec_l1In [([0], (.E 7)), ([0], (ki 1)), ([0], (ki 4))]), oE 9 (.un .not (.E 8)), oE 10 (.mv (.E 9)), ⟨(some (.E 11)), .faddr 1 (.V 1), some ((.E 10), false)⟩, ⟨(some (.E 12)), .load false 1 (.E 11), some ((.E 10), false)⟩, ⟨(some (.E 13)), .len (.E 12), some ((.E 10), false)⟩, ⟨(some (.E 14)), .faddr 0 (.V 1), some ((.E 10), false)⟩, ⟨(some (.E 15)), .load false 1 (.E 14), some ((.E 10), false)⟩, ⟨(some (.E 16)), .len (.E 15), some ((.E 10), false)⟩, ⟨(some (.E 17)), .bin .neq (.E 13) (.E 16), some ((.E 10), false)⟩, oE 18 (.pick (.E 10) (kb true) (.E 17)), oE 19 (.mv (.E 18)), ⟨(some (.E 20)), .load true 2 (.V 1), some ((.E 19), false)⟩, ⟨(some (.E 21)), .call k_spec_RowsIn [([1, 1], (.E 20))], some ((.E 19), false)⟩, ⟨(some (.E 22)), .call k_spec_l1In [([0], (.E 21)), ([0], (ki 1)), ([0], (ki 40))], some ((.E 19), false)⟩, ⟨(some (.E 23)), .un .not (.E 22), some ((.E 19), false)⟩, oE 24 (.pick (.E 19) (kb true) (.E 23))]) (.cond (.E 24) (.seq (.reg [oV 2 (.mv (kb false))]) .ret) .skip)) (.seq (.seq (.reg [oV 3 (.mv (ki 0))]) (.block 0 (.loop k_spec_GridOk_b1))) (.seq (.reg [oV 2 (.mv (kb true))]) .ret)))

def k_spec_GridOk_rv : List RV := [.tmp [0] 2]

def k_spec_HistOf_vars : List Nat := [0, 1, 2, 3, 10, 12, 13, 11, 15, 14, 8, 9]

def k_spec_HistOf_b0 : IC := .seq (.seq (.reg [oE 23 (.mv (.V 12)), oE 24 (.mv (.V 2)), oE 25 (.len (.E 24)), oE 26 (.bin .lss (.E 23) (.E 25))]) (.cond (.E 26) .skip (.exit 0))) (.seq (.block 1 (.seq (.reg [oE 29 (.mv (.V 2)), oE 30 (.mv (.V 12)), oE 31 (.iaddr 1 (.E 29) (.E 30)), oE 32 (.load false 1 (.E 31)), oV 13 (.mv (.E 32))]) (.seq (.seq (.reg [oE 33 (.mv (.V 13)), oE 34 (.mv (.V 0)), oE 35 (.len (.E 34)), oE 36 (.bin .sub (.E 35) (ki 1)), oE 37 (.call k_spec_l1In [([0], (.E 33)), ([0], (ki 0)), ([0], (.E 36))]), oE 38 (.un .not (.E 37)), oE 39 (.mv (.E 38)), ⟨(some (.E 40)), .mv (.V 13), some ((.E 39), false)⟩, ⟨(some (.E 41)), .mv (.V 1), some ((.E 39), false)⟩, ⟨(some (.E 42)), .len (.E 41), some ((.E 39), false)⟩, ⟨(some (.E 43)), .bin .sub (.E 42) (ki 1), some ((.E 39), false)⟩, ⟨(some (.E 44)), .call k_spec_l1In [([0], (.E 40)), ([0], (ki 0)), ([0], (.E 43))], some ((.E 39), false)⟩, ⟨(some (.E 45)), .un .not (.E 44), some ((.E 39), false)⟩, oE 46 (.pick (.E 39) (kb true) (.E 45)), oE 47 (.mv (.E 46)), ⟨(some (.E 48)), .mv (.V 0), some ((.E 47), false)⟩, ⟨(some (.E 49)), .mv (.V 13), some ((.E 47), false)⟩, ⟨(some (.E 50)), .iaddr 1 (.E 48) (.E 49), some ((.E 47), false)⟩, ⟨(some (.E 51)), .load false 1 (.E 50), some ((.E 47), false)⟩, ⟨(some (.E 52)), .mv (.V 3), some ((.E 47), false)⟩, ⟨(some (.E 53)), .bin .sub (.E 52) (ki 1), some ((.E 47), false)⟩, ⟨(some (.E 54)), .call k_spec_l1In [([0], (.E 51)), ([0], (ki 0)), ([0], (.E 53))], some ((.E 47), false)⟩, ⟨(some (.E 55)), .un .not (.E 54), some ((.E 47), false)⟩, oE 56 (.pick (.E 47) (kb true) (.E 55))]) (.cond (.E 56) (.seq (.reg [oE 57 (.mv (.V 10)), oV 8 (.mv (.E 57)), oV 9 (.mv (kb false))]) .ret) .skip)) (.seq (.regD [(oE 59 (.mv (.V 11)), 0, 0), (oE 60 (.mv (.V 0)), 0, 0), (oE 61 (.mv (.V 13)), 0, 0), (oE 62 (.iaddr 1 (.E 60) (.E 61)), 0, 0), (oE 63 (.load false 1 (.E 62)), 0, 0), (oE 64 (.iaddr 2 (.E 59) (.E 63)), 0, 0), (oE 65 (.load true 2 (.E 64)), 0, 0), (oE 66 (.mv (.V 1)), 0, 0), (oE 67 (.mv (.V 13)), 0, 0), (oE 68 (.iaddr 1 (.E 66) (.E 67)), 0, 0), (oE 69 (.load false 1 (.E 68)), 0, 0), (oE 70 (.build [iv 0, iv 0] [(0, 1, (ki 1)), (1, 1, (.E 69))]), 0, 0), (oE 71 (.call k_spec_l13Add [([0, 0], (.E 65)), ([0, 0], (.E 70))]), 0, 0), (oE 58 (.mv (.E 71)), 0, 0), (oE 72 (.ext 0 (.E 58)), 0, 0), (oE 73 (.ext 1 (.E 58)), 0, 0), (oV 14 (.allocL [iv 0, iv 0]), 0, 0), (oN (.store [0, 0] (.V 14) (.E 72)), 0, 0), (oV 15 (.mv (.E 73)), 0, 0)]) (.seq (.seq (.reg [oE 74 (.mv (.V 15)), oE 75 (.un .not (.E 74))]) (.cond (.E 75) (.seq (.reg [oE 76 (.mv (.V 10)), oV 8 (.mv (.E 76)), oV 9 (.mv (kb false))]) .ret) .skip)) (.regD [(oE 77 (.mv (.V 11)), 0, 0), (oE 78 (.mv (.V 0)), 0, 0), (oE 79 (.mv (.V 13)), 0, 0), (oE 80 (.iaddr 1 (.E 78) (.E 79)), 0, 0), (oE 81 (.load false 1 (.E 80)), 0, 0), (oE 82 (.load true 2 (.V 14)), 0, 0), (oE 83 (.iaddr 2 (.E 77) (.E 81)), 0, 0), (oN (.store [0, 0] (.E 83) (.E 82)), 0, 0)])))))) (.reg [oE 27 (.mv (.V 12)), oE 28 (.bin .add (.E 27) (ki 1)), oV 12 (.mv (.E 28))]))

def k_spec_HistOf_ic : IC := .seq (.reg [oV 8 (.mv (.C .e0)), oV 9 (.mv (kb false))]) (.seq (.reg [oE 16 (.bslice 0 2 [iv 0, iv 0] []), oV 10 (.mv (.E 16))]) (.seq (.seq (.reg [oE 17 (.mv (.V 3)), oE 18 (.call k_spec_l1In [([0], (.E 17)), ([0], (ki 1)), ([0], (ki 8))]), oE 19 (.un .not (.E 18))]) (.cond (.E 19) (.seq (.reg [oE 20 (.mv (.V 10)), oV 8 (.mv (.E 20)), oV 9 (.mv (kb false))]) .ret) .skip)) (.seq (.reg [oE 21 (.mv (.V 3)), oE 22 (.mksl 16 2 [iv 0, iv 0] (.E 21) (.E 21)), oV 11 (.mv (.E 22))]) (.seq (.seq (.reg [oV 12 (.mv (ki 0))]) (.block 0 (.loop k_spec_HistOf_b0))) (.seq (.reg [oE 84 (.mv (.V 11)), oV 8 (.mv (.E 84)), oV 9 (.mv (kb true))]) .ret)))))

def k_spec_HistOf_rv : List RV := [.tmp [2] 8, .tmp [0] 9]

def k_impl_GridOk_vars : List Nat := [0, 1, 28, 27, 26, 4, 3, 2]

def k_impl_GridOk_b0 : IC := .seq (.reg [oE 29 (.bin .lss (.V 28) (.V 27))]) (.seq (.cond (.E 29) .skip (.exit 0)) (.seq (.block 1 (.seq (.reg [oE 30 (.mv (.V 28)), oE 31 (.iaddr 1 (.V 26) (.V 28)), oE 32 (.load false 1 (.E 31)), oV 4 (.alloc [.e0]), oV 3 (.mv (.E 30)), oN (.store [1] (.V 4) (.E 32))]) (.seq (.regD [(oE 33 (.load false 1 (.V 4)), 0, 0), (oE 34 (.call k_impl_CutsOk [([1], (.E 33))]), 0, 0), (oE 35 (.un .not (.E 34)), 0, 0), (oE 36 (.mv (.E 35)), 0, 0), (⟨(some (.E 37)), .faddr 1 (.V 1), some ((.E 36), false)⟩, 0, 1), (⟨(some (.E 38)), .load false 1 (.E 37), some ((.E 36), false)⟩, 0, 1), (⟨(some (.E 39)), .mv (.V 3), some ((.E 36), false)⟩, 0, 0), (⟨(some (.E 40)), .iaddr 1 (.E 38) (.E 39), some ((.E 36), false)⟩, 0, 1), (⟨(some (.E 41)), .load false 1 (.E 40), some ((.E 36), false)⟩, 0, 1), (⟨(some (.E 42)), .len (.E 41), some ((.E 36), false)⟩, 0, 1), (⟨(some (.E 43)), .load true 2 (.V 1), some ((.E 36), false)⟩, 0, 0), (⟨(some (.E 44)), .call k_impl_RowsIn [([1, 1], (.E 43))], some ((.E 36), false)⟩, 0, 0), (⟨(some (.E 45)), .bin .neq (.E 42) (.E 44), some ((.E 36), false)⟩, 0, 0), (oE 46 (.pick (.E 36) (kb true) (.E 45)), 0, 0), (oE 47 (.mv (.E 46)), 0, 0), (⟨(some (.E 48)), .faddr 1 (.V 1), some ((.E 47), false)⟩, 0, 0), (⟨(some (.E 49)), .load false 1 (.E 48), some ((.E 47), false)⟩, 0, 0), (⟨(some (.E 50)), .mv (.V 3), some ((.E 47), false)⟩, 0, 0), (⟨(some (.E 51)), .iaddr 1 (.E 49) (.E 50), some ((.E 47), false)⟩, 0, 0), (⟨(some (.E 52)), .load false 1 (.E 51), some ((.E 47), false)⟩, 0, 0), (⟨(some (.E 53)), .mkfn k_impl_GridOk_1 [(.V 4)], some ((.E 47), false)⟩, 0, 0), (⟨(some (.E 54)), .call k_slices_ContainsFunc___int_int_ [([1], (.E 52)), ([0], (.E 53))], some ((.E 47), false)⟩, 0, 0), (oE 55 (.pick (.E 47) (kb true) (.E 54)), 0, 0)]) (.cond (.E 55) (.seq (.reg [oV 2 (.mv (kb false))]) .ret) .skip)))) (.reg [oE 56 (.bin .add (.V 28) (ki 1)), oV 28 (.mv (.E 56))])))

def k_impl_GridOk_ic : IC := .seq (.reg [oV 1 (.box (.V 0)), oV 2 (.mv (kb false))]) (.seq (.seq (.reg [oE 5 (.faddr 0 (.V 1)), oE 6 (.load false 1 (.E 5)), oE 7 (.len (.E 6)), oE 8 (.call k_impl_within [([0], (.E 7)), ([0], (ki 1)), ([0], (ki 4))]), oE 9 (.un .not (.E 8)), oE 10 (.mv (.E 9)), ⟨(some (.E 11)), .faddr 1 (.V 1), some ((.E 10), false)⟩, ⟨(some (.E 12)), .load false 1 (.E 11), some ((.E 10), false)⟩, ⟨(some (.E 13)), .len (.E 12), some ((.E 10), false)⟩, ⟨(some (.E 14)), .faddr 0 (.V 1), some ((.E 10), false)⟩, ⟨(some (.E 15)), .load false 1 (.E 14), some ((.E 10), false)⟩, ⟨(some (.E 16)), .len (.E 15), some ((.E 10), false)⟩, ⟨(some (.E 17)), .bin .neq (.E 13) (.E 16), some ((.E 10), false)⟩, oE 18 (.pick (.E 10) (kb true) (.E 17)), oE 19 (.mv (.E 18)), ⟨(some (.E 20)), .load true 2 (.V 1), some ((.E 19), false)⟩, ⟨(some (.E 21)), .call k_impl_RowsIn [([1, 1], (.E 20))], some ((.E 19), false)⟩, ⟨(some (.E 22)), .call k_impl_within [([0], (.E 21)), ([0], (ki 1)), ([0], (ki 40))], some ((.E 19), false)⟩, ⟨(some (.E 23)), .un .not (.E 22), some ((.E 19), false)⟩, oE 24 (.pick (.E 19) (kb true) (.E 23))]) (.cond (.E 24) (.seq (.reg [oV 2 (.mv (kb false))]) .ret) .skip)) (.seq (.seq (.reg [oE 25 (.faddr 0 (.V 1)), oV 26 (.load false 1 (.E 25)), oV 27 (.len (.V 26)), oV 28 (.mv (ki 0))]) (.block 0 (.loop k_impl_GridOk_b0))) (.seq (.reg [oV 2 (.mv (kb true))]) .ret)))

def k_impl_GridOk_rv : List RV := [.tmp [0] 2]

def k_impl_HistOf_vars : List Nat := [0, 1, 2, 3, 22, 21, 20, 12, 10, 14, 13, 8, 9]

def k_impl_HistOf_b0 : IC := .seq (.reg [oE 23 (.bin .lss (.V 22) (.V 21))]) (.seq (.cond (.E 23) .skip (.exit 0)) (.seq (.block 1 (.seq (.reg [oE 24 (.iaddr 1 (.V 20) (.V 22)), oE 25 (.load false 1 (.E 24)), oV 12 (.mv (.E 25))]) (.seq (.seq (.reg [oE 26 (.mv (.V 12)), oE 27 (.mv (.V 0)), oE 28 (.len (.E 27)), oE 29 (.mv (.V 1)), oE 30 (.len (.E 29)), oE 31 (.mx false (.E 28) (.E 30)), oE 32 (.bin .sub (.E 31) (ki 1)), oE 33 (.call k_impl_within [([0], (.E 26)), ([0], (ki 0)), ([0], (.E 32))]), oE 34 (.un .not (.E 33)), oE 35 (.mv (.E 34)), ⟨(some (.E 36)), .mv (.V 0), some ((.E 35), false)⟩, ⟨(some (.E 37)), .mv (.V 12), some ((.E 35), false)⟩, ⟨(some (.E 38)), .iaddr 1 (.E 36) (.E 37), some ((.E 35), false)⟩, ⟨(some (.E 39)), .load false 1 (.E 38), some ((.E 35), false)⟩, ⟨(some (.E 40)), .mv (.V 3), some ((.E 35), false)⟩, ⟨(some (.E 41)), .bin .sub (.E 40) (ki 1), some ((.E 35), false)⟩, ⟨(some (.E 42)), .call k_impl_within [([0], (.E 39)), ([0], (ki 0)), ([0], (.E 41))], some ((.E 35), false)⟩, ⟨(some (.E 43)), .un .not (.E 42), some ((.E 35), false)⟩, oE 44 (.pick (.E 35) (kb true) (.E 43))]) (.cond (.E 44) (.seq (.reg [oV 8 (.mv (.C .e0)), oV 9 (.mv (kb false))]) .ret) .skip)) (.seq (.regD [(oE 46 (.mv (.V 10)), 0, 0), (oE 47 (.mv (.V 0)), 0, 0), (oE 48 (.mv (.V 12)), 0, 0), (oE 49 (.iaddr 1 (.E 47) (.E 48)), 0, 0), (oE 50 (.load false 1 (.E 49)), 0, 0), (oE 51 (.iaddr 2 (.E 46) (.E 50)), 0, 0), (oE 52 (.load true 2 (.E 51)), 0, 0), (oE 53 (.mv (.V 1)), 0, 0), (oE 54 (.mv (.V 12)), 0, 0), (oE 55 (.iaddr 1 (.E 53) (.E 54)), 0, 0), (oE 56 (.load false 1 (.E 55)), 0, 0), (oE 57 (.build [iv 0, iv 0] [(0, 1, (ki 1)), (1, 1, (.E 56))]), 0, 0), (oE 58 (.call k__impl_Slot__plus [([0, 0], (.E 52)), ([0, 0], (.E 57))]), 0, 0), (oE 45 (.mv (.E 58)), 0, 0), (oE 59 (.ext 0 (.E 45)), 0, 0), (oE 60 (.ext 1 (.E 45)), 0, 0), (oV 13 (.allocL [iv 0, iv 0]), 0, 0), (oN (.store [0, 0] (.V 13) (.E 59)), 0, 0), (oV 14 (.mv (.E 60)), 0, 0)]) (.seq (.seq (.reg [oE 61 (.mv (.V 14)), oE 62 (.un .not (.E 61))]) (.cond (.E 62) (.seq (.reg [oV 8 (.mv (.C .e0)), oV 9 (.mv (kb false))]) .ret) .skip)) (.regD [(oE 63 (.mv (.V 10)), 0, 0), (oE 64 (.mv (.V 0)), 0, 0), (oE 65 (.mv (.V 12)), 0, 0), (oE 66 (.iaddr 1 (.E 64) (.E 65)), 0, 0), (oE 67 (.load false 1 (.E 66)), 0, 0), (oE 68 (.load true 2 (.V 13)), 0, 0), (oE 69 (.iaddr 2 (.E 63) (.E 67)), 0, 0), (oN (.store [0, 0] (.E 69) (.E 68)), 0, 0)])))))) (.reg [oE 70 (.bin .add (.V 22) (ki 1)), oV 22 (.mv (.E 70))])))

def k_impl_HistOf_ic : IC := .seq (.reg [oV 8 (.mv (.C .e0)), oV 9 (.mv (kb false))]) (.seq (.seq (.reg [oE 15 (.mv (.V 3)), oE 16 (.call k_impl_within [([0], (.E 15)), ([0], (ki 1)), ([0], (ki 8))]), oE 17 (.un .not (.E 16))]) (.cond (.E 17) (.seq (.reg [oV 8 (.mv (.C .e0)), oV 9 (.mv (kb false))]) .ret) .skip)) (.seq (.reg [oE 18 (.mv (.V 3)), oE 19 (.mksl 16 2 [iv 0, iv 0] (.E 18) (.E 18)), oV 10 (.mv (.E 19))]) (.seq (.seq (.reg [oV 20 (.mv (.V 2)), oV 21 (.len (.V 20)), oV 22 (.mv (ki 0))]) (.block 0 (.loop k_impl_HistOf_b0))) (.seq (.reg [oE 71 (.mv (.V 10)), oV 8 (.mv (.E 71)), oV 9 (.mv (kb true))]) .ret))))

def k_impl_HistOf_rv : List RV := [.tmp [2] 8, .tmp [0] 9]

def k_spec_l1In_vars : List Nat := [0, 1, 2, 6]

def k_spec_l1In_ic : IC := .seq (.reg [oV 6 (.mv (kb false))]) (.seq (.reg [oE 7 (.mv (.V 0)), oE 8 (.mv (.V 1)), oE 9 (.bin .geq (.E 7) (.E 8)), oE 10 (.mv (.E 9)), ⟨(some (.E 11)), .mv (.V 0), some ((.E 10), true)⟩, ⟨(some (.E 12)), .mv (.V 2), some ((.E 10), true)⟩, ⟨(some (.E 13)), .bin .leq (.E 11) (.E 12), some ((.E 10), true)⟩, oE 14 (.pick (.E 10) (.E 13) (kb false)), oV 6 (.mv (.E 14))]) .ret)

def k_spec_l1In_rv : List RV := [.tmp [0] 6]

def k_spec_l6Value_vars : List Nat := [0, 2]

def k_spec_l6Value_ic : IC := .seq (.reg [oV 2 (.mv (kb false))]) (.seq (.reg [oE 3 (.mv (.V 0)), oE 4 (.call k_spec_l1In [([0], (.E 3)), ([0], (ki (-2147483647))), ([0], (ki 2147483647))]), oV 2 (.mv (.E 4))]) .ret)

def k_spec_l6Value_rv : List RV := [.tmp [0] 2]

def k_spec_NameOk_vars : List Nat := [0, 3, 2]

def k_spec_NameOk_b0 : IC := .seq (.seq (.reg [oE 13 (.mv (.V 3)), oE 14 (.mv (.V 0)), oE 15 (.lenS (.E 14)), oE 16 (.bin .lss (.E 13) (.E 15))]) (.cond (.E 16) .skip (.exit 0))) (.seq (.block 1 (.seq (.reg [oE 19 (.mv (.V 0)), oE 20 (.mv (.V 3)), oE 21 (.idx (.E 19) (.E 20)), oE 22 (.convI .i64 (.E 21)), oE 23 (.call k_spec_l1In [([0], (.E 22)), ([0], (ki 97)), ([0], (ki 122))]), oE 24 (.un .not (.E 23)), oE 25 (.mv (.E 24)), ⟨(some (.E 26)), .mv (.V 0), some ((.E 25), true)⟩, ⟨(some (.E 27)), .mv (.V 3), some ((.E 25), true)⟩, ⟨(some (.E 28)), .idx (.E 26) (.E 27), some ((.E 25), true)⟩, ⟨(some (.E 29)), .convI .i64 (.E 28), some ((.E 25), true)⟩, ⟨(some (.E 30)), .call k_spec_l1In [([0], (.E 29)), ([0], (ki 48)), ([0], (ki 57))], some ((.E 25), true)⟩, ⟨(some (.E 31)), .un .not (.E 30), some ((.E 25), true)⟩, oE 32 (.pick (.E 25) (.E 31) (kb false))]) (.cond (.E 32) (.seq (.reg [oV 2 (.mv (kb false))]) .ret) .skip))) (.reg [oE 17 (.mv (.V 3)), oE 18 (.bin .add (.E 17) (ki 1)), oV 3 (.mv (.E 18))]))

def k_spec_NameOk_ic : IC := .seq (.reg [oV 2 (.mv (kb false))]) (.seq (.seq (.reg [oE 4 (.mv (.V 0)), oE 5 (.lenS (.E 4)), oE 6 (.call k_spec_l1In [([0], (.E 5)), ([0], (ki 1)), ([0], (ki 12))]), oE 7 (.un .not (.E 6)), oE 8 (.mv (.E 7)), ⟨(some (.E 9)), .mv (.V 0), some ((.E 8), false)⟩, ⟨(some (.E 10)), .idx (.E 9) (ki 0), some ((.E 8), false)⟩, ⟨(some (.E 11)), .bin .lss (.E 10) (.C (.v (.int .u8 97))), some ((.E 8), false)⟩, oE 12 (.pick (.E 8) (kb true) (.E 11))]) (.cond (.E 12) (.seq (.reg [oV 2 (.mv (kb false))]) .ret) .skip)) (.seq (.seq (.reg [oV 3 (.mv (ki 0))]) (.block 0 (.loop k_spec_NameOk_b0))) (.seq (.reg [oV 2 (.mv (kb true))]) .ret)))

def k_spec_NameOk_rv : List RV := [.tmp [0] 2]

def k_spec_l9Has_vars : List Nat := [0, 1, 5, 4]

def k_spec_l9Has_b0 : IC := .seq (.seq (.reg [oE 6 (.mv (.V 5)), oE 7 (.mv (.V 0)), oE 8 (.len (.E 7)), oE 9 (.bin .lss (.E 6) (.E 8))]) (.cond (.E 9) .skip (.exit 0))) (.seq (.block 1 (.seq (.reg [oE 12 (.mv (.V 0)), oE 13 (.mv (.V 5)), oE 14 (.iaddr 1 (.E 12) (.E 13)), oE 15 (.load false 1 (.E 14)), oE 16 (.mv (.V 1)), oE 17 (.bin .eql (.E 15) (.E 16))]) (.cond (.E 17) (.seq (.reg [oV 4 (.mv (kb true))]) .ret) .skip))) (.reg [oE 10 (.mv (.V 5)), oE 11 (.bin .add (.E 10) (ki 1)), oV 5 (.mv (.E 11))]))

def k_spec_l9Has_ic : IC := .seq (.reg [oV 4 (.mv (kb false))]) (.seq (.seq (.reg [oV 5 (.mv (ki 0))]) (.block 0 (.loop k_spec_l9Has_b0))) (.seq (.reg [oV 4 (.mv (kb false))]) .ret))

def k_spec_l9Has_rv : List RV := [.tmp [0] 4]

def k_impl_within_vars : List Nat := [0, 1, 2, 6]

def k_impl_within_ic : IC := .seq (.reg [oV 6 (.mv (kb false))]) (.seq (.reg [oE 7 (.mv (.V 0)), oE 8 (.mv (.V 1)), oE 9 (.bin .geq (.E 7) (.E 8)), oE 10 (.mv (.E 9)), ⟨(some (.E 11)), .mv (.V 0), some ((.E 10), true)⟩, ⟨(some (.E 12)), .mv (.V 2), some ((.E 10), true)⟩, ⟨(some (.E 13)), .bin .leq (.E 11) (.E 12), some ((.E 10), true)⟩, oE 14 (.pick (.E 10) (.E 13) (kb false)), oV 6 (.mv (.E 14))]) .ret)

def k_impl_within_rv : List RV := [.tmp [0] 6]

def k_slices_ContainsFunc___int_int__vars : List Nat := [0, 1, 4]

def k_slices_ContainsFunc___int_int__ic : IC := .seq (.reg [oV 4 (.mv (kb false))]) (.seq (.reg [oE 5 (.mv (.V 0)), oE 6 (.mv (.V 1)), oE 7 (.call k_slices_IndexFunc___int_int_ [([1], (.E 5)), ([0], (.E 6))]), oE 8 (.bin .geq (.E 7) (ki 0)), oV 4 (.mv (.E 8))]) .ret)

def k_slices_ContainsFunc___int_int__rv : List RV := [.tmp [0] 4]

def k_impl_isDecimal_vars : List Nat := [0, 2]

def k_impl_isDecimal_ic : IC := .seq (.reg [oV 2 (.mv (kb false))]) (.seq (.reg [oE 3 (.mv (.V 0)), oE 4 (.call k_impl_within [([0], (.E 3)), ([0], (ki (-2147483647))), ([0], (ki 2147483647))]), oV 2 (.mv (.E 4))]) .ret)

def k_impl_isDecimal_rv : List RV := [.tmp [0] 2]

def k_spec_TableOk_vars : List Nat := [0, 1, 3, 4, 5, 6, 2]

def k_spec_TableOk_b0 : IC := .seq (.seq (.reg [oE 42 (.mv (.V 4)), oE 43 (.mv (.V 3)), oE 44 (.bin .lss (.E 42) (.E 43))]) (.cond (.E 44) .skip (.exit 0))) (.seq (.block 1 (.seq (.regD [(oE 47 (.faddr 0 (.V 1)), 0, 0), (oE 48 (.load false 1 (.E 47)), 0, 0), (oE 49 (.mv (.V 4)), 0, 0), (oE 50 (.iaddr 1 (.E 48) (.E 49)), 0, 0), (oE 51 (.load false 1 (.E 50)), 0, 0), (oE 52 (.call k_spec_NameOk [([0], (.E 51))]), 0, 0), (oE 53 (.un .not (.E 52)), 0, 0), (oE 54 (.mv (.E 53)), 0, 0), (⟨(some (.E 55)), .faddr 0 (.V 1), some ((.E 54), false)⟩, 0, 0), (⟨(some (.E 56)), .load false 1 (.E 55), some ((.E 54), false)⟩, 0, 0), (⟨(some (.E 57)), .mv (.V 4), some ((.E 54), false)⟩, 0, 0), (⟨(some (.E 58)), .slice 1 (.E 56) none (some (.E 57)) none, some ((.E 54), false)⟩, 0, 0), (⟨(some (.E 59)), .faddr 0 (.V 1), some ((.E 54), false)⟩, 0, 0), (⟨(some (.E 60)), .load false 1 (.E 59), some ((.E 54), false)⟩, 0, 0), (⟨(some (.E 61)), .mv (.V 4), some ((.E 54), false)⟩, 0, 0), (⟨(some (.E 62)), .iaddr 1 (.E 60) (.E 61), some ((.E 54), false)⟩, 0, 0), (⟨(some (.E 63)), .load false 1 (.E 62), some ((.E 54), false)⟩, 0, 0), (⟨(some (.E 64)), .call k_spec_l9Has [([1], (.E 58)), ([0], (.E 63))], some ((.E 54), false)⟩, 0, 0), (oE 65 (.pick (.E 54) (kb true) (.E 64)), 0, 0)]) (.cond (.E 65) (.seq (.reg [oV 2 (.mv (kb false))]) .ret) .skip))) (.reg [oE 45 (.mv (.V 4)), oE 46 (.bin .add (.E 45) (ki 1)), oV 4 (.mv (.E 46))]))

def k_spec_TableOk_b1 : IC := .seq (.seq (.reg [oE 90 (.mv (.V 6)), oE 91 (.mv (.V 3)), oE 92 (.bin .lss (.E 90) (.E 91))]) (.cond (.E 92) .skip (.exit 4))) (.seq (.block 5 (.seq (.reg [oE 95 (.faddr 2 (.V 1)), oE 96 (.load false 1 (.E 95)), oE 97 (.mv (.V 5)), oE 98 (.iaddr 1 (.E 96) (.E 97)), oE 99 (.load false 1 (.E 98)), oE 100 (.mv (.V 6)), oE 101 (.iaddr 1 (.E 99) (.E 100)), oE 102 (.load false 1 (.E 101)), oE 103 (.call k_spec_l6Value [([0], (.E 102))]), oE 104 (.un .not (.E 103))]) (.cond (.E 104) (.seq (.reg [oV 2 (.mv (kb false))]) .ret) .skip))) (.reg [oE 93 (.mv (.V 6)), oE 94 (.bin .add (.E 93) (ki 1)), oV 6 (.mv (.E 94))]))

def k_spec_TableOk_b2 : IC := .seq (.seq (.reg [oE 66 (.mv (.V 5)), oE 67 (.faddr 2 (.V 1)), oE 68 (.load false 1 (.E 67)), oE 69 (.len (.E 68)), oE 70 (.bin .lss (.E 66) (.E 69))]) (.cond (.E 70) .skip (.exit 2))) (.seq (.block 3 (.seq (.seq (.reg [oE 73 (.faddr 2 (.V 1)), oE 74 (.load false 1 (.E 73)), oE 75 (.mv (.V 5)), oE 76 (.iaddr 1 (.E 74) (.E 75)), oE 77 (.load false 1 (.E 76)), oE 78 (.len (.E 77)), oE 79 (.mv (.V 3)), oE 80 (.bin .neq (.E 78) (.E 79)), oE 81 (.mv (.E 80)), ⟨(some (.E 82)), .faddr 3 (.V 1), some ((.E 81), false)⟩, ⟨(some (.E 83)), .load false 1 (.E 82), some ((.E 81), false)⟩, ⟨(some (.E 84)), .mv (.V 5), some ((.E 81), false)⟩, ⟨(some (.E 85)), .iaddr 1 (.E 83) (.E 84), some ((.E 81), false)⟩, ⟨(some (.E 86)), .load false 1 (.E 85), some ((.E 81), false)⟩, ⟨(some (.E 87)), .call k_spec_l6Value [([0], (.E 86))], some ((.E 81), false)⟩, ⟨(some (.E 88)), .un .not (.E 87), some ((.E 81), false)⟩, oE 89 (.pick (.E 81) (kb true) (.E 88))]) (.cond (.E 89) (.seq (.reg [oV 2 (.mv (kb false))]) .ret) .skip)) (.seq (.reg [oV 6 (.mv (ki 0))]) (.block 4 (.loop k_spec_TableOk_b1))))) (.reg [oE 71 (.mv (.V 5)), oE 72 (.bin .add (.E 71) (ki 1)), oV 5 (.mv (.E 72))]))

def k_spec_TableOk_ic : IC := .seq (.reg [oV 1 (.box (.V 0)), oV 2 (.mv (kb false))]) (.seq (.reg [oE 7 (.faddr 0 (.V 1)), oE 8 (.load false 1 (.E 7)), oE 9 (.len (.E 8)), oV 3 (.mv (.E 9))]) (.seq (.seq (.reg [oE 10 (.mv (.V 3)), oE 11 (.call k_spec_l1In [([0], (.E 10)), ([0], (ki 1)), ([0], (ki 4))]), oE 12 (.un .not (.E 11)), oE 13 (.mv (.E 12)), ⟨(some (.E 14)), .faddr 1 (.V 1), some ((.E 13), false)⟩, ⟨(some (.E 15)), .load false 1 (.E 14), some ((.E 13), false)⟩, ⟨(some (.E 16)), .call k_spec_NameOk [([0], (.E 15))], some ((.E 13), false)⟩, ⟨(some (.E 17)), .un .not (.E 16), some ((.E 13), false)⟩, oE 18 (.pick (.E 13) (kb true) (.E 17)), oE 19 (.mv (.E 18)), ⟨(some (.E 20)), .faddr 0 (.V 1), some ((.E 19), false)⟩, ⟨(some (.E 21)), .load false 1 (.E 20), some ((.E 19), false)⟩, ⟨(some (.E 22)), .faddr 1 (.V 1), some ((.E 19), false)⟩, ⟨(some (.E 23)), .load false 1 (.E 22), some ((.E 19), false)⟩, ⟨(some (.E 24)), .call k_spec_l9Has [([1], (.E 21)), ([0], (.E 23))], some ((.E 19), false)⟩, oE 25 (.pick (.E 19) (kb true) (.E 24)), oE 26 (.mv (.E 25)), ⟨(some (.E 27)), .faddr 2 (.V 1), some ((.E 26), false)⟩, ⟨(some (.E 28)), .load false 1 (.E 27), some ((.E 26), false)⟩, ⟨(some (.E 29)), .len (.E 28), some ((.E 26), false)⟩, ⟨(some (.E 30)), .call k_spec_l1In [([0], (.E 29)), ([0], (ki 1)), ([0], (ki 40))], some ((.E 26), false)⟩, ⟨(some (.E 31)), .un .not (.E 30), some ((.E 26), false)⟩, oE 32 (.pick (.E 26) (kb true) (.E 31)), oE 33 (.mv (.E 32)), ⟨(some (.E 34)), .faddr 3 (.V 1), some ((.E 33), false)⟩, ⟨(some (.E 35)), .load false 1 (.E 34), some ((.E 33), false)⟩, ⟨(some (.E 36)), .len (.E 35), some ((.E 33), false)⟩, ⟨(some (.E 37)), .faddr 2 (.V 1), some ((.E 33), false)⟩, ⟨(some (.E 38)), .load false 1 (.E 37), some ((.E 33), false)⟩, ⟨(some (.E 39)), .len (.E 38), some ((.E 33), false)⟩, ⟨(some (.E 40)), .bin .neq (.E 36) (.E 39), some ((.E 33), false)⟩, oE 41 (.pick (.E 33) (kb true) (.E 40))]) (.cond (.E 41) (.seq (.reg [oV 2 (.mv (kb false))]) .ret) .skip)) (.seq (.seq (.reg [oV 4 (.mv (ki 0))]) (.block 0 (.loop k_spec_TableOk_b0))) (.seq (.seq (.reg [oV 5 (.mv (ki 0))]) (.block 2 (.loop k_spec_TableOk_b2))) (.seq (.reg [oV 2 (.mv (kb true))]) .ret)))))

def k_spec_TableOk_rv : List RV := [.tmp [0] 2]

def k_spec_Distinct_vars : List Nat := [0, 5, 4, 3, 2]

def k_spec_Distinct_b0 : IC := .seq (.seq (.reg [oE 9 (.mv (.V 5)), oE 10 (.mv (.V 4)), oE 11 (.len (.E 10)), oE 12 (.bin .lss (.E 9) (.E 11))]) (.cond (.E 12) .skip (.exit 0))) (.seq (.block 1 (.seq (.regD [(oE 15 (.mv (.V 5)), 0, 0), (oE 16 (.bin .eql (.E 15) (ki 0)), 0, 0), (oE 17 (.mv (.E 16)), 0, 0), (⟨(some (.E 18)), .mv (.V 4), some ((.E 17), false)⟩, 0, 0), (⟨(some (.E 19)), .mv (.V 5), some ((.E 17), false)⟩, 0, 0), (⟨(some (.E 20)), .iaddr 1 (.E 18) (.E 19), some ((.E 17), false)⟩, 0, 0), (⟨(some (.E 21)), .load false 1 (.E 20), some ((.E 17), false)⟩, 0, 0), (⟨(some (.E 22)), .mv (.V 4), some ((.E 17), false)⟩, 0, 0), (⟨(some (.E 23)), .mv (.V 5), some ((.E 17), false)⟩, 0, 0), (⟨(some (.E 24)), .bin .sub (.E 23) (ki 1), some ((.E 17), false)⟩, 0, 0), (⟨(some (.E 25)), .iaddr 1 (.E 22) (.E 24), some ((.E 17), false)⟩, 0, 0), (⟨(some (.E 26)), .load false 1 (.E 25), some ((.E 17), false)⟩, 0, 0), (⟨(some (.E 27)), .bin .neq (.E 21) (.E 26), some ((.E 17), false)⟩, 0, 0), (oE 28 (.pick (.E 17) (kb true) (.E 27)), 0, 0)]) (.cond (.E 28) (.reg [oE 29 (.mv (.V 3)), oE 30 (.mv (.V 4)), oE 31 (.mv (.V 5)), oE 32 (.iaddr 1 (.E 30) (.E 31)), oE 33 (.load false 1 (.E 32)), oE 34 (.bslice 1 1 [iv 0] [(0, (.E 33))]), oE 35 (.app 8 1 (.E 29) (.E 34)), oV 3 (.mv (.E 35))]) .skip))) (.reg [oE 13 (.mv (.V 5)), oE 14 (.bin .add (.E 13) (ki 1)), oV 5 (.mv (.E 14))]))

def k_spec_Distinct_ic : IC := .seq (.reg [oV 2 (.mv (.C .e0))]) (.seq (.reg [oE 6 (.bslice 0 1 [iv 0] []), oV 3 (.mv (.E 6))]) (.seq (.reg [oE 7 (.mv (.V 0)), oE 8 (.call k_spec_SortInts [([1], (.E 7))]), oV 4 (.mv (.E 8))]) (.seq (.seq (.reg [oV 5 (.mv (ki 0))]) (.block 0 (.loop k_spec_Distinct_b0))) (.seq (.reg [oE 36 (.mv (.V 3)), oV 2 (.mv (.E 36))]) .ret))))

def k_spec_Distinct_rv : List RV := [.tmp [1] 2]

def k_spec_l19Args_vars : List Nat := [0, 6, 7, 10, 8, 9, 11, 12, 3, 5, 2, 4]

def k_spec_l19Args_b0 : IC := .seq (.seq (.reg [oE 20 (.mv (.V 10)), oE 21 (.mv (.V 8)), oE 22 (.bin .lss (.E 20) (.E 21))]) (.cond (.E 22) .skip (.exit 0))) (.seq (.block 1 (.seq (.reg [oE 25 (.mv (.V 6)), oE 26 (.call k_spec_l1Below [([0], (.E 25)), ([0], (ki 41))]), oE 27 (.bin .sub (.E 26) (ki 20)), oE 28 (.bin .mul (ki 100) (.E 27)), oE 29 (.mv (.V 6)), oE 30 (.call k_spec_l1Below [([0], (.E 29)), ([0], (ki 3))]), oE 31 (.bin .add (.E 28) (.E 30)), oV 11 (.mv (.E 31))]) (.seq (.seq (.reg [oE 32 (.faddr 1 (.V 7)), oE 33 (.load false 1 (.E 32)), oE 34 (.iaddr 1 (.E 33) (ki 0)), oE 35 (.load false 1 (.E 34)), oE 36 (.len (.E 35)), oE 37 (.mv (.V 10)), oE 38 (.bin .gtr (.E 36) (.E 37)), oE 39 (.mv (.E 38)), ⟨(some (.E 40)), .mv (.V 6), some ((.E 39), true)⟩, ⟨(some (.E 41)), .call k_spec_l1Once [([0], (.E 40)), ([0], (ki 4))], some ((.E 39), true)⟩, ⟨(some (.E 42)), .un .not (.E 41), some ((.E 39), true)⟩, oE 43 (.pick (.E 39) (.E 42) (kb false))]) (.cond (.E 43) (.regD [(oE 44 (.faddr 1 (.V 7)), 0, 1), (oE 45 (.load false 1 (.E 44)), 0, 1), (oE 46 (.iaddr 1 (.E 45) (ki 0)), 0, 1), (oE 47 (.load false 1 (.E 46)), 0, 1), (oE 48 (.mv (.V 10)), 0, 0), (oE 49 (.iaddr 1 (.E 47) (.E 48)), 0, 1), (oE 50 (.load false 1 (.E 49)), 0, 1), (oE 51 (.bin .mul (ki 300) (.E 50)), 0, 0), (oE 52 (.bin .sub (.E 51) (ki 400)), 0, 0), (oE 53 (.mv (.V 6)), 0, 0), (oE 54 (.call k_spec_l1Below [([0], (.E 53)), ([0], (ki 4))]), 0, 0), (oE 55 (.bin .mul (ki 50) (.E 54)), 0, 0), (oE 56 (.bin .add (.E 52) (.E 55)), 0, 0), (oV 11 (.mv (.E 56)), 0, 0)]) .skip)) (.reg [oE 57 (.mv (.V 9)), oE 58 (.mv (.V 11)), oE 59 (.bslice 1 1 [iv 0] [(0, (.E 58))]), oE 60 (.app 8 1 (.E 57) (.E 59)), oV 9 (.mv (.E 60))])))) (.reg [oE 23 (.mv (.V 10)), oE 24 (.bin .add (.E 23) (ki 1)), oV 10 (.mv (.E 24))]))

def k_spec_l19Args_ic : IC := .seq (.reg [oV 2 (.mv (.C (.v (.pointer none)))), oV 3 (.alloc [.e0, .e0]), oV 4 (.mv (.C .e0)), oV 5 (.alloc [iv 0, iv 0, iv 0, iv 0, iv 0, iv 0, iv 0, .e0])]) (.seq (.reg [oE 13 (.mv (.V 0)), oE 14 (.call k_spec_l1New [([1], (.E 13))]), oV 6 (.mv (.E 14))]) (.seq (.reg [oE 15 (.mv (.V 6)), oE 16 (.call k_spec_l11Right [([0], (.E 15))]), oV 7 (.alloc [.e0, .e0]), oN (.store [1, 1] (.V 7) (.E 16))]) (.seq (.reg [oE 17 (.load true 2 (.V 7)), oE 18 (.call k_spec_RowsIn [([1, 1], (.E 17))]), oV 8 (.mv (.E 18))]) (.seq (.reg [oE 19 (.bslice 0 1 [iv 0] []), oV 9 (.mv (.E 19))]) (.seq (.seq (.reg [oV 10 (.mv (ki 0))]) (.block 0 (.loop k_spec_l19Args_b0))) (.seq (.seq (.reg [oE 61 (.mv (.V 6)), oE 62 (.call k_spec_l1Once [([0], (.E 61)), ([0], (ki 12))])]) (.cond (.E 62) (.reg [oE 63 (.mv (.V 6)), oE 64 (.mv (.V 8)), oE 65 (.call k_spec_l13Grads [([0], (.E 63)), ([0], (.E 64))]), oV 9 (.mv (.E 65))]) .skip)) (.seq (.seq (.reg [oE 66 (.mv (.V 6)), oE 67 (.call k_spec_l1Once [([0], (.E 66)), ([0], (ki 20))])]) (.cond (.E 67) (.reg [oE 68 (.mv (.V 9)), oE 69 (.mv (.V 6)), oE 70 (.bslice 3 1 [iv 0] [(0, (ki 0)), (1, (ki 2199023255552)), (2, (ki 2199023255553))]), oE 71 (.call k_spec_l1PickInt [([0], (.E 69)), ([1], (.E 70))]), oE 72 (.bslice 1 1 [iv 0] [(0, (.E 71))]), oE 73 (.app 8 1 (.E 68) (.E 72)), oV 9 (.mv (.E 73))]) .skip)) (.seq (.seq (.reg [oE 74 (.mv (.V 8)), oE 75 (.bin .gtr (.E 74) (ki 0)), oE 76 (.mv (.E 75)), ⟨(some (.E 77)), .mv (.V 6), some ((.E 76), true)⟩, ⟨(some (.E 78)), .call k_spec_l1Once [([0], (.E 77)), ([0], (ki 20))], some ((.E 76), true)⟩, oE 79 (.pick (.E 76) (.E 78) (kb false))]) (.cond (.E 79) (.reg [oE 80 (.mv (.V 9)), oE 81 (.mv (.V 6)), oE 82 (.bslice 4 1 [iv 0] [(0, (ki 2199023255552)), (1, (ki 2199023255553)), (2, (ki (-2199023255552))), (3, (ki (-2199023255553)))]), oE 83 (.call k_spec_l1PickInt [([0], (.E 81)), ([1], (.E 82))]), oE 84 (.iaddr 1 (.E 80) (ki 0)), oN (.store [0] (.E 84) (.E 83))]) .skip)) (.seq (.reg [oE 85 (.mv (.V 6)), oE 86 (.call k_spec_l8Right [([0], (.E 85))]), oV 12 (.alloc [iv 0, iv 0, iv 0, iv 0, iv 0, iv 0, iv 0, .e0]), oN (.store [0, 0, 0, 0, 0, 0, 0, 1] (.V 12) (.E 86))]) (.seq (.seq (.reg [oE 87 (.mv (.V 6)), oE 88 (.call k_spec_l1Once [([0], (.E 87)), ([0], (ki 20))])]) (.cond (.E 88) (.reg [oE 89 (.mv (.V 6)), oE 90 (.call k_spec_l8Bent [([0], (.E 89))]), oN (.store [0, 0, 0, 0, 0, 0, 0, 1] (.V 12) (.E 90))]) .skip)) (.seq (.seq (.reg [oE 91 (.mv (.V 6)), oE 92 (.call k_spec_l1Once [([0], (.E 91)), ([0], (ki 20))])]) (.cond (.E 92) (.reg [oE 93 (.mv (.V 6)), oE 94 (.call k_spec_l11Bent [([0], (.E 93))]), oN (.store [1, 1] (.V 7) (.E 94))]) .skip)) (.seq (.regD [(oE 95 (.mv (.V 6)), 0, 0), (oE 96 (.load true 2 (.V 7)), 0, 0), (oE 97 (.mv (.V 9)), 0, 0), (oE 98 (.load true 8 (.V 12)), 0, 1), (oV 2 (.mv (.E 95)), 0, 0), (oN (.store [1, 1] (.V 3) (.E 96)), 0, 0), (oV 4 (.mv (.E 97)), 0, 0), (oN (.store [0, 0, 0, 0, 0, 0, 0, 1] (.V 5) (.E 98)), 0, 0)]) .ret))))))))))))

def k_spec_l19Args_rv : List RV := [.tmp [0] 2, .cell [1, 1] 3 true, .tmp [1] 4, .cell [0, 0, 0, 0, 0, 0, 0, 1] 5 true]

def k_spec_l12Rows_vars : List Nat := [0, 1, 6, 5, 4]

def k_spec_l12Rows_b0 : IC := .seq (.seq (.reg [oE 8 (.mv (.V 6)), oE 9 (.mv (.V 1)), oE 10 (.bin .lss (.E 8) (.E 9))]) (.cond (.E 10) .skip (.exit 0))) (.seq (.block 1 (.seq (.reg [oE 13 (.mv (.V 0)), oE 14 (.call k_spec_l1Once [([0], (.E 13)), ([0], (ki 3))]), oE 15 (.un .not (.E 14))]) (.cond (.E 15) (.reg [oE 16 (.mv (.V 5)), oE 17 (.mv (.V 6)), oE 18 (.bslice 1 1 [iv 0] [(0, (.E 17))]), oE 19 (.app 8 1 (.E 16) (.E 18)), oV 5 (.mv (.E 19))]) .skip))) (.reg [oE 11 (.mv (.V 6)), oE 12 (.bin .add (.E 11) (ki 1)), oV 6 (.mv (.E 12))]))

def k_spec_l12Rows_ic : IC := .seq (.reg [oV 4 (.mv (.C .e0))]) (.seq (.reg [oE 7 (.bslice 0 1 [iv 0] []), oV 5 (.mv (.E 7))]) (.seq (.seq (.reg [oV 6 (.mv (ki 0))]) (.block 0 (.loop k_spec_l12Rows_b0))) (.seq (.seq (.reg [oE 20 (.mv (.V 0)), oE 21 (.call k_spec_l1Once [([0], (.E 20)), ([0], (ki 10))])]) (.cond (.E 21) (.reg [oE 22 (.mv (.V 5)), oE 23 (.mv (.V 0)), oE 24 (.mv (.V 1)), oE 25 (.bslice 4 1 [iv 0] [(0, (ki 0)), (1, (.E 24)), (2, (ki (-1))), (3, (ki 9223372036854775807))]), oE 26 (.call k_spec_l1PickInt [([0], (.E 23)), ([1], (.E 25))]), oE 27 (.bslice 1 1 [iv 0] [(0, (.E 26))]), oE 28 (.app 8 1 (.E 22) (.E 27)), oV 5 (.mv (.E 28))]) .skip)) (.seq (.reg [oE 29 (.mv (.V 5)), oV 4 (.mv (.E 29))]) .ret))))

def k_spec_l12Rows_rv : List RV := [.tmp [1] 4]

def k_impl_Prefix_vars : List Nat := [0, 14, 13, 12, 5, 7, 9, 8, 4, 2, 3]

def k_impl_Prefix_b0 : IC := .seq (.reg [oE 15 (.bin .lss (.V 14) (.V 13))]) (.seq (.cond (.E 15) .skip (.exit 0)) (.seq (.block 1 (.seq (.reg [oE 16 (.iaddr 2 (.V 12) (.V 14)), oE 17 (.load true 2 (.E 16)), oV 7 (.alloc [iv 0, iv 0]), oN (.store [0, 0] (.V 7) (.E 17))]) (.seq (.reg [oE 19 (.load true 2 (.V 5)), oE 20 (.load true 2 (.V 7)), oE 21 (.call k__impl_Slot__plus [([0, 0], (.E 19)), ([0, 0], (.E 20))]), oE 18 (.mv (.E 21)), oE 22 (.ext 0 (.E 18)), oE 23 (.ext 1 (.E 18)), oV 8 (.alloc [iv 0, iv 0]), oN (.store [0, 0] (.V 8) (.E 22)), oV 9 (.mv (.E 23))]) (.seq (.seq (.reg [oE 24 (.mv (.V 9)), oE 25 (.un .not (.E 24))]) (.cond (.E 25) (.seq (.reg [oV 2 (.mv (.C .e0)), oV 3 (.mv (kb false))]) .ret) .skip)) (.regD [(oE 26 (.load true 2 (.V 8)), 0, 2), (oE 27 (.mv (.V 4)), 0, 0), (oE 28 (.load true 2 (.V 8)), 0, 0), (oE 29 (.bslice 1 2 [iv 0, iv 0] [(0, (.E 28))]), 0, 0), (oE 30 (.app 16 2 (.E 27) (.E 29)), 0, 0), (oN (.store [0, 0] (.V 5) (.E 26)), 0, 0), (oV 4 (.mv (.E 30)), 0, 0)]))))) (.reg [oE 31 (.bin .add (.V 14) (ki 1)), oV 14 (.mv (.E 31))])))

def k_impl_Prefix_ic : IC := .seq (.reg [oV 2 (.mv (.C .e0)), oV 3 (.mv (kb false))]) (.seq (.reg [oE 10 (.bslice 0 2 [iv 0, iv 0] []), oE 11 (.build [iv 0, iv 0] []), oV 5 (.alloc [iv 0, iv 0]), oV 4 (.mv (.E 10)), oN (.store [0, 0] (.V 5) (.E 11))]) (.seq (.seq (.reg [oV 12 (.mv (.V 0)), oV 13 (.len (.V 12)), oV 14 (.mv (ki 0))]) (.block 0 (.loop k_impl_Prefix_b0))) (.seq (.reg [oE 32 (.mv (.V 4)), oV 2 (.mv (.E 32)), oV 3 (.mv (kb true))]) .ret)))

def k_impl_Prefix_rv : List RV := [.tmp [2] 2, .tmp [0] 3]

def k_spec_l1New_vars : List Nat := [0, 4, 3, 2]

def k_spec_l1New_b0 : IC := .seq (.seq (.reg [oE 8 (.mv (.V 4)), oE 9 (.mv (.V 0)), oE 10 (.len (.E 9)), oE 11 (.bin .lss (.E 8) (.E 10)), oE 12 (.mv (.E 11)), ⟨(some (.E 13)), .mv (.V 4), some ((.E 12), true)⟩, ⟨(some (.E 14)), .bin .lss (.E 13) (ki 4000), some ((.E 12), true)⟩, oE 15 (.pick (.E 12) (.E 14) (kb false))]) (.cond (.E 15) .skip (.exit 0))) (.seq (.block 1 (.reg [oE 18 (.mv (.V 3)), oE 19 (.bin .mul (.E 18) (ki 131)), oE 20 (.mv (.V 0)), oE 21 (.mv (.V 4)), oE 22 (.iaddr 1 (.E 20) (.E 21)), oE 23 (.load false 1 (.E 22)), oE 24 (.convI .i64 (.E 23)), oE 25 (.bin .add (.E 19) (.E 24)), oE 26 (.bin .add (.E 25) (ki 7)), oE 27 (.bin .and (.E 26) (ki 1073741823)), oV 3 (.mv (.E 27))])) (.reg [oE 16 (.mv (.V 4)), oE 17 (.bin .add (.E 16) (ki 1)), oV 4 (.mv (.E 17))]))

def k_spec_l1New_ic : IC := .seq (.reg [oV 2 (.mv (.C (.v (.pointer none))))]) (.seq (.reg [oE 5 (.mv (.V 0)), oE 6 (.len (.E 5)), oE 7 (.bin .add (ki 28507) (.E 6)), oV 3 (.mv (.E 7))]) (.seq (.seq (.reg [oV 4 (.mv (ki 0))]) (.block 0 (.loop k_spec_l1New_b0))) (.seq (.reg [oE 28 (.mv (.V 0)), oE 29 (.mv (.V 3)), oE 30 (.build [.e0, iv 0, iv 0] [(0, 1, (.E 28)), (2, 1, (.E 29))]), oE 31 (.box (.E 30)), oV 2 (.mv (.E 31))]) .ret)))

def k_spec_l1New_rv : List RV := [.tmp [0] 2]

def k_spec_l1Once_vars : List Nat := [0, 1, 4]

def k_spec_l1Once_ic : IC := .seq (.reg [oV 4 (.mv (kb false))]) (.seq (.reg [oE 5 (.mv (.V 0)), oE 6 (.mv (.V 1)), oE 7 (.call k_spec_l1Below [([0], (.E 5)), ([0], (.E 6))]), oE 8 (.bin .eql (.E 7) (ki 0)), oV 4 (.mv (.E 8))]) .ret)

def k_spec_l1Once_rv : List RV := [.tmp [0] 4]

def k_spec_l1Below_vars : List Nat := [0, 1, 5, 6, 7, 8, 4]

def k_spec_l1Below_ic : IC := .seq (.reg [oV 4 (.mv (ki 0))]) (.seq (.seq (.reg [oE 9 (.mv (.V 1)), oE 10 (.bin .leq (.E 9) (ki 0))]) (.cond (.E 10) (.seq (.reg [oV 4 (.mv (ki 0))]) .ret) .skip)) (.seq (.seq (.reg [oE 11 (.mv (.V 1)), oE 12 (.bin .leq (.E 11) (ki 256))]) (.cond (.E 12) (.seq (.reg [oE 13 (.mv (.V 0)), oE 14 (.call k_spec_l1Byte [([0], (.E 13))]), oE 15 (.mv (.V 1)), oE 16 (.bin .rem (.E 14) (.E 15)), oV 4 (.mv (.E 16))]) .ret) .skip)) (.seq (.reg [oE 17 (.mv (.V 0)), oE 18 (.call k_spec_l1Byte [([0], (.E 17))]), oV 5 (.mv (.E 18))]) (.seq (.reg [oE 19 (.mv (.V 0)), oE 20 (.call k_spec_l1Byte [([0], (.E 19))]), oV 6 (.mv (.E 20))]) (.seq (.reg [oE 21 (.mv (.V 0)), oE 22 (.call k_spec_l1Byte [([0], (.E 21))]), oV 7 (.mv (.E 22))]) (.seq (.reg [oE 23 (.mv (.V 0)), oE 24 (.call k_spec_l1Byte [([0], (.E 23))]), oV 8 (.mv (.E 24))]) (.seq (.reg [oE 25 (.mv (.V 5)), oE 26 (.bin .mul (.E 25) (ki 16777216)), oE 27 (.mv (.V 6)), oE 28 (.bin .mul (.E 27) (ki 65536)), oE 29 (.bin .add (.E 26) (.E 28)), oE 30 (.mv (.V 7)), oE 31 (.bin .mul (.E 30) (ki 256)), oE 32 (.bin .add (.E 29) (.E 31)), oE 33 (.mv (.V 8)), oE 34 (.bin .add (.E 32) (.E 33)), oE 35 (.mv (.V 1)), oE 36 (.bin .rem (.E 34) (.E 35)), oV 4 (.mv (.E 36))]) .ret)))))))

def k_spec_l1Below_rv : List RV := [.tmp [0] 4]

def k_spec_RowsIn_vars : List Nat := [0, 1, 2]

def k_spec_RowsIn_ic : IC := .seq (.reg [oV 1 (.box (.V 0)), oV 2 (.mv (ki 0))]) (.seq (.seq (.reg [oE 3 (.faddr 1 (.V 1)), oE 4 (.load false 1 (.E 3)), oE 5 (.len (.E 4)), oE 6 (.bin .eql (.E 5) (ki 0))]) (.cond (.E 6) (.seq (.reg [oV 2 (.mv (ki 0))]) .ret) .skip)) (.seq (.reg [oE 7 (.faddr 1 (.V 1)), oE 8 (.load false 1 (.E 7)), oE 9 (.iaddr 1 (.E 8) (ki 0)), oE 10 (.load false 1 (.E 9)), oE 11 (.len (.E 10)), oV 2 (.mv (.E 11))]) .ret))

def k_spec_RowsIn_rv : List RV := [.tmp [0] 2]

def k_spec_CutsOk_vars : List Nat := [0, 3, 2]

def k_spec_CutsOk_b0 : IC := .seq (.seq (.reg [oE 4 (.mv (.V 3)), oE 5 (.mv (.V 0)), oE 6 (.len (.E 5)), oE 7 (.bin .lss (.E 4) (.E 6))]) (.cond (.E 7) .skip (.exit 0))) (.seq (.block 1 (.seq (.regD [(oE 10 (.mv (.V 0)), 0, 0), (oE 11 (.mv (.V 3)), 0, 0), (oE 12 (.iaddr 1 (.E 10) (.E 11)), 0, 0), (oE 13 (.load false 1 (.E 12)), 0, 0), (oE 14 (.call k_spec_l6Value [([0], (.E 13))]), 0, 0), (oE 15 (.un .not (.E 14)), 0, 0), (oE 16 (.mv (.E 15)), 0, 0), (⟨(some (.E 17)), .mv (.V 3), some ((.E 16), false)⟩, 0, 0), (⟨(some (.E 18)), .bin .gtr (.E 17) (ki 0), some ((.E 16), false)⟩, 0, 0), (⟨(some (.E 19)), .mv (.E 18), some ((.E 16), false)⟩, 0, 0), (⟨(some (.E 20)), .mv (.V 0), some ((.E 19), true)⟩, 0, 0), (⟨(some (.E 21)), .mv (.V 3), some ((.E 19), true)⟩, 0, 0), (⟨(some (.E 22)), .bin .sub (.E 21) (ki 1), some ((.E 19), true)⟩, 0, 0), (⟨(some (.E 23)), .iaddr 1 (.E 20) (.E 22), some ((.E 19), true)⟩, 0, 0), (⟨(some (.E 24)), .load false 1 (.E 23), some ((.E 19), true)⟩, 0, 0), (⟨(some (.E 25)), .mv (.V 0), some ((.E 19), true)⟩, 0, 0), (⟨(some (.E 26)), .mv (.V 3), some ((.E 19), true)⟩, 0, 0), (⟨(some (.E 27)), .iaddr 1 (.E 25) (.E 26), some ((.E 19), true)⟩, 0, 0), (⟨(some (.E 28)), .load false 1 (.E 27), some ((.E 19), true)⟩, 0, 0), (⟨(some (.E 29)), .bin .geq (.E 24) (.E 28), some ((.E 19), true)⟩, 0, 0), (⟨(some (.E 30)), .pick (.E 19) (.E 29) (kb false), some ((.E 16), false)⟩, 0, 0), (oE 31 (.pick (.E 16) (kb true) (.E 30)), 0, 0)]) (.cond (.E 31) (.seq (.reg [oV 2 (.mv (kb false))]) .ret) .skip))) (.reg [oE 8 (.mv (.V 3)), oE 9 (.bin .add (.E 8) (ki 1)), oV 3 (.mv (.E 9))]))

def k_spec_CutsOk_ic : IC := .seq (.reg [oV 2 (.mv (kb false))]) (.seq (.seq (.reg [oV 3 (.mv (ki 0))]) (.block 0 (.loop k_spec_CutsOk_b0))) (.seq (.reg [oE 32 (.mv (.V 0)), oE 33 (.len (.E 32)), oE 34 (.bin .leq (.E 33) (ki 7)), oV 2 (.mv (.E 34))]) .ret))

def k_spec_CutsOk_rv : List RV := [.tmp [0] 2]

def k_spec_l13Add_vars : List Nat := [0, 1, 2, 3, 7, 9, 4, 6, 8, 5]

def k_spec_l13Add_ic : IC := .seq (.reg [oV 2 (.box (.V 0)), oV 3 (.box (.V 1)), oV 4 (.alloc [iv 0, iv 0]), oV 5 (.mv (kb false))]) (.seq (.reg [oE 11 (.faddr 0 (.V 2)), oE 12 (.load false 1 (.E 11)), oE 13 (.faddr 0 (.V 3)), oE 14 (.load false 1 (.E 13)), oE 15 (.call k_spec_AddInt [([0], (.E 12)), ([0], (.E 14))]), oE 10 (.mv (.E 15)), oE 16 (.ext 0 (.E 10)), oE 17 (.ext 1 (.E 10)), oV 6 (.mv (.E 16)), oV 7 (.mv (.E 17))]) (.seq (.reg [oE 19 (.faddr 1 (.V 2)), oE 20 (.load false 1 (.E 19)), oE 21 (.faddr 1 (.V 3)), oE 22 (.load false 1 (.E 21)), oE 23 (.call k_spec_AddInt [([0], (.E 20)), ([0], (.E 22))]), oE 18 (.mv (.E 23)), oE 24 (.ext 0 (.E 18)), oE 25 (.ext 1 (.E 18)), oV 8 (.mv (.E 24)), oV 9 (.mv (.E 25))]) (.seq (.seq (.reg [oE 26 (.mv (.V 7)), oE 27 (.un .not (.E 26)), oE 28 (.mv (.E 27)), ⟨(some (.E 29)), .mv (.V 9), some ((.E 28), false)⟩, ⟨(some (.E 30)), .un .not (.E 29), some ((.E 28), false)⟩, oE 31 (.pick (.E 28) (kb true) (.E 30))]) (.cond (.E 31) (.seq (.reg [oE 32 (.build [iv 0, iv 0] []), oN (.store [0, 0] (.V 4) (.E 32)), oV 5 (.mv (kb false))]) .ret) .skip)) (.seq (.reg [oE 33 (.mv (.V 6)), oE 34 (.mv (.V 8)), oE 35 (.build [iv 0, iv 0] [(0, 1, (.E 33)), (1, 1, (.E 34))]), oN (.store [0, 0] (.V 4) (.E 35)), oV 5 (.mv (kb true))]) .ret))))

def k_spec_l13Add_rv : List RV := [.cell [0, 0] 4 true, .tmp [0] 5]

def k_impl_RowsIn_vars : List Nat := [0, 1, 2]

def k_impl_RowsIn_ic : IC := .seq (.reg [oV 1 (.box (.V 0)), oV 2 (.mv (ki 0))]) (.seq (.seq (.reg [oE 3 (.faddr 1 (.V 1)), oE 4 (.load false 1 (.E 3)), oE 5 (.len (.E 4)), oE 6 (.bin .eql (.E 5) (ki 0))]) (.cond (.E 6) (.seq (.reg [oV 2 (.mv (ki 0))]) .ret) .skip)) (.seq (.reg [oE 7 (.faddr 1 (.V 1)), oE 8 (.load false 1 (.E 7)), oE 9 (.iaddr 1 (.E 8) (ki 0)), oE 10 (.load false 1 (.E 9)), oE 11 (.len (.E 10)), oV 2 (.mv (.E 11))]) .ret))

def k_impl_RowsIn_rv : List RV := [.tmp [0] 2]

def k_impl_CutsOk_vars : List Nat := [0, 3, 2]

def k_impl_CutsOk_b0 : IC := .seq (.seq (.reg [oE 4 (.mv (.V 3)), oE 5 (.mv (.V 0)), oE 6 (.len (.E 5)), oE 7 (.bin .lss (.E 4) (.E 6))]) (.cond (.E 7) .skip (.exit 0))) (.seq (.block 1 (.seq (.regD [(oE 10 (.mv (.V 0)), 0, 0), (oE 11 (.mv (.V 3)), 0, 0), (oE 12 (.bin .sub (.E 11) (ki 1)), 0, 0), (oE 13 (.iaddr 1 (.E 10) (.E 12)), 0, 0), (oE 14 (.load false 1 (.E 13)), 0, 0), (oE 15 (.mv (.V 0)), 0, 0), (oE 16 (.mv (.V 3)), 0, 0), (oE 17 (.iaddr 1 (.E 15) (.E 16)), 0, 0), (oE 18 (.load false 1 (.E 17)), 0, 0), (oE 19 (.bin .geq (.E 14) (.E 18)), 0, 0)]) (.cond (.E 19) (.seq (.reg [oV 2 (.mv (kb false))]) .ret) .skip))) (.reg [oE 8 (.mv (.V 3)), oE 9 (.bin .add (.E 8) (ki 1)), oV 3 (.mv (.E 9))]))

def k_impl_CutsOk_ic : IC := .seq (.reg [oV 2 (.mv (kb false))]) (.seq (.seq (.reg [oV 3 (.mv (ki 1))]) (.block 0 (.loop k_impl_CutsOk_b0))) (.seq (.reg [oE 20 (.mv (.V 0)), oE 21 (.len (.E 20)), oE 22 (.bin .leq (.E 21) (ki 7)), oE 23 (.mv (.E 22)), ⟨(some (.E 24)), .mv (.V 0), some ((.E 23), true)⟩, ⟨(some (.E 25)), .call k_impl_areDecimals [([1], (.E 24))], some ((.E 23), true)⟩, oE 26 (.pick (.E 23) (.E 25) (kb false)), oV 2 (.mv (.E 26))]) .ret))

def k_impl_CutsOk_rv : List RV := [.tmp [0] 2]

def k_impl_GridOk_1_vars : List Nat := [0, 1, 3]

def k_impl_GridOk_1_ic : IC := .seq (.reg [oV 3 (.mv (kb false))]) (.seq (.reg [oE 4 (.mv (.V 0)), oE 5 (.load false 1 (.V 1)), oE 6 (.len (.E 5)), oE 7 (.call k_impl_within [([0], (.E 4)), ([0], (ki 0)), ([0], (.E 6))]), oE 8 (.un .not (.E 7)), oV 3 (.mv (.E 8))]) .ret)

def k_impl_GridOk_1_rv : List RV := [.tmp [0] 3]

def k__impl_Slot__plus_vars : List Nat := [0, 1, 2, 3, 7, 9, 4, 6, 8, 5]

def k__impl_Slot__plus_ic : IC := .seq (.reg [oV 2 (.box (.V 0)), oV 3 (.box (.V 1)), oV 4 (.alloc [iv 0, iv 0]), oV 5 (.mv (kb false))]) (.seq (.reg [oE 11 (.faddr 0 (.V 2)), oE 12 (.load false 1 (.E 11)), oE 13 (.faddr 0 (.V 3)), oE 14 (.load false 1 (.E 13)), oE 15 (.call k_impl_AddInt [([0], (.E 12)), ([0], (.E 14))]), oE 10 (.mv (.E 15)), oE 16 (.ext 0 (.E 10)), oE 17 (.ext 1 (.E 10)), oV 6 (.mv (.E 16)), oV 7 (.mv (.E 17))]) (.seq (.reg [oE 19 (.faddr 1 (.V 2)), oE 20 (.load false 1 (.E 19)), oE 21 (.faddr 1 (.V 3)), oE 22 (.load false 1 (.E 21)), oE 23 (.call k_impl_AddInt [([0], (.E 20)), ([0], (.E 22))]), oE 18 (.mv (.E 23)), oE 24 (.ext 0 (.E 18)), oE 25 (.ext 1 (.E 18)), oV 8 (.mv (.E 24)), oV 9 (.mv (.E 25))]) (.seq (.seq (.reg [oE 26 (.mv (.V 7)), oE 27 (.un .not (.E 26)), oE 28 (.mv (.E 27)), ⟨(some (.E 29)), .mv (.V 9), some ((.E 28), false)⟩, ⟨(some (.E 30)), .un .not (.E 29), some ((.E 28), false)⟩, oE 31 (.pick (.E 28) (kb true) (.E 30))]) (.cond (.E 31) (.seq (.reg [oE 32 (.build [iv 0, iv 0] []), oN (.store [0, 0] (.V 4) (.E 32)), oV 5 (.mv (kb false))]) .ret) .skip)) (.seq (.reg [oE 33 (.mv (.V 6)), oE 34 (.mv (.V 8)), oE 35 (.build [iv 0, iv 0] [(0, 1, (.E 33)), (1, 1, (.E 34))]), oN (.store [0, 0] (.V 4) (.E 35)), oV 5 (.mv (kb true))]) .ret))))

def k__impl_Slot__plus_rv : List RV := [.cell [0, 0] 4 true, .tmp [0] 5]

def k_slices_IndexFunc___int_int__vars : List Nat := [0, 1, 8, 7, 5, 4]

def k_slices_IndexFunc___int_int__b0 : IC := .seq (.reg [oE 9 (.bin .lss (.V 8) (.V 7))]) (.seq (.cond (.E 9) .skip (.exit 0)) (.seq (.block 1 (.seq (.reg [oE 10 (.mv (.V 8)), oV 5 (.mv (.E 10))]) (.seq (.reg [oE 11 (.mv (.V 1)), oE 12 (.mv (.V 0)), oE 13 (.mv (.V 5)), oE 14 (.iaddr 1 (.E 12) (.E 13)), oE 15 (.load false 1 (.E 14)), oE 16 (.callv (.E 11) [([0], (.E 15))])]) (.cond (.E 16) (.seq (.reg [oE 17 (.mv (.V 5)), oV 4 (.mv (.E 17))]) .ret) .skip)))) (.reg [oE 18 (.bin .add (.V 8) (ki 1)), oV 8 (.mv (.E 18))])))

def k_slices_IndexFunc___int_int__ic : IC := .seq (.reg [oV 4 (.mv (ki 0))]) (.seq (.seq (.reg [oE 6 (.mv (.V 0)), oV 7 (.len (.E 6)), oV 8 (.mv (ki 0))]) (.block 0 (.loop k_slices_IndexFunc___int_int__b0))) (.seq (.reg [oV 4 (.mv (ki (-1)))]) .ret))

def k_slices_IndexFunc___int_int__rv : List RV := [.tmp [0] 4]

def k_spec_AddInt_vars : List Nat := [0, 1, 4, 5]

def k_spec_AddInt_ic : IC := .seq (.reg [oV 4 (.mv (ki 0)), oV 5 (.mv (kb false))]) (.seq (.seq (.reg [oE 6 (.mv (.V 1)), oE 7 (.bin .gtr (.E 6) (ki 0)), oE 8 (.mv (.E 7)), ⟨(some (.E 9)), .mv (.V 0), some ((.E 8), true)⟩, ⟨(some (.E 10)), .mv (.V 1), some ((.E 8), true)⟩, ⟨(some (.E 11)), .bin .sub (ki 9223372036854775807) (.E 10), some ((.E 8), true)⟩, ⟨(some (.E 12)), .bin .gtr (.E 9) (.E 11), some ((.E 8), true)⟩, oE 13 (.pick (.E 8) (.E 12) (kb false)), oE 14 (.mv (.E 13)), ⟨(some (.E 15)), .mv (.V 1), some ((.E 14), false)⟩, ⟨(some (.E 16)), .bin .lss (.E 15) (ki 0), some ((.E 14), false)⟩, ⟨(some (.E 17)), .mv (.E 16), some ((.E 14), false)⟩, ⟨(some (.E 18)), .mv (.V 0), some ((.E 17), true)⟩, ⟨(some (.E 19)), .mv (.V 1), some ((.E 17), true)⟩, ⟨(some (.E 20)), .bin .sub (ki (-9223372036854775808)) (.E 19), some ((.E 17), true)⟩, ⟨(some (.E 21)), .bin .lss (.E 18) (.E 20), some ((.E 17), true)⟩, ⟨(some (.E 22)), .pick (.E 17) (.E 21) (kb false), some ((.E 14), false)⟩, oE 23 (.pick (.E 14) (kb true) (.E 22))]) (.cond (.E 23) (.seq (.reg [oV 4 (.mv (ki 0)), oV 5 (.mv (kb false))]) .ret) .skip)) (.seq (.reg [oE 24 (.mv (.V 0)), oE 25 (.mv (.V 1)), oE 26 (.bin .add (.E 24) (.E 25)), oV 4 (.mv (.E 26)), oV 5 (.mv (kb true))]) .ret))

def k_spec_AddInt_rv : List RV := [.tmp [0] 4, .tmp [0] 5]

def k_impl_areDecimals_vars : List Nat := [0, 2]

def k_impl_areDecimals_ic : IC := .seq (.reg [oV 2 (.mv (kb false))]) (.seq (.reg [oE 3 (.mv (.V 0)), oE 4 (.call k_slices_ContainsFunc___int_int_ [([1], (.E 3)), ([0], (.C (.fn k_impl_areDecimals_1 [])))]), oE 5 (.un .not (.E 4)), oV 2 (.mv (.E 5))]) .ret)

def k_impl_areDecimals_rv : List RV := [.tmp [0] 2]

def k_impl_AddInt_vars : List Nat := [0, 1, 6, 4, 5]

def k_impl_AddInt_ic : IC := .seq (.reg [oV 4 (.mv (ki 0)), oV 5 (.mv (kb false))]) (.seq (.reg [oE 7 (.mv (.V 0)), oE 8 (.mv (.V 1)), oE 9 (.bin .add (.E 7) (.E 8)), oV 6 (.mv (.E 9))]) (.seq (.seq (.reg [oE 10 (.mv (.V 0)), oE 11 (.bin .lss (.E 10) (ki 0)), oE 12 (.mv (.V 1)), oE 13 (.bin .lss (.E 12) (ki 0)), oE 14 (.eqb false [.b] (.E 11) (.E 13)), oE 15 (.mv (.E 14)), ⟨(some (.E 16)), .mv (.V 6), some ((.E 15), true)⟩, ⟨(some (.E 17)), .bin .lss (.E 16) (ki 0), some ((.E 15), true)⟩, ⟨(some (.E 18)), .mv (.V 0), some ((.E 15), true)⟩, ⟨(some (.E 19)), .bin .lss (.E 18) (ki 0), some ((.E 15), true)⟩, ⟨(some (.E 20)), .eqb true [.b] (.E 17) (.E 19), some ((.E 15), true)⟩, oE 21 (.pick (.E 15) (.E 20) (kb false))]) (.cond (.E 21) (.seq (.reg [oV 4 (.mv (ki 0)), oV 5 (.mv (kb false))]) .ret) .skip)) (.seq (.reg [oE 22 (.mv (.V 6)), oV 4 (.mv (.E 22)), oV 5 (.mv (kb true))]) .ret)))

def k_impl_AddInt_rv : List RV := [.tmp [0] 4, .tmp [0] 5]

def k_spec_SortInts_vars : List Nat := [0, 4, 3, 5, 6, 2]

def k_spec_SortInts_b0 : IC := .seq (.seq (.regD [(oE 16 (.mv (.V 5)), 0, 0), (oE 17 (.bin .gtr (.E 16) (ki 0)), 0, 0), (oE 18 (.mv (.E 17)), 0, 0), (⟨(some (.E 19)), .mv (.V 3), some ((.E 18), true)⟩, 0, 0), (⟨(some (.E 20)), .mv (.V 5), some ((.E 18), true)⟩, 0, 0), (⟨(some (.E 21)), .bin .sub (.E 20) (ki 1), some ((.E 18), true)⟩, 0, 0), (⟨(some (.E 22)), .iaddr 1 (.E 19) (.E 21), some ((.E 18), true)⟩, 0, 0), (⟨(some (.E 23)), .load false 1 (.E 22), some ((.E 18), true)⟩, 0, 0), (⟨(some (.E 24)), .mv (.V 0), some ((.E 18), true)⟩, 0, 0), (⟨(some (.E 25)), .mv (.V 4), some ((.E 18), true)⟩, 0, 0), (⟨(some (.E 26)), .iaddr 1 (.E 24) (.E 25), some ((.E 18), true)⟩, 0, 0), (⟨(some (.E 27)), .load false 1 (.E 26), some ((.E 18), true)⟩, 0, 0), (⟨(some (.E 28)), .bin .gtr (.E 23) (.E 27), some ((.E 18), true)⟩, 0, 0), (oE 29 (.pick (.E 18) (.E 28) (kb false)), 0, 0)]) (.cond (.E 29) .skip (.exit 2))) (.block 3 (.reg [oE 30 (.mv (.V 5)), oE 31 (.bin .sub (.E 30) (ki 1)), oV 5 (.mv (.E 31))]))

def k_spec_SortInts_b1 : IC := .seq (.seq (.reg [oE 8 (.mv (.V 4)), oE 9 (.mv (.V 0)), oE 10 (.len (.E 9)), oE 11 (.bin .lss (.E 8) (.E 10))]) (.cond (.E 11) .skip (.exit 0))) (.seq (.block 1 (.seq (.reg [oE 14 (.mv (.V 3)), oE 15 (.len (.E 14)), oV 5 (.mv (.E 15))]) (.seq (.block 2 (.loop k_spec_SortInts_b0)) (.seq (.regD [(oE 32 (.bslice 0 1 [iv 0] []), 0, 0), (oE 33 (.mv (.V 3)), 0, 0), (oE 34 (.mv (.V 5)), 0, 0), (oE 35 (.slice 1 (.E 33) none (some (.E 34)) none), 1, 0), (oE 36 (.app 8 1 (.E 32) (.E 35)), 0, 0), (oE 37 (.mv (.V 0)), 0, 0), (oE 38 (.mv (.V 4)), 0, 0), (oE 39 (.iaddr 1 (.E 37) (.E 38)), 2, 0), (oE 40 (.load false 1 (.E 39)), 2, 0), (oE 41 (.bsliceL 1 1 [iv 0] [(0, (.E 40))]), 0, 0), (oE 42 (.app 8 1 (.E 36) (.E 41)), 0, 0), (oV 6 (.mv (.E 42)), 0, 0)]) (.reg [oE 43 (.mv (.V 6)), oE 44 (.mv (.V 3)), oE 45 (.mv (.V 5)), oE 46 (.slice 1 (.E 44) (some (.E 45)) none none), oE 47 (.app 8 1 (.E 43) (.E 46)), oV 3 (.mv (.E 47))]))))) (.reg [oE 12 (.mv (.V 4)), oE 13 (.bin .add (.E 12) (ki 1)), oV 4 (.mv (.E 13))]))

def k_spec_SortInts_ic : IC := .seq (.reg [oV 2 (.mv (.C .e0))]) (.seq (.reg [oE 7 (.bslice 0 1 [iv 0] []), oV 3 (.mv (.E 7))]) (.seq (.seq (.reg [oV 4 (.mv (ki 0))]) (.block 0 (.loop k_spec_SortInts_b1))) (.seq (.reg [oE 48 (.mv (.V 3)), oV 2 (.mv (.E 48))]) .ret)))

def k_spec_SortInts_rv : List RV := [.tmp [1] 2]

def k_spec_l11Right_vars : List Nat := [0, 2]

def k_spec_l11Right_ic : IC := .seq (.reg [oV 2 (.alloc [.e0, .e0])]) (.seq (.reg [oE 3 (.mv (.V 0)), oE 4 (.call k_spec_l9Right [([0], (.E 3))]), oE 5 (.mv (.V 0)), oE 6 (.call k_spec_l1Below [([0], (.E 5)), ([0], (ki 5))]), oE 7 (.bin .add (ki 2) (.E 6)), oE 8 (.call k_spec_GridOf [([1, 0, 1, 1], (.E 4)), ([0], (.E 7))]), oN (.store [1, 1] (.V 2) (.E 8))]) .ret)

def k_spec_l11Right_rv : List RV := [.cell [1, 1] 2 true]

def k_spec_l13Grads_vars : List Nat := [0, 1, 7, 6, 5, 4]

def k_spec_l13Grads_b0 : IC := .seq (.seq (.reg [oE 11 (.mv (.V 7)), oE 12 (.mv (.V 1)), oE 13 (.bin .lss (.E 11) (.E 12))]) (.cond (.E 13) .skip (.exit 0))) (.seq (.block 1 (.seq (.reg [oE 16 (.mv (.V 6))]) (.cond (.E 16) (.reg [oE 17 (.mv (.V 5)), oE 18 (.mv (.V 0)), oE 19 (.call k_spec_l1Whole [([0], (.E 18))]), oE 20 (.bslice 1 1 [iv 0] [(0, (.E 19))]), oE 21 (.app 8 1 (.E 17) (.E 20)), oV 5 (.mv (.E 21))]) (.reg [oE 22 (.mv (.V 5)), oE 23 (.mv (.V 0)), oE 24 (.call k_spec_l1Below [([0], (.E 23)), ([0], (ki 41))]), oE 25 (.bin .sub (.E 24) (ki 20)), oE 26 (.bin .mul (ki 100) (.E 25)), oE 27 (.mv (.V 0)), oE 28 (.call k_spec_l1Below [([0], (.E 27)), ([0], (ki 3))]), oE 29 (.bin .add (.E 26) (.E 28)), oE 30 (.bslice 1 1 [iv 0] [(0, (.E 29))]), oE 31 (.app 8 1 (.E 22) (.E 30)), oV 5 (.mv (.E 31))])))) (.reg [oE 14 (.mv (.V 7)), oE 15 (.bin .add (.E 14) (ki 1)), oV 7 (.mv (.E 15))]))

def k_spec_l13Grads_ic : IC := .seq (.reg [oV 4 (.mv (.C .e0))]) (.seq (.reg [oE 8 (.bslice 0 1 [iv 0] []), oV 5 (.mv (.E 8))]) (.seq (.reg [oE 9 (.mv (.V 0)), oE 10 (.call k_spec_l1Once [([0], (.E 9)), ([0], (ki 20))]), oV 6 (.mv (.E 10))]) (.seq (.seq (.reg [oV 7 (.mv (ki 0))]) (.block 0 (.loop k_spec_l13Grads_b0))) (.seq (.reg [oE 32 (.mv (.V 5)), oV 4 (.mv (.E 32))]) .ret))))

def k_spec_l13Grads_rv : List RV := [.tmp [1] 4]

def k_spec_l1PickInt_vars : List Nat := [0, 1, 4]

def k_spec_l1PickInt_ic : IC := .seq (.reg [oV 4 (.mv (ki 0))]) (.seq (.reg [oE 5 (.mv (.V 1)), oE 6 (.mv (.V 0)), oE 7 (.mv (.V 1)), oE 8 (.len (.E 7)), oE 9 (.call k_spec_l1Below [([0], (.E 6)), ([0], (.E 8))]), oE 10 (.iaddr 1 (.E 5) (.E 9)), oE 11 (.load false 1 (.E 10)), oV 4 (.mv (.E 11))]) .ret)

def k_spec_l1PickInt_rv : List RV := [.tmp [0] 4]

def k_spec_l8Right_vars : List Nat := [0, 3, 5, 4, 2]

def k_spec_l8Right_b0 : IC := .seq (.seq (.reg [oE 40 (.mv (.V 5)), oE 41 (.mv (.V 4)), oE 42 (.bin .lss (.E 40) (.E 41))]) (.cond (.E 42) .skip (.exit 0))) (.seq (.block 1 (.regD [(oE 45 (.faddr 7 (.V 3)), 0, 2), (oE 46 (.load false 1 (.E 45)), 0, 2), (oE 47 (.mv (.V 0)), 0, 0), (oE 48 (.call k_spec_l1Below [([0], (.E 47)), ([0], (ki 3))]), 0, 0), (oE 49 (.bin .sub (.E 48) (ki 1)), 0, 0), (oE 50 (.bslice 1 1 [iv 0] [(0, (.E 49))]), 0, 0), (oE 51 (.app 8 1 (.E 46) (.E 50)), 0, 0), (oE 52 (.faddr 7 (.V 3)), 0, 0), (oN (.store [1] (.E 52) (.E 51)), 0, 0)])) (.reg [oE 43 (.mv (.V 5)), oE 44 (.bin .add (.E 43) (ki 1)), oV 5 (.mv (.E 44))]))

def k_spec_l8Right_ic : IC := .seq (.reg [oV 2 (.alloc [iv 0, iv 0, iv 0, iv 0, iv 0, iv 0, iv 0, .e0])]) (.seq (.reg [oE 6 (.mv (.V 0)), oE 7 (.call k_spec_l1Below [([0], (.E 6)), ([0], (ki 4))]), oE 8 (.bin .add (ki 1) (.E 7)), oE 9 (.mv (.V 0)), oE 10 (.call k_spec_l1Below [([0], (.E 9)), ([0], (ki 4))]), oE 11 (.mv (.V 0)), oE 12 (.call k_spec_l1Below [([0], (.E 11)), ([0], (ki 5))]), oE 13 (.bin .add (ki 2) (.E 12)), oE 14 (.mv (.V 0)), oE 15 (.call k_spec_l1Below [([0], (.E 14)), ([0], (ki 3))]), oE 16 (.bin .add (ki 1) (.E 15)), oE 17 (.mv (.V 0)), oE 18 (.call k_spec_l1Below [([0], (.E 17)), ([0], (ki 3))]), oE 19 (.bin .add (ki 1) (.E 18)), oE 20 (.mv (.V 0)), oE 21 (.call k_spec_l1Below [([0], (.E 20)), ([0], (ki 3))]), oE 22 (.bin .add (ki 1) (.E 21)), oE 23 (.build [iv 0, iv 0, iv 0, iv 0, iv 0, iv 0, iv 0, .e0] [(0, 1, (.E 8)), (1, 1, (.E 10)), (2, 1, (.E 13)), (3, 1, (.E 16)), (4, 1, (.E 19)), (5, 1, (ki 1)), (6, 1, (.E 22))]), oV 3 (.alloc [iv 0, iv 0, iv 0, iv 0, iv 0, iv 0, iv 0, .e0]), oN (.store [0, 0, 0, 0, 0, 0, 0, 1] (.V 3) (.E 23))]) (.seq (.seq (.reg [oE 24 (.mv (.V 0)), oE 25 (.call k_spec_l1Once [([0], (.E 24)), ([0], (ki 8))])]) (.cond (.E 25) (.reg [oE 26 (.mv (.V 0)), oE 27 (.call k_spec_l1Below [([0], (.E 26)), ([0], (ki 100))]), oE 28 (.bin .add (ki 1) (.E 27)), oE 29 (.faddr 3 (.V 3)), oN (.store [0] (.E 29) (.E 28))]) .skip)) (.seq (.seq (.reg [oE 30 (.mv (.V 0)), oE 31 (.call k_spec_l1Once [([0], (.E 30)), ([0], (ki 4))])]) (.cond (.E 31) (.reg [oE 32 (.mv (.V 0)), oE 33 (.faddr 6 (.V 3)), oE 34 (.load false 1 (.E 33)), oE 35 (.call k_spec_l1Below [([0], (.E 32)), ([0], (.E 34))]), oE 36 (.bin .add (ki 1) (.E 35)), oE 37 (.faddr 5 (.V 3)), oN (.store [0] (.E 37) (.E 36))]) .skip)) (.seq (.reg [oE 38 (.mv (.V 0)), oE 39 (.call k_spec_l1Below [([0], (.E 38)), ([0], (ki 5))]), oV 4 (.mv (.E 39))]) (.seq (.seq (.reg [oV 5 (.mv (ki 0))]) (.block 0 (.loop k_spec_l8Right_b0))) (.seq (.reg [oE 53 (.load true 8 (.V 3)), oN (.store [0, 0, 0, 0, 0, 0, 0, 1] (.V 2) (.E 53))]) .ret))))))

def k_spec_l8Right_rv : List RV := [.cell [0, 0, 0, 0, 0, 0, 0, 1] 2 true]

def k_spec_l8Bent_vars : List Nat := [0, 7, 3, 2]

def k_spec_l8Bent_ic : IC := .seq (.reg [oV 2 (.alloc [iv 0, iv 0, iv 0, iv 0, iv 0, iv 0, iv 0, .e0])]) (.seq (.reg [oE 4 (.mv (.V 0)), oE 5 (.call k_spec_l8Right [([0], (.E 4))]), oV 3 (.alloc [iv 0, iv 0, iv 0, iv 0, iv 0, iv 0, iv 0, .e0]), oN (.store [0, 0, 0, 0, 0, 0, 0, 1] (.V 3) (.E 5))]) (.seq (.seq (.reg [oE 6 (.mv (.V 0)), oV 7 (.call k_spec_l1Below [([0], (.E 6)), ([0], (ki 12))])]) (.block 0 (.seq (.reg [oE 9 (.bin .eql (.V 7) (ki 0)), oE 8 (.mv (.E 9))]) (.cond (.E 8) (.reg [oE 10 (.mv (.V 0)), oE 11 (.bslice 5 1 [iv 0] [(0, (ki 0)), (1, (ki 1)), (2, (ki 8)), (3, (ki 9)), (4, (ki (-1)))]), oE 12 (.call k_spec_l1PickInt [([0], (.E 10)), ([1], (.E 11))]), oE 13 (.faddr 0 (.V 3)), oN (.store [0] (.E 13) (.E 12))]) (.seq (.reg [oE 15 (.bin .eql (.V 7) (ki 1)), oE 14 (.mv (.E 15))]) (.cond (.E 14) (.reg [oE 16 (.mv (.V 0)), oE 17 (.bslice 4 1 [iv 0] [(0, (ki (-1))), (1, (ki 0)), (2, (ki 4)), (3, (ki 5))]), oE 18 (.call k_spec_l1PickInt [([0], (.E 16)), ([1], (.E 17))]), oE 19 (.faddr 1 (.V 3)), oN (.store [0] (.E 19) (.E 18))]) (.seq (.reg [oE 21 (.bin .eql (.V 7) (ki 2)), oE 20 (.mv (.E 21))]) (.cond (.E 20) (.reg [oE 22 (.mv (.V 0)), oE 23 (.bslice 4 1 [iv 0] [(0, (ki 1)), (1, (ki 2)), (2, (ki 8)), (3, (ki 9))]), oE 24 (.call k_spec_l1PickInt [([0], (.E 22)), ([1], (.E 23))]), oE 25 (.faddr 2 (.V 3)), oN (.store [0] (.E 25) (.E 24))]) (.seq (.reg [oE 27 (.bin .eql (.V 7) (ki 3)), oE 26 (.mv (.E 27))]) (.cond (.E 26) (.reg [oE 28 (.mv (.V 0)), oE 29 (.bslice 5 1 [iv 0] [(0, (ki 0)), (1, (ki 1)), (2, (ki 100)), (3, (ki 101)), (4, (ki 9223372036854775807))]), oE 30 (.call k_spec_l1PickInt [([0], (.E 28)), ([1], (.E 29))]), oE 31 (.faddr 3 (.V 3)), oN (.store [0] (.E 31) (.E 30))]) (.seq (.reg [oE 33 (.bin .eql (.V 7) (ki 4)), oE 32 (.mv (.E 33))]) (.cond (.E 32) (.reg [oE 34 (.mv (.V 0)), oE 35 (.bslice 4 1 [iv 0] [(0, (ki 0)), (1, (ki 1)), (2, (ki 20)), (3, (ki 21))]), oE 36 (.call k_spec_l1PickInt [([0], (.E 34)), ([1], (.E 35))]), oE 37 (.faddr 4 (.V 3)), oN (.store [0] (.E 37) (.E 36))]) (.seq (.reg [oE 39 (.bin .eql (.V 7) (ki 5)), oE 38 (.mv (.E 39))]) (.cond (.E 38) (.reg [oE 40 (.mv (.V 0)), oE 41 (.faddr 6 (.V 3)), oE 42 (.load false 1 (.E 41)), oE 43 (.faddr 6 (.V 3)), oE 44 (.load false 1 (.E 43)), oE 45 (.bin .add (.E 44) (ki 1)), oE 46 (.bslice 5 1 [iv 0] [(0, (ki 0)), (1, (ki 1)), (2, (.E 42)), (3, (.E 45)), (4, (ki (-1)))]), oE 47 (.call k_spec_l1PickInt [([0], (.E 40)), ([1], (.E 46))]), oE 48 (.faddr 5 (.V 3)), oN (.store [0] (.E 48) (.E 47))]) (.seq (.reg [oE 50 (.bin .eql (.V 7) (ki 6)), oE 49 (.mv (.E 50))]) (.cond (.E 49) (.reg [oE 51 (.mv (.V 0)), oE 52 (.bslice 5 1 [iv 0] [(0, (ki 0)), (1, (ki 1)), (2, (ki 1000)), (3, (ki 1001)), (4, (ki 9223372036854775807))]), oE 53 (.call k_spec_l1PickInt [([0], (.E 51)), ([1], (.E 52))]), oE 54 (.faddr 6 (.V 3)), oN (.store [0] (.E 54) (.E 53))]) (.seq (.reg [oE 56 (.bin .eql (.V 7) (ki 7)), oE 55 (.mv (.E 56))]) (.cond (.E 55) (.regD [(oE 57 (.faddr 7 (.V 3)), 0, 2), (oE 58 (.load false 1 (.E 57)), 0, 2), (oE 59 (.mv (.V 0)), 0, 0), (oE 60 (.call k_spec_l1Below [([0], (.E 59)), ([0], (ki 5))]), 0, 0), (oE 61 (.bin .sub (.E 60) (ki 2)), 0, 0), (oE 62 (.bslice 1 1 [iv 0] [(0, (.E 61))]), 0, 0), (oE 63 (.app 8 1 (.E 58) (.E 62)), 0, 0), (oE 64 (.faddr 7 (.V 3)), 0, 0), (oN (.store [1] (.E 64) (.E 63)), 0, 0)]) .skip)))))))))))))))))) (.seq (.reg [oE 65 (.load true 8 (.V 3)), oN (.store [0, 0, 0, 0, 0, 0, 0, 1] (.V 2) (.E 65))]) .ret)))

def k_spec_l8Bent_rv : List RV := [.cell [0, 0, 0, 0, 0, 0, 0, 1] 2 true]

def k_spec_l11Bent_vars : List Nat := [0, 3, 13, 4, 2]

def k_spec_l11Bent_ic : IC := .seq (.reg [oV 2 (.alloc [.e0, .e0])]) (.seq (.reg [oE 5 (.mv (.V 0)), oE 6 (.call k_spec_l11Right [([0], (.E 5))]), oV 3 (.alloc [.e0, .e0]), oN (.store [1, 1] (.V 3) (.E 6))]) (.seq (.reg [oE 7 (.mv (.V 0)), oE 8 (.faddr 0 (.V 3)), oE 9 (.load false 1 (.E 8)), oE 10 (.len (.E 9)), oE 11 (.call k_spec_l1Below [([0], (.E 7)), ([0], (.E 10))]), oV 4 (.mv (.E 11))]) (.seq (.seq (.reg [oE 12 (.mv (.V 0)), oV 13 (.call k_spec_l1Below [([0], (.E 12)), ([0], (ki 14))])]) (.block 0 (.seq (.reg [oE 15 (.bin .eql (.V 13) (ki 0)), oE 14 (.mv (.E 15))]) (.cond (.E 14) (.regD [(oE 16 (.faddr 0 (.V 3)), 0, 3), (oE 17 (.load false 1 (.E 16)), 0, 3), (oE 18 (.mv (.V 4)), 0, 0), (oE 19 (.faddr 0 (.V 3)), 0, 2), (oE 20 (.load false 1 (.E 19)), 0, 2), (oE 21 (.mv (.V 4)), 0, 0), (oE 22 (.iaddr 1 (.E 20) (.E 21)), 0, 2), (oE 23 (.load false 1 (.E 22)), 0, 2), (oE 24 (.mv (.V 0)), 0, 0), (oE 25 (.call k_spec_l6Small [([0], (.E 24))]), 0, 0), (oE 26 (.bslice 1 1 [iv 0] [(0, (.E 25))]), 0, 0), (oE 27 (.app 8 1 (.E 23) (.E 26)), 0, 0), (oE 28 (.iaddr 1 (.E 17) (.E 18)), 0, 0), (oN (.store [1] (.E 28) (.E 27)), 0, 0)]) (.seq (.reg [oE 30 (.bin .eql (.V 13) (ki 1)), oE 29 (.mv (.E 30))]) (.cond (.E 29) (.regD [(oE 31 (.faddr 1 (.V 3)), 0, 2), (oE 32 (.load false 1 (.E 31)), 0, 2), (oE 33 (.mv (.V 4)), 0, 0), (oE 34 (.iaddr 1 (.E 32) (.E 33)), 0, 2), (oE 35 (.load false 1 (.E 34)), 0, 2), (oE 36 (.mv (.V 0)), 0, 0), (oE 37 (.bslice 5 1 [iv 0] [(0, (ki 0)), (1, (ki 1)), (2, (ki (-1))), (3, (ki 8)), (4, (ki 9223372036854775807))]), 0, 0), (oE 38 (.call k_spec_l1PickInt [([0], (.E 36)), ([1], (.E 37))]), 0, 0), (oE 39 (.iaddr 1 (.E 35) (ki 0)), 0, 0), (oN (.store [0] (.E 39) (.E 38)), 0, 0)]) (.seq (.reg [oE 41 (.bin .eql (.V 13) (ki 2)), oE 40 (.mv (.E 41))]) (.cond (.E 40) (.regD [(oE 42 (.faddr 1 (.V 3)), 0, 2), (oE 43 (.load false 1 (.E 42)), 0, 2), (oE 44 (.mv (.V 4)), 0, 0), (oE 45 (.faddr 1 (.V 3)), 0, 1), (oE 46 (.load false 1 (.E 45)), 0, 1), (oE 47 (.mv (.V 4)), 0, 0), (oE 48 (.iaddr 1 (.E 46) (.E 47)), 0, 1), (oE 49 (.load false 1 (.E 48)), 0, 1), (oE 50 (.bslice 1 1 [iv 0] [(0, (ki 0))]), 0, 0), (oE 51 (.app 8 1 (.E 49) (.E 50)), 0, 0), (oE 52 (.iaddr 1 (.E 43) (.E 44)), 0, 0), (oN (.store [1] (.E 52) (.E 51)), 0, 0)]) (.seq (.reg [oE 54 (.bin .eql (.V 13) (ki 3)), oE 53 (.mv (.E 54))]) (.cond (.E 53) (.reg [oE 55 (.faddr 1 (.V 3)), oE 56 (.load false 1 (.E 55)), oE 57 (.bslice 1 1 [iv 0] [(0, (ki 0))]), oE 58 (.bslice 1 1 [(.own 1 [])] [(0, (.E 57))]), oE 59 (.app 24 1 (.E 56) (.E 58)), oE 60 (.faddr 1 (.V 3)), oN (.store [1] (.E 60) (.E 59))]) (.seq (.reg [oE 62 (.bin .eql (.V 13) (ki 4)), oE 61 (.mv (.E 62))]) (.cond (.E 61) (.reg [oE 63 (.faddr 0 (.V 3)), oE 64 (.load false 1 (.E 63)), oE 65 (.bslice 0 1 [iv 0] []), oE 66 (.bslice 1 1 [(.own 1 [])] [(0, (.E 65))]), oE 67 (.app 24 1 (.E 64) (.E 66)), oE 68 (.faddr 0 (.V 3)), oN (.store [1] (.E 68) (.E 67))]) (.seq (.reg [oE 70 (.bin .eql (.V 13) (ki 5)), oE 69 (.mv (.E 70))]) (.cond (.E 69) (.reg [oE 71 (.bslice 0 1 [(.own 1 [])] []), oE 72 (.faddr 1 (.V 3)), oN (.store [1] (.E 72) (.E 71))]) (.seq (.reg [oE 74 (.bin .eql (.V 13) (ki 6)), oE 73 (.mv (.E 74))]) (.cond (.E 73) (.regD [(oE 75 (.faddr 0 (.V 3)), 0, 1), (oE 76 (.load false 1 (.E 75)), 0, 1), (oE 77 (.mv (.V 4)), 0, 0), (oE 78 (.faddr 0 (.V 3)), 0, 1), (oE 79 (.load false 1 (.E 78)), 0, 1), (oE 80 (.mv (.V 4)), 0, 0), (oE 81 (.iaddr 1 (.E 79) (.E 80)), 0, 1), (oE 82 (.load false 1 (.E 81)), 0, 1), (oE 83 (.mv (.V 0)), 0, 0), (oE 84 (.faddr 0 (.V 3)), 0, 0), (oE 85 (.load false 1 (.E 84)), 0, 0), (oE 86 (.mv (.V 4)), 0, 0), (oE 87 (.iaddr 1 (.E 85) (.E 86)), 0, 0), (oE 88 (.load false 1 (.E 87)), 0, 0), (oE 89 (.len (.E 88)), 0, 0), (oE 90 (.bin .add (.E 89) (ki 1)), 0, 0), (oE 91 (.call k_spec_l1Below [([0], (.E 83)), ([0], (.E 90))]), 0, 0), (oE 92 (.slice 1 (.E 82) none (some (.E 91)) none), 0, 0), (oE 93 (.iaddr 1 (.E 76) (.E 77)), 0, 0), (oN (.store [1] (.E 93) (.E 92)), 0, 0)]) .skip)))))))))))))))) (.seq (.reg [oE 94 (.load true 2 (.V 3)), oN (.store [1, 1] (.V 2) (.E 94))]) .ret))))

def k_spec_l11Bent_rv : List RV := [.cell [1, 1] 2 true]

def k_spec_l1Byte_vars : List Nat := [0, 3, 2]

def k_spec_l1Byte_ic : IC := .seq (.reg [oV 2 (.mv (ki 0))]) (.seq (.reg [oE 4 (.mv (.V 0)), oE 5 (.mv (.V 0)), oE 6 (.nilc (.E 5)), oE 7 (.faddr 2 (.E 6)), oE 8 (.load false 1 (.E 7)), oE 9 (.bin .mul (.E 8) (ki 6364136223846793005)), oE 10 (.bin .add (.E 9) (ki 1442695040888963407)), oE 11 (.nilc (.E 4)), oE 12 (.faddr 2 (.E 11)), oN (.store [0] (.E 12) (.E 10))]) (.seq (.regD [(oE 13 (.mv (.V 0)), 0, 0), (oE 14 (.nilc (.E 13)), 0, 0), (oE 15 (.faddr 2 (.E 14)), 0, 0), (oE 16 (.load false 1 (.E 15)), 0, 0), (oE 17 (.bin .shr (.E 16) (.C (.v (.int .u64 33)))), 0, 0), (oE 18 (.mv (.V 0)), 0, 0), (oE 19 (.nilc (.E 18)), 0, 0), (oE 20 (.faddr 2 (.E 19)), 0, 0), (oE 21 (.load false 1 (.E 20)), 0, 0), (oE 22 (.bin .shr (.E 21) (.C (.v (.int .u64 45)))), 0, 0), (oE 23 (.bin .xor (.E 17) (.E 22)), 0, 0), (oE 24 (.bin .and (.E 23) (ki 255)), 0, 0), (oV 3 (.mv (.E 24)), 0, 0)]) (.seq (.seq (.regD [(oE 25 (.mv (.V 0)), 0, 0), (oE 26 (.nilc (.E 25)), 0, 0), (oE 27 (.faddr 1 (.E 26)), 0, 0), (oE 28 (.load false 1 (.E 27)), 0, 0), (oE 29 (.mv (.V 0)), 0, 0), (oE 30 (.nilc (.E 29)), 0, 0), (oE 31 (.faddr 0 (.E 30)), 0, 0), (oE 32 (.load false 1 (.E 31)), 0, 0), (oE 33 (.len (.E 32)), 0, 0), (oE 34 (.bin .lss (.E 28) (.E 33)), 0, 0)]) (.cond (.E 34) (.seq (.regD [(oE 35 (.mv (.V 3)), 0, 0), (oE 36 (.mv (.V 0)), 0, 0), (oE 37 (.nilc (.E 36)), 0, 0), (oE 38 (.faddr 0 (.E 37)), 0, 0), (oE 39 (.load false 1 (.E 38)), 0, 0), (oE 40 (.mv (.V 0)), 0, 0), (oE 41 (.nilc (.E 40)), 0, 0), (oE 42 (.faddr 1 (.E 41)), 0, 0), (oE 43 (.load false 1 (.E 42)), 0, 0), (oE 44 (.iaddr 1 (.E 39) (.E 43)), 0, 0), (oE 45 (.load false 1 (.E 44)), 0, 0), (oE 46 (.convI .i64 (.E 45)), 0, 0), (oE 47 (.bin .add (.E 35) (.E 46)), 0, 0), (oE 48 (.bin .and (.E 47) (ki 255)), 0, 0), (oV 3 (.mv (.E 48)), 0, 0)]) (.reg [oE 49 (.mv (.V 0)), oE 50 (.mv (.V 0)), oE 51 (.nilc (.E 50)), oE 52 (.faddr 1 (.E 51)), oE 53 (.load false 1 (.E 52)), oE 54 (.bin .add (.E 53) (ki 1)), oE 55 (.nilc (.E 49)), oE 56 (.faddr 1 (.E 55)), oN (.store [0] (.E 56) (.E 54))])) .skip)) (.seq (.reg [oE 57 (.mv (.V 3)), oV 2 (.mv (.E 57))]) .ret))))

def k_spec_l1Byte_rv : List RV := [.tmp [0] 2]

def k_spec_l1Whole_vars : List Nat := [0, 6, 4, 3, 2]

def k_spec_l1Whole_b0 : IC := .seq (.seq (.reg [oE 14 (.mv (.V 4)), oE 15 (.bin .lss (.E 14) (ki 8))]) (.cond (.E 15) .skip (.exit 1))) (.seq (.block 2 (.reg [oE 18 (.mv (.V 3)), oE 19 (.bin .mul (.E 18) (ki 256)), oE 20 (.mv (.V 0)), oE 21 (.call k_spec_l1Byte [([0], (.E 20))]), oE 22 (.bin .add (.E 19) (.E 21)), oV 3 (.mv (.E 22))])) (.reg [oE 16 (.mv (.V 4)), oE 17 (.bin .add (.E 16) (ki 1)), oV 4 (.mv (.E 17))]))

def k_spec_l1Whole_ic : IC := .seq (.reg [oV 2 (.mv (ki 0))]) (.seq (.seq (.reg [oE 5 (.mv (.V 0)), oV 6 (.call k_spec_l1Below [([0], (.E 5)), ([0], (ki 4))])]) (.block 0 (.seq (.reg [oE 8 (.bin .eql (.V 6) (ki 0)), oE 7 (.mv (.E 8))]) (.cond (.E 7) (.seq (.reg [oE 9 (.mv (.V 0)), oE 10 (.bslice 14 1 [iv 0] [(0, (ki 0)), (1, (ki 1)), (2, (ki (-1))), (3, (ki 9)), (4, (ki 10)), (5, (ki 999)), (6, (ki 1000)), (7, (ki 2147483647)), (8, (ki (-2147483648))), (9, (ki 3037000499)), (10, (ki 3037000500)), (11, (ki 9223372036854775807)), (12, (ki (-9223372036854775807))), (13, (ki (-9223372036854775808)))]), oE 11 (.call k_spec_l1PickInt [([0], (.E 9)), ([1], (.E 10))]), oV 2 (.mv (.E 11))]) .ret) (.seq (.reg [oE 13 (.bin .eql (.V 6) (ki 1)), oE 12 (.mv (.E 13))]) (.cond (.E 12) (.seq (.reg [oV 3 (.mv (ki 0))]) (.seq (.seq (.reg [oV 4 (.mv (ki 0))]) (.block 1 (.loop k_spec_l1Whole_b0))) (.seq (.reg [oE 23 (.mv (.V 3)), oV 2 (.mv (.E 23))]) .ret))) (.seq (.reg [oE 25 (.bin .eql (.V 6) (ki 2)), oE 24 (.mv (.E 25))]) (.cond (.E 24) (.seq (.reg [oE 26 (.mv (.V 0)), oE 27 (.call k_spec_l1Below [([0], (.E 26)), ([0], (ki 1000000))]), oE 28 (.bin .sub (.E 27) (ki 500000)), oV 2 (.mv (.E 28))]) .ret) .skip)))))))) (.seq (.reg [oE 29 (.mv (.V 0)), oE 30 (.call k_spec_l1Below [([0], (.E 29)), ([0], (ki 41))]), oE 31 (.bin .sub (.E 30) (ki 20)), oV 2 (.mv (.E 31))]) .ret))

def k_spec_l1Whole_rv : List RV := [.tmp [0] 2]

def k_impl_areDecimals_1_vars : List Nat := [0, 2]

def k_impl_areDecimals_1_ic : IC := .seq (.reg [oV 2 (.mv (kb false))]) (.seq (.reg [oE 3 (.mv (.V 0)), oE 4 (.call k_impl_isDecimal [([0], (.E 3))]), oE 5 (.un .not (.E 4)), oV 2 (.mv (.E 5))]) .ret)

def k_impl_areDecimals_1_rv : List RV := [.tmp [0] 2]

def k_spec_GridOf_vars : List Nat := [0, 1, 2, 5, 4, 6, 7, 10, 9, 8]

def k_spec_GridOf_b0 : IC := .seq (.seq (.reg [oE 35 (.mv (.V 10)), oE 36 (.mv (.V 7)), oE 37 (.len (.E 36)), oE 38 (.bin .lss (.E 35) (.E 37))]) (.cond (.E 38) .skip (.exit 2))) (.seq (.block 3 (.reg [oE 41 (.mv (.V 9)), oE 42 (.mv (.V 8)), oE 43 (.mv (.V 7)), oE 44 (.mv (.V 10)), oE 45 (.iaddr 1 (.E 43) (.E 44)), oE 46 (.load false 1 (.E 45)), oE 47 (.call k_spec_BinOf [([1], (.E 42)), ([0], (.E 46))]), oE 48 (.bslice 1 1 [iv 0] [(0, (.E 47))]), oE 49 (.app 8 1 (.E 41) (.E 48)), oV 9 (.mv (.E 49))])) (.reg [oE 39 (.mv (.V 10)), oE 40 (.bin .add (.E 39) (ki 1)), oV 10 (.mv (.E 40))]))

def k_spec_GridOf_b1 : IC := .seq (.seq (.reg [oE 21 (.mv (.V 6)), oE 22 (.faddr 0 (.V 2)), oE 23 (.load false 1 (.E 22)), oE 24 (.len (.E 23)), oE 25 (.bin .lss (.E 21) (.E 24))]) (.cond (.E 25) .skip (.exit 0))) (.seq (.block 1 (.seq (.reg [oE 28 (.load true 4 (.V 2)), oE 29 (.mv (.V 6)), oE 30 (.call k_spec_Column [([1, 0, 1, 1], (.E 28)), ([0], (.E 29))]), oV 7 (.mv (.E 30))]) (.seq (.reg [oE 31 (.mv (.V 7)), oE 32 (.mv (.V 1)), oE 33 (.call k_spec_CutsOf [([1], (.E 31)), ([0], (.E 32))]), oV 8 (.mv (.E 33))]) (.seq (.reg [oE 34 (.bslice 0 1 [iv 0] []), oV 9 (.mv (.E 34))]) (.seq (.seq (.reg [oV 10 (.mv (ki 0))]) (.block 2 (.loop k_spec_GridOf_b0))) (.seq (.reg [oE 50 (.faddr 0 (.V 5)), oE 51 (.load false 1 (.E 50)), oE 52 (.mv (.V 8)), oE 53 (.bslice 1 1 [(.own 1 [])] [(0, (.E 52))]), oE 54 (.app 24 1 (.E 51) (.E 53)), oE 55 (.faddr 0 (.V 5)), oN (.store [1] (.E 55) (.E 54))]) (.reg [oE 56 (.faddr 1 (.V 5)), oE 57 (.load false 1 (.E 56)), oE 58 (.mv (.V 9)), oE 59 (.bslice 1 1 [(.own 1 [])] [(0, (.E 58))]), oE 60 (.app 24 1 (.E 57) (.E 59)), oE 61 (.faddr 1 (.V 5)), oN (.store [1] (.E 61) (.E 60))]))))))) (.reg [oE 26 (.mv (.V 6)), oE 27 (.bin .add (.E 26) (ki 1)), oV 6 (.mv (.E 27))]))

def k_spec_GridOf_ic : IC := .seq (.reg [oV 2 (.box (.V 0)), oV 4 (.alloc [.e0, .e0])]) (.seq (.reg [oE 11 (.build [.e0, .e0] []), oV 5 (.alloc [.e0, .e0]), oN (.store [1, 1] (.V 5) (.E 11))]) (.seq (.seq (.reg [oE 12 (.load true 4 (.V 2)), oE 13 (.call k_spec_TableOk [([1, 0, 1, 1], (.E 12))]), oE 14 (.un .not (.E 13)), oE 15 (.mv (.E 14)), ⟨(some (.E 16)), .mv (.V 1), some ((.E 15), false)⟩, ⟨(some (.E 17)), .call k_spec_l1In [([0], (.E 16)), ([0], (ki 2)), ([0], (ki 8))], some ((.E 15), false)⟩, ⟨(some (.E 18)), .un .not (.E 17), some ((.E 15), false)⟩, oE 19 (.pick (.E 15) (kb true) (.E 18))]) (.cond (.E 19) (.seq (.reg [oE 20 (.load true 2 (.V 5)), oN (.store [1, 1] (.V 4) (.E 20))]) .ret) .skip)) (.seq (.seq (.reg [oV 6 (.mv (ki 0))]) (.block 0 (.loop k_spec_GridOf_b1))) (.seq (.reg [oE 62 (.load true 2 (.V 5)), oN (.store [1, 1] (.V 4) (.E 62))]) .ret))))

def k_spec_GridOf_rv : List RV := [.cell [1, 1] 4 true]

def k_spec_l9Right_vars : List Nat := [0, 3, 7, 5, 9, 6, 8, 10, 4, 11, 2]

def k_spec_l9Right_b0 : IC := .seq (.seq (.reg [oE 37 (.mv (.V 9)), oE 38 (.mv (.V 3)), oE 39 (.bin .lss (.E 37) (.E 38))]) (.cond (.E 39) .skip (.exit 2))) (.seq (.block 3 (.seq (.reg [oE 42 (.mv (.V 0)), oE 43 (.call k_spec_l6Small [([0], (.E 42))]), oV 10 (.mv (.E 43))]) (.seq (.seq (.reg [oE 44 (.mv (.V 6)), oE 45 (.un .not (.E 44))]) (.cond (.E 45) (.reg [oE 46 (.mv (.V 0)), oE 47 (.call k_spec_l1Below [([0], (.E 46)), ([0], (ki 7))]), oE 48 (.bin .sub (.E 47) (ki 3)), oE 49 (.bin .mul (ki 500) (.E 48)), oV 10 (.mv (.E 49))]) .skip)) (.reg [oE 50 (.mv (.V 8)), oE 51 (.mv (.V 10)), oE 52 (.bslice 1 1 [iv 0] [(0, (.E 51))]), oE 53 (.app 8 1 (.E 50) (.E 52)), oV 8 (.mv (.E 53))])))) (.reg [oE 40 (.mv (.V 9)), oE 41 (.bin .add (.E 40) (ki 1)), oV 9 (.mv (.E 41))]))

def k_spec_l9Right_b1 : IC := .seq (.seq (.reg [oE 31 (.mv (.V 7)), oE 32 (.mv (.V 5)), oE 33 (.bin .lss (.E 31) (.E 32))]) (.cond (.E 33) .skip (.exit 0))) (.seq (.block 1 (.seq (.reg [oE 36 (.bslice 0 1 [iv 0] []), oV 8 (.mv (.E 36))]) (.seq (.seq (.reg [oV 9 (.mv (ki 0))]) (.block 2 (.loop k_spec_l9Right_b0))) (.seq (.reg [oE 54 (.faddr 2 (.V 4)), oE 55 (.load false 1 (.E 54)), oE 56 (.mv (.V 8)), oE 57 (.bslice 1 1 [(.own 1 [])] [(0, (.E 56))]), oE 58 (.app 24 1 (.E 55) (.E 57)), oE 59 (.faddr 2 (.V 4)), oN (.store [1] (.E 59) (.E 58))]) (.seq (.reg [oE 60 (.mv (.V 0)), oE 61 (.call k_spec_l6Small [([0], (.E 60))]), oV 11 (.mv (.E 61))]) (.seq (.seq (.reg [oE 62 (.mv (.V 6)), oE 63 (.un .not (.E 62)), oE 64 (.mv (.E 63)), ⟨(some (.E 65)), .mv (.V 0), some ((.E 64), true)⟩, ⟨(some (.E 66)), .call k_spec_l1Once [([0], (.E 65)), ([0], (ki 4))], some ((.E 64), true)⟩, ⟨(some (.E 67)), .un .not (.E 66), some ((.E 64), true)⟩, oE 68 (.pick (.E 64) (.E 67) (kb false))]) (.cond (.E 68) (.regD [(oE 69 (.mv (.V 8)), 0, 0), (oE 70 (.iaddr 1 (.E 69) (ki 0)), 0, 1), (oE 71 (.load false 1 (.E 70)), 0, 1), (oE 72 (.bin .mul (.E 71) (ki 2)), 0, 0), (oE 73 (.mv (.V 0)), 0, 0), (oE 74 (.call k_spec_l1Below [([0], (.E 73)), ([0], (ki 5))]), 0, 0), (oE 75 (.bin .mul (ki 100) (.E 74)), 0, 0), (oE 76 (.bin .add (.E 72) (.E 75)), 0, 0), (oV 11 (.mv (.E 76)), 0, 0)]) .skip)) (.reg [oE 77 (.faddr 3 (.V 4)), oE 78 (.load false 1 (.E 77)), oE 79 (.mv (.V 11)), oE 80 (.bslice 1 1 [iv 0] [(0, (.E 79))]), oE 81 (.app 8 1 (.E 78) (.E 80)), oE 82 (.faddr 3 (.V 4)), oN (.store [1] (.E 82) (.E 81))]))))))) (.reg [oE 34 (.mv (.V 7)), oE 35 (.bin .add (.E 34) (ki 1)), oV 7 (.mv (.E 35))]))

def k_spec_l9Right_ic : IC := .seq (.reg [oV 2 (.alloc [.e0, (.v (.string (bs []))), .e0, .e0])]) (.seq (.reg [oE 12 (.mv (.V 0)), oE 13 (.call k_spec_l1Below [([0], (.E 12)), ([0], (ki 3))]), oE 14 (.bin .add (ki 1) (.E 13)), oV 3 (.mv (.E 14))]) (.seq (.reg [oE 15 (.bslice 0 1 [(.v (.string (bs [])))] []), oE 16 (.bslice 4 1 [(.v (.string (bs [])))] [(0, (.C (.v (.string (bs [97]))))), (1, (.C (.v (.string (bs [98]))))), (2, (.C (.v (.string (bs [99, 50]))))), (3, (.C (.v (.string (bs [100])))))]), oE 17 (.mv (.V 3)), oE 18 (.slice 1 (.E 16) none (some (.E 17)) none), oE 19 (.app 16 1 (.E 15) (.E 18)), oE 20 (.build [.e0, (.v (.string (bs []))), .e0, .e0] [(0, 1, (.E 19)), (1, 1, (.C (.v (.string (bs [121])))))]), oV 4 (.alloc [.e0, (.v (.string (bs []))), .e0, .e0]), oN (.store [1, 0, 1, 1] (.V 4) (.E 20))]) (.seq (.reg [oE 21 (.mv (.V 0)), oE 22 (.call k_spec_l1Below [([0], (.E 21)), ([0], (ki 9))]), oE 23 (.bin .add (ki 1) (.E 22)), oV 5 (.mv (.E 23))]) (.seq (.seq (.reg [oE 24 (.mv (.V 0)), oE 25 (.call k_spec_l1Once [([0], (.E 24)), ([0], (ki 10))])]) (.cond (.E 25) (.reg [oE 26 (.mv (.V 0)), oE 27 (.call k_spec_l1Below [([0], (.E 26)), ([0], (ki 40))]), oE 28 (.bin .add (ki 1) (.E 27)), oV 5 (.mv (.E 28))]) .skip)) (.seq (.reg [oE 29 (.mv (.V 0)), oE 30 (.call k_spec_l1Once [([0], (.E 29)), ([0], (ki 12))]), oV 6 (.mv (.E 30))]) (.seq (.seq (.reg [oV 7 (.mv (ki 0))]) (.block 0 (.loop k_spec_l9Right_b1))) (.seq (.reg [oE 83 (.load true 4 (.V 4)), oN (.store [1, 0, 1, 1] (.V 2) (.E 83))]) .ret)))))))

def k_spec_l9Right_rv : List RV := [.cell [1, 0, 1, 1] 2 true]

def k_spec_l6Small_vars : List Nat := [0, 2]

def k_spec_l6Small_ic : IC := .seq (.reg [oV 2 (.mv (ki 0))]) (.seq (.seq (.reg [oE 3 (.mv (.V 0)), oE 4 (.call k_spec_l1Once [([0], (.E 3)), ([0], (ki 20))])]) (.cond (.E 4) (.seq (.reg [oE 5 (.mv (.V 0)), oE 6 (.bslice 5 1 [iv 0] [(0, (ki 2147483647)), (1, (ki (-2147483647))), (2, (ki 1)), (3, (ki (-1))), (4, (ki 1000000000))]), oE 7 (.call k_spec_l1PickInt [([0], (.E 5)), ([1], (.E 6))]), oV 2 (.mv (.E 7))]) .ret) .skip)) (.seq (.seq (.reg [oE 8 (.mv (.V 0)), oE 9 (.call k_spec_l1Once [([0], (.E 8)), ([0], (ki 2))])]) (.cond (.E 9) (.seq (.reg [oE 10 (.mv (.V 0)), oE 11 (.call k_spec_l1Below [([0], (.E 10)), ([0], (ki 9))]), oE 12 (.bin .sub (.E 11) (ki 4)), oE 13 (.bin .mul (ki 1000) (.E 12)), oV 2 (.mv (.E 13))]) .ret) .skip)) (.seq (.reg [oE 14 (.mv (.V 0)), oE 15 (.call k_spec_l1Below [([0], (.E 14)), ([0], (ki 41))]), oE 16 (.bin .sub (.E 15) (ki 20)), oE 17 (.bin .mul (ki 250) (.E 16)), oV 2 (.mv (.E 17))]) .ret)))

def k_spec_l6Small_rv : List RV := [.tmp [0] 2]

def k_spec_Column_vars : List Nat := [0, 1, 6, 2, 5, 4]

def k_spec_Column_b0 : IC := .seq (.seq (.reg [oE 8 (.mv (.V 6)), oE 9 (.faddr 2 (.V 2)), oE 10 (.load false 1 (.E 9)), oE 11 (.len (.E 10)), oE 12 (.bin .lss (.E 8) (.E 11)), oE 13 (.mv (.E 12)), ⟨(some (.E 14)), .mv (.V 1), some ((.E 13), true)⟩, ⟨(some (.E 15)), .faddr 0 (.V 2), some ((.E 13), true)⟩, ⟨(some (.E 16)), .load false 1 (.E 15), some ((.E 13), true)⟩, ⟨(some (.E 17)), .len (.E 16), some ((.E 13), true)⟩, ⟨(some (.E 18)), .bin .sub (.E 17) (ki 1), some ((.E 13), true)⟩, ⟨(some (.E 19)), .call k_spec_l1In [([0], (.E 14)), ([0], (ki 0)), ([0], (.E 18))], some ((.E 13), true)⟩, oE 20 (.pick (.E 13) (.E 19) (kb false))]) (.cond (.E 20) .skip (.exit 0))) (.seq (.block 1 (.seq (.reg [oE 23 (.mv (.V 1)), oE 24 (.faddr 2 (.V 2)), oE 25 (.load false 1 (.E 24)), oE 26 (.mv (.V 6)), oE 27 (.iaddr 1 (.E 25) (.E 26)), oE 28 (.load false 1 (.E 27)), oE 29 (.len (.E 28)), oE 30 (.bin .lss (.E 23) (.E 29))]) (.cond (.E 30) (.reg [oE 31 (.mv (.V 5)), oE 32 (.faddr 2 (.V 2)), oE 33 (.load false 1 (.E 32)), oE 34 (.mv (.V 6)), oE 35 (.iaddr 1 (.E 33) (.E 34)), oE 36 (.load false 1 (.E 35)), oE 37 (.mv (.V 1)), oE 38 (.iaddr 1 (.E 36) (.E 37)), oE 39 (.load false 1 (.E 38)), oE 40 (.bslice 1 1 [iv 0] [(0, (.E 39))]), oE 41 (.app 8 1 (.E 31) (.E 40)), oV 5 (.mv (.E 41))]) (.reg [oE 42 (.mv (.V 5)), oE 43 (.bslice 1 1 [iv 0] [(0, (ki 0))]), oE 44 (.app 8 1 (.E 42) (.E 43)), oV 5 (.mv (.E 44))])))) (.reg [oE 21 (.mv (.V 6)), oE 22 (.bin .add (.E 21) (ki 1)), oV 6 (.mv (.E 22))]))

def k_spec_Column_ic : IC := .seq (.reg [oV 2 (.box (.V 0)), oV 4 (.mv (.C .e0))]) (.seq (.reg [oE 7 (.bslice 0 1 [iv 0] []), oV 5 (.mv (.E 7))]) (.seq (.seq (.reg [oV 6 (.mv (ki 0))]) (.block 0 (.loop k_spec_Column_b0))) (.seq (.reg [oE 45 (.mv (.V 5)), oV 4 (.mv (.E 45))]) .ret)))

def k_spec_Column_rv : List RV := [.tmp [1] 4]

def k_spec_CutsOf_vars : List Nat := [0, 1, 5, 8, 9, 6, 7, 4]

def k_spec_CutsOf_b0 : IC := .seq (.seq (.reg [oE 24 (.mv (.V 8)), oE 25 (.mv (.V 1)), oE 26 (.bin .lss (.E 24) (.E 25))]) (.cond (.E 26) .skip (.exit 0))) (.seq (.block 1 (.seq (.reg [oE 29 (.mv (.V 5)), oE 30 (.mv (.V 8)), oE 31 (.bin .mul (.E 29) (.E 30)), oE 32 (.mv (.V 1)), oE 33 (.bin .quo (.E 31) (.E 32)), oV 9 (.mv (.E 33))]) (.seq (.regD [(oE 34 (.mv (.V 9)), 0, 0), (oE 35 (.bin .geq (.E 34) (ki 1)), 0, 0), (oE 36 (.mv (.E 35)), 0, 0), (⟨(some (.E 37)), .mv (.V 6), some ((.E 36), true)⟩, 0, 0), (⟨(some (.E 38)), .mv (.V 9), some ((.E 36), true)⟩, 0, 0), (⟨(some (.E 39)), .bin .sub (.E 38) (ki 1), some ((.E 36), true)⟩, 0, 0), (⟨(some (.E 40)), .iaddr 1 (.E 37) (.E 39), some ((.E 36), true)⟩, 0, 0), (⟨(some (.E 41)), .load false 1 (.E 40), some ((.E 36), true)⟩, 0, 0), (⟨(some (.E 42)), .mv (.V 6), some ((.E 36), true)⟩, 0, 0), (⟨(some (.E 43)), .mv (.V 5), some ((.E 36), true)⟩, 0, 0), (⟨(some (.E 44)), .bin .sub (.E 43) (ki 1), some ((.E 36), true)⟩, 0, 0), (⟨(some (.E 45)), .iaddr 1 (.E 42) (.E 44), some ((.E 36), true)⟩, 0, 0), (⟨(some (.E 46)), .load false 1 (.E 45), some ((.E 36), true)⟩, 0, 0), (⟨(some (.E 47)), .bin .lss (.E 41) (.E 46), some ((.E 36), true)⟩, 0, 0), (oE 48 (.pick (.E 36) (.E 47) (kb false)), 0, 0)]) (.cond (.E 48) (.reg [oE 49 (.mv (.V 7)), oE 50 (.mv (.V 6)), oE 51 (.mv (.V 9)), oE 52 (.bin .sub (.E 51) (ki 1)), oE 53 (.iaddr 1 (.E 50) (.E 52)), oE 54 (.load false 1 (.E 53)), oE 55 (.bslice 1 1 [iv 0] [(0, (.E 54))]), oE 56 (.app 8 1 (.E 49) (.E 55)), oV 7 (.mv (.E 56))]) .skip)))) (.reg [oE 27 (.mv (.V 8)), oE 28 (.bin .add (.E 27) (ki 1)), oV 8 (.mv (.E 28))]))

def k_spec_CutsOf_ic : IC := .seq (.reg [oV 4 (.mv (.C .e0))]) (.seq (.reg [oE 10 (.mv (.V 0)), oE 11 (.len (.E 10)), oV 5 (.mv (.E 11))]) (.seq (.seq (.reg [oE 12 (.mv (.V 1)), oE 13 (.call k_spec_l1In [([0], (.E 12)), ([0], (ki 2)), ([0], (ki 8))]), oE 14 (.un .not (.E 13)), oE 15 (.mv (.E 14)), ⟨(some (.E 16)), .mv (.V 5), some ((.E 15), false)⟩, ⟨(some (.E 17)), .call k_spec_l1In [([0], (.E 16)), ([0], (ki 1)), ([0], (ki 40))], some ((.E 15), false)⟩, ⟨(some (.E 18)), .un .not (.E 17), some ((.E 15), false)⟩, oE 19 (.pick (.E 15) (kb true) (.E 18))]) (.cond (.E 19) (.seq (.reg [oE 20 (.bslice 0 1 [iv 0] []), oV 4 (.mv (.E 20))]) .ret) .skip)) (.seq (.reg [oE 21 (.mv (.V 0)), oE 22 (.call k_spec_SortInts [([1], (.E 21))]), oV 6 (.mv (.E 22))]) (.seq (.reg [oE 23 (.bslice 0 1 [iv 0] []), oV 7 (.mv (.E 23))]) (.seq (.seq (.reg [oV 8 (.mv (ki 1))]) (.block 0 (.loop k_spec_CutsOf_b0))) (.seq (.reg [oE 57 (.mv (.V 7)), oE 58 (.call k_spec_Distinct [([1], (.E 57))]), oV 4 (.mv (.E 58))]) .ret))))))

def k_spec_CutsOf_rv : List RV := [.tmp [1] 4]

def k_spec_BinOf_vars : List Nat := [0, 1, 6, 5, 4]

def k_spec_BinOf_b0 : IC := .seq (.seq (.reg [oE 7 (.mv (.V 6)), oE 8 (.mv (.V 0)), oE 9 (.len (.E 8)), oE 10 (.bin .lss (.E 7) (.E 9))]) (.cond (.E 10) .skip (.exit 0))) (.seq (.block 1 (.seq (.reg [oE 13 (.mv (.V 0)), oE 14 (.mv (.V 6)), oE 15 (.iaddr 1 (.E 13) (.E 14)), oE 16 (.load false 1 (.E 15)), oE 17 (.mv (.V 1)), oE 18 (.bin .lss (.E 16) (.E 17))]) (.cond (.E 18) (.reg [oE 19 (.mv (.V 5)), oE 20 (.bin .add (.E 19) (ki 1)), oV 5 (.mv (.E 20))]) .skip))) (.reg [oE 11 (.mv (.V 6)), oE 12 (.bin .add (.E 11) (ki 1)), oV 6 (.mv (.E 12))]))

def k_spec_BinOf_ic : IC := .seq (.reg [oV 4 (.mv (ki 0))]) (.seq (.reg [oV 5 (.mv (ki 0))]) (.seq (.seq (.reg [oV 6 (.mv (ki 0))]) (.block 0 (.loop k_spec_BinOf_b0))) (.seq (.reg [oE 21 (.mv (.V 5)), oV 4 (.mv (.E 21))]) .ret)))

def k_spec_BinOf_rv : List RV := [.tmp [0] 4]

def tbl : List (Nat × Fun) := [
  (k_laws_FnNodeHists, fnOf k_laws_FnNodeHists_ic k_laws_FnNodeHists_rv []),
  (k_spec_NodeHists, fnOf k_spec_NodeHists_ic k_spec_NodeHists_rv []),
  (k_impl_NodeHists, fnOf k_impl_NodeHists_ic k_impl_NodeHists_rv []),
  (k_laws_big, fnOf k_laws_big_ic k_laws_big_rv []),
  (k_spec_DrawNodeHists, fnOf k_spec_DrawNodeHists_ic k_spec_DrawNodeHists_rv []),
  (k_impl_TotalOf, fnOf k_impl_TotalOf_ic k_impl_TotalOf_rv []),
  (k_spec_GridOk, fnOf k_spec_GridOk_ic k_spec_GridOk_rv []),
  (k_spec_HistOf, fnOf k_spec_HistOf_ic k_spec_HistOf_rv []),
  (k_impl_GridOk, fnOf k_impl_GridOk_ic k_impl_GridOk_rv []),
  (k_impl_HistOf, fnOf k_impl_HistOf_ic k_impl_HistOf_rv []),
  (k_spec_l1In, fnOf k_spec_l1In_ic k_spec_l1In_rv []),
  (k_spec_l6Value, fnOf k_spec_l6Value_ic k_spec_l6Value_rv []),
  (k_spec_NameOk, fnOf k_spec_NameOk_ic k_spec_NameOk_rv []),
  (k_spec_l9Has, fnOf k_spec_l9Has_ic k_spec_l9Has_rv []),
  (k_impl_within, fnOf k_impl_within_ic k_impl_within_rv []),
  (k_slices_ContainsFunc___int_int_, fnOf k_slices_ContainsFunc___int_int__ic k_slices_ContainsFunc___int_int__rv []),
  (k_impl_isDecimal, fnOf k_impl_isDecimal_ic k_impl_isDecimal_rv []),
  (k_spec_TableOk, fnOf k_spec_TableOk_ic k_spec_TableOk_rv []),
  (k_spec_Distinct, fnOf k_spec_Distinct_ic k_spec_Distinct_rv []),
  (k_spec_l19Args, fnOf k_spec_l19Args_ic k_spec_l19Args_rv []),
  (k_spec_l12Rows, fnOf k_spec_l12Rows_ic k_spec_l12Rows_rv [true]),
  (k_impl_Prefix, fnOf k_impl_Prefix_ic k_impl_Prefix_rv []),
  (k_spec_l1New, fnOf k_spec_l1New_ic k_spec_l1New_rv []),
  (k_spec_l1Once, fnOf k_spec_l1Once_ic k_spec_l1Once_rv [true]),
  (k_spec_l1Below, fnOf k_spec_l1Below_ic k_spec_l1Below_rv [true]),
  (k_spec_RowsIn, fnOf k_spec_RowsIn_ic k_spec_RowsIn_rv []),
  (k_spec_CutsOk, fnOf k_spec_CutsOk_ic k_spec_CutsOk_rv []),
  (k_spec_l13Add, fnOf k_spec_l13Add_ic k_spec_l13Add_rv []),
  (k_impl_RowsIn, fnOf k_impl_RowsIn_ic k_impl_RowsIn_rv []),
  (k_impl_CutsOk, fnOf k_impl_CutsOk_ic k_impl_CutsOk_rv []),
  (k_impl_GridOk_1, fnOf k_impl_GridOk_1_ic k_impl_GridOk_1_rv []),
  (k__impl_Slot__plus, fnOf k__impl_Slot__plus_ic k__impl_Slot__plus_rv []),
  (k_slices_IndexFunc___int_int_, fnOf k_slices_IndexFunc___int_int__ic k_slices_IndexFunc___int_int__rv []),
  (k_spec_AddInt, fnOf k_spec_AddInt_ic k_spec_AddInt_rv []),
  (k_impl_areDecimals, fnOf k_impl_areDecimals_ic k_impl_areDecimals_rv []),
  (k_impl_AddInt, fnOf k_impl_AddInt_ic k_impl_AddInt_rv []),
  (k_spec_SortInts, fnOf k_spec_SortInts_ic k_spec_SortInts_rv []),
  (k_spec_l11Right, fnOf k_spec_l11Right_ic k_spec_l11Right_rv [true]),
  (k_spec_l13Grads, fnOf k_spec_l13Grads_ic k_spec_l13Grads_rv [true]),
  (k_spec_l1PickInt, fnOf k_spec_l1PickInt_ic k_spec_l1PickInt_rv [true, true, true]),
  (k_spec_l8Right, fnOf k_spec_l8Right_ic k_spec_l8Right_rv [true]),
  (k_spec_l8Bent, fnOf k_spec_l8Bent_ic k_spec_l8Bent_rv [true]),
  (k_spec_l11Bent, fnOf k_spec_l11Bent_ic k_spec_l11Bent_rv [true]),
  (k_spec_l1Byte, fnOf k_spec_l1Byte_ic k_spec_l1Byte_rv [true]),
  (k_spec_l1Whole, fnOf k_spec_l1Whole_ic k_spec_l1Whole_rv [true]),
  (k_impl_areDecimals_1, fnOf k_impl_areDecimals_1_ic k_impl_areDecimals_1_rv []),
  (k_spec_GridOf, fnOf k_spec_GridOf_ic k_spec_GridOf_rv []),
  (k_spec_l9Right, fnOf k_spec_l9Right_ic k_spec_l9Right_rv [true]),
  (k_spec_l6Small, fnOf k_spec_l6Small_ic k_spec_l6Small_rv [true]),
  (k_spec_Column, fnOf k_spec_Column_ic k_spec_Column_rv []),
  (k_spec_CutsOf, fnOf k_spec_CutsOf_ic k_spec_CutsOf_rv []),
  (k_spec_BinOf, fnOf k_spec_BinOf_ic k_spec_BinOf_rv [])]

def T : Table := fun f => (tbl.find? fun q => q.1 == f).map fun q => q.2

theorem T_laws_FnNodeHists : T k_laws_FnNodeHists = some (fnOf k_laws_FnNodeHists_ic k_laws_FnNodeHists_rv []) := rfl

@[simp] theorem M_laws_FnNodeHists : modesOf T k_laws_FnNodeHists = [] := modesOf_code T_laws_FnNodeHists

theorem T_spec_NodeHists : T k_spec_NodeHists = some (fnOf k_spec_NodeHists_ic k_spec_NodeHists_rv []) := rfl

@[simp] theorem M_spec_NodeHists : modesOf T k_spec_NodeHists = [] := modesOf_code T_spec_NodeHists

theorem T_impl_NodeHists : T k_impl_NodeHists = some (fnOf k_impl_NodeHists_ic k_impl_NodeHists_rv []) := rfl

@[simp] theorem M_impl_NodeHists : modesOf T k_impl_NodeHists = [] := modesOf_code T_impl_NodeHists

theorem T_laws_big : T k_laws_big = some (fnOf k_laws_big_ic k_laws_big_rv []) := rfl

@[simp] theorem M_laws_big : modesOf T k_laws_big = [] := modesOf_code T_laws_big

theorem T_spec_DrawNodeHists : T k_spec_DrawNodeHists = some (fnOf k_spec_DrawNodeHists_ic k_spec_DrawNodeHists_rv []) := rfl

@[simp] theorem M_spec_DrawNodeHists : modesOf T k_spec_DrawNodeHists = [] := modesOf_code T_spec_DrawNodeHists

theorem T_impl_TotalOf : T k_impl_TotalOf = some (fnOf k_impl_TotalOf_ic k_impl_TotalOf_rv []) := rfl

@[simp] theorem M_impl_TotalOf : modesOf T k_impl_TotalOf = [] := modesOf_code T_impl_TotalOf

theorem T_spec_GridOk : T k_spec_GridOk = some (fnOf k_spec_GridOk_ic k_spec_GridOk_rv []) := rfl

@[simp] theorem M_spec_GridOk : modesOf T k_spec_GridOk = [] := modesOf_code T_spec_GridOk

theorem T_spec_HistOf : T k_spec_HistOf = some (fnOf k_spec_HistOf_ic k_spec_HistOf_rv []) := rfl

@[simp] theorem M_spec_HistOf : modesOf T k_spec_HistOf = [] := modesOf_code T_spec_HistOf

theorem T_impl_GridOk : T k_impl_GridOk = some (fnOf k_impl_GridOk_ic k_impl_GridOk_rv []) := rfl

@[simp] theorem M_impl_GridOk : modesOf T k_impl_GridOk = [] := modesOf_code T_impl_GridOk

theorem T_impl_HistOf : T k_impl_HistOf = some (fnOf k_impl_HistOf_ic k_impl_HistOf_rv []) := rfl

@[simp] theorem M_impl_HistOf : modesOf T k_impl_HistOf = [] := modesOf_code T_impl_HistOf

theorem T_spec_l1In : T k_spec_l1In = some (fnOf k_spec_l1In_ic k_spec_l1In_rv []) := rfl

@[simp] theorem M_spec_l1In : modesOf T k_spec_l1In = [] := modesOf_code T_spec_l1In

theorem T_spec_l6Value : T k_spec_l6Value = some (fnOf k_spec_l6Value_ic k_spec_l6Value_rv []) := rfl

@[simp] theorem M_spec_l6Value : modesOf T k_spec_l6Value = [] := modesOf_code T_spec_l6Value

theorem T_spec_NameOk : T k_spec_NameOk = some (fnOf k_spec_NameOk_ic k_spec_NameOk_rv []) := rfl

@[simp] theorem M_spec_NameOk : modesOf T k_spec_NameOk = [] := modesOf_code T_spec_NameOk

theorem T_spec_l9Has : T k_spec_l9Has = some (fnOf k_spec_l9Has_ic k_spec_l9Has_rv []) := rfl

@[simp] theorem M_spec_l9Has : modesOf T k_spec_l9Has = [] := modesOf_code T_spec_l9Has

theorem T_impl_within : T k_impl_within = some (fnOf k_impl_within_ic k_impl_within_rv []) := rfl

@[simp] theorem M_impl_within : modesOf T k_impl_within = [] := modesOf_code T_impl_within

theorem T_slices_ContainsFunc___int_int_ : T k_slices_ContainsFunc___int_int_ = some (fnOf k_slices_ContainsFunc___int_int__ic k_slices_ContainsFunc___int_int__rv []) := rfl

@[simp] theorem M_slices_ContainsFunc___int_int_ : modesOf T k_slices_ContainsFunc___int_int_ = [] := modesOf_code T_slices_ContainsFunc___int_int_

theorem T_impl_isDecimal : T k_impl_isDecimal = some (fnOf k_impl_isDecimal_ic k_impl_isDecimal_rv []) := rfl

@[simp] theorem M_impl_isDecimal : modesOf T k_impl_isDecimal = [] := modesOf_code T_impl_isDecimal

theorem T_spec_TableOk : T k_spec_TableOk = some (fnOf k_spec_TableOk_ic k_spec_TableOk_rv []) := rfl

@[simp] theorem M_spec_TableOk : modesOf T k_spec_TableOk = [] := modesOf_code T_spec_TableOk

theorem T_spec_Distinct : T k_spec_Distinct = some (fnOf k_spec_Distinct_ic k_spec_Distinct_rv []) := rfl

@[simp] theorem M_spec_Distinct : modesOf T k_spec_Distinct = [] := modesOf_code T_spec_Distinct

theorem T_spec_l19Args : T k_spec_l19Args = some (fnOf k_spec_l19Args_ic k_spec_l19Args_rv []) := rfl

@[simp] theorem M_spec_l19Args : modesOf T k_spec_l19Args = [] := modesOf_code T_spec_l19Args

theorem T_spec_l12Rows : T k_spec_l12Rows = some (fnOf k_spec_l12Rows_ic k_spec_l12Rows_rv [true]) := rfl

@[simp] theorem M_spec_l12Rows : modesOf T k_spec_l12Rows = [true] := modesOf_code T_spec_l12Rows

theorem T_impl_Prefix : T k_impl_Prefix = some (fnOf k_impl_Prefix_ic k_impl_Prefix_rv []) := rfl

@[simp] theorem M_impl_Prefix : modesOf T k_impl_Prefix = [] := modesOf_code T_impl_Prefix

theorem T_spec_l1New : T k_spec_l1New = some (fnOf k_spec_l1New_ic k_spec_l1New_rv []) := rfl

@[simp] theorem M_spec_l1New : modesOf T k_spec_l1New = [] := modesOf_code T_spec_l1New

theorem T_spec_l1Once : T k_spec_l1Once = some (fnOf k_spec_l1Once_ic k_spec_l1Once_rv [true]) := rfl

@[simp] theorem M_spec_l1Once : modesOf T k_spec_l1Once = [true] := modesOf_code T_spec_l1Once

theorem T_spec_l1Below : T k_spec_l1Below = some (fnOf k_spec_l1Below_ic k_spec_l1Below_rv [true]) := rfl

@[simp] theorem M_spec_l1Below : modesOf T k_spec_l1Below = [true] := modesOf_code T_spec_l1Below

theorem T_spec_RowsIn : T k_spec_RowsIn = some (fnOf k_spec_RowsIn_ic k_spec_RowsIn_rv []) := rfl

@[simp] theorem M_spec_RowsIn : modesOf T k_spec_RowsIn = [] := modesOf_code T_spec_RowsIn

theorem T_spec_CutsOk : T k_spec_CutsOk = some (fnOf k_spec_CutsOk_ic k_spec_CutsOk_rv []) := rfl

@[simp] theorem M_spec_CutsOk : modesOf T k_spec_CutsOk = [] := modesOf_code T_spec_CutsOk

theorem T_spec_l13Add : T k_spec_l13Add = some (fnOf k_spec_l13Add_ic k_spec_l13Add_rv []) := rfl

@[simp] theorem M_spec_l13Add : modesOf T k_spec_l13Add = [] := modesOf_code T_spec_l13Add

theorem T_impl_RowsIn : T k_impl_RowsIn = some (fnOf k_impl_RowsIn_ic k_impl_RowsIn_rv []) := rfl

@[simp] theorem M_impl_RowsIn : modesOf T k_impl_RowsIn = [] := modesOf_code T_impl_RowsIn

theorem T_impl_CutsOk : T k_impl_CutsOk = some (fnOf k_impl_CutsOk_ic k_impl_CutsOk_rv []) := rfl

@[simp] theorem M_impl_CutsOk : modesOf T k_impl_CutsOk = [] := modesOf_code T_impl_CutsOk

theorem T_impl_GridOk_1 : T k_impl_GridOk_1 = some (fnOf k_impl_GridOk_1_ic k_impl_GridOk_1_rv []) := rfl

@[simp] theorem M_impl_GridOk_1 : modesOf T k_impl_GridOk_1 = [] := modesOf_code T_impl_GridOk_1

theorem T__impl_Slot__plus : T k__impl_Slot__plus = some (fnOf k__impl_Slot__plus_ic k__impl_Slot__plus_rv []) := rfl

@[simp] theorem M__impl_Slot__plus : modesOf T k__impl_Slot__plus = [] := modesOf_code T__impl_Slot__plus

theorem T_slices_IndexFunc___int_int_ : T k_slices_IndexFunc___int_int_ = some (fnOf k_slices_IndexFunc___int_int__ic k_slices_IndexFunc___int_int__rv []) := rfl

@[simp] theorem M_slices_IndexFunc___int_int_ : modesOf T k_slices_IndexFunc___int_int_ = [] := modesOf_code T_slices_IndexFunc___int_int_

theorem T_spec_AddInt : T k_spec_AddInt = some (fnOf k_spec_AddInt_ic k_spec_AddInt_rv []) := rfl

@[simp] theorem M_spec_AddInt : modesOf T k_spec_AddInt = [] := modesOf_code T_spec_AddInt

theorem T_impl_areDecimals : T k_impl_areDecimals = some (fnOf k_impl_areDecimals_ic k_impl_areDecimals_rv []) := rfl

@[simp] theorem M_impl_areDecimals : modesOf T k_impl_areDecimals = [] := modesOf_code T_impl_areDecimals

theorem T_impl_AddInt : T k_impl_AddInt = some (fnOf k_impl_AddInt_ic k_impl_AddInt_rv []) := rfl

@[simp] theorem M_impl_AddInt : modesOf T k_impl_AddInt = [] := modesOf_code T_impl_AddInt

theorem T_spec_SortInts : T k_spec_SortInts = some (fnOf k_spec_SortInts_ic k_spec_SortInts_rv []) := rfl

@[simp] theorem M_spec_SortInts : modesOf T k_spec_SortInts = [] := modesOf_code T_spec_SortInts

theorem T_spec_l11Right : T k_spec_l11Right = some (fnOf k_spec_l11Right_ic k_spec_l11Right_rv [true]) := rfl

@[simp] theorem M_spec_l11Right : modesOf T k_spec_l11Right = [true] := modesOf_code T_spec_l11Right

theorem T_spec_l13Grads : T k_spec_l13Grads = some (fnOf k_spec_l13Grads_ic k_spec_l13Grads_rv [true]) := rfl

@[simp] theorem M_spec_l13Grads : modesOf T k_spec_l13Grads = [true] := modesOf_code T_spec_l13Grads

theorem T_spec_l1PickInt : T k_spec_l1PickInt = some (fnOf k_spec_l1PickInt_ic k_spec_l1PickInt_rv [true, true, true]) := rfl

@[simp] theorem M_spec_l1PickInt : modesOf T k_spec_l1PickInt = [true, true, true] := modesOf_code T_spec_l1PickInt

theorem T_spec_l8Right : T k_spec_l8Right = some (fnOf k_spec_l8Right_ic k_spec_l8Right_rv [true]) := rfl

@[simp] theorem M_spec_l8Right : modesOf T k_spec_l8Right = [true] := modesOf_code T_spec_l8Right

theorem T_spec_l8Bent : T k_spec_l8Bent = some (fnOf k_spec_l8Bent_ic k_spec_l8Bent_rv [true]) := rfl

@[simp] theorem M_spec_l8Bent : modesOf T k_spec_l8Bent = [true] := modesOf_code T_spec_l8Bent

theorem T_spec_l11Bent : T k_spec_l11Bent = some (fnOf k_spec_l11Bent_ic k_spec_l11Bent_rv [true]) := rfl

@[simp] theorem M_spec_l11Bent : modesOf T k_spec_l11Bent = [true] := modesOf_code T_spec_l11Bent

theorem T_spec_l1Byte : T k_spec_l1Byte = some (fnOf k_spec_l1Byte_ic k_spec_l1Byte_rv [true]) := rfl

@[simp] theorem M_spec_l1Byte : modesOf T k_spec_l1Byte = [true] := modesOf_code T_spec_l1Byte

theorem T_spec_l1Whole : T k_spec_l1Whole = some (fnOf k_spec_l1Whole_ic k_spec_l1Whole_rv [true]) := rfl

@[simp] theorem M_spec_l1Whole : modesOf T k_spec_l1Whole = [true] := modesOf_code T_spec_l1Whole

theorem T_impl_areDecimals_1 : T k_impl_areDecimals_1 = some (fnOf k_impl_areDecimals_1_ic k_impl_areDecimals_1_rv []) := rfl

@[simp] theorem M_impl_areDecimals_1 : modesOf T k_impl_areDecimals_1 = [] := modesOf_code T_impl_areDecimals_1

theorem T_spec_GridOf : T k_spec_GridOf = some (fnOf k_spec_GridOf_ic k_spec_GridOf_rv []) := rfl

@[simp] theorem M_spec_GridOf : modesOf T k_spec_GridOf = [] := modesOf_code T_spec_GridOf

theorem T_spec_l9Right : T k_spec_l9Right = some (fnOf k_spec_l9Right_ic k_spec_l9Right_rv [true]) := rfl

@[simp] theorem M_spec_l9Right : modesOf T k_spec_l9Right = [true] := modesOf_code T_spec_l9Right

theorem T_spec_l6Small : T k_spec_l6Small = some (fnOf k_spec_l6Small_ic k_spec_l6Small_rv [true]) := rfl

@[simp] theorem M_spec_l6Small : modesOf T k_spec_l6Small = [true] := modesOf_code T_spec_l6Small

theorem T_spec_Column : T k_spec_Column = some (fnOf k_spec_Column_ic k_spec_Column_rv []) := rfl

@[simp] theorem M_spec_Column : modesOf T k_spec_Column = [] := modesOf_code T_spec_Column

theorem T_spec_CutsOf : T k_spec_CutsOf = some (fnOf k_spec_CutsOf_ic k_spec_CutsOf_rv []) := rfl

@[simp] theorem M_spec_CutsOf : modesOf T k_spec_CutsOf = [] := modesOf_code T_spec_CutsOf

theorem T_spec_BinOf : T k_spec_BinOf = some (fnOf k_spec_BinOf_ic k_spec_BinOf_rv []) := rfl

@[simp] theorem M_spec_BinOf : modesOf T k_spec_BinOf = [] := modesOf_code T_spec_BinOf

end Go.Pe
