/- The compact texts of the functions that the law reaches; no condition. -/
import Derived.Test.YtoilifakgbifmaaEvA0
set_option linter.all false
namespace Go.Pe
open Go
def bs (l : List UInt8) : ByteArray := ⟨l.toArray⟩

def k_laws_FnExactStateNew : Nat := 7

def k_laws_eqTree : Nat := 25

def k_laws_toIntS : Nat := 33

def k_laws_eqIntS : Nat := 37

def k_laws_markIntS : Nat := 39

def k_laws_szTable : Nat := 44

def k_spec_StateNew : Nat := 45

def k_laws_toTable : Nat := 46

def k_impl_StateNew : Nat := 47

def k_laws_eqState : Nat := 48

def k_laws_eqTable : Nat := 49

def k_laws_markTable : Nat := 50

def k_laws_markState : Nat := 51

def k_laws_heldState : Nat := 52

def k_laws_heldIntS : Nat := 62

def k_laws_szIntSS : Nat := 63

def k_laws_toIntSS : Nat := 65

def k_laws_eqIntSS : Nat := 67

def k_laws_markIntSS : Nat := 69

def k_laws_szStringS : Nat := 74

def k_laws_szIntS : Nat := 75

def k_laws_toStringS : Nat := 80

def k_laws_eqStringS : Nat := 86

def k_laws_eqTreeS : Nat := 87

def k_laws_eqNodeS : Nat := 96

def k_laws_markNodeS : Nat := 97

def k_laws_heldNodeS : Nat := 98

def k_spec_l1In : Nat := 106

def k_spec_l6Value : Nat := 107

def k_spec_NameOk : Nat := 108

def k_spec_l9Has : Nat := 109

def k_impl_within : Nat := 111

def k_impl_areNames : Nat := 112

def k_slices_ContainsFunc___int_int_ : Nat := 113

def k_impl_isDecimal : Nat := 116

def k_spec_TableOk : Nat := 120

def k_spec_BaseOf : Nat := 121

def k_impl_TableOk : Nat := 122

def k_impl_BaseOf : Nat := 123

def k_laws_markStringS : Nat := 124

def k_laws_markTreeS : Nat := 125

def k_laws_heldTreeS : Nat := 126

def k_spec_FloorDiv : Nat := 148

def k_impl_FloorDiv : Nat := 154

def k_laws_eqNode : Nat := 155

def k_impl_NameOk : Nat := 167

def k_slices_Contains___string_string_ : Nat := 168

def k_slices_IndexFunc___int_int_ : Nat := 169

def k_spec_AddInt : Nat := 174

def k_slices_Clone___string_string_ : Nat := 175

def k_impl_areDecimals : Nat := 176

def k_slices_ContainsFunc_____int___int_ : Nat := 177

def k_impl_TableOk_1 : Nat := 178

def k_impl_AddInt : Nat := 179

def k_laws_markText : Nat := 180

def k_slices_Index___string_string_ : Nat := 211

def k_impl_areDecimals_1 : Nat := 214

def k_slices_IndexFunc_____int___int_ : Nat := 215

def k_laws_FnExactStateNew_vars : List Nat := [0, 1, 3, 6, 7, 4, 8, 5, 9, 10, 11, 12, 13, 2]

def k_laws_FnExactStateNew_ic : IC := .seq (.reg [oV 1 (.box (.V 0)), oV 2 (.mv (kb false))]) (.seq (.reg [oV 3 (.mv (ki 1048576))]) (.seq (.reg [oE 14 (.load true 4 (.V 1)), oE 15 (.mv (.V 3)), oE 16 (.call k_laws_szTable [([1, 0, 1, 1], (.E 14)), ([0], (.E 15))]), oV 3 (.mv (.E 16))]) (.seq (.seq (.reg [oE 17 (.mv (.V 3)), oE 18 (.bin .lss (.E 17) (ki 0))]) (.cond (.E 18) (.seq (.reg [oV 2 (.mv (kb true))]) .ret) .skip)) (.seq (.reg [oE 20 (.load true 4 (.V 1)), oE 21 (.call k_laws_toTable [([1, 0, 1, 1], (.E 20))]), oE 22 (.call k_spec_StateNew [([1, 0, 1, 1], (.E 21))]), oE 19 (.mv (.E 22)), oE 23 (.ext 0 (.E 19)), oE 24 (.ext 1 (.E 19)), oV 4 (.alloc [.e0, .e0]), oN (.store [1, 1] (.V 4) (.E 23)), oV 5 (.mv (.E 24))]) (.seq (.reg [oE 25 (.load true 4 (.V 1)), oE 26 (.call k_laws_toTable [([1, 0, 1, 1], (.E 25))]), oV 6 (.alloc [.e0, (.v (.string (bs []))), .e0, .e0]), oN (.store [1, 0, 1, 1] (.V 6) (.E 26))]) (.seq (.reg [oE 28 (.load true 4 (.V 6)), oE 29 (.call k_impl_StateNew [([1, 0, 1, 1], (.E 28))]), oE 27 (.mv (.E 29)), oE 30 (.ext 0 (.E 27)), oE 31 (.ext 1 (.E 27)), oV 7 (.alloc [.e0, .e0]), oN (.store [1, 1] (.V 7) (.E 30)), oV 8 (.mv (.E 31))]) (.seq (.seq (.reg [oE 32 (.load true 2 (.V 7)), oE 33 (.load true 2 (.V 4)), oE 34 (.call k_laws_eqState [([1, 1], (.E 32)), ([1, 1], (.E 33))]), oE 35 (.un .not (.E 34)), oE 36 (.mv (.E 35)), ⟨(some (.E 37)), .mv (.V 8), some ((.E 36), false)⟩, ⟨(some (.E 38)), .mv (.V 5), some ((.E 36), false)⟩, ⟨(some (.E 39)), .eqb true [.b] (.E 37) (.E 38), some ((.E 36), false)⟩, oE 40 (.pick (.E 36) (kb true) (.E 39))]) (.cond (.E 40) (.seq (.reg [oV 2 (.mv (kb false))]) .ret) .skip)) (.seq (.seq (.regD [(oE 41 (.load true 4 (.V 6)), 0, 1), (oE 42 (.load true 4 (.V 1)), 0, 0), (oE 43 (.call k_laws_toTable [([1, 0, 1, 1], (.E 42))]), 0, 0), (oE 44 (.call k_laws_eqTable [([1, 0, 1, 1], (.E 41)), ([1, 0, 1, 1], (.E 43))]), 0, 0), (oE 45 (.un .not (.E 44)), 0, 0)]) (.cond (.E 45) (.seq (.reg [oV 2 (.mv (kb false))]) .ret) .skip)) (.seq (.reg [oV 9 (.mv (ki 1))]) (.seq (.reg [oE 46 (.load true 4 (.V 6)), oE 47 (.mv (.V 9)), oE 48 (.call k_laws_markTable [([1, 0, 1, 1], (.E 46)), ([0], (.E 47))]), oV 9 (.mv (.E 48))]) (.seq (.seq (.reg [oE 49 (.mv (.V 9)), oE 50 (.bin .lss (.E 49) (ki 0)), oE 51 (.mv (.E 50)), ⟨(some (.E 52)), .load true 2 (.V 7), some ((.E 51), false)⟩, ⟨(some (.E 53)), .load true 2 (.V 4), some ((.E 51), false)⟩, ⟨(some (.E 54)), .call k_laws_eqState [([1, 1], (.E 52)), ([1, 1], (.E 53))], some ((.E 51), false)⟩, ⟨(some (.E 55)), .un .not (.E 54), some ((.E 51), false)⟩, oE 56 (.pick (.E 51) (kb true) (.E 55)), oE 57 (.mv (.E 56)), ⟨(some (.E 58)), .mv (.V 8), some ((.E 57), false)⟩, ⟨(some (.E 59)), .mv (.V 5), some ((.E 57), false)⟩, ⟨(some (.E 60)), .eqb true [.b] (.E 58) (.E 59), some ((.E 57), false)⟩, oE 61 (.pick (.E 57) (kb true) (.E 60))]) (.cond (.E 61) (.seq (.reg [oV 2 (.mv (kb false))]) .ret) .skip)) (.seq (.reg [oV 10 (.mv (ki 1))]) (.seq (.reg [oE 62 (.load true 2 (.V 7)), oE 63 (.mv (.V 10)), oE 64 (.call k_laws_markState [([1, 1], (.E 62)), ([0], (.E 63))]), oV 10 (.mv (.E 64))]) (.seq (.reg [oV 11 (.mv (ki 1))]) (.seq (.reg [oE 65 (.load true 2 (.V 7)), oE 66 (.mv (.V 11)), oE 67 (.call k_laws_heldState [([1, 1], (.E 65)), ([0], (.E 66))]), oV 11 (.mv (.E 67))]) (.seq (.seq (.reg [oE 68 (.mv (.V 11)), oE 69 (.bin .lss (.E 68) (ki 0))]) (.cond (.E 69) (.seq (.reg [oV 2 (.mv (kb false))]) .ret) .skip)) (.seq (.seq (.reg [oE 70 (.mv (.V 11)), oE 71 (.mv (.V 10)), oE 72 (.bin .neq (.E 70) (.E 71))]) (.cond (.E 72) (.seq (.reg [oV 2 (.mv (kb false))]) .ret) .skip)) (.seq (.reg [oE 74 (.load true 4 (.V 1)), oE 75 (.call k_laws_toTable [([1, 0, 1, 1], (.E 74))]), oE 76 (.call k_impl_StateNew [([1, 0, 1, 1], (.E 75))]), oE 73 (.mv (.E 76)), oE 77 (.ext 0 (.E 73)), oE 78 (.ext 1 (.E 73)), oV 12 (.alloc [.e0, .e0]), oN (.store [1, 1] (.V 12) (.E 77)), oV 13 (.mv (.E 78))]) (.seq (.seq (.reg [oE 79 (.load true 2 (.V 12)), oE 80 (.load true 2 (.V 4)), oE 81 (.call k_laws_eqState [([1, 1], (.E 79)), ([1, 1], (.E 80))]), oE 82 (.un .not (.E 81)), oE 83 (.mv (.E 82)), ⟨(some (.E 84)), .mv (.V 13), some ((.E 83), false)⟩, ⟨(some (.E 85)), .mv (.V 5), some ((.E 83), false)⟩, ⟨(some (.E 86)), .eqb true [.b] (.E 84) (.E 85), some ((.E 83), false)⟩, oE 87 (.pick (.E 83) (kb true) (.E 86))]) (.cond (.E 87) (.seq (.reg [oV 2 (.mv (kb false))]) .ret) .skip)) (.seq (.reg [oV 11 (.mv (ki 1))]) (.seq (.reg [oE 88 (.load true 2 (.V 7)), oE 89 (.mv (.V 11)), oE 90 (.call k_laws_heldState [([1, 1], (.E 88)), ([0], (.E 89))]), oV 11 (.mv (.E 90))]) (.seq (.seq (.reg [oE 91 (.mv (.V 11)), oE 92 (.bin .lss (.E 91) (ki 0))]) (.cond (.E 92) (.seq (.reg [oV 2 (.mv (kb false))]) .ret) .skip)) (.seq (.seq (.reg [oE 93 (.mv (.V 11)), oE 94 (.mv (.V 10)), oE 95 (.bin .neq (.E 93) (.E 94))]) (.cond (.E 95) (.seq (.reg [oV 2 (.mv (kb false))]) .ret) .skip)) (.seq (.reg [oV 2 (.mv (kb true))]) .ret))))))))))))))))))))))))

def k_laws_FnExactStateNew_rv : List RV := [.tmp [0] 2]

def k_laws_eqTree_vars : List Nat := [0, 1, 2, 3, 4]

def k_laws_eqTree_ic : IC := .seq (.reg [oV 2 (.box (.V 0)), oV 3 (.box (.V 1)), oV 4 (.mv (kb false))]) (.seq (.seq (.reg [oE 5 (.faddr 0 (.V 2)), oE 6 (.load false 1 (.E 5)), oE 7 (.faddr 0 (.V 3)), oE 8 (.load false 1 (.E 7)), oE 9 (.call k_laws_eqNodeS [([5], (.E 6)), ([5], (.E 8))]), oE 10 (.un .not (.E 9))]) (.cond (.E 10) (.seq (.reg [oV 4 (.mv (kb false))]) .ret) .skip)) (.seq (.reg [oV 4 (.mv (kb true))]) .ret))

def k_laws_eqTree_rv : List RV := [.tmp [0] 4]

def k_laws_toIntS_vars : List Nat := [0, 4, 3, 2]

def k_laws_toIntS_b0 : IC := .seq (.seq (.reg [oE 8 (.mv (.V 4)), oE 9 (.mv (.V 0)), oE 10 (.len (.E 9)), oE 11 (.bin .lss (.E 8) (.E 10))]) (.cond (.E 11) .skip (.exit 0))) (.seq (.block 1 (.reg [oE 14 (.mv (.V 3)), oE 15 (.mv (.V 4)), oE 16 (.mv (.V 0)), oE 17 (.mv (.V 4)), oE 18 (.iaddr 1 (.E 16) (.E 17)), oE 19 (.load false 1 (.E 18)), oE 20 (.iaddr 1 (.E 14) (.E 15)), oN (.store [0] (.E 20) (.E 19))])) (.reg [oE 12 (.mv (.V 4)), oE 13 (.bin .add (.E 12) (ki 1)), oV 4 (.mv (.E 13))]))

def k_laws_toIntS_ic : IC := .seq (.reg [oV 2 (.mv (.C .e0))]) (.seq (.reg [oE 5 (.mv (.V 0)), oE 6 (.len (.E 5)), oE 7 (.mksl 8 1 [iv 0] (.E 6) (.E 6)), oV 3 (.mv (.E 7))]) (.seq (.seq (.reg [oV 4 (.mv (ki 0))]) (.block 0 (.loop k_laws_toIntS_b0))) (.seq (.reg [oE 21 (.mv (.V 3)), oV 2 (.mv (.E 21))]) .ret)))

def k_laws_toIntS_rv : List RV := [.tmp [1] 2]

def k_laws_eqIntS_vars : List Nat := [0, 1, 5, 4]

def k_laws_eqIntS_b0 : IC := .seq (.seq (.reg [oE 11 (.mv (.V 5)), oE 12 (.mv (.V 0)), oE 13 (.len (.E 12)), oE 14 (.bin .lss (.E 11) (.E 13))]) (.cond (.E 14) .skip (.exit 0))) (.seq (.block 1 (.seq (.regD [(oE 17 (.mv (.V 0)), 0, 0), (oE 18 (.mv (.V 5)), 0, 0), (oE 19 (.iaddr 1 (.E 17) (.E 18)), 0, 0), (oE 20 (.load false 1 (.E 19)), 0, 0), (oE 21 (.mv (.V 1)), 0, 0), (oE 22 (.mv (.V 5)), 0, 0), (oE 23 (.iaddr 1 (.E 21) (.E 22)), 0, 0), (oE 24 (.load false 1 (.E 23)), 0, 0), (oE 25 (.bin .neq (.E 20) (.E 24)), 0, 0)]) (.cond (.E 25) (.seq (.reg [oV 4 (.mv (kb false))]) .ret) .skip))) (.reg [oE 15 (.mv (.V 5)), oE 16 (.bin .add (.E 15) (ki 1)), oV 5 (.mv (.E 16))]))

def k_laws_eqIntS_ic : IC := .seq (.reg [oV 4 (.mv (kb false))]) (.seq (.seq (.reg [oE 6 (.mv (.V 0)), oE 7 (.len (.E 6)), oE 8 (.mv (.V 1)), oE 9 (.len (.E 8)), oE 10 (.bin .neq (.E 7) (.E 9))]) (.cond (.E 10) (.seq (.reg [oV 4 (.mv (kb false))]) .ret) .skip)) (.seq (.seq (.reg [oV 5 (.mv (ki 0))]) (.block 0 (.loop k_laws_eqIntS_b0))) (.seq (.reg [oV 4 (.mv (kb true))]) .ret)))

def k_laws_eqIntS_rv : List RV := [.tmp [0] 4]

def k_laws_markIntS_vars : List Nat := [0, 1, 5, 4]

def k_laws_markIntS_b0 : IC := .seq (.seq (.reg [oE 6 (.mv (.V 5)), oE 7 (.mv (.V 0)), oE 8 (.len (.E 7)), oE 9 (.bin .lss (.E 6) (.E 8))]) (.cond (.E 9) .skip (.exit 0))) (.seq (.block 1 (.seq (.reg [oE 12 (.mv (.V 0)), oE 13 (.mv (.V 5)), oE 14 (.mv (.V 1)), oE 15 (.iaddr 1 (.E 12) (.E 13)), oN (.store [0] (.E 15) (.E 14))]) (.reg [oE 16 (.mv (.V 1)), oE 17 (.bin .add (.E 16) (ki 1)), oV 1 (.mv (.E 17))]))) (.reg [oE 10 (.mv (.V 5)), oE 11 (.bin .add (.E 10) (ki 1)), oV 5 (.mv (.E 11))]))

def k_laws_markIntS_ic : IC := .seq (.reg [oV 4 (.mv (ki 0))]) (.seq (.seq (.reg [oV 5 (.mv (ki 0))]) (.block 0 (.loop k_laws_markIntS_b0))) (.seq (.reg [oE 18 (.mv (.V 1)), oV 4 (.mv (.E 18))]) .ret))

def k_laws_markIntS_rv : List RV := [.tmp [0] 4]

def k_laws_szTable_vars : List Nat := [0, 1, 2, 4]

def k_laws_szTable_ic : IC := .seq (.reg [oV 2 (.box (.V 0)), oV 4 (.mv (ki 0))]) (.seq (.reg [oE 5 (.faddr 0 (.V 2)), oE 6 (.load false 1 (.E 5)), oE 7 (.mv (.V 1)), oE 8 (.call k_laws_szStringS [([1], (.E 6)), ([0], (.E 7))]), oV 1 (.mv (.E 8))]) (.seq (.seq (.reg [oE 9 (.mv (.V 1)), oE 10 (.bin .lss (.E 9) (ki 0))]) (.cond (.E 10) (.seq (.reg [oV 4 (.mv (ki (-1)))]) .ret) .skip)) (.seq (.reg [oE 11 (.mv (.V 1)), oE 12 (.faddr 1 (.V 2)), oE 13 (.load false 1 (.E 12)), oE 14 (.lenS (.E 13)), oE 15 (.bin .sub (.E 11) (.E 14)), oV 1 (.mv (.E 15))]) (.seq (.seq (.reg [oE 16 (.mv (.V 1)), oE 17 (.bin .lss (.E 16) (ki 0))]) (.cond (.E 17) (.seq (.reg [oV 4 (.mv (ki (-1)))]) .ret) .skip)) (.seq (.reg [oE 18 (.faddr 2 (.V 2)), oE 19 (.load false 1 (.E 18)), oE 20 (.mv (.V 1)), oE 21 (.call k_laws_szIntSS [([1], (.E 19)), ([0], (.E 20))]), oV 1 (.mv (.E 21))]) (.seq (.seq (.reg [oE 22 (.mv (.V 1)), oE 23 (.bin .lss (.E 22) (ki 0))]) (.cond (.E 23) (.seq (.reg [oV 4 (.mv (ki (-1)))]) .ret) .skip)) (.seq (.reg [oE 24 (.faddr 3 (.V 2)), oE 25 (.load false 1 (.E 24)), oE 26 (.mv (.V 1)), oE 27 (.call k_laws_szIntS [([1], (.E 25)), ([0], (.E 26))]), oV 1 (.mv (.E 27))]) (.seq (.seq (.reg [oE 28 (.mv (.V 1)), oE 29 (.bin .lss (.E 28) (ki 0))]) (.cond (.E 29) (.seq (.reg [oV 4 (.mv (ki (-1)))]) .ret) .skip)) (.seq (.reg [oE 30 (.mv (.V 1)), oV 4 (.mv (.E 30))]) .ret)))))))))

def k_laws_szTable_rv : List RV := [.tmp [0] 4]

def k_spec_StateNew_vars : List Nat := [0, 1, 4, 2, 7, 5, 3]

def k_spec_StateNew_b0 : IC := .seq (.seq (.reg [oE 19 (.mv (.V 7)), oE 20 (.faddr 3 (.V 1)), oE 21 (.load false 1 (.E 20)), oE 22 (.len (.E 21)), oE 23 (.bin .lss (.E 19) (.E 22))]) (.cond (.E 23) .skip (.exit 0))) (.seq (.block 1 (.reg [oE 26 (.faddr 0 (.V 4)), oE 27 (.load false 1 (.E 26)), oE 28 (.mv (.V 5)), oE 29 (.bslice 1 1 [iv 0] [(0, (.E 28))]), oE 30 (.app 8 1 (.E 27) (.E 29)), oE 31 (.faddr 0 (.V 4)), oN (.store [1] (.E 31) (.E 30))])) (.reg [oE 24 (.mv (.V 7)), oE 25 (.bin .add (.E 24) (ki 1)), oV 7 (.mv (.E 25))]))

def k_spec_StateNew_ic : IC := .seq (.reg [oV 1 (.box (.V 0)), oV 2 (.alloc [.e0, .e0]), oV 3 (.mv (kb false))]) (.seq (.reg [oE 8 (.build [.e0, .e0] []), oV 4 (.alloc [.e0, .e0]), oN (.store [1, 1] (.V 4) (.E 8))]) (.seq (.seq (.reg [oE 9 (.load true 4 (.V 1)), oE 10 (.call k_spec_TableOk [([1, 0, 1, 1], (.E 9))]), oE 11 (.un .not (.E 10))]) (.cond (.E 11) (.seq (.reg [oE 12 (.load true 2 (.V 4)), oN (.store [1, 1] (.V 2) (.E 12)), oV 3 (.mv (kb false))]) .ret) .skip)) (.seq (.reg [oE 14 (.faddr 3 (.V 1)), oE 15 (.load false 1 (.E 14)), oE 16 (.call k_spec_BaseOf [([1], (.E 15))]), oE 13 (.mv (.E 16)), oE 17 (.ext 0 (.E 13)), oE 18 (.ext 1 (.E 13)), oV 5 (.mv (.E 17)), oE 6 (.mv (.E 18))]) (.seq (.seq (.reg [oV 7 (.mv (ki 0))]) (.block 0 (.loop k_spec_StateNew_b0))) (.seq (.reg [oE 32 (.load true 2 (.V 4)), oN (.store [1, 1] (.V 2) (.E 32)), oV 3 (.mv (kb true))]) .ret)))))

def k_spec_StateNew_rv : List RV := [.cell [1, 1] 2 true, .tmp [0] 3]

def k_laws_toTable_vars : List Nat := [0, 1, 3, 2]

def k_laws_toTable_ic : IC := .seq (.reg [oV 1 (.box (.V 0)), oV 2 (.alloc [.e0, (.v (.string (bs []))), .e0, .e0])]) (.seq (.reg [oV 3 (.alloc [.e0, (.v (.string (bs []))), .e0, .e0])]) (.seq (.reg [oE 4 (.faddr 0 (.V 1)), oE 5 (.load false 1 (.E 4)), oE 6 (.call k_laws_toStringS [([1], (.E 5))]), oE 7 (.faddr 0 (.V 3)), oN (.store [1] (.E 7) (.E 6))]) (.seq (.reg [oE 8 (.faddr 1 (.V 1)), oE 9 (.load false 1 (.E 8)), oE 10 (.faddr 1 (.V 3)), oN (.store [0] (.E 10) (.E 9))]) (.seq (.reg [oE 11 (.faddr 2 (.V 1)), oE 12 (.load false 1 (.E 11)), oE 13 (.call k_laws_toIntSS [([1], (.E 12))]), oE 14 (.faddr 2 (.V 3)), oN (.store [1] (.E 14) (.E 13))]) (.seq (.reg [oE 15 (.faddr 3 (.V 1)), oE 16 (.load false 1 (.E 15)), oE 17 (.call k_laws_toIntS [([1], (.E 16))]), oE 18 (.faddr 3 (.V 3)), oN (.store [1] (.E 18) (.E 17))]) (.seq (.reg [oE 19 (.load true 4 (.V 3)), oN (.store [1, 0, 1, 1] (.V 2) (.E 19))]) .ret))))))

def k_laws_toTable_rv : List RV := [.cell [1, 0, 1, 1] 2 true]

def k_impl_StateNew_vars : List Nat := [0, 1, 2, 21, 20, 6, 4, 3]

def k_impl_StateNew_b0 : IC := .seq (.reg [oE 22 (.bin .lss (.V 21) (.V 20))]) (.seq (.cond (.E 22) .skip (.exit 0)) (.seq (.block 1 (.reg [oE 23 (.faddr 0 (.V 6)), oE 24 (.load false 1 (.E 23)), oE 25 (.mv (.V 4)), oE 26 (.bslice 1 1 [iv 0] [(0, (.E 25))]), oE 27 (.app 8 1 (.E 24) (.E 26)), oE 28 (.faddr 0 (.V 6)), oN (.store [1] (.E 28) (.E 27))])) (.reg [oE 29 (.bin .add (.V 21) (ki 1)), oV 21 (.mv (.E 29))])))

def k_impl_StateNew_ic : IC := .seq (.reg [oV 1 (.box (.V 0)), oV 2 (.alloc [.e0, .e0]), oV 3 (.mv (kb false))]) (.seq (.seq (.reg [oE 7 (.load true 4 (.V 1)), oE 8 (.call k_impl_TableOk [([1, 0, 1, 1], (.E 7))]), oE 9 (.un .not (.E 8))]) (.cond (.E 9) (.seq (.reg [oE 10 (.build [.e0, .e0] []), oN (.store [1, 1] (.V 2) (.E 10)), oV 3 (.mv (kb false))]) .ret) .skip)) (.seq (.reg [oE 12 (.faddr 3 (.V 1)), oE 13 (.load false 1 (.E 12)), oE 14 (.call k_impl_BaseOf [([1], (.E 13))]), oE 11 (.mv (.E 14)), oE 15 (.ext 0 (.E 11)), oE 16 (.ext 1 (.E 11)), oV 4 (.mv (.E 15)), oE 5 (.mv (.E 16))]) (.seq (.reg [oE 17 (.build [.e0, .e0] []), oV 6 (.alloc [.e0, .e0]), oN (.store [1, 1] (.V 6) (.E 17))]) (.seq (.seq (.reg [oE 18 (.faddr 3 (.V 1)), oE 19 (.load false 1 (.E 18)), oV 20 (.len (.E 19)), oV 21 (.mv (ki 0))]) (.block 0 (.loop k_impl_StateNew_b0))) (.seq (.reg [oE 30 (.load true 2 (.V 6)), oN (.store [1, 1] (.V 2) (.E 30)), oV 3 (.mv (kb true))]) .ret)))))

def k_impl_StateNew_rv : List RV := [.cell [1, 1] 2 true, .tmp [0] 3]

def k_laws_eqState_vars : List Nat := [0, 1, 2, 3, 4]

def k_laws_eqState_ic : IC := .seq (.reg [oV 2 (.box (.V 0)), oV 3 (.box (.V 1)), oV 4 (.mv (kb false))]) (.seq (.seq (.reg [oE 5 (.faddr 0 (.V 2)), oE 6 (.load false 1 (.E 5)), oE 7 (.faddr 0 (.V 3)), oE 8 (.load false 1 (.E 7)), oE 9 (.call k_laws_eqIntS [([1], (.E 6)), ([1], (.E 8))]), oE 10 (.un .not (.E 9))]) (.cond (.E 10) (.seq (.reg [oV 4 (.mv (kb false))]) .ret) .skip)) (.seq (.seq (.reg [oE 11 (.faddr 1 (.V 2)), oE 12 (.load false 1 (.E 11)), oE 13 (.faddr 1 (.V 3)), oE 14 (.load false 1 (.E 13)), oE 15 (.call k_laws_eqTreeS [([1], (.E 12)), ([1], (.E 14))]), oE 16 (.un .not (.E 15))]) (.cond (.E 16) (.seq (.reg [oV 4 (.mv (kb false))]) .ret) .skip)) (.seq (.reg [oV 4 (.mv (kb true))]) .ret)))

def k_laws_eqState_rv : List RV := [.tmp [0] 4]

def k_laws_eqTable_vars : List Nat := [0, 1, 2, 3, 4]

def k_laws_eqTable_ic : IC := .seq (.reg [oV 2 (.box (.V 0)), oV 3 (.box (.V 1)), oV 4 (.mv (kb false))]) (.seq (.seq (.reg [oE 5 (.faddr 0 (.V 2)), oE 6 (.load false 1 (.E 5)), oE 7 (.faddr 0 (.V 3)), oE 8 (.load false 1 (.E 7)), oE 9 (.call k_laws_eqStringS [([1], (.E 6)), ([1], (.E 8))]), oE 10 (.un .not (.E 9))]) (.cond (.E 10) (.seq (.reg [oV 4 (.mv (kb false))]) .ret) .skip)) (.seq (.seq (.reg [oE 11 (.faddr 1 (.V 2)), oE 12 (.load false 1 (.E 11)), oE 13 (.faddr 1 (.V 3)), oE 14 (.load false 1 (.E 13)), oE 15 (.bin .neq (.E 12) (.E 14))]) (.cond (.E 15) (.seq (.reg [oV 4 (.mv (kb false))]) .ret) .skip)) (.seq (.seq (.reg [oE 16 (.faddr 2 (.V 2)), oE 17 (.load false 1 (.E 16)), oE 18 (.faddr 2 (.V 3)), oE 19 (.load false 1 (.E 18)), oE 20 (.call k_laws_eqIntSS [([1], (.E 17)), ([1], (.E 19))]), oE 21 (.un .not (.E 20))]) (.cond (.E 21) (.seq (.reg [oV 4 (.mv (kb false))]) .ret) .skip)) (.seq (.seq (.reg [oE 22 (.faddr 3 (.V 2)), oE 23 (.load false 1 (.E 22)), oE 24 (.faddr 3 (.V 3)), oE 25 (.load false 1 (.E 24)), oE 26 (.call k_laws_eqIntS [([1], (.E 23)), ([1], (.E 25))]), oE 27 (.un .not (.E 26))]) (.cond (.E 27) (.seq (.reg [oV 4 (.mv (kb false))]) .ret) .skip)) (.seq (.reg [oV 4 (.mv (kb true))]) .ret)))))

def k_laws_eqTable_rv : List RV := [.tmp [0] 4]

def k_laws_markTable_vars : List Nat := [0, 1, 2, 4]

def k_laws_markTable_ic : IC := .seq (.reg [oV 2 (.box (.V 0)), oV 4 (.mv (ki 0))]) (.seq (.reg [oE 5 (.faddr 0 (.V 2)), oE 6 (.load false 1 (.E 5)), oE 7 (.mv (.V 1)), oE 8 (.call k_laws_markStringS [([1], (.E 6)), ([0], (.E 7))]), oV 1 (.mv (.E 8))]) (.seq (.reg [oE 9 (.faddr 2 (.V 2)), oE 10 (.load false 1 (.E 9)), oE 11 (.mv (.V 1)), oE 12 (.call k_laws_markIntSS [([1], (.E 10)), ([0], (.E 11))]), oV 1 (.mv (.E 12))]) (.seq (.reg [oE 13 (.faddr 3 (.V 2)), oE 14 (.load false 1 (.E 13)), oE 15 (.mv (.V 1)), oE 16 (.call k_laws_markIntS [([1], (.E 14)), ([0], (.E 15))]), oV 1 (.mv (.E 16))]) (.seq (.reg [oE 17 (.mv (.V 1)), oV 4 (.mv (.E 17))]) .ret))))

def k_laws_markTable_rv : List RV := [.tmp [0] 4]

def k_laws_markState_vars : List Nat := [0, 1, 2, 4]

def k_laws_markState_ic : IC := .seq (.reg [oV 2 (.box (.V 0)), oV 4 (.mv (ki 0))]) (.seq (.reg [oE 5 (.faddr 0 (.V 2)), oE 6 (.load false 1 (.E 5)), oE 7 (.mv (.V 1)), oE 8 (.call k_laws_markIntS [([1], (.E 6)), ([0], (.E 7))]), oV 1 (.mv (.E 8))]) (.seq (.reg [oE 9 (.faddr 1 (.V 2)), oE 10 (.load false 1 (.E 9)), oE 11 (.mv (.V 1)), oE 12 (.call k_laws_markTreeS [([1], (.E 10)), ([0], (.E 11))]), oV 1 (.mv (.E 12))]) (.seq (.reg [oE 13 (.mv (.V 1)), oV 4 (.mv (.E 13))]) .ret)))

def k_laws_markState_rv : List RV := [.tmp [0] 4]

def k_laws_heldState_vars : List Nat := [0, 1, 2, 4]

def k_laws_heldState_ic : IC := .seq (.reg [oV 2 (.box (.V 0)), oV 4 (.mv (ki 0))]) (.seq (.reg [oE 5 (.faddr 0 (.V 2)), oE 6 (.load false 1 (.E 5)), oE 7 (.mv (.V 1)), oE 8 (.call k_laws_heldIntS [([1], (.E 6)), ([0], (.E 7))]), oV 1 (.mv (.E 8))]) (.seq (.seq (.reg [oE 9 (.mv (.V 1)), oE 10 (.bin .lss (.E 9) (ki 0))]) (.cond (.E 10) (.seq (.reg [oV 4 (.mv (ki (-1)))]) .ret) .skip)) (.seq (.reg [oE 11 (.faddr 1 (.V 2)), oE 12 (.load false 1 (.E 11)), oE 13 (.mv (.V 1)), oE 14 (.call k_laws_heldTreeS [([1], (.E 12)), ([0], (.E 13))]), oV 1 (.mv (.E 14))]) (.seq (.seq (.reg [oE 15 (.mv (.V 1)), oE 16 (.bin .lss (.E 15) (ki 0))]) (.cond (.E 16) (.seq (.reg [oV 4 (.mv (ki (-1)))]) .ret) .skip)) (.seq (.reg [oE 17 (.mv (.V 1)), oV 4 (.mv (.E 17))]) .ret)))))

def k_laws_heldState_rv : List RV := [.tmp [0] 4]

def k_laws_heldIntS_vars : List Nat := [0, 1, 5, 4]

def k_laws_heldIntS_b0 : IC := .seq (.seq (.reg [oE 6 (.mv (.V 5)), oE 7 (.mv (.V 0)), oE 8 (.len (.E 7)), oE 9 (.bin .lss (.E 6) (.E 8))]) (.cond (.E 9) .skip (.exit 0))) (.seq (.block 1 (.seq (.seq (.reg [oE 12 (.mv (.V 0)), oE 13 (.mv (.V 5)), oE 14 (.iaddr 1 (.E 12) (.E 13)), oE 15 (.load false 1 (.E 14)), oE 16 (.mv (.V 1)), oE 17 (.bin .neq (.E 15) (.E 16))]) (.cond (.E 17) (.seq (.reg [oV 4 (.mv (ki (-1)))]) .ret) .skip)) (.reg [oE 18 (.mv (.V 1)), oE 19 (.bin .add (.E 18) (ki 1)), oV 1 (.mv (.E 19))]))) (.reg [oE 10 (.mv (.V 5)), oE 11 (.bin .add (.E 10) (ki 1)), oV 5 (.mv (.E 11))]))

def k_laws_heldIntS_ic : IC := .seq (.reg [oV 4 (.mv (ki 0))]) (.seq (.seq (.reg [oV 5 (.mv (ki 0))]) (.block 0 (.loop k_laws_heldIntS_b0))) (.seq (.reg [oE 20 (.mv (.V 1)), oV 4 (.mv (.E 20))]) .ret))

def k_laws_heldIntS_rv : List RV := [.tmp [0] 4]

def k_laws_szIntSS_vars : List Nat := [0, 1, 5, 4]

def k_laws_szIntSS_b0 : IC := .seq (.seq (.reg [oE 12 (.mv (.V 5)), oE 13 (.mv (.V 0)), oE 14 (.len (.E 13)), oE 15 (.bin .lss (.E 12) (.E 14))]) (.cond (.E 15) .skip (.exit 0))) (.seq (.block 1 (.seq (.reg [oE 18 (.mv (.V 0)), oE 19 (.mv (.V 5)), oE 20 (.iaddr 1 (.E 18) (.E 19)), oE 21 (.load false 1 (.E 20)), oE 22 (.mv (.V 1)), oE 23 (.call k_laws_szIntS [([1], (.E 21)), ([0], (.E 22))]), oV 1 (.mv (.E 23))]) (.seq (.reg [oE 24 (.mv (.V 1)), oE 25 (.bin .lss (.E 24) (ki 0))]) (.cond (.E 25) (.seq (.reg [oV 4 (.mv (ki (-1)))]) .ret) .skip)))) (.reg [oE 16 (.mv (.V 5)), oE 17 (.bin .add (.E 16) (ki 1)), oV 5 (.mv (.E 17))]))

def k_laws_szIntSS_ic : IC := .seq (.reg [oV 4 (.mv (ki 0))]) (.seq (.reg [oE 6 (.mv (.V 1)), oE 7 (.mv (.V 0)), oE 8 (.len (.E 7)), oE 9 (.bin .sub (.E 6) (.E 8)), oV 1 (.mv (.E 9))]) (.seq (.seq (.reg [oE 10 (.mv (.V 1)), oE 11 (.bin .lss (.E 10) (ki 0))]) (.cond (.E 11) (.seq (.reg [oV 4 (.mv (ki (-1)))]) .ret) .skip)) (.seq (.seq (.reg [oV 5 (.mv (ki 0))]) (.block 0 (.loop k_laws_szIntSS_b0))) (.seq (.reg [oE 26 (.mv (.V 1)), oV 4 (.mv (.E 26))]) .ret))))

def k_laws_szIntSS_rv : List RV := [.tmp [0] 4]

def k_laws_toIntSS_vars : List Nat := [0, 4, 3, 2]

def k_laws_toIntSS_b0 : IC := .seq (.seq (.reg [oE 8 (.mv (.V 4)), oE 9 (.mv (.V 0)), oE 10 (.len (.E 9)), oE 11 (.bin .lss (.E 8) (.E 10))]) (.cond (.E 11) .skip (.exit 0))) (.seq (.block 1 (.reg [oE 14 (.mv (.V 3)), oE 15 (.mv (.V 4)), oE 16 (.mv (.V 0)), oE 17 (.mv (.V 4)), oE 18 (.iaddr 1 (.E 16) (.E 17)), oE 19 (.load false 1 (.E 18)), oE 20 (.call k_laws_toIntS [([1], (.E 19))]), oE 21 (.iaddr 1 (.E 14) (.E 15)), oN (.store [1] (.E 21) (.E 20))])) (.reg [oE 12 (.mv (.V 4)), oE 13 (.bin .add (.E 12) (ki 1)), oV 4 (.mv (.E 13))]))

def k_laws_toIntSS_ic : IC := .seq (.reg [oV 2 (.mv (.C .e0))]) (.seq (.reg [oE 5 (.mv (.V 0)), oE 6 (.len (.E 5)), oE 7 (.mksl 24 1 [(.own 1 [])] (.E 6) (.E 6)), oV 3 (.mv (.E 7))]) (.seq (.seq (.reg [oV 4 (.mv (ki 0))]) (.block 0 (.loop k_laws_toIntSS_b0))) (.seq (.reg [oE 22 (.mv (.V 3)), oV 2 (.mv (.E 22))]) .ret)))

def k_laws_toIntSS_rv : List RV := [.tmp [1] 2]

def k_laws_eqIntSS_vars : List Nat := [0, 1, 5, 4]

def k_laws_eqIntSS_b0 : IC := .seq (.seq (.reg [oE 11 (.mv (.V 5)), oE 12 (.mv (.V 0)), oE 13 (.len (.E 12)), oE 14 (.bin .lss (.E 11) (.E 13))]) (.cond (.E 14) .skip (.exit 0))) (.seq (.block 1 (.seq (.regD [(oE 17 (.mv (.V 0)), 0, 0), (oE 18 (.mv (.V 5)), 0, 0), (oE 19 (.iaddr 1 (.E 17) (.E 18)), 0, 0), (oE 20 (.load false 1 (.E 19)), 0, 0), (oE 21 (.mv (.V 1)), 0, 0), (oE 22 (.mv (.V 5)), 0, 0), (oE 23 (.iaddr 1 (.E 21) (.E 22)), 0, 0), (oE 24 (.load false 1 (.E 23)), 0, 0), (oE 25 (.call k_laws_eqIntS [([1], (.E 20)), ([1], (.E 24))]), 0, 0), (oE 26 (.un .not (.E 25)), 0, 0)]) (.cond (.E 26) (.seq (.reg [oV 4 (.mv (kb false))]) .ret) .skip))) (.reg [oE 15 (.mv (.V 5)), oE 16 (.bin .add (.E 15) (ki 1)), oV 5 (.mv (.E 16))]))

def k_laws_eqIntSS_ic : IC := .seq (.reg [oV 4 (.mv (kb false))]) (.seq (.seq (.reg [oE 6 (.mv (.V 0)), oE 7 (.len (.E 6)), oE 8 (.mv (.V 1)), oE 9 (.len (.E 8)), oE 10 (.bin .neq (.E 7) (.E 9))]) (.cond (.E 10) (.seq (.reg [oV 4 (.mv (kb false))]) .ret) .skip)) (.seq (.seq (.reg [oV 5 (.mv (ki 0))]) (.block 0 (.loop k_laws_eqIntSS_b0))) (.seq (.reg [oV 4 (.mv (kb true))]) .ret)))

def k_laws_eqIntSS_rv : List RV := [.tmp [0] 4]

def k_laws_markIntSS_vars : List Nat := [0, 1, 5, 4]

def k_laws_markIntSS_b0 : IC := .seq (.seq (.reg [oE 6 (.mv (.V 5)), oE 7 (.mv (.V 0)), oE 8 (.len (.E 7)), oE 9 (.bin .lss (.E 6) (.E 8))]) (.cond (.E 9) .skip (.exit 0))) (.seq (.block 1 (.reg [oE 12 (.mv (.V 0)), oE 13 (.mv (.V 5)), oE 14 (.iaddr 1 (.E 12) (.E 13)), oE 15 (.load false 1 (.E 14)), oE 16 (.mv (.V 1)), oE 17 (.call k_laws_markIntS [([1], (.E 15)), ([0], (.E 16))]), oV 1 (.mv (.E 17))])) (.reg [oE 10 (.mv (.V 5)), oE 11 (.bin .add (.E 10) (ki 1)), oV 5 (.mv (.E 11))]))

def k_laws_markIntSS_ic : IC := .seq (.reg [oV 4 (.mv (ki 0))]) (.seq (.seq (.reg [oV 5 (.mv (ki 0))]) (.block 0 (.loop k_laws_markIntSS_b0))) (.seq (.reg [oE 18 (.mv (.V 1)), oV 4 (.mv (.E 18))]) .ret))

def k_laws_markIntSS_rv : List RV := [.tmp [0] 4]

def k_laws_szStringS_vars : List Nat := [0, 1, 5, 4]

def k_laws_szStringS_b0 : IC := .seq (.seq (.reg [oE 12 (.mv (.V 5)), oE 13 (.mv (.V 0)), oE 14 (.len (.E 13)), oE 15 (.bin .lss (.E 12) (.E 14))]) (.cond (.E 15) .skip (.exit 0))) (.seq (.block 1 (.seq (.reg [oE 18 (.mv (.V 1)), oE 19 (.mv (.V 0)), oE 20 (.mv (.V 5)), oE 21 (.iaddr 1 (.E 19) (.E 20)), oE 22 (.load false 1 (.E 21)), oE 23 (.lenS (.E 22)), oE 24 (.bin .sub (.E 18) (.E 23)), oV 1 (.mv (.E 24))]) (.seq (.reg [oE 25 (.mv (.V 1)), oE 26 (.bin .lss (.E 25) (ki 0))]) (.cond (.E 26) (.seq (.reg [oV 4 (.mv (ki (-1)))]) .ret) .skip)))) (.reg [oE 16 (.mv (.V 5)), oE 17 (.bin .add (.E 16) (ki 1)), oV 5 (.mv (.E 17))]))

def k_laws_szStringS_ic : IC := .seq (.reg [oV 4 (.mv (ki 0))]) (.seq (.reg [oE 6 (.mv (.V 1)), oE 7 (.mv (.V 0)), oE 8 (.len (.E 7)), oE 9 (.bin .sub (.E 6) (.E 8)), oV 1 (.mv (.E 9))]) (.seq (.seq (.reg [oE 10 (.mv (.V 1)), oE 11 (.bin .lss (.E 10) (ki 0))]) (.cond (.E 11) (.seq (.reg [oV 4 (.mv (ki (-1)))]) .ret) .skip)) (.seq (.seq (.reg [oV 5 (.mv (ki 0))]) (.block 0 (.loop k_laws_szStringS_b0))) (.seq (.reg [oE 27 (.mv (.V 1)), oV 4 (.mv (.E 27))]) .ret))))

def k_laws_szStringS_rv : List RV := [.tmp [0] 4]

def k_laws_szIntS_vars : List Nat := [0, 1, 4]

def k_laws_szIntS_ic : IC := .seq (.reg [oV 4 (.mv (ki 0))]) (.seq (.reg [oE 5 (.mv (.V 1)), oE 6 (.mv (.V 0)), oE 7 (.len (.E 6)), oE 8 (.bin .sub (.E 5) (.E 7)), oV 1 (.mv (.E 8))]) (.seq (.seq (.reg [oE 9 (.mv (.V 1)), oE 10 (.bin .lss (.E 9) (ki 0))]) (.cond (.E 10) (.seq (.reg [oV 4 (.mv (ki (-1)))]) .ret) .skip)) (.seq (.reg [oE 11 (.mv (.V 1)), oV 4 (.mv (.E 11))]) .ret)))

def k_laws_szIntS_rv : List RV := [.tmp [0] 4]

def k_laws_toStringS_vars : List Nat := [0, 4, 3, 2]

def k_laws_toStringS_b0 : IC := .seq (.seq (.reg [oE 8 (.mv (.V 4)), oE 9 (.mv (.V 0)), oE 10 (.len (.E 9)), oE 11 (.bin .lss (.E 8) (.E 10))]) (.cond (.E 11) .skip (.exit 0))) (.seq (.block 1 (.reg [oE 14 (.mv (.V 3)), oE 15 (.mv (.V 4)), oE 16 (.mv (.V 0)), oE 17 (.mv (.V 4)), oE 18 (.iaddr 1 (.E 16) (.E 17)), oE 19 (.load false 1 (.E 18)), oE 20 (.iaddr 1 (.E 14) (.E 15)), oN (.store [0] (.E 20) (.E 19))])) (.reg [oE 12 (.mv (.V 4)), oE 13 (.bin .add (.E 12) (ki 1)), oV 4 (.mv (.E 13))]))

def k_laws_toStringS_ic : IC := .seq (.reg [oV 2 (.mv (.C .e0))]) (.seq (.reg [oE 5 (.mv (.V 0)), oE 6 (.len (.E 5)), oE 7 (.mksl 16 1 [(.v (.string (bs [])))] (.E 6) (.E 6)), oV 3 (.mv (.E 7))]) (.seq (.seq (.reg [oV 4 (.mv (ki 0))]) (.block 0 (.loop k_laws_toStringS_b0))) (.seq (.reg [oE 21 (.mv (.V 3)), oV 2 (.mv (.E 21))]) .ret)))

def k_laws_toStringS_rv : List RV := [.tmp [1] 2]

def k_laws_eqStringS_vars : List Nat := [0, 1, 5, 4]

def k_laws_eqStringS_b0 : IC := .seq (.seq (.reg [oE 11 (.mv (.V 5)), oE 12 (.mv (.V 0)), oE 13 (.len (.E 12)), oE 14 (.bin .lss (.E 11) (.E 13))]) (.cond (.E 14) .skip (.exit 0))) (.seq (.block 1 (.seq (.regD [(oE 17 (.mv (.V 0)), 0, 0), (oE 18 (.mv (.V 5)), 0, 0), (oE 19 (.iaddr 1 (.E 17) (.E 18)), 0, 0), (oE 20 (.load false 1 (.E 19)), 0, 0), (oE 21 (.mv (.V 1)), 0, 0), (oE 22 (.mv (.V 5)), 0, 0), (oE 23 (.iaddr 1 (.E 21) (.E 22)), 0, 0), (oE 24 (.load false 1 (.E 23)), 0, 0), (oE 25 (.bin .neq (.E 20) (.E 24)), 0, 0)]) (.cond (.E 25) (.seq (.reg [oV 4 (.mv (kb false))]) .ret) .skip))) (.reg [oE 15 (.mv (.V 5)), oE 16 (.bin .add (.E 15) (ki 1)), oV 5 (.mv (.E 16))]))

def k_laws_eqStringS_ic : IC := .seq (.reg [oV 4 (.mv (kb false))]) (.seq (.seq (.reg [oE 6 (.mv (.V 0)), oE 7 (.len (.E 6)), oE 8 (.mv (.V 1)), oE 9 (.len (.E 8)), oE 10 (.bin .neq (.E 7) (.E 9))]) (.cond (.E 10) (.seq (.reg [oV 4 (.mv (kb false))]) .ret) .skip)) (.seq (.seq (.reg [oV 5 (.mv (ki 0))]) (.block 0 (.loop k_laws_eqStringS_b0))) (.seq (.reg [oV 4 (.mv (kb true))]) .ret)))

def k_laws_eqStringS_rv : List RV := [.tmp [0] 4]

def k_laws_eqTreeS_vars : List Nat := [0, 1, 5, 4]

def k_laws_eqTreeS_b0 : IC := .seq (.seq (.reg [oE 11 (.mv (.V 5)), oE 12 (.mv (.V 0)), oE 13 (.len (.E 12)), oE 14 (.bin .lss (.E 11) (.E 13))]) (.cond (.E 14) .skip (.exit 0))) (.seq (.block 1 (.seq (.regD [(oE 17 (.mv (.V 0)), 0, 0), (oE 18 (.mv (.V 5)), 0, 0), (oE 19 (.iaddr 1 (.E 17) (.E 18)), 0, 0), (oE 20 (.load true 1 (.E 19)), 0, 0), (oE 21 (.mv (.V 1)), 0, 0), (oE 22 (.mv (.V 5)), 0, 0), (oE 23 (.iaddr 1 (.E 21) (.E 22)), 0, 0), (oE 24 (.load true 1 (.E 23)), 0, 0), (oE 25 (.call k_laws_eqTree [([5], (.E 20)), ([5], (.E 24))]), 0, 0), (oE 26 (.un .not (.E 25)), 0, 0)]) (.cond (.E 26) (.seq (.reg [oV 4 (.mv (kb false))]) .ret) .skip))) (.reg [oE 15 (.mv (.V 5)), oE 16 (.bin .add (.E 15) (ki 1)), oV 5 (.mv (.E 16))]))

def k_laws_eqTreeS_ic : IC := .seq (.reg [oV 4 (.mv (kb false))]) (.seq (.seq (.reg [oE 6 (.mv (.V 0)), oE 7 (.len (.E 6)), oE 8 (.mv (.V 1)), oE 9 (.len (.E 8)), oE 10 (.bin .neq (.E 7) (.E 9))]) (.cond (.E 10) (.seq (.reg [oV 4 (.mv (kb false))]) .ret) .skip)) (.seq (.seq (.reg [oV 5 (.mv (ki 0))]) (.block 0 (.loop k_laws_eqTreeS_b0))) (.seq (.reg [oV 4 (.mv (kb true))]) .ret)))

def k_laws_eqTreeS_rv : List RV := [.tmp [0] 4]

def k_laws_eqNodeS_vars : List Nat := [0, 1, 5, 4]

def k_laws_eqNodeS_b0 : IC := .seq (.seq (.reg [oE 11 (.mv (.V 5)), oE 12 (.mv (.V 0)), oE 13 (.len (.E 12)), oE 14 (.bin .lss (.E 11) (.E 13))]) (.cond (.E 14) .skip (.exit 0))) (.seq (.block 1 (.seq (.regD [(oE 17 (.mv (.V 0)), 0, 0), (oE 18 (.mv (.V 5)), 0, 0), (oE 19 (.iaddr 5 (.E 17) (.E 18)), 0, 0), (oE 20 (.load true 5 (.E 19)), 0, 0), (oE 21 (.mv (.V 1)), 0, 0), (oE 22 (.mv (.V 5)), 0, 0), (oE 23 (.iaddr 5 (.E 21) (.E 22)), 0, 0), (oE 24 (.load true 5 (.E 23)), 0, 0), (oE 25 (.call k_laws_eqNode [([0, 0, 0, 0, 0], (.E 20)), ([0, 0, 0, 0, 0], (.E 24))]), 0, 0), (oE 26 (.un .not (.E 25)), 0, 0)]) (.cond (.E 26) (.seq (.reg [oV 4 (.mv (kb false))]) .ret) .skip))) (.reg [oE 15 (.mv (.V 5)), oE 16 (.bin .add (.E 15) (ki 1)), oV 5 (.mv (.E 16))]))

def k_laws_eqNodeS_ic : IC := .seq (.reg [oV 4 (.mv (kb false))]) (.seq (.seq (.reg [oE 6 (.mv (.V 0)), oE 7 (.len (.E 6)), oE 8 (.mv (.V 1)), oE 9 (.len (.E 8)), oE 10 (.bin .neq (.E 7) (.E 9))]) (.cond (.E 10) (.seq (.reg [oV 4 (.mv (kb false))]) .ret) .skip)) (.seq (.seq (.reg [oV 5 (.mv (ki 0))]) (.block 0 (.loop k_laws_eqNodeS_b0))) (.seq (.reg [oV 4 (.mv (kb true))]) .ret)))

def k_laws_eqNodeS_rv : List RV := [.tmp [0] 4]

def k_laws_markNodeS_vars : List Nat := [0, 1, 5, 4]

def k_laws_markNodeS_b0 : IC := .seq (.seq (.reg [oE 6 (.mv (.V 5)), oE 7 (.mv (.V 0)), oE 8 (.len (.E 7)), oE 9 (.bin .lss (.E 6) (.E 8))]) (.cond (.E 9) .skip (.exit 0))) (.seq (.block 1 (.seq (.reg [oE 12 (.mv (.V 0)), oE 13 (.mv (.V 5)), oE 14 (.mv (.V 1)), oE 15 (.iaddr 5 (.E 12) (.E 13)), oE 16 (.faddr 0 (.E 15)), oN (.store [0] (.E 16) (.E 14))]) (.seq (.reg [oE 17 (.mv (.V 1)), oE 18 (.bin .add (.E 17) (ki 1)), oV 1 (.mv (.E 18))]) (.seq (.reg [oE 19 (.mv (.V 0)), oE 20 (.mv (.V 5)), oE 21 (.mv (.V 1)), oE 22 (.iaddr 5 (.E 19) (.E 20)), oE 23 (.faddr 1 (.E 22)), oN (.store [0] (.E 23) (.E 21))]) (.seq (.reg [oE 24 (.mv (.V 1)), oE 25 (.bin .add (.E 24) (ki 1)), oV 1 (.mv (.E 25))]) (.seq (.reg [oE 26 (.mv (.V 0)), oE 27 (.mv (.V 5)), oE 28 (.mv (.V 1)), oE 29 (.iaddr 5 (.E 26) (.E 27)), oE 30 (.faddr 2 (.E 29)), oN (.store [0] (.E 30) (.E 28))]) (.seq (.reg [oE 31 (.mv (.V 1)), oE 32 (.bin .add (.E 31) (ki 1)), oV 1 (.mv (.E 32))]) (.seq (.reg [oE 33 (.mv (.V 0)), oE 34 (.mv (.V 5)), oE 35 (.mv (.V 1)), oE 36 (.iaddr 5 (.E 33) (.E 34)), oE 37 (.faddr 3 (.E 36)), oN (.store [0] (.E 37) (.E 35))]) (.seq (.reg [oE 38 (.mv (.V 1)), oE 39 (.bin .add (.E 38) (ki 1)), oV 1 (.mv (.E 39))]) (.seq (.reg [oE 40 (.mv (.V 0)), oE 41 (.mv (.V 5)), oE 42 (.mv (.V 1)), oE 43 (.iaddr 5 (.E 40) (.E 41)), oE 44 (.faddr 4 (.E 43)), oN (.store [0] (.E 44) (.E 42))]) (.reg [oE 45 (.mv (.V 1)), oE 46 (.bin .add (.E 45) (ki 1)), oV 1 (.mv (.E 46))]))))))))))) (.reg [oE 10 (.mv (.V 5)), oE 11 (.bin .add (.E 10) (ki 1)), oV 5 (.mv (.E 11))]))

def k_laws_markNodeS_ic : IC := .seq (.reg [oV 4 (.mv (ki 0))]) (.seq (.seq (.reg [oV 5 (.mv (ki 0))]) (.block 0 (.loop k_laws_markNodeS_b0))) (.seq (.reg [oE 47 (.mv (.V 1)), oV 4 (.mv (.E 47))]) .ret))

def k_laws_markNodeS_rv : List RV := [.tmp [0] 4]

def k_laws_heldNodeS_vars : List Nat := [0, 1, 5, 4]

def k_laws_heldNodeS_b0 : IC := .seq (.seq (.reg [oE 6 (.mv (.V 5)), oE 7 (.mv (.V 0)), oE 8 (.len (.E 7)), oE 9 (.bin .lss (.E 6) (.E 8))]) (.cond (.E 9) .skip (.exit 0))) (.seq (.block 1 (.seq (.seq (.reg [oE 12 (.mv (.V 0)), oE 13 (.mv (.V 5)), oE 14 (.iaddr 5 (.E 12) (.E 13)), oE 15 (.faddr 0 (.E 14)), oE 16 (.load false 1 (.E 15)), oE 17 (.mv (.V 1)), oE 18 (.bin .neq (.E 16) (.E 17))]) (.cond (.E 18) (.seq (.reg [oV 4 (.mv (ki (-1)))]) .ret) .skip)) (.seq (.reg [oE 19 (.mv (.V 1)), oE 20 (.bin .add (.E 19) (ki 1)), oV 1 (.mv (.E 20))]) (.seq (.seq (.reg [oE 21 (.mv (.V 0)), oE 22 (.mv (.V 5)), oE 23 (.iaddr 5 (.E 21) (.E 22)), oE 24 (.faddr 1 (.E 23)), oE 25 (.load false 1 (.E 24)), oE 26 (.mv (.V 1)), oE 27 (.bin .neq (.E 25) (.E 26))]) (.cond (.E 27) (.seq (.reg [oV 4 (.mv (ki (-1)))]) .ret) .skip)) (.seq (.reg [oE 28 (.mv (.V 1)), oE 29 (.bin .add (.E 28) (ki 1)), oV 1 (.mv (.E 29))]) (.seq (.seq (.reg [oE 30 (.mv (.V 0)), oE 31 (.mv (.V 5)), oE 32 (.iaddr 5 (.E 30) (.E 31)), oE 33 (.faddr 2 (.E 32)), oE 34 (.load false 1 (.E 33)), oE 35 (.mv (.V 1)), oE 36 (.bin .neq (.E 34) (.E 35))]) (.cond (.E 36) (.seq (.reg [oV 4 (.mv (ki (-1)))]) .ret) .skip)) (.seq (.reg [oE 37 (.mv (.V 1)), oE 38 (.bin .add (.E 37) (ki 1)), oV 1 (.mv (.E 38))]) (.seq (.seq (.reg [oE 39 (.mv (.V 0)), oE 40 (.mv (.V 5)), oE 41 (.iaddr 5 (.E 39) (.E 40)), oE 42 (.faddr 3 (.E 41)), oE 43 (.load false 1 (.E 42)), oE 44 (.mv (.V 1)), oE 45 (.bin .neq (.E 43) (.E 44))]) (.cond (.E 45) (.seq (.reg [oV 4 (.mv (ki (-1)))]) .ret) .skip)) (.seq (.reg [oE 46 (.mv (.V 1)), oE 47 (.bin .add (.E 46) (ki 1)), oV 1 (.mv (.E 47))]) (.seq (.seq (.reg [oE 48 (.mv (.V 0)), oE 49 (.mv (.V 5)), oE 50 (.iaddr 5 (.E 48) (.E 49)), oE 51 (.faddr 4 (.E 50)), oE 52 (.load false 1 (.E 51)), oE 53 (.mv (.V 1)), oE 54 (.bin .neq (.E 52) (.E 53))]) (.cond (.E 54) (.seq (.reg [oV 4 (.mv (ki (-1)))]) .ret) .skip)) (.reg [oE 55 (.mv (.V 1)), oE 56 (.bin .add (.E 55) (ki 1)), oV 1 (.mv (.E 56))]))))))))))) (.reg [oE 10 (.mv (.V 5)), oE 11 (.bin .add (.E 10) (ki 1)), oV 5 (.mv (.E 11))]))

def k_laws_heldNodeS_ic : IC := .seq (.reg [oV 4 (.mv (ki 0))]) (.seq (.seq (.reg [oV 5 (.mv (ki 0))]) (.block 0 (.loop k_laws_heldNodeS_b0))) (.seq (.reg [oE 57 (.mv (.V 1)), oV 4 (.mv (.E 57))]) .ret))

def k_laws_heldNodeS_rv : List RV := [.tmp [0] 4]

def k_spec_l1In_vars : List Nat := [0, 1, 2, 6]

def k_spec_l1In_ic : IC := .seq (.reg [oV 6 (.mv (kb false))]) (.seq (.reg [oE 7 (.mv (.V 0)), oE 8 (.mv (.V 1)), oE 9 (.bin .geq (.E 7) (.E 8)), oE 10 (.mv (.E 9)), ⟨(some (.E 11)), .mv (.V 0), some ((.E 10), true)⟩, ⟨(some (.E 12)), .mv (.V 2), some ((.E 10), true)⟩, ⟨(some (.E 13)), .bin .leq (.E 11) (.E 12), some ((.E 10), true)⟩, oE 14 (.pick (.E 10) (.E 13) (kb false)), oV 6 (.mv (.E 14))]) .ret)

def k_spec_l1In_rv : List RV := [.tmp [0] 6]

def k_spec_l6Value_vars : List Nat := [0, 2]

def k_spec_l6Value_ic : IC := .seq (.reg [oV 2 (.mv (kb false))]) (.seq (.reg [oE 3 (.mv (.V 0)), oE 4 (.call k_spec_l1In [([0], (.E 3)), ([0], (ki (-2147483647))), ([0], (ki 2147483647))]), oV 2 (.mv (.E 4))]) .ret)

def k_spec_l6Value_rv : List RV := [.tmp [0] 2]

def k_spec_NameOk_vars : List Nat := [0, 3, 2]

def k_spec_NameOk_b0 : IC := .seq (.seq (.reg [oE 13 (.mv (.V 3)), oE 14 (.mv (.V 0)), oE 15 (.lenS (.E 14)), oE 16 (.bin .lss (.E 13) (.E 15))]) (.cond (.E 16) .skip (.exit 0))) (.seq (.block 1 (.seq (.reg [oE 19 (.mv (.V 0)), oE 20 (.mv (.V 3)), oE 21 (.idx (.E 19) (.E 20)), oE 22 (.convI .i64 (.E 21)), oE 23 (.call k_spec_l1In [([0], (.E 22)), ([0], (ki 97)), ([0], (ki 122))]), oE 24 (.un .not (.E 23)), oE 25 (.mv (.E 24)), ⟨(some (.E 26)), .mv (.V 0), some ((.E 25), true)⟩, ⟨(some (.E 27)), .mv (.V 3), some ((.E 25), true)⟩, ⟨(some (.E 28)), .idx (.E 26) (.E 27), some ((.E 25), true)⟩, ⟨(some (.E 29)), .convI .i64 (.E 28), some ((.E 25), true)⟩, ⟨(some (.E 30)), .call k_spec_l1In [([0], (.E 29)), ([0], (ki 48)), ([0], (ki 57))], some ((.E 25), true)⟩, ⟨(some (.E 31)), .un .not (.E 30), some ((.E 25), true)⟩, oE 32 (.pick (.E 25) (.E 31) (kb false))]) (.cond (.E 32) (.seq (.reg [oV 2 (.mv (kb false))]) .ret) .skip))) (.reg [oE 17 (.mv (.V 3)), oE 18 (.bin .add (.E 17) (ki 1)), oV 3 (.mv (.E 18))]))

def k_spec_NameOk_ic : IC := .seq (.reg [oV 2 (.mv (kb false))]) (.seq (.seq (.reg [oE 4 (.mv (.V 0)), oE 5 (.lenS (.E 4)), oE 6 (.call k_spec_l1In [([0], (.E 5)), ([0], (ki 1)), ([0], (ki 12))]), oE 7 (.un .not (.E 6)), oE 8 (.mv (.E 7)), ⟨(some (.E 9)), .mv (.V 0), some ((.E 8), false)⟩, ⟨(some (.E 10)), .idx (.E 9) (ki 0), some ((.E 8), false)⟩, ⟨(some (.E 11)), .bin .lss (.E 10) (.C (.v (.int .u8 97))), some ((.E 8), false)⟩, oE 12 (.pick (.E 8) (kb true) (.E 11))]) (.cond (.E 12) (.seq (.reg [oV 2 (.mv (kb false))]) .ret) .skip)) (.seq (.seq (.reg [oV 3 (.mv (ki 0))]) (.block 0 (.loop k_spec_NameOk_b0))) (.seq (.reg [oV 2 (.mv (kb true))]) .ret)))

def k_spec_NameOk_rv : List RV := [.tmp [0] 2]

def k_spec_l9Has_vars : List Nat := [0, 1, 5, 4]

def k_spec_l9Has_b0 : IC := .seq (.seq (.reg [oE 6 (.mv (.V 5)), oE 7 (.mv (.V 0)), oE 8 (.len (.E 7)), oE 9 (.bin .lss (.E 6) (.E 8))]) (.cond (.E 9) .skip (.exit 0))) (.seq (.block 1 (.seq (.reg [oE 12 (.mv (.V 0)), oE 13 (.mv (.V 5)), oE 14 (.iaddr 1 (.E 12) (.E 13)), oE 15 (.load false 1 (.E 14)), oE 16 (.mv (.V 1)), oE 17 (.bin .eql (.E 15) (.E 16))]) (.cond (.E 17) (.seq (.reg [oV 4 (.mv (kb true))]) .ret) .skip))) (.reg [oE 10 (.mv (.V 5)), oE 11 (.bin .add (.E 10) (ki 1)), oV 5 (.mv (.E 11))]))

def k_spec_l9Has_ic : IC := .seq (.reg [oV 4 (.mv (kb false))]) (.seq (.seq (.reg [oV 5 (.mv (ki 0))]) (.block 0 (.loop k_spec_l9Has_b0))) (.seq (.reg [oV 4 (.mv (kb false))]) .ret))

def k_spec_l9Has_rv : List RV := [.tmp [0] 4]

def k_impl_within_vars : List Nat := [0, 1, 2, 6]

def k_impl_within_ic : IC := .seq (.reg [oV 6 (.mv (kb false))]) (.seq (.reg [oE 7 (.mv (.V 0)), oE 8 (.mv (.V 1)), oE 9 (.bin .geq (.E 7) (.E 8)), oE 10 (.mv (.E 9)), ⟨(some (.E 11)), .mv (.V 0), some ((.E 10), true)⟩, ⟨(some (.E 12)), .mv (.V 2), some ((.E 10), true)⟩, ⟨(some (.E 13)), .bin .leq (.E 11) (.E 12), some ((.E 10), true)⟩, oE 14 (.pick (.E 10) (.E 13) (kb false)), oV 6 (.mv (.E 14))]) .ret)

def k_impl_within_rv : List RV := [.tmp [0] 6]

def k_impl_areNames_vars : List Nat := [0, 7, 6, 5, 4, 3, 2]

def k_impl_areNames_b0 : IC := .seq (.reg [oE 8 (.bin .lss (.V 7) (.V 6))]) (.seq (.cond (.E 8) .skip (.exit 0)) (.seq (.block 1 (.seq (.reg [oE 9 (.mv (.V 7)), oE 10 (.iaddr 1 (.V 5) (.V 7)), oE 11 (.load false 1 (.E 10)), oV 3 (.mv (.E 9)), oV 4 (.mv (.E 11))]) (.seq (.reg [oE 12 (.mv (.V 4)), oE 13 (.call k_impl_NameOk [([0], (.E 12))]), oE 14 (.un .not (.E 13)), oE 15 (.mv (.E 14)), ⟨(some (.E 16)), .mv (.V 0), some ((.E 15), false)⟩, ⟨(some (.E 17)), .mv (.V 3), some ((.E 15), false)⟩, ⟨(some (.E 18)), .slice 1 (.E 16) none (some (.E 17)) none, some ((.E 15), false)⟩, ⟨(some (.E 19)), .mv (.V 4), some ((.E 15), false)⟩, ⟨(some (.E 20)), .call k_slices_Contains___string_string_ [([1], (.E 18)), ([0], (.E 19))], some ((.E 15), false)⟩, oE 21 (.pick (.E 15) (kb true) (.E 20))]) (.cond (.E 21) (.seq (.reg [oV 2 (.mv (kb false))]) .ret) .skip)))) (.reg [oE 22 (.bin .add (.V 7) (ki 1)), oV 7 (.mv (.E 22))])))

def k_impl_areNames_ic : IC := .seq (.reg [oV 2 (.mv (kb false))]) (.seq (.seq (.reg [oV 5 (.mv (.V 0)), oV 6 (.len (.V 5)), oV 7 (.mv (ki 0))]) (.block 0 (.loop k_impl_areNames_b0))) (.seq (.reg [oV 2 (.mv (kb true))]) .ret))

def k_impl_areNames_rv : List RV := [.tmp [0] 2]

def k_slices_ContainsFunc___int_int__vars : List Nat := [0, 1, 4]

def k_slices_ContainsFunc___int_int__ic : IC := .seq (.reg [oV 4 (.mv (kb false))]) (.seq (.reg [oE 5 (.mv (.V 0)), oE 6 (.mv (.V 1)), oE 7 (.call k_slices_IndexFunc___int_int_ [([1], (.E 5)), ([0], (.E 6))]), oE 8 (.bin .geq (.E 7) (ki 0)), oV 4 (.mv (.E 8))]) .ret)

def k_slices_ContainsFunc___int_int__rv : List RV := [.tmp [0] 4]

def k_impl_isDecimal_vars : List Nat := [0, 2]

def k_impl_isDecimal_ic : IC := .seq (.reg [oV 2 (.mv (kb false))]) (.seq (.reg [oE 3 (.mv (.V 0)), oE 4 (.call k_impl_within [([0], (.E 3)), ([0], (ki (-2147483647))), ([0], (ki 2147483647))]), oV 2 (.mv (.E 4))]) .ret)

def k_impl_isDecimal_rv : List RV := [.tmp [0] 2]

def k_spec_TableOk_vars : List Nat := [0, 1, 3, 4, 5, 6, 2]

def k_spec_TableOk_b0 : IC := .seq (.seq (.reg [oE 42 (.mv (.V 4)), oE 43 (.mv (.V 3)), oE 44 (.bin .lss (.E 42) (.E 43))]) (.cond (.E 44) .skip (.exit 0))) (.seq (.block 1 (.seq (.regD [(oE 47 (.faddr 0 (.V 1)), 0, 0), (oE 48 (.load false 1 (.E 47)), 0, 0), (oE 49 (.mv (.V 4)), 0, 0), (oE 50 (.iaddr 1 (.E 48) (.E 49)), 0, 0), (oE 51 (.load false 1 (.E 50)), 0, 0), (oE 52 (.call k_spec_NameOk [([0], (.E 51))]), 0, 0), (oE 53 (.un .not (.E 52)), 0, 0), (oE 54 (.mv (.E 53)), 0, 0), (⟨(some (.E 55)), .faddr 0 (.V 1), some ((.E 54), false)⟩, 0, 0), (⟨(some (.E 56)), .load false 1 (.E 55), some ((.E 54), false)⟩, 0, 0), (⟨(some (.E 57)), .mv (.V 4), some ((.E 54), false)⟩, 0, 0), (⟨(some (.E 58)), .slice 1 (.E 56) none (some (.E 57)) none, some ((.E 54), false)⟩, 0, 0), (⟨(some (.E 59)), .faddr 0 (.V 1), some ((.E 54), false)⟩, 0, 0), (⟨(some (.E 60)), .load false 1 (.E 59), some ((.E 54), false)⟩, 0, 0), (⟨(some (.E 61)), .mv (.V 4), some ((.E 54), false)⟩, 0, 0), (⟨(some (.E 62)), .iaddr 1 (.E 60) (.E 61), some ((.E 54), false)⟩, 0, 0), (⟨(some (.E 63)), .load false 1 (.E 62), some ((.E 54), false)⟩, 0, 0), (⟨(some (.E 64)), .call k_spec_l9Has [([1], (.E 58)), ([0], (.E 63))], some ((.E 54), false)⟩, 0, 0), (oE 65 (.pick (.E 54) (kb true) (.E 64)), 0, 0)]) (.cond (.E 65) (.seq (.reg [oV 2 (.mv (kb false))]) .ret) .skip))) (.reg [oE 45 (.mv (.V 4)), oE 46 (.bin .add (.E 45) (ki 1)), oV 4 (.mv (.E 46))]))

def k_spec_TableOk_b1 : IC := .seq (.seq (.reg [oE 90 (.mv (.V 6)), oE 91 (.mv (.V 3)), oE 92 (.bin .lss (.E 90) (.E 91))]) (.cond (.E 92) .skip (.exit 4))) (.seq (.block 5 (.seq (.reg [oE 95 (.faddr 2 (.V 1)), oE 96 (.load false 1 (.E 95)), oE 97 (.mv (.V 5)), oE 98 (.iaddr 1 (.E 96) (.E 97)), oE 99 (.load false 1 (.E 98)), oE 100 (.mv (.V 6)), oE 101 (.iaddr 1 (.E 99) (.E 100)), oE 102 (.load false 1 (.E 101)), oE 103 (.call k_spec_l6Value [([0], (.E 102))]), oE 104 (.un .not (.E 103))]) (.cond (.E 104) (.seq (.reg [oV 2 (.mv (kb false))]) .ret) .skip))) (.reg [oE 93 (.mv (.V 6)), oE 94 (.bin .add (.E 93) (ki 1)), oV 6 (.mv (.E 94))]))

def k_spec_TableOk_b2 : IC := .seq (.seq (.reg [oE 66 (.mv (.V 5)), oE 67 (.faddr 2 (.V 1)), oE 68 (.load false 1 (.E 67)), oE 69 (.len (.E 68)), oE 70 (.bin .lss (.E 66) (.E 69))]) (.cond (.E 70) .skip (.exit 2))) (.seq (.block 3 (.seq (.seq (.reg [oE 73 (.faddr 2 (.V 1)), oE 74 (.load false 1 (.E 73)), oE 75 (.mv (.V 5)), oE 76 (.iaddr 1 (.E 74) (.E 75)), oE 77 (.load false 1 (.E 76)), oE 78 (.len (.E 77)), oE 79 (.mv (.V 3)), oE 80 (.bin .neq (.E 78) (.E 79)), oE 81 (.mv (.E 80)), ⟨(some (.E 82)), .faddr 3 (.V 1), some ((.E 81), false)⟩, ⟨(some (.E 83)), .load false 1 (.E 82), some ((.E 81), false)⟩, ⟨(some (.E 84)), .mv (.V 5), some ((.E 81), false)⟩, ⟨(some (.E 85)), .iaddr 1 (.E 83) (.E 84), some ((.E 81), false)⟩, ⟨(some (.E 86)), .load false 1 (.E 85), some ((.E 81), false)⟩, ⟨(some (.E 87)), .call k_spec_l6Value [([0], (.E 86))], some ((.E 81), false)⟩, ⟨(some (.E 88)), .un .not (.E 87), some ((.E 81), false)⟩, oE 89 (.pick (.E 81) (kb true) (.E 88))]) (.cond (.E 89) (.seq (.reg [oV 2 (.mv (kb false))]) .ret) .skip)) (.seq (.reg [oV 6 (.mv (ki 0))]) (.block 4 (.loop k_spec_TableOk_b1))))) (.reg [oE 71 (.mv (.V 5)), oE 72 (.bin .add (.E 71) (ki 1)), oV 5 (.mv (.E 72))]))

def k_spec_TableOk_ic : IC := .seq (.reg [oV 1 (.box (.V 0)), oV 2 (.mv (kb false))]) (.seq (.reg [oE 7 (.faddr 0 (.V 1)), oE 8 (.load false 1 (.E 7)), oE 9 (.len (.E 8)), oV 3 (.mv (.E 9))]) (.seq (.seq (.reg [oE 10 (.mv (.V 3)), oE 11 (.call k_spec_l1In [([0], (.E 10)), ([0], (ki 1)), ([0], (ki 4))]), oE 12 (.un .not (.E 11)), oE 13 (.mv (.E 12)), ⟨(some (.E 14)), .faddr 1 (.V 1), some ((.E 13), false)⟩, ⟨(some (.E 15)), .load false 1 (.E 14), some ((.E 13), false)⟩, ⟨(some (.E 16)), .call k_spec_NameOk [([0], (.E 15))], some ((.E 13), false)⟩, ⟨(some (.E 17)), .un .not (.E 16), some ((.E 13), false)⟩, oE 18 (.pick (.E 13) (kb true) (.E 17)), oE 19 (.mv (.E 18)), ⟨(some (.E 20)), .faddr 0 (.V 1), some ((.E 19), false)⟩, ⟨(some (.E 21)), .load false 1 (.E 20), some ((.E 19), false)⟩, ⟨(some (.E 22)), .faddr 1 (.V 1), some ((.E 19), false)⟩, ⟨(some (.E 23)), .load false 1 (.E 22), some ((.E 19), false)⟩, ⟨(some (.E 24)), .call k_spec_l9Has [([1], (.E 21)), ([0], (.E 23))], some ((.E 19), false)⟩, oE 25 (.pick (.E 19) (kb true) (.E 24)), oE 26 (.mv (.E 25)), ⟨(some (.E 27)), .faddr 2 (.V 1), some ((.E 26), false)⟩, ⟨(some (.E 28)), .load false 1 (.E 27), some ((.E 26), false)⟩, ⟨(some (.E 29)), .len (.E 28), some ((.E 26), false)⟩, ⟨(some (.E 30)), .call k_spec_l1In [([0], (.E 29)), ([0], (ki 1)), ([0], (ki 40))], some ((.E 26), false)⟩, ⟨(some (.E 31)), .un .not (.E 30), some ((.E 26), false)⟩, oE 32 (.pick (.E 26) (kb true) (.E 31)), oE 33 (.mv (.E 32)), ⟨(some (.E 34)), .faddr 3 (.V 1), some ((.E 33), false)⟩, ⟨(some (.E 35)), .load false 1 (.E 34), some ((.E 33), false)⟩, ⟨(some (.E 36)), .len (.E 35), some ((.E 33), false)⟩, ⟨(some (.E 37)), .faddr 2 (.V 1), some ((.E 33), false)⟩, ⟨(some (.E 38)), .load false 1 (.E 37), some ((.E 33), false)⟩, ⟨(some (.E 39)), .len (.E 38), some ((.E 33), false)⟩, ⟨(some (.E 40)), .bin .neq (.E 36) (.E 39), some ((.E 33), false)⟩, oE 41 (.pick (.E 33) (kb true) (.E 40))]) (.cond (.E 41) (.seq (.reg [oV 2 (.mv (kb false))]) .ret) .skip)) (.seq (.seq (.reg [oV 4 (.mv (ki 0))]) (.block 0 (.loop k_spec_TableOk_b0))) (.seq (.seq (.reg [oV 5 (.mv (ki 0))]) (.block 2 (.loop k_spec_TableOk_b2))) (.seq (.reg [oV 2 (.mv (kb true))]) .ret)))))

def k_spec_TableOk_rv : List RV := [.tmp [0] 2]

def k_spec_BaseOf_vars : List Nat := [0, 5, 4, 7, 6, 2, 3]

def k_spec_BaseOf_b0 : IC := .seq (.seq (.reg [oE 8 (.mv (.V 5)), oE 9 (.mv (.V 0)), oE 10 (.len (.E 9)), oE 11 (.bin .lss (.E 8) (.E 10))]) (.cond (.E 11) .skip (.exit 0))) (.seq (.block 1 (.seq (.reg [oE 15 (.mv (.V 4)), oE 16 (.mv (.V 0)), oE 17 (.mv (.V 5)), oE 18 (.iaddr 1 (.E 16) (.E 17)), oE 19 (.load false 1 (.E 18)), oE 20 (.call k_spec_AddInt [([0], (.E 15)), ([0], (.E 19))]), oE 14 (.mv (.E 20)), oE 21 (.ext 0 (.E 14)), oE 22 (.ext 1 (.E 14)), oV 6 (.mv (.E 21)), oV 7 (.mv (.E 22))]) (.seq (.seq (.reg [oE 23 (.mv (.V 7)), oE 24 (.un .not (.E 23))]) (.cond (.E 24) (.seq (.reg [oV 2 (.mv (ki 0)), oV 3 (.mv (kb false))]) .ret) .skip)) (.reg [oE 25 (.mv (.V 6)), oV 4 (.mv (.E 25))])))) (.reg [oE 12 (.mv (.V 5)), oE 13 (.bin .add (.E 12) (ki 1)), oV 5 (.mv (.E 13))]))

def k_spec_BaseOf_ic : IC := .seq (.reg [oV 2 (.mv (ki 0)), oV 3 (.mv (kb false))]) (.seq (.reg [oV 4 (.mv (ki 0))]) (.seq (.seq (.reg [oV 5 (.mv (ki 0))]) (.block 0 (.loop k_spec_BaseOf_b0))) (.seq (.reg [oE 26 (.mv (.V 4)), oE 27 (.mv (.V 0)), oE 28 (.len (.E 27)), oE 29 (.call k_spec_FloorDiv [([0], (.E 26)), ([0], (.E 28))]), oE 30 (.ext 0 (.E 29)), oE 31 (.ext 1 (.E 29)), oV 2 (.mv (.E 30)), oV 3 (.mv (.E 31))]) .ret)))

def k_spec_BaseOf_rv : List RV := [.tmp [0] 2, .tmp [0] 3]

def k_impl_TableOk_vars : List Nat := [0, 1, 2]

def k_impl_TableOk_ic : IC := .seq (.reg [oV 1 (.box (.V 0)), oV 2 (.mv (kb false))]) (.seq (.seq (.regD [(oE 3 (.faddr 0 (.V 1)), 0, 0), (oE 4 (.load false 1 (.E 3)), 0, 0), (oE 5 (.len (.E 4)), 0, 0), (oE 6 (.call k_impl_within [([0], (.E 5)), ([0], (ki 1)), ([0], (ki 4))]), 0, 0), (oE 7 (.un .not (.E 6)), 0, 0), (oE 8 (.mv (.E 7)), 0, 0), (⟨(some (.E 9)), .faddr 0 (.V 1), some ((.E 8), false)⟩, 0, 0), (⟨(some (.E 10)), .load false 1 (.E 9), some ((.E 8), false)⟩, 0, 0), (⟨(some (.E 11)), .call k_slices_Clone___string_string_ [([1], (.E 10))], some ((.E 8), false)⟩, 0, 0), (⟨(some (.E 12)), .faddr 1 (.V 1), some ((.E 8), false)⟩, 1, 0), (⟨(some (.E 13)), .load false 1 (.E 12), some ((.E 8), false)⟩, 1, 0), (⟨(some (.E 14)), .bsliceL 1 1 [(.v (.string (bs [])))] [(0, (.E 13))], some ((.E 8), false)⟩, 0, 0), (⟨(some (.E 15)), .app 16 1 (.E 11) (.E 14), some ((.E 8), false)⟩, 0, 0), (⟨(some (.E 16)), .call k_impl_areNames [([1], (.E 15))], some ((.E 8), false)⟩, 0, 0), (⟨(some (.E 17)), .un .not (.E 16), some ((.E 8), false)⟩, 0, 0), (oE 18 (.pick (.E 8) (kb true) (.E 17)), 0, 0), (oE 19 (.mv (.E 18)), 0, 0), (⟨(some (.E 20)), .faddr 2 (.V 1), some ((.E 19), false)⟩, 0, 0), (⟨(some (.E 21)), .load false 1 (.E 20), some ((.E 19), false)⟩, 0, 0), (⟨(some (.E 22)), .len (.E 21), some ((.E 19), false)⟩, 0, 0), (⟨(some (.E 23)), .call k_impl_within [([0], (.E 22)), ([0], (ki 1)), ([0], (ki 40))], some ((.E 19), false)⟩, 0, 0), (⟨(some (.E 24)), .un .not (.E 23), some ((.E 19), false)⟩, 0, 0), (oE 25 (.pick (.E 19) (kb true) (.E 24)), 0, 0), (oE 26 (.mv (.E 25)), 0, 0), (⟨(some (.E 27)), .faddr 3 (.V 1), some ((.E 26), false)⟩, 0, 0), (⟨(some (.E 28)), .load false 1 (.E 27), some ((.E 26), false)⟩, 0, 0), (⟨(some (.E 29)), .len (.E 28), some ((.E 26), false)⟩, 0, 0), (⟨(some (.E 30)), .faddr 2 (.V 1), some ((.E 26), false)⟩, 0, 0), (⟨(some (.E 31)), .load false 1 (.E 30), some ((.E 26), false)⟩, 0, 0), (⟨(some (.E 32)), .len (.E 31), some ((.E 26), false)⟩, 0, 0), (⟨(some (.E 33)), .bin .neq (.E 29) (.E 32), some ((.E 26), false)⟩, 0, 0), (oE 34 (.pick (.E 26) (kb true) (.E 33)), 0, 0), (oE 35 (.mv (.E 34)), 0, 0), (⟨(some (.E 36)), .faddr 3 (.V 1), some ((.E 35), false)⟩, 0, 0), (⟨(some (.E 37)), .load false 1 (.E 36), some ((.E 35), false)⟩, 0, 0), (⟨(some (.E 38)), .call k_impl_areDecimals [([1], (.E 37))], some ((.E 35), false)⟩, 0, 0), (⟨(some (.E 39)), .un .not (.E 38), some ((.E 35), false)⟩, 0, 0), (oE 40 (.pick (.E 35) (kb true) (.E 39)), 0, 0)]) (.cond (.E 40) (.seq (.reg [oV 2 (.mv (kb false))]) .ret) .skip)) (.seq (.reg [oE 41 (.faddr 2 (.V 1)), oE 42 (.load false 1 (.E 41)), oE 43 (.mkfn k_impl_TableOk_1 [(.V 1)]), oE 44 (.call k_slices_ContainsFunc_____int___int_ [([1], (.E 42)), ([0], (.E 43))]), oE 45 (.un .not (.E 44)), oV 2 (.mv (.E 45))]) .ret))

def k_impl_TableOk_rv : List RV := [.tmp [0] 2]

def k_impl_BaseOf_vars : List Nat := [0, 11, 10, 9, 4, 6, 8, 7, 2, 3]

def k_impl_BaseOf_b0 : IC := .seq (.reg [oE 12 (.bin .lss (.V 11) (.V 10))]) (.seq (.cond (.E 12) .skip (.exit 0)) (.seq (.block 1 (.seq (.reg [oE 13 (.iaddr 1 (.V 9) (.V 11)), oE 14 (.load false 1 (.E 13)), oV 6 (.mv (.E 14))]) (.seq (.reg [oE 16 (.mv (.V 4)), oE 17 (.mv (.V 6)), oE 18 (.call k_impl_AddInt [([0], (.E 16)), ([0], (.E 17))]), oE 15 (.mv (.E 18)), oE 19 (.ext 0 (.E 15)), oE 20 (.ext 1 (.E 15)), oV 7 (.mv (.E 19)), oV 8 (.mv (.E 20))]) (.seq (.seq (.reg [oE 21 (.mv (.V 8)), oE 22 (.un .not (.E 21))]) (.cond (.E 22) (.seq (.reg [oV 2 (.mv (ki 0)), oV 3 (.mv (kb false))]) .ret) .skip)) (.reg [oE 23 (.mv (.V 7)), oV 4 (.mv (.E 23))]))))) (.reg [oE 24 (.bin .add (.V 11) (ki 1)), oV 11 (.mv (.E 24))])))

def k_impl_BaseOf_ic : IC := .seq (.reg [oV 2 (.mv (ki 0)), oV 3 (.mv (kb false))]) (.seq (.reg [oV 4 (.mv (ki 0))]) (.seq (.seq (.reg [oV 9 (.mv (.V 0)), oV 10 (.len (.V 9)), oV 11 (.mv (ki 0))]) (.block 0 (.loop k_impl_BaseOf_b0))) (.seq (.reg [oE 25 (.mv (.V 4)), oE 26 (.mv (.V 0)), oE 27 (.len (.E 26)), oE 28 (.call k_impl_FloorDiv [([0], (.E 25)), ([0], (.E 27))]), oE 29 (.ext 0 (.E 28)), oE 30 (.ext 1 (.E 28)), oV 2 (.mv (.E 29)), oV 3 (.mv (.E 30))]) .ret)))

def k_impl_BaseOf_rv : List RV := [.tmp [0] 2, .tmp [0] 3]

def k_laws_markStringS_vars : List Nat := [0, 1, 5, 4]

def k_laws_markStringS_b0 : IC := .seq (.seq (.reg [oE 6 (.mv (.V 5)), oE 7 (.mv (.V 0)), oE 8 (.len (.E 7)), oE 9 (.bin .lss (.E 6) (.E 8))]) (.cond (.E 9) .skip (.exit 0))) (.seq (.block 1 (.seq (.reg [oE 12 (.mv (.V 0)), oE 13 (.mv (.V 5)), oE 14 (.mv (.V 1)), oE 15 (.call k_laws_markText [([0], (.E 14))]), oE 16 (.iaddr 1 (.E 12) (.E 13)), oN (.store [0] (.E 16) (.E 15))]) (.reg [oE 17 (.mv (.V 1)), oE 18 (.bin .add (.E 17) (ki 1)), oV 1 (.mv (.E 18))]))) (.reg [oE 10 (.mv (.V 5)), oE 11 (.bin .add (.E 10) (ki 1)), oV 5 (.mv (.E 11))]))

def k_laws_markStringS_ic : IC := .seq (.reg [oV 4 (.mv (ki 0))]) (.seq (.seq (.reg [oV 5 (.mv (ki 0))]) (.block 0 (.loop k_laws_markStringS_b0))) (.seq (.reg [oE 19 (.mv (.V 1)), oV 4 (.mv (.E 19))]) .ret))

def k_laws_markStringS_rv : List RV := [.tmp [0] 4]

def k_laws_markTreeS_vars : List Nat := [0, 1, 5, 4]

def k_laws_markTreeS_b0 : IC := .seq (.seq (.reg [oE 6 (.mv (.V 5)), oE 7 (.mv (.V 0)), oE 8 (.len (.E 7)), oE 9 (.bin .lss (.E 6) (.E 8))]) (.cond (.E 9) .skip (.exit 0))) (.seq (.block 1 (.reg [oE 12 (.mv (.V 0)), oE 13 (.mv (.V 5)), oE 14 (.iaddr 1 (.E 12) (.E 13)), oE 15 (.faddr 0 (.E 14)), oE 16 (.load false 1 (.E 15)), oE 17 (.mv (.V 1)), oE 18 (.call k_laws_markNodeS [([5], (.E 16)), ([0], (.E 17))]), oV 1 (.mv (.E 18))])) (.reg [oE 10 (.mv (.V 5)), oE 11 (.bin .add (.E 10) (ki 1)), oV 5 (.mv (.E 11))]))

def k_laws_markTreeS_ic : IC := .seq (.reg [oV 4 (.mv (ki 0))]) (.seq (.seq (.reg [oV 5 (.mv (ki 0))]) (.block 0 (.loop k_laws_markTreeS_b0))) (.seq (.reg [oE 19 (.mv (.V 1)), oV 4 (.mv (.E 19))]) .ret))

def k_laws_markTreeS_rv : List RV := [.tmp [0] 4]

def k_laws_heldTreeS_vars : List Nat := [0, 1, 5, 4]

def k_laws_heldTreeS_b0 : IC := .seq (.seq (.reg [oE 6 (.mv (.V 5)), oE 7 (.mv (.V 0)), oE 8 (.len (.E 7)), oE 9 (.bin .lss (.E 6) (.E 8))]) (.cond (.E 9) .skip (.exit 0))) (.seq (.block 1 (.seq (.reg [oE 12 (.mv (.V 0)), oE 13 (.mv (.V 5)), oE 14 (.iaddr 1 (.E 12) (.E 13)), oE 15 (.faddr 0 (.E 14)), oE 16 (.load false 1 (.E 15)), oE 17 (.mv (.V 1)), oE 18 (.call k_laws_heldNodeS [([5], (.E 16)), ([0], (.E 17))]), oV 1 (.mv (.E 18))]) (.seq (.reg [oE 19 (.mv (.V 1)), oE 20 (.bin .lss (.E 19) (ki 0))]) (.cond (.E 20) (.seq (.reg [oV 4 (.mv (ki (-1)))]) .ret) .skip)))) (.reg [oE 10 (.mv (.V 5)), oE 11 (.bin .add (.E 10) (ki 1)), oV 5 (.mv (.E 11))]))

def k_laws_heldTreeS_ic : IC := .seq (.reg [oV 4 (.mv (ki 0))]) (.seq (.seq (.reg [oV 5 (.mv (ki 0))]) (.block 0 (.loop k_laws_heldTreeS_b0))) (.seq (.reg [oE 21 (.mv (.V 1)), oV 4 (.mv (.E 21))]) .ret))

def k_laws_heldTreeS_rv : List RV := [.tmp [0] 4]

def k_spec_FloorDiv_vars : List Nat := [0, 1, 6, 4, 5]

def k_spec_FloorDiv_ic : IC := .seq (.reg [oV 4 (.mv (ki 0)), oV 5 (.mv (kb false))]) (.seq (.seq (.reg [oE 7 (.mv (.V 1)), oE 8 (.bin .eql (.E 7) (ki 0)), oE 9 (.mv (.E 8)), ⟨(some (.E 10)), .mv (.V 1), some ((.E 9), false)⟩, ⟨(some (.E 11)), .bin .eql (.E 10) (ki (-1)), some ((.E 9), false)⟩, ⟨(some (.E 12)), .mv (.E 11), some ((.E 9), false)⟩, ⟨(some (.E 13)), .mv (.V 0), some ((.E 12), true)⟩, ⟨(some (.E 14)), .bin .eql (.E 13) (ki (-9223372036854775808)), some ((.E 12), true)⟩, ⟨(some (.E 15)), .pick (.E 12) (.E 14) (kb false), some ((.E 9), false)⟩, oE 16 (.pick (.E 9) (kb true) (.E 15))]) (.cond (.E 16) (.seq (.reg [oV 4 (.mv (ki 0)), oV 5 (.mv (kb false))]) .ret) .skip)) (.seq (.reg [oE 17 (.mv (.V 0)), oE 18 (.mv (.V 1)), oE 19 (.bin .quo (.E 17) (.E 18)), oV 6 (.mv (.E 19))]) (.seq (.seq (.reg [oE 20 (.mv (.V 0)), oE 21 (.mv (.V 1)), oE 22 (.bin .rem (.E 20) (.E 21)), oE 23 (.bin .neq (.E 22) (ki 0)), oE 24 (.mv (.E 23)), ⟨(some (.E 25)), .mv (.V 0), some ((.E 24), true)⟩, ⟨(some (.E 26)), .bin .lss (.E 25) (ki 0), some ((.E 24), true)⟩, ⟨(some (.E 27)), .mv (.V 1), some ((.E 24), true)⟩, ⟨(some (.E 28)), .bin .lss (.E 27) (ki 0), some ((.E 24), true)⟩, ⟨(some (.E 29)), .eqb true [.b] (.E 26) (.E 28), some ((.E 24), true)⟩, oE 30 (.pick (.E 24) (.E 29) (kb false))]) (.cond (.E 30) (.reg [oE 31 (.mv (.V 6)), oE 32 (.bin .sub (.E 31) (ki 1)), oV 6 (.mv (.E 32))]) .skip)) (.seq (.reg [oE 33 (.mv (.V 6)), oV 4 (.mv (.E 33)), oV 5 (.mv (kb true))]) .ret))))

def k_spec_FloorDiv_rv : List RV := [.tmp [0] 4, .tmp [0] 5]

def k_impl_FloorDiv_vars : List Nat := [0, 1, 6, 4, 5]

def k_impl_FloorDiv_ic : IC := .seq (.reg [oV 4 (.mv (ki 0)), oV 5 (.mv (kb false))]) (.seq (.seq (.reg [oE 7 (.mv (.V 1)), oE 8 (.bin .eql (.E 7) (ki 0)), oE 9 (.mv (.E 8)), ⟨(some (.E 10)), .mv (.V 0), some ((.E 9), false)⟩, ⟨(some (.E 11)), .bin .eql (.E 10) (ki (-9223372036854775808)), some ((.E 9), false)⟩, ⟨(some (.E 12)), .mv (.E 11), some ((.E 9), false)⟩, ⟨(some (.E 13)), .mv (.V 1), some ((.E 12), true)⟩, ⟨(some (.E 14)), .bin .eql (.E 13) (ki (-1)), some ((.E 12), true)⟩, ⟨(some (.E 15)), .pick (.E 12) (.E 14) (kb false), some ((.E 9), false)⟩, oE 16 (.pick (.E 9) (kb true) (.E 15))]) (.cond (.E 16) (.seq (.reg [oV 4 (.mv (ki 0)), oV 5 (.mv (kb false))]) .ret) .skip)) (.seq (.reg [oE 17 (.mv (.V 0)), oE 18 (.mv (.V 1)), oE 19 (.bin .quo (.E 17) (.E 18)), oV 6 (.mv (.E 19))]) (.seq (.seq (.reg [oE 20 (.mv (.V 0)), oE 21 (.mv (.V 1)), oE 22 (.bin .rem (.E 20) (.E 21)), oE 23 (.bin .neq (.E 22) (ki 0)), oE 24 (.mv (.E 23)), ⟨(some (.E 25)), .mv (.V 0), some ((.E 24), true)⟩, ⟨(some (.E 26)), .bin .lss (.E 25) (ki 0), some ((.E 24), true)⟩, ⟨(some (.E 27)), .mv (.V 1), some ((.E 24), true)⟩, ⟨(some (.E 28)), .bin .lss (.E 27) (ki 0), some ((.E 24), true)⟩, ⟨(some (.E 29)), .eqb true [.b] (.E 26) (.E 28), some ((.E 24), true)⟩, oE 30 (.pick (.E 24) (.E 29) (kb false))]) (.cond (.E 30) (.reg [oE 31 (.mv (.V 6)), oE 32 (.bin .sub (.E 31) (ki 1)), oV 6 (.mv (.E 32))]) .skip)) (.seq (.reg [oE 33 (.mv (.V 6)), oV 4 (.mv (.E 33)), oV 5 (.mv (kb true))]) .ret))))

def k_impl_FloorDiv_rv : List RV := [.tmp [0] 4, .tmp [0] 5]

def k_laws_eqNode_vars : List Nat := [0, 1, 2, 3, 4]

def k_laws_eqNode_ic : IC := .seq (.reg [oV 2 (.box (.V 0)), oV 3 (.box (.V 1)), oV 4 (.mv (kb false))]) (.seq (.seq (.reg [oE 5 (.faddr 0 (.V 2)), oE 6 (.load false 1 (.E 5)), oE 7 (.faddr 0 (.V 3)), oE 8 (.load false 1 (.E 7)), oE 9 (.bin .neq (.E 6) (.E 8))]) (.cond (.E 9) (.seq (.reg [oV 4 (.mv (kb false))]) .ret) .skip)) (.seq (.seq (.reg [oE 10 (.faddr 1 (.V 2)), oE 11 (.load false 1 (.E 10)), oE 12 (.faddr 1 (.V 3)), oE 13 (.load false 1 (.E 12)), oE 14 (.bin .neq (.E 11) (.E 13))]) (.cond (.E 14) (.seq (.reg [oV 4 (.mv (kb false))]) .ret) .skip)) (.seq (.seq (.reg [oE 15 (.faddr 2 (.V 2)), oE 16 (.load false 1 (.E 15)), oE 17 (.faddr 2 (.V 3)), oE 18 (.load false 1 (.E 17)), oE 19 (.bin .neq (.E 16) (.E 18))]) (.cond (.E 19) (.seq (.reg [oV 4 (.mv (kb false))]) .ret) .skip)) (.seq (.seq (.reg [oE 20 (.faddr 3 (.V 2)), oE 21 (.load false 1 (.E 20)), oE 22 (.faddr 3 (.V 3)), oE 23 (.load false 1 (.E 22)), oE 24 (.bin .neq (.E 21) (.E 23))]) (.cond (.E 24) (.seq (.reg [oV 4 (.mv (kb false))]) .ret) .skip)) (.seq (.seq (.reg [oE 25 (.faddr 4 (.V 2)), oE 26 (.load false 1 (.E 25)), oE 27 (.faddr 4 (.V 3)), oE 28 (.load false 1 (.E 27)), oE 29 (.bin .neq (.E 26) (.E 28))]) (.cond (.E 29) (.seq (.reg [oV 4 (.mv (kb false))]) .ret) .skip)) (.seq (.reg [oV 4 (.mv (kb true))]) .ret))))))

def k_laws_eqNode_rv : List RV := [.tmp [0] 4]

def k_impl_NameOk_vars : List Nat := [0, 7, 6, 3, 4, 2]

def k_impl_NameOk_b0 : IC := .seq (.reg [oE 8 (.bin .lss (.V 7) (.V 6))]) (.seq (.cond (.E 8) .skip (.exit 0)) (.seq (.block 1 (.seq (.reg [oE 9 (.mv (.V 7)), oV 3 (.mv (.E 9))]) (.seq (.reg [oE 10 (.mv (.V 0)), oE 11 (.mv (.V 3)), oE 12 (.idx (.E 10) (.E 11)), oE 13 (.bin .geq (.E 12) (.C (.v (.int .u8 97)))), oE 14 (.mv (.E 13)), ⟨(some (.E 15)), .mv (.V 0), some ((.E 14), true)⟩, ⟨(some (.E 16)), .mv (.V 3), some ((.E 14), true)⟩, ⟨(some (.E 17)), .idx (.E 15) (.E 16), some ((.E 14), true)⟩, ⟨(some (.E 18)), .bin .leq (.E 17) (.C (.v (.int .u8 122))), some ((.E 14), true)⟩, oE 19 (.pick (.E 14) (.E 18) (kb false)), oV 4 (.mv (.E 19))]) (.seq (.reg [oE 20 (.mv (.V 4)), oE 21 (.un .not (.E 20)), oE 22 (.mv (.E 21)), ⟨(some (.E 23)), .mv (.V 3), some ((.E 22), true)⟩, ⟨(some (.E 24)), .bin .eql (.E 23) (ki 0), some ((.E 22), true)⟩, ⟨(some (.E 25)), .mv (.E 24), some ((.E 22), true)⟩, ⟨(some (.E 26)), .mv (.V 0), some ((.E 25), false)⟩, ⟨(some (.E 27)), .mv (.V 3), some ((.E 25), false)⟩, ⟨(some (.E 28)), .idx (.E 26) (.E 27), some ((.E 25), false)⟩, ⟨(some (.E 29)), .bin .lss (.E 28) (.C (.v (.int .u8 48))), some ((.E 25), false)⟩, ⟨(some (.E 30)), .pick (.E 25) (kb true) (.E 29), some ((.E 22), true)⟩, ⟨(some (.E 31)), .mv (.E 30), some ((.E 22), true)⟩, ⟨(some (.E 32)), .mv (.V 0), some ((.E 31), false)⟩, ⟨(some (.E 33)), .mv (.V 3), some ((.E 31), false)⟩, ⟨(some (.E 34)), .idx (.E 32) (.E 33), some ((.E 31), false)⟩, ⟨(some (.E 35)), .bin .gtr (.E 34) (.C (.v (.int .u8 57))), some ((.E 31), false)⟩, ⟨(some (.E 36)), .pick (.E 31) (kb true) (.E 35), some ((.E 22), true)⟩, oE 37 (.pick (.E 22) (.E 36) (kb false))]) (.cond (.E 37) (.seq (.reg [oV 2 (.mv (kb false))]) .ret) .skip))))) (.reg [oE 38 (.bin .add (.V 7) (ki 1)), oV 7 (.mv (.E 38))])))

def k_impl_NameOk_ic : IC := .seq (.reg [oV 2 (.mv (kb false))]) (.seq (.seq (.reg [oE 5 (.mv (.V 0)), oV 6 (.lenS (.E 5)), oV 7 (.mv (ki 0))]) (.block 0 (.loop k_impl_NameOk_b0))) (.seq (.reg [oE 39 (.mv (.V 0)), oE 40 (.lenS (.E 39)), oE 41 (.call k_impl_within [([0], (.E 40)), ([0], (ki 1)), ([0], (ki 12))]), oV 2 (.mv (.E 41))]) .ret))

def k_impl_NameOk_rv : List RV := [.tmp [0] 2]

def k_slices_Contains___string_string__vars : List Nat := [0, 1, 4]

def k_slices_Contains___string_string__ic : IC := .seq (.reg [oV 4 (.mv (kb false))]) (.seq (.reg [oE 5 (.mv (.V 0)), oE 6 (.mv (.V 1)), oE 7 (.call k_slices_Index___string_string_ [([1], (.E 5)), ([0], (.E 6))]), oE 8 (.bin .geq (.E 7) (ki 0)), oV 4 (.mv (.E 8))]) .ret)

def k_slices_Contains___string_string__rv : List RV := [.tmp [0] 4]

def k_slices_IndexFunc___int_int__vars : List Nat := [0, 1, 8, 7, 5, 4]

def k_slices_IndexFunc___int_int__b0 : IC := .seq (.reg [oE 9 (.bin .lss (.V 8) (.V 7))]) (.seq (.cond (.E 9) .skip (.exit 0)) (.seq (.block 1 (.seq (.reg [oE 10 (.mv (.V 8)), oV 5 (.mv (.E 10))]) (.seq (.reg [oE 11 (.mv (.V 1)), oE 12 (.mv (.V 0)), oE 13 (.mv (.V 5)), oE 14 (.iaddr 1 (.E 12) (.E 13)), oE 15 (.load false 1 (.E 14)), oE 16 (.callv (.E 11) [([0], (.E 15))])]) (.cond (.E 16) (.seq (.reg [oE 17 (.mv (.V 5)), oV 4 (.mv (.E 17))]) .ret) .skip)))) (.reg [oE 18 (.bin .add (.V 8) (ki 1)), oV 8 (.mv (.E 18))])))

def k_slices_IndexFunc___int_int__ic : IC := .seq (.reg [oV 4 (.mv (ki 0))]) (.seq (.seq (.reg [oE 6 (.mv (.V 0)), oV 7 (.len (.E 6)), oV 8 (.mv (ki 0))]) (.block 0 (.loop k_slices_IndexFunc___int_int__b0))) (.seq (.reg [oV 4 (.mv (ki (-1)))]) .ret))

def k_slices_IndexFunc___int_int__rv : List RV := [.tmp [0] 4]

def k_spec_AddInt_vars : List Nat := [0, 1, 4, 5]

def k_spec_AddInt_ic : IC := .seq (.reg [oV 4 (.mv (ki 0)), oV 5 (.mv (kb false))]) (.seq (.seq (.reg [oE 6 (.mv (.V 1)), oE 7 (.bin .gtr (.E 6) (ki 0)), oE 8 (.mv (.E 7)), ⟨(some (.E 9)), .mv (.V 0), some ((.E 8), true)⟩, ⟨(some (.E 10)), .mv (.V 1), some ((.E 8), true)⟩, ⟨(some (.E 11)), .bin .sub (ki 9223372036854775807) (.E 10), some ((.E 8), true)⟩, ⟨(some (.E 12)), .bin .gtr (.E 9) (.E 11), some ((.E 8), true)⟩, oE 13 (.pick (.E 8) (.E 12) (kb false)), oE 14 (.mv (.E 13)), ⟨(some (.E 15)), .mv (.V 1), some ((.E 14), false)⟩, ⟨(some (.E 16)), .bin .lss (.E 15) (ki 0), some ((.E 14), false)⟩, ⟨(some (.E 17)), .mv (.E 16), some ((.E 14), false)⟩, ⟨(some (.E 18)), .mv (.V 0), some ((.E 17), true)⟩, ⟨(some (.E 19)), .mv (.V 1), some ((.E 17), true)⟩, ⟨(some (.E 20)), .bin .sub (ki (-9223372036854775808)) (.E 19), some ((.E 17), true)⟩, ⟨(some (.E 21)), .bin .lss (.E 18) (.E 20), some ((.E 17), true)⟩, ⟨(some (.E 22)), .pick (.E 17) (.E 21) (kb false), some ((.E 14), false)⟩, oE 23 (.pick (.E 14) (kb true) (.E 22))]) (.cond (.E 23) (.seq (.reg [oV 4 (.mv (ki 0)), oV 5 (.mv (kb false))]) .ret) .skip)) (.seq (.reg [oE 24 (.mv (.V 0)), oE 25 (.mv (.V 1)), oE 26 (.bin .add (.E 24) (.E 25)), oV 4 (.mv (.E 26)), oV 5 (.mv (kb true))]) .ret))

def k_spec_AddInt_rv : List RV := [.tmp [0] 4, .tmp [0] 5]

def k_impl_areDecimals_vars : List Nat := [0, 2]

def k_impl_areDecimals_ic : IC := .seq (.reg [oV 2 (.mv (kb false))]) (.seq (.reg [oE 3 (.mv (.V 0)), oE 4 (.call k_slices_ContainsFunc___int_int_ [([1], (.E 3)), ([0], (.C (.fn k_impl_areDecimals_1 [])))]), oE 5 (.un .not (.E 4)), oV 2 (.mv (.E 5))]) .ret)

def k_impl_areDecimals_rv : List RV := [.tmp [0] 2]

def k_slices_ContainsFunc_____int___int__vars : List Nat := [0, 1, 4]

def k_slices_ContainsFunc_____int___int__ic : IC := .seq (.reg [oV 4 (.mv (kb false))]) (.seq (.reg [oE 5 (.mv (.V 0)), oE 6 (.mv (.V 1)), oE 7 (.call k_slices_IndexFunc_____int___int_ [([1], (.E 5)), ([0], (.E 6))]), oE 8 (.bin .geq (.E 7) (ki 0)), oV 4 (.mv (.E 8))]) .ret)

def k_slices_ContainsFunc_____int___int__rv : List RV := [.tmp [0] 4]

def k_impl_TableOk_1_vars : List Nat := [0, 1, 3]

def k_impl_TableOk_1_ic : IC := .seq (.reg [oV 3 (.mv (kb false))]) (.seq (.reg [oE 4 (.mv (.V 0)), oE 5 (.len (.E 4)), oE 6 (.faddr 0 (.V 1)), oE 7 (.load false 1 (.E 6)), oE 8 (.len (.E 7)), oE 9 (.bin .neq (.E 5) (.E 8)), oE 10 (.mv (.E 9)), ⟨(some (.E 11)), .mv (.V 0), some ((.E 10), false)⟩, ⟨(some (.E 12)), .call k_impl_areDecimals [([1], (.E 11))], some ((.E 10), false)⟩, ⟨(some (.E 13)), .un .not (.E 12), some ((.E 10), false)⟩, oE 14 (.pick (.E 10) (kb true) (.E 13)), oV 3 (.mv (.E 14))]) .ret)

def k_impl_TableOk_1_rv : List RV := [.tmp [0] 3]

def k_impl_AddInt_vars : List Nat := [0, 1, 6, 4, 5]

def k_impl_AddInt_ic : IC := .seq (.reg [oV 4 (.mv (ki 0)), oV 5 (.mv (kb false))]) (.seq (.reg [oE 7 (.mv (.V 0)), oE 8 (.mv (.V 1)), oE 9 (.bin .add (.E 7) (.E 8)), oV 6 (.mv (.E 9))]) (.seq (.seq (.reg [oE 10 (.mv (.V 0)), oE 11 (.bin .lss (.E 10) (ki 0)), oE 12 (.mv (.V 1)), oE 13 (.bin .lss (.E 12) (ki 0)), oE 14 (.eqb false [.b] (.E 11) (.E 13)), oE 15 (.mv (.E 14)), ⟨(some (.E 16)), .mv (.V 6), some ((.E 15), true)⟩, ⟨(some (.E 17)), .bin .lss (.E 16) (ki 0), some ((.E 15), true)⟩, ⟨(some (.E 18)), .mv (.V 0), some ((.E 15), true)⟩, ⟨(some (.E 19)), .bin .lss (.E 18) (ki 0), some ((.E 15), true)⟩, ⟨(some (.E 20)), .eqb true [.b] (.E 17) (.E 19), some ((.E 15), true)⟩, oE 21 (.pick (.E 15) (.E 20) (kb false))]) (.cond (.E 21) (.seq (.reg [oV 4 (.mv (ki 0)), oV 5 (.mv (kb false))]) .ret) .skip)) (.seq (.reg [oE 22 (.mv (.V 6)), oV 4 (.mv (.E 22)), oV 5 (.mv (kb true))]) .ret)))

def k_impl_AddInt_rv : List RV := [.tmp [0] 4, .tmp [0] 5]

def k_laws_markText_vars : List Nat := [0, 3, 2]

def k_laws_markText_b0 : IC := .seq (.seq (.reg [oE 6 (.mv (.V 0)), oE 7 (.bin .gtr (.E 6) (ki 0))]) (.cond (.E 7) .skip (.exit 0))) (.block 1 (.seq (.reg [oE 8 (.mv (.V 0)), oE 9 (.bin .rem (.E 8) (ki 10)), oE 10 (.bin .add (ki 48) (.E 9)), oE 11 (.convI .u8 (.E 10)), oE 12 (.bslice 1 1 [(.v (.int .u8 0))] [(0, (.E 11))]), oE 13 (.toS (.E 12)), oE 14 (.mv (.V 3)), oE 15 (.bin .add (.E 13) (.E 14)), oV 3 (.mv (.E 15))]) (.reg [oE 16 (.mv (.V 0)), oE 17 (.bin .quo (.E 16) (ki 10)), oV 0 (.mv (.E 17))])))

def k_laws_markText_ic : IC := .seq (.reg [oV 2 (.mv (.C (.v (.string (bs [])))))]) (.seq (.seq (.reg [oE 4 (.mv (.V 0)), oE 5 (.bin .leq (.E 4) (ki 0))]) (.cond (.E 5) (.seq (.reg [oV 2 (.mv (.C (.v (.string (bs [109, 48])))))]) .ret) .skip)) (.seq (.reg [oV 3 (.mv (.C (.v (.string (bs [])))))]) (.seq (.block 0 (.loop k_laws_markText_b0)) (.seq (.reg [oE 18 (.mv (.V 3)), oE 19 (.bin .add (.C (.v (.string (bs [109])))) (.E 18)), oV 2 (.mv (.E 19))]) .ret))))

def k_laws_markText_rv : List RV := [.tmp [0] 2]

def k_slices_Index___string_string__vars : List Nat := [0, 1, 8, 7, 5, 4]

def k_slices_Index___string_string__b0 : IC := .seq (.reg [oE 9 (.bin .lss (.V 8) (.V 7))]) (.seq (.cond (.E 9) .skip (.exit 0)) (.seq (.block 1 (.seq (.reg [oE 10 (.mv (.V 8)), oV 5 (.mv (.E 10))]) (.seq (.reg [oE 11 (.mv (.V 1)), oE 12 (.mv (.V 0)), oE 13 (.mv (.V 5)), oE 14 (.iaddr 1 (.E 12) (.E 13)), oE 15 (.load false 1 (.E 14)), oE 16 (.bin .eql (.E 11) (.E 15))]) (.cond (.E 16) (.seq (.reg [oE 17 (.mv (.V 5)), oV 4 (.mv (.E 17))]) .ret) .skip)))) (.reg [oE 18 (.bin .add (.V 8) (ki 1)), oV 8 (.mv (.E 18))])))

def k_slices_Index___string_string__ic : IC := .seq (.reg [oV 4 (.mv (ki 0))]) (.seq (.seq (.reg [oE 6 (.mv (.V 0)), oV 7 (.len (.E 6)), oV 8 (.mv (ki 0))]) (.block 0 (.loop k_slices_Index___string_string__b0))) (.seq (.reg [oV 4 (.mv (ki (-1)))]) .ret))

def k_slices_Index___string_string__rv : List RV := [.tmp [0] 4]

def k_impl_areDecimals_1_vars : List Nat := [0, 2]

def k_impl_areDecimals_1_ic : IC := .seq (.reg [oV 2 (.mv (kb false))]) (.seq (.reg [oE 3 (.mv (.V 0)), oE 4 (.call k_impl_isDecimal [([0], (.E 3))]), oE 5 (.un .not (.E 4)), oV 2 (.mv (.E 5))]) .ret)

def k_impl_areDecimals_1_rv : List RV := [.tmp [0] 2]

def k_slices_IndexFunc_____int___int__vars : List Nat := [0, 1, 8, 7, 5, 4]

def k_slices_IndexFunc_____int___int__b0 : IC := .seq (.reg [oE 9 (.bin .lss (.V 8) (.V 7))]) (.seq (.cond (.E 9) .skip (.exit 0)) (.seq (.block 1 (.seq (.reg [oE 10 (.mv (.V 8)), oV 5 (.mv (.E 10))]) (.seq (.reg [oE 11 (.mv (.V 1)), oE 12 (.mv (.V 0)), oE 13 (.mv (.V 5)), oE 14 (.iaddr 1 (.E 12) (.E 13)), oE 15 (.load false 1 (.E 14)), oE 16 (.callv (.E 11) [([1], (.E 15))])]) (.cond (.E 16) (.seq (.reg [oE 17 (.mv (.V 5)), oV 4 (.mv (.E 17))]) .ret) .skip)))) (.reg [oE 18 (.bin .add (.V 8) (ki 1)), oV 8 (.mv (.E 18))])))

def k_slices_IndexFunc_____int___int__ic : IC := .seq (.reg [oV 4 (.mv (ki 0))]) (.seq (.seq (.reg [oE 6 (.mv (.V 0)), oV 7 (.len (.E 6)), oV 8 (.mv (ki 0))]) (.block 0 (.loop k_slices_IndexFunc_____int___int__b0))) (.seq (.reg [oV 4 (.mv (ki (-1)))]) .ret))

def k_slices_IndexFunc_____int___int__rv : List RV := [.tmp [0] 4]

def tbl : List (Nat × Fun) := [
  (k_laws_FnExactStateNew, fnOf k_laws_FnExactStateNew_ic k_laws_FnExactStateNew_rv []),
  (k_laws_eqTree, fnOf k_laws_eqTree_ic k_laws_eqTree_rv []),
  (k_laws_toIntS, fnOf k_laws_toIntS_ic k_laws_toIntS_rv []),
  (k_laws_eqIntS, fnOf k_laws_eqIntS_ic k_laws_eqIntS_rv []),
  (k_laws_markIntS, fnOf k_laws_markIntS_ic k_laws_markIntS_rv [true]),
  (k_laws_szTable, fnOf k_laws_szTable_ic k_laws_szTable_rv []),
  (k_spec_StateNew, fnOf k_spec_StateNew_ic k_spec_StateNew_rv []),
  (k_laws_toTable, fnOf k_laws_toTable_ic k_laws_toTable_rv []),
  (k_impl_StateNew, fnOf k_impl_StateNew_ic k_impl_StateNew_rv []),
  (k_laws_eqState, fnOf k_laws_eqState_ic k_laws_eqState_rv []),
  (k_laws_eqTable, fnOf k_laws_eqTable_ic k_laws_eqTable_rv []),
  (k_laws_markTable, fnOf k_laws_markTable_ic k_laws_markTable_rv [true]),
  (k_laws_markState, fnOf k_laws_markState_ic k_laws_markState_rv [true]),
  (k_laws_heldState, fnOf k_laws_heldState_ic k_laws_heldState_rv []),
  (k_laws_heldIntS, fnOf k_laws_heldIntS_ic k_laws_heldIntS_rv []),
  (k_laws_szIntSS, fnOf k_laws_szIntSS_ic k_laws_szIntSS_rv []),
  (k_laws_toIntSS, fnOf k_laws_toIntSS_ic k_laws_toIntSS_rv []),
  (k_laws_eqIntSS, fnOf k_laws_eqIntSS_ic k_laws_eqIntSS_rv []),
  (k_laws_markIntSS, fnOf k_laws_markIntSS_ic k_laws_markIntSS_rv [true]),
  (k_laws_szStringS, fnOf k_laws_szStringS_ic k_laws_szStringS_rv []),
  (k_laws_szIntS, fnOf k_laws_szIntS_ic k_laws_szIntS_rv []),
  (k_laws_toStringS, fnOf k_laws_toStringS_ic k_laws_toStringS_rv []),
  (k_laws_eqStringS, fnOf k_laws_eqStringS_ic k_laws_eqStringS_rv []),
  (k_laws_eqTreeS, fnOf k_laws_eqTreeS_ic k_laws_eqTreeS_rv []),
  (k_laws_eqNodeS, fnOf k_laws_eqNodeS_ic k_laws_eqNodeS_rv []),
  (k_laws_markNodeS, fnOf k_laws_markNodeS_ic k_laws_markNodeS_rv [true]),
  (k_laws_heldNodeS, fnOf k_laws_heldNodeS_ic k_laws_heldNodeS_rv []),
  (k_spec_l1In, fnOf k_spec_l1In_ic k_spec_l1In_rv []),
  (k_spec_l6Value, fnOf k_spec_l6Value_ic k_spec_l6Value_rv []),
  (k_spec_NameOk, fnOf k_spec_NameOk_ic k_spec_NameOk_rv []),
  (k_spec_l9Has, fnOf k_spec_l9Has_ic k_spec_l9Has_rv []),
  (k_impl_within, fnOf k_impl_within_ic k_impl_within_rv []),
  (k_impl_areNames, fnOf k_impl_areNames_ic k_impl_areNames_rv []),
  (k_slices_ContainsFunc___int_int_, fnOf k_slices_ContainsFunc___int_int__ic k_slices_ContainsFunc___int_int__rv []),
  (k_impl_isDecimal, fnOf k_impl_isDecimal_ic k_impl_isDecimal_rv []),
  (k_spec_TableOk, fnOf k_spec_TableOk_ic k_spec_TableOk_rv []),
  (k_spec_BaseOf, fnOf k_spec_BaseOf_ic k_spec_BaseOf_rv []),
  (k_impl_TableOk, fnOf k_impl_TableOk_ic k_impl_TableOk_rv []),
  (k_impl_BaseOf, fnOf k_impl_BaseOf_ic k_impl_BaseOf_rv []),
  (k_laws_markStringS, fnOf k_laws_markStringS_ic k_laws_markStringS_rv [true]),
  (k_laws_markTreeS, fnOf k_laws_markTreeS_ic k_laws_markTreeS_rv [true]),
  (k_laws_heldTreeS, fnOf k_laws_heldTreeS_ic k_laws_heldTreeS_rv []),
  (k_spec_FloorDiv, fnOf k_spec_FloorDiv_ic k_spec_FloorDiv_rv []),
  (k_impl_FloorDiv, fnOf k_impl_FloorDiv_ic k_impl_FloorDiv_rv []),
  (k_laws_eqNode, fnOf k_laws_eqNode_ic k_laws_eqNode_rv []),
  (k_impl_NameOk, fnOf k_impl_NameOk_ic k_impl_NameOk_rv []),
  (k_slices_Contains___string_string_, fnOf k_slices_Contains___string_string__ic k_slices_Contains___string_string__rv []),
  (k_slices_IndexFunc___int_int_, fnOf k_slices_IndexFunc___int_int__ic k_slices_IndexFunc___int_int__rv []),
  (k_spec_AddInt, fnOf k_spec_AddInt_ic k_spec_AddInt_rv []),
  (k_slices_Clone___string_string_, .known [] (cloneG 1 16)),
  (k_impl_areDecimals, fnOf k_impl_areDecimals_ic k_impl_areDecimals_rv []),
  (k_slices_ContainsFunc_____int___int_, fnOf k_slices_ContainsFunc_____int___int__ic k_slices_ContainsFunc_____int___int__rv []),
  (k_impl_TableOk_1, fnOf k_impl_TableOk_1_ic k_impl_TableOk_1_rv []),
  (k_impl_AddInt, fnOf k_impl_AddInt_ic k_impl_AddInt_rv []),
  (k_laws_markText, fnOf k_laws_markText_ic k_laws_markText_rv []),
  (k_slices_Index___string_string_, fnOf k_slices_Index___string_string__ic k_slices_Index___string_string__rv []),
  (k_impl_areDecimals_1, fnOf k_impl_areDecimals_1_ic k_impl_areDecimals_1_rv []),
  (k_slices_IndexFunc_____int___int_, fnOf k_slices_IndexFunc_____int___int__ic k_slices_IndexFunc_____int___int__rv [])]

def T : Table := fun f => (tbl.find? fun q => q.1 == f).map fun q => q.2

theorem T_laws_FnExactStateNew : T k_laws_FnExactStateNew = some (fnOf k_laws_FnExactStateNew_ic k_laws_FnExactStateNew_rv []) := rfl

@[simp] theorem M_laws_FnExactStateNew : modesOf T k_laws_FnExactStateNew = [] := modesOf_code T_laws_FnExactStateNew

theorem T_laws_eqTree : T k_laws_eqTree = some (fnOf k_laws_eqTree_ic k_laws_eqTree_rv []) := rfl

@[simp] theorem M_laws_eqTree : modesOf T k_laws_eqTree = [] := modesOf_code T_laws_eqTree

theorem T_laws_toIntS : T k_laws_toIntS = some (fnOf k_laws_toIntS_ic k_laws_toIntS_rv []) := rfl

@[simp] theorem M_laws_toIntS : modesOf T k_laws_toIntS = [] := modesOf_code T_laws_toIntS

theorem T_laws_eqIntS : T k_laws_eqIntS = some (fnOf k_laws_eqIntS_ic k_laws_eqIntS_rv []) := rfl

@[simp] theorem M_laws_eqIntS : modesOf T k_laws_eqIntS = [] := modesOf_code T_laws_eqIntS

theorem T_laws_markIntS : T k_laws_markIntS = some (fnOf k_laws_markIntS_ic k_laws_markIntS_rv [true]) := rfl

@[simp] theorem M_laws_markIntS : modesOf T k_laws_markIntS = [true] := modesOf_code T_laws_markIntS

theorem T_laws_szTable : T k_laws_szTable = some (fnOf k_laws_szTable_ic k_laws_szTable_rv []) := rfl

@[simp] theorem M_laws_szTable : modesOf T k_laws_szTable = [] := modesOf_code T_laws_szTable

theorem T_spec_StateNew : T k_spec_StateNew = some (fnOf k_spec_StateNew_ic k_spec_StateNew_rv []) := rfl

@[simp] theorem M_spec_StateNew : modesOf T k_spec_StateNew = [] := modesOf_code T_spec_StateNew

theorem T_laws_toTable : T k_laws_toTable = some (fnOf k_laws_toTable_ic k_laws_toTable_rv []) := rfl

@[simp] theorem M_laws_toTable : modesOf T k_laws_toTable = [] := modesOf_code T_laws_toTable

theorem T_impl_StateNew : T k_impl_StateNew = some (fnOf k_impl_StateNew_ic k_impl_StateNew_rv []) := rfl

@[simp] theorem M_impl_StateNew : modesOf T k_impl_StateNew = [] := modesOf_code T_impl_StateNew

theorem T_laws_eqState : T k_laws_eqState = some (fnOf k_laws_eqState_ic k_laws_eqState_rv []) := rfl

@[simp] theorem M_laws_eqState : modesOf T k_laws_eqState = [] := modesOf_code T_laws_eqState

theorem T_laws_eqTable : T k_laws_eqTable = some (fnOf k_laws_eqTable_ic k_laws_eqTable_rv []) := rfl

@[simp] theorem M_laws_eqTable : modesOf T k_laws_eqTable = [] := modesOf_code T_laws_eqTable

theorem T_laws_markTable : T k_laws_markTable = some (fnOf k_laws_markTable_ic k_laws_markTable_rv [true]) := rfl

@[simp] theorem M_laws_markTable : modesOf T k_laws_markTable = [true] := modesOf_code T_laws_markTable

theorem T_laws_markState : T k_laws_markState = some (fnOf k_laws_markState_ic k_laws_markState_rv [true]) := rfl

@[simp] theorem M_laws_markState : modesOf T k_laws_markState = [true] := modesOf_code T_laws_markState

theorem T_laws_heldState : T k_laws_heldState = some (fnOf k_laws_heldState_ic k_laws_heldState_rv []) := rfl

@[simp] theorem M_laws_heldState : modesOf T k_laws_heldState = [] := modesOf_code T_laws_heldState

theorem T_laws_heldIntS : T k_laws_heldIntS = some (fnOf k_laws_heldIntS_ic k_laws_heldIntS_rv []) := rfl

@[simp] theorem M_laws_heldIntS : modesOf T k_laws_heldIntS = [] := modesOf_code T_laws_heldIntS

theorem T_laws_szIntSS : T k_laws_szIntSS = some (fnOf k_laws_szIntSS_ic k_laws_szIntSS_rv []) := rfl

@[simp] theorem M_laws_szIntSS : modesOf T k_laws_szIntSS = [] := modesOf_code T_laws_szIntSS

theorem T_laws_toIntSS : T k_laws_toIntSS = some (fnOf k_laws_toIntSS_ic k_laws_toIntSS_rv []) := rfl

@[simp] theorem M_laws_toIntSS : modesOf T k_laws_toIntSS = [] := modesOf_code T_laws_toIntSS

theorem T_laws_eqIntSS : T k_laws_eqIntSS = some (fnOf k_laws_eqIntSS_ic k_laws_eqIntSS_rv []) := rfl

@[simp] theorem M_laws_eqIntSS : modesOf T k_laws_eqIntSS = [] := modesOf_code T_laws_eqIntSS

theorem T_laws_markIntSS : T k_laws_markIntSS = some (fnOf k_laws_markIntSS_ic k_laws_markIntSS_rv [true]) := rfl

@[simp] theorem M_laws_markIntSS : modesOf T k_laws_markIntSS = [true] := modesOf_code T_laws_markIntSS

theorem T_laws_szStringS : T k_laws_szStringS = some (fnOf k_laws_szStringS_ic k_laws_szStringS_rv []) := rfl

@[simp] theorem M_laws_szStringS : modesOf T k_laws_szStringS = [] := modesOf_code T_laws_szStringS

theorem T_laws_szIntS : T k_laws_szIntS = some (fnOf k_laws_szIntS_ic k_laws_szIntS_rv []) := rfl

@[simp] theorem M_laws_szIntS : modesOf T k_laws_szIntS = [] := modesOf_code T_laws_szIntS

theorem T_laws_toStringS : T k_laws_toStringS = some (fnOf k_laws_toStringS_ic k_laws_toStringS_rv []) := rfl

@[simp] theorem M_laws_toStringS : modesOf T k_laws_toStringS = [] := modesOf_code T_laws_toStringS

theorem T_laws_eqStringS : T k_laws_eqStringS = some (fnOf k_laws_eqStringS_ic k_laws_eqStringS_rv []) := rfl

@[simp] theorem M_laws_eqStringS : modesOf T k_laws_eqStringS = [] := modesOf_code T_laws_eqStringS

theorem T_laws_eqTreeS : T k_laws_eqTreeS = some (fnOf k_laws_eqTreeS_ic k_laws_eqTreeS_rv []) := rfl

@[simp] theorem M_laws_eqTreeS : modesOf T k_laws_eqTreeS = [] := modesOf_code T_laws_eqTreeS

theorem T_laws_eqNodeS : T k_laws_eqNodeS = some (fnOf k_laws_eqNodeS_ic k_laws_eqNodeS_rv []) := rfl

@[simp] theorem M_laws_eqNodeS : modesOf T k_laws_eqNodeS = [] := modesOf_code T_laws_eqNodeS

theorem T_laws_markNodeS : T k_laws_markNodeS = some (fnOf k_laws_markNodeS_ic k_laws_markNodeS_rv [true]) := rfl

@[simp] theorem M_laws_markNodeS : modesOf T k_laws_markNodeS = [true] := modesOf_code T_laws_markNodeS

theorem T_laws_heldNodeS : T k_laws_heldNodeS = some (fnOf k_laws_heldNodeS_ic k_laws_heldNodeS_rv []) := rfl

@[simp] theorem M_laws_heldNodeS : modesOf T k_laws_heldNodeS = [] := modesOf_code T_laws_heldNodeS

theorem T_spec_l1In : T k_spec_l1In = some (fnOf k_spec_l1In_ic k_spec_l1In_rv []) := rfl

@[simp] theorem M_spec_l1In : modesOf T k_spec_l1In = [] := modesOf_code T_spec_l1In

theorem T_spec_l6Value : T k_spec_l6Value = some (fnOf k_spec_l6Value_ic k_spec_l6Value_rv []) := rfl

@[simp] theorem M_spec_l6Value : modesOf T k_spec_l6Value = [] := modesOf_code T_spec_l6Value

theorem T_spec_NameOk : T k_spec_NameOk = some (fnOf k_spec_NameOk_ic k_spec_NameOk_rv []) := rfl

@[simp] theorem M_spec_NameOk : modesOf T k_spec_NameOk = [] := modesOf_code T_spec_NameOk

theorem T_spec_l9Has : T k_spec_l9Has = some (fnOf k_spec_l9Has_ic k_spec_l9Has_rv []) := rfl

@[simp] theorem M_spec_l9Has : modesOf T k_spec_l9Has = [] := modesOf_code T_spec_l9Has

theorem T_impl_within : T k_impl_within = some (fnOf k_impl_within_ic k_impl_within_rv []) := rfl

@[simp] theorem M_impl_within : modesOf T k_impl_within = [] := modesOf_code T_impl_within

theorem T_impl_areNames : T k_impl_areNames = some (fnOf k_impl_areNames_ic k_impl_areNames_rv []) := rfl

@[simp] theorem M_impl_areNames : modesOf T k_impl_areNames = [] := modesOf_code T_impl_areNames

theorem T_slices_ContainsFunc___int_int_ : T k_slices_ContainsFunc___int_int_ = some (fnOf k_slices_ContainsFunc___int_int__ic k_slices_ContainsFunc___int_int__rv []) := rfl

@[simp] theorem M_slices_ContainsFunc___int_int_ : modesOf T k_slices_ContainsFunc___int_int_ = [] := modesOf_code T_slices_ContainsFunc___int_int_

theorem T_impl_isDecimal : T k_impl_isDecimal = some (fnOf k_impl_isDecimal_ic k_impl_isDecimal_rv []) := rfl

@[simp] theorem M_impl_isDecimal : modesOf T k_impl_isDecimal = [] := modesOf_code T_impl_isDecimal

theorem T_spec_TableOk : T k_spec_TableOk = some (fnOf k_spec_TableOk_ic k_spec_TableOk_rv []) := rfl

@[simp] theorem M_spec_TableOk : modesOf T k_spec_TableOk = [] := modesOf_code T_spec_TableOk

theorem T_spec_BaseOf : T k_spec_BaseOf = some (fnOf k_spec_BaseOf_ic k_spec_BaseOf_rv []) := rfl

@[simp] theorem M_spec_BaseOf : modesOf T k_spec_BaseOf = [] := modesOf_code T_spec_BaseOf

theorem T_impl_TableOk : T k_impl_TableOk = some (fnOf k_impl_TableOk_ic k_impl_TableOk_rv []) := rfl

@[simp] theorem M_impl_TableOk : modesOf T k_impl_TableOk = [] := modesOf_code T_impl_TableOk

theorem T_impl_BaseOf : T k_impl_BaseOf = some (fnOf k_impl_BaseOf_ic k_impl_BaseOf_rv []) := rfl

@[simp] theorem M_impl_BaseOf : modesOf T k_impl_BaseOf = [] := modesOf_code T_impl_BaseOf

theorem T_laws_markStringS : T k_laws_markStringS = some (fnOf k_laws_markStringS_ic k_laws_markStringS_rv [true]) := rfl

@[simp] theorem M_laws_markStringS : modesOf T k_laws_markStringS = [true] := modesOf_code T_laws_markStringS

theorem T_laws_markTreeS : T k_laws_markTreeS = some (fnOf k_laws_markTreeS_ic k_laws_markTreeS_rv [true]) := rfl

@[simp] theorem M_laws_markTreeS : modesOf T k_laws_markTreeS = [true] := modesOf_code T_laws_markTreeS

theorem T_laws_heldTreeS : T k_laws_heldTreeS = some (fnOf k_laws_heldTreeS_ic k_laws_heldTreeS_rv []) := rfl

@[simp] theorem M_laws_heldTreeS : modesOf T k_laws_heldTreeS = [] := modesOf_code T_laws_heldTreeS

theorem T_spec_FloorDiv : T k_spec_FloorDiv = some (fnOf k_spec_FloorDiv_ic k_spec_FloorDiv_rv []) := rfl

@[simp] theorem M_spec_FloorDiv : modesOf T k_spec_FloorDiv = [] := modesOf_code T_spec_FloorDiv

theorem T_impl_FloorDiv : T k_impl_FloorDiv = some (fnOf k_impl_FloorDiv_ic k_impl_FloorDiv_rv []) := rfl

@[simp] theorem M_impl_FloorDiv : modesOf T k_impl_FloorDiv = [] := modesOf_code T_impl_FloorDiv

theorem T_laws_eqNode : T k_laws_eqNode = some (fnOf k_laws_eqNode_ic k_laws_eqNode_rv []) := rfl

@[simp] theorem M_laws_eqNode : modesOf T k_laws_eqNode = [] := modesOf_code T_laws_eqNode

theorem T_impl_NameOk : T k_impl_NameOk = some (fnOf k_impl_NameOk_ic k_impl_NameOk_rv []) := rfl

@[simp] theorem M_impl_NameOk : modesOf T k_impl_NameOk = [] := modesOf_code T_impl_NameOk

theorem T_slices_Contains___string_string_ : T k_slices_Contains___string_string_ = some (fnOf k_slices_Contains___string_string__ic k_slices_Contains___string_string__rv []) := rfl

@[simp] theorem M_slices_Contains___string_string_ : modesOf T k_slices_Contains___string_string_ = [] := modesOf_code T_slices_Contains___string_string_

theorem T_slices_IndexFunc___int_int_ : T k_slices_IndexFunc___int_int_ = some (fnOf k_slices_IndexFunc___int_int__ic k_slices_IndexFunc___int_int__rv []) := rfl

@[simp] theorem M_slices_IndexFunc___int_int_ : modesOf T k_slices_IndexFunc___int_int_ = [] := modesOf_code T_slices_IndexFunc___int_int_

theorem T_spec_AddInt : T k_spec_AddInt = some (fnOf k_spec_AddInt_ic k_spec_AddInt_rv []) := rfl

@[simp] theorem M_spec_AddInt : modesOf T k_spec_AddInt = [] := modesOf_code T_spec_AddInt

theorem T_slices_Clone___string_string_ : T k_slices_Clone___string_string_ = some (.known [] (cloneG 1 16)) := rfl

@[simp] theorem M_slices_Clone___string_string_ : modesOf T k_slices_Clone___string_string_ = [] := modesOf_known T_slices_Clone___string_string_

theorem T_impl_areDecimals : T k_impl_areDecimals = some (fnOf k_impl_areDecimals_ic k_impl_areDecimals_rv []) := rfl

@[simp] theorem M_impl_areDecimals : modesOf T k_impl_areDecimals = [] := modesOf_code T_impl_areDecimals

theorem T_slices_ContainsFunc_____int___int_ : T k_slices_ContainsFunc_____int___int_ = some (fnOf k_slices_ContainsFunc_____int___int__ic k_slices_ContainsFunc_____int___int__rv []) := rfl

@[simp] theorem M_slices_ContainsFunc_____int___int_ : modesOf T k_slices_ContainsFunc_____int___int_ = [] := modesOf_code T_slices_ContainsFunc_____int___int_

theorem T_impl_TableOk_1 : T k_impl_TableOk_1 = some (fnOf k_impl_TableOk_1_ic k_impl_TableOk_1_rv []) := rfl

@[simp] theorem M_impl_TableOk_1 : modesOf T k_impl_TableOk_1 = [] := modesOf_code T_impl_TableOk_1

theorem T_impl_AddInt : T k_impl_AddInt = some (fnOf k_impl_AddInt_ic k_impl_AddInt_rv []) := rfl

@[simp] theorem M_impl_AddInt : modesOf T k_impl_AddInt = [] := modesOf_code T_impl_AddInt

theorem T_laws_markText : T k_laws_markText = some (fnOf k_laws_markText_ic k_laws_markText_rv []) := rfl

@[simp] theorem M_laws_markText : modesOf T k_laws_markText = [] := modesOf_code T_laws_markText

theorem T_slices_Index___string_string_ : T k_slices_Index___string_string_ = some (fnOf k_slices_Index___string_string__ic k_slices_Index___string_string__rv []) := rfl

@[simp] theorem M_slices_Index___string_string_ : modesOf T k_slices_Index___string_string_ = [] := modesOf_code T_slices_Index___string_string_

theorem T_impl_areDecimals_1 : T k_impl_areDecimals_1 = some (fnOf k_impl_areDecimals_1_ic k_impl_areDecimals_1_rv []) := rfl

@[simp] theorem M_impl_areDecimals_1 : modesOf T k_impl_areDecimals_1 = [] := modesOf_code T_impl_areDecimals_1

theorem T_slices_IndexFunc_____int___int_ : T k_slices_IndexFunc_____int___int_ = some (fnOf k_slices_IndexFunc_____int___int__ic k_slices_IndexFunc_____int___int__rv []) := rfl

@[simp] theorem M_slices_IndexFunc_____int___int_ : modesOf T k_slices_IndexFunc_____int___int_ = [] := modesOf_code T_slices_IndexFunc_____int___int_

end Go.Pe
