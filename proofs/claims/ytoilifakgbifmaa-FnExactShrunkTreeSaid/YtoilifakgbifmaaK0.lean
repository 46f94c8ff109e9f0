/- The compact texts of the functions that the law reaches; no condition. -/
import Derived.Test.YtoilifakgbifmaaEvA0
set_option linter.all false
namespace Go.Pe
open Go
def k_laws_FnExactShrunkTree : Nat := 4

def k_laws_szTree : Nat := 19

def k_laws_szConfig : Nat := 20

def k_spec_ShrunkTree : Nat := 21

def k_laws_toTree : Nat := 22

def k_laws_toConfig : Nat := 23

def k_impl_ShrunkTree : Nat := 24

def k_laws_eqTree : Nat := 25

def k_laws_eqConfig : Nat := 26

def k_laws_markTree : Nat := 27

def k_laws_markConfig : Nat := 28

def k_laws_heldTree : Nat := 29

def k_laws_toIntS : Nat := 33

def k_laws_eqIntS : Nat := 37

def k_laws_markIntS : Nat := 39

def k_laws_szIntS : Nat := 75

def k_laws_szNodeS : Nat := 88

def k_spec_l17Copy : Nat := 89

def k_spec_l17Inner : Nat := 90

def k_spec_Shrunk : Nat := 91

def k_laws_toNodeS : Nat := 92

def k_impl_copyTree : Nat := 93

def k_impl_LeavesOf : Nat := 94

def k_impl_Shrunk : Nat := 95

def k_laws_eqNodeS : Nat := 96

def k_laws_markNodeS : Nat := 97

def k_laws_heldNodeS : Nat := 98

def k_spec_l1In : Nat := 106

def k_impl_within : Nat := 111

def k_slices_ContainsFunc___int_int_ : Nat := 113

def k_impl_isSign : Nat := 115

def k_spec_ConfigOk : Nat := 146

def k_spec_l14Leaf : Nat := 147

def k_spec_FloorDiv : Nat := 148

def k_laws_toNode : Nat := 149

def k_slices_Clone___impl_Node_impl_Node_ : Nat := 150

def k_impl_isLeaf : Nat := 151

def k_impl_ConfigOk : Nat := 152

def k_impl_isLeafValue : Nat := 153

def k_impl_FloorDiv : Nat := 154

def k_laws_eqNode : Nat := 155

def k_slices_IndexFunc___int_int_ : Nat := 169

def k_spec_l8Numbers : Nat := 204

def k_spec_l8Least : Nat := 205

def k_spec_l8Most : Nat := 206

def k_impl_ConfigOk_1 : Nat := 207

def k_laws_FnExactShrunkTree_vars : List Nat := [0, 1, 2, 5, 3, 8, 9, 10, 6, 11, 7, 12, 13, 14, 15, 16, 4]

def k_laws_FnExactShrunkTree_ic : IC := .seq (.reg [oV 2 (.box (.V 0)), oV 3 (.box (.V 1)), oV 4 (.mv (kb false))]) (.seq (.reg [oV 5 (.mv (ki 1048576))]) (.seq (.reg [oE 17 (.load true 1 (.V 2)), oE 18 (.mv (.V 5)), oE 19 (.call k_laws_szTree [([5], (.E 17)), ([0], (.E 18))]), oV 5 (.mv (.E 19))]) (.seq (.seq (.reg [oE 20 (.mv (.V 5)), oE 21 (.bin .lss (.E 20) (ki 0))]) (.cond (.E 21) (.seq (.reg [oV 4 (.mv (kb true))]) .ret) .skip)) (.seq (.reg [oE 22 (.load true 8 (.V 3)), oE 23 (.mv (.V 5)), oE 24 (.call k_laws_szConfig [([0, 0, 0, 0, 0, 0, 0, 1], (.E 22)), ([0], (.E 23))]), oV 5 (.mv (.E 24))]) (.seq (.seq (.reg [oE 25 (.mv (.V 5)), oE 26 (.bin .lss (.E 25) (ki 0))]) (.cond (.E 26) (.seq (.reg [oV 4 (.mv (kb true))]) .ret) .skip)) (.seq (.regD [(oE 28 (.load true 1 (.V 2)), 0, 0), (oE 29 (.call k_laws_toTree [([5], (.E 28))]), 0, 0), (oE 30 (.load true 8 (.V 3)), 1, 0), (oE 31 (.call k_laws_toConfig [([0, 0, 0, 0, 0, 0, 0, 1], (.E 30))]), 0, 0), (oE 32 (.call k_spec_ShrunkTree [([5], (.E 29)), ([0, 0, 0, 0, 0, 0, 0, 1], (.E 31))]), 0, 0), (oE 27 (.mv (.E 32)), 0, 0), (oE 33 (.ext 0 (.E 27)), 0, 0), (oE 34 (.ext 1 (.E 27)), 0, 0), (oV 6 (.allocL [.e0]), 0, 0), (oN (.store [5] (.V 6) (.E 33)), 0, 0), (oV 7 (.mv (.E 34)), 0, 0)]) (.seq (.reg [oE 35 (.load true 1 (.V 2)), oE 36 (.call k_laws_toTree [([5], (.E 35))]), oV 8 (.alloc [.e0]), oN (.store [5] (.V 8) (.E 36))]) (.seq (.reg [oE 37 (.load true 8 (.V 3)), oE 38 (.call k_laws_toConfig [([0, 0, 0, 0, 0, 0, 0, 1], (.E 37))]), oV 9 (.alloc [iv 0, iv 0, iv 0, iv 0, iv 0, iv 0, iv 0, .e0]), oN (.store [0, 0, 0, 0, 0, 0, 0, 1] (.V 9) (.E 38))]) (.seq (.reg [oE 40 (.load true 1 (.V 8)), oE 41 (.load true 8 (.V 9)), oE 42 (.call k_impl_ShrunkTree [([5], (.E 40)), ([0, 0, 0, 0, 0, 0, 0, 1], (.E 41))]), oE 39 (.mv (.E 42)), oE 43 (.ext 0 (.E 39)), oE 44 (.ext 1 (.E 39)), oV 10 (.alloc [.e0]), oN (.store [5] (.V 10) (.E 43)), oV 11 (.mv (.E 44))]) (.seq (.seq (.reg [oE 45 (.load true 1 (.V 10)), oE 46 (.load true 1 (.V 6)), oE 47 (.call k_laws_eqTree [([5], (.E 45)), ([5], (.E 46))]), oE 48 (.un .not (.E 47)), oE 49 (.mv (.E 48)), ⟨(some (.E 50)), .mv (.V 11), some ((.E 49), false)⟩, ⟨(some (.E 51)), .mv (.V 7), some ((.E 49), false)⟩, ⟨(some (.E 52)), .eqb true [.b] (.E 50) (.E 51), some ((.E 49), false)⟩, oE 53 (.pick (.E 49) (kb true) (.E 52))]) (.cond (.E 53) (.seq (.reg [oV 4 (.mv (kb false))]) .ret) .skip)) (.seq (.seq (.regD [(oE 54 (.load true 1 (.V 8)), 0, 1), (oE 55 (.load true 1 (.V 2)), 0, 0), (oE 56 (.call k_laws_toTree [([5], (.E 55))]), 0, 0), (oE 57 (.call k_laws_eqTree [([5], (.E 54)), ([5], (.E 56))]), 0, 0), (oE 58 (.un .not (.E 57)), 0, 0)]) (.cond (.E 58) (.seq (.reg [oV 4 (.mv (kb false))]) .ret) .skip)) (.seq (.seq (.regD [(oE 59 (.load true 8 (.V 9)), 0, 1), (oE 60 (.load true 8 (.V 3)), 0, 0), (oE 61 (.call k_laws_toConfig [([0, 0, 0, 0, 0, 0, 0, 1], (.E 60))]), 0, 0), (oE 62 (.call k_laws_eqConfig [([0, 0, 0, 0, 0, 0, 0, 1], (.E 59)), ([0, 0, 0, 0, 0, 0, 0, 1], (.E 61))]), 0, 0), (oE 63 (.un .not (.E 62)), 0, 0)]) (.cond (.E 63) (.seq (.reg [oV 4 (.mv (kb false))]) .ret) .skip)) (.seq (.reg [oV 12 (.mv (ki 1))]) (.seq (.reg [oE 64 (.load true 1 (.V 8)), oE 65 (.mv (.V 12)), oE 66 (.call k_laws_markTree [([5], (.E 64)), ([0], (.E 65))]), oV 12 (.mv (.E 66))]) (.seq (.reg [oE 67 (.load true 8 (.V 9)), oE 68 (.mv (.V 12)), oE 69 (.call k_laws_markConfig [([0, 0, 0, 0, 0, 0, 0, 1], (.E 67)), ([0], (.E 68))]), oV 12 (.mv (.E 69))]) (.seq (.seq (.reg [oE 70 (.mv (.V 12)), oE 71 (.bin .lss (.E 70) (ki 0)), oE 72 (.mv (.E 71)), ⟨(some (.E 73)), .load true 1 (.V 10), some ((.E 72), false)⟩, ⟨(some (.E 74)), .load true 1 (.V 6), some ((.E 72), false)⟩, ⟨(some (.E 75)), .call k_laws_eqTree [([5], (.E 73)), ([5], (.E 74))], some ((.E 72), false)⟩, ⟨(some (.E 76)), .un .not (.E 75), some ((.E 72), false)⟩, oE 77 (.pick (.E 72) (kb true) (.E 76)), oE 78 (.mv (.E 77)), ⟨(some (.E 79)), .mv (.V 11), some ((.E 78), false)⟩, ⟨(some (.E 80)), .mv (.V 7), some ((.E 78), false)⟩, ⟨(some (.E 81)), .eqb true [.b] (.E 79) (.E 80), some ((.E 78), false)⟩, oE 82 (.pick (.E 78) (kb true) (.E 81))]) (.cond (.E 82) (.seq (.reg [oV 4 (.mv (kb false))]) .ret) .skip)) (.seq (.reg [oV 13 (.mv (ki 1))]) (.seq (.reg [oE 83 (.load true 1 (.V 10)), oE 84 (.mv (.V 13)), oE 85 (.call k_laws_markTree [([5], (.E 83)), ([0], (.E 84))]), oV 13 (.mv (.E 85))]) (.seq (.reg [oV 14 (.mv (ki 1))]) (.seq (.reg [oE 86 (.load true 1 (.V 10)), oE 87 (.mv (.V 14)), oE 88 (.call k_laws_heldTree [([5], (.E 86)), ([0], (.E 87))]), oV 14 (.mv (.E 88))]) (.seq (.seq (.reg [oE 89 (.mv (.V 14)), oE 90 (.bin .lss (.E 89) (ki 0))]) (.cond (.E 90) (.seq (.reg [oV 4 (.mv (kb false))]) .ret) .skip)) (.seq (.seq (.reg [oE 91 (.mv (.V 14)), oE 92 (.mv (.V 13)), oE 93 (.bin .neq (.E 91) (.E 92))]) (.cond (.E 93) (.seq (.reg [oV 4 (.mv (kb false))]) .ret) .skip)) (.seq (.regD [(oE 95 (.load true 1 (.V 2)), 0, 0), (oE 96 (.call k_laws_toTree [([5], (.E 95))]), 0, 0), (oE 97 (.load true 8 (.V 3)), 1, 0), (oE 98 (.call k_laws_toConfig [([0, 0, 0, 0, 0, 0, 0, 1], (.E 97))]), 0, 0), (oE 99 (.call k_impl_ShrunkTree [([5], (.E 96)), ([0, 0, 0, 0, 0, 0, 0, 1], (.E 98))]), 0, 0), (oE 94 (.mv (.E 99)), 0, 0), (oE 100 (.ext 0 (.E 94)), 0, 0), (oE 101 (.ext 1 (.E 94)), 0, 0), (oV 15 (.allocL [.e0]), 0, 0), (oN (.store [5] (.V 15) (.E 100)), 0, 0), (oV 16 (.mv (.E 101)), 0, 0)]) (.seq (.seq (.reg [oE 102 (.load true 1 (.V 15)), oE 103 (.load true 1 (.V 6)), oE 104 (.call k_laws_eqTree [([5], (.E 102)), ([5], (.E 103))]), oE 105 (.un .not (.E 104)), oE 106 (.mv (.E 105)), ⟨(some (.E 107)), .mv (.V 16), some ((.E 106), false)⟩, ⟨(some (.E 108)), .mv (.V 7), some ((.E 106), false)⟩, ⟨(some (.E 109)), .eqb true [.b] (.E 107) (.E 108), some ((.E 106), false)⟩, oE 110 (.pick (.E 106) (kb true) (.E 109))]) (.cond (.E 110) (.seq (.reg [oV 4 (.mv (kb false))]) .ret) .skip)) (.seq (.reg [oV 14 (.mv (ki 1))]) (.seq (.reg [oE 111 (.load true 1 (.V 10)), oE 112 (.mv (.V 14)), oE 113 (.call k_laws_heldTree [([5], (.E 111)), ([0], (.E 112))]), oV 14 (.mv (.E 113))]) (.seq (.seq (.reg [oE 114 (.mv (.V 14)), oE 115 (.bin .lss (.E 114) (ki 0))]) (.cond (.E 115) (.seq (.reg [oV 4 (.mv (kb false))]) .ret) .skip)) (.seq (.seq (.reg [oE 116 (.mv (.V 14)), oE 117 (.mv (.V 13)), oE 118 (.bin .neq (.E 116) (.E 117))]) (.cond (.E 118) (.seq (.reg [oV 4 (.mv (kb false))]) .ret) .skip)) (.seq (.reg [oV 4 (.mv (kb true))]) .ret)))))))))))))))))))))))))))))

def k_laws_FnExactShrunkTree_rv : List RV := [.tmp [0] 4]

def k_laws_szTree_vars : List Nat := [0, 1, 2, 4]

def k_laws_szTree_ic : IC := .seq (.reg [oV 2 (.box (.V 0)), oV 4 (.mv (ki 0))]) (.seq (.reg [oE 5 (.faddr 0 (.V 2)), oE 6 (.load false 1 (.E 5)), oE 7 (.mv (.V 1)), oE 8 (.call k_laws_szNodeS [([5], (.E 6)), ([0], (.E 7))]), oV 1 (.mv (.E 8))]) (.seq (.seq (.reg [oE 9 (.mv (.V 1)), oE 10 (.bin .lss (.E 9) (ki 0))]) (.cond (.E 10) (.seq (.reg [oV 4 (.mv (ki (-1)))]) .ret) .skip)) (.seq (.reg [oE 11 (.mv (.V 1)), oV 4 (.mv (.E 11))]) .ret)))

def k_laws_szTree_rv : List RV := [.tmp [0] 4]

def k_laws_szConfig_vars : List Nat := [0, 1, 2, 4]

def k_laws_szConfig_ic : IC := .seq (.reg [oV 2 (.box (.V 0)), oV 4 (.mv (ki 0))]) (.seq (.reg [oE 5 (.faddr 7 (.V 2)), oE 6 (.load false 1 (.E 5)), oE 7 (.mv (.V 1)), oE 8 (.call k_laws_szIntS [([1], (.E 6)), ([0], (.E 7))]), oV 1 (.mv (.E 8))]) (.seq (.seq (.reg [oE 9 (.mv (.V 1)), oE 10 (.bin .lss (.E 9) (ki 0))]) (.cond (.E 10) (.seq (.reg [oV 4 (.mv (ki (-1)))]) .ret) .skip)) (.seq (.reg [oE 11 (.mv (.V 1)), oV 4 (.mv (.E 11))]) .ret)))

def k_laws_szConfig_rv : List RV := [.tmp [0] 4]

def k_spec_ShrunkTree_vars : List Nat := [0, 1, 2, 7, 3, 9, 4, 6, 8, 5]

def k_spec_ShrunkTree_b0 : IC := .seq (.seq (.reg [oE 12 (.mv (.V 7)), oE 13 (.faddr 0 (.V 2)), oE 14 (.load false 1 (.E 13)), oE 15 (.len (.E 14)), oE 16 (.bin .lss (.E 12) (.E 15))]) (.cond (.E 16) .skip (.exit 0))) (.seq (.block 1 (.seq (.seq (.reg [oE 19 (.faddr 0 (.V 2)), oE 20 (.load false 1 (.E 19)), oE 21 (.mv (.V 7)), oE 22 (.iaddr 5 (.E 20) (.E 21)), oE 23 (.load true 5 (.E 22)), oE 24 (.call k_spec_l17Inner [([0, 0, 0, 0, 0], (.E 23))])]) (.cond (.E 24) (.exit 1) .skip)) (.seq (.regD [(oE 26 (.faddr 0 (.V 2)), 0, 0), (oE 27 (.load false 1 (.E 26)), 0, 0), (oE 28 (.mv (.V 7)), 0, 0), (oE 29 (.iaddr 5 (.E 27) (.E 28)), 0, 0), (oE 30 (.faddr 4 (.E 29)), 0, 0), (oE 31 (.load false 1 (.E 30)), 0, 0), (oE 32 (.load true 8 (.V 3)), 0, 0), (oE 33 (.call k_spec_Shrunk [([0], (.E 31)), ([0, 0, 0, 0, 0, 0, 0, 1], (.E 32))]), 0, 0), (oE 25 (.mv (.E 33)), 0, 0), (oE 34 (.ext 0 (.E 25)), 0, 0), (oE 35 (.ext 1 (.E 25)), 0, 0), (oV 8 (.mv (.E 34)), 0, 0), (oV 9 (.mv (.E 35)), 0, 0)]) (.seq (.seq (.reg [oE 36 (.mv (.V 9)), oE 37 (.un .not (.E 36))]) (.cond (.E 37) (.seq (.reg [oE 38 (.build [.e0] []), oN (.store [5] (.V 4) (.E 38)), oV 5 (.mv (kb false))]) .ret) .skip)) (.reg [oE 39 (.faddr 0 (.V 6)), oE 40 (.load false 1 (.E 39)), oE 41 (.mv (.V 7)), oE 42 (.mv (.V 8)), oE 43 (.iaddr 5 (.E 40) (.E 41)), oE 44 (.faddr 4 (.E 43)), oN (.store [0] (.E 44) (.E 42))]))))) (.reg [oE 17 (.mv (.V 7)), oE 18 (.bin .add (.E 17) (ki 1)), oV 7 (.mv (.E 18))]))

def k_spec_ShrunkTree_ic : IC := .seq (.reg [oV 2 (.box (.V 0)), oV 3 (.box (.V 1)), oV 4 (.alloc [.e0]), oV 5 (.mv (kb false))]) (.seq (.reg [oE 10 (.load true 1 (.V 2)), oE 11 (.call k_spec_l17Copy [([5], (.E 10))]), oV 6 (.alloc [.e0]), oN (.store [5] (.V 6) (.E 11))]) (.seq (.seq (.reg [oV 7 (.mv (ki 0))]) (.block 0 (.loop k_spec_ShrunkTree_b0))) (.seq (.reg [oE 45 (.load true 1 (.V 6)), oN (.store [5] (.V 4) (.E 45)), oV 5 (.mv (kb true))]) .ret)))

def k_spec_ShrunkTree_rv : List RV := [.cell [5] 4 true, .tmp [0] 5]

def k_laws_toTree_vars : List Nat := [0, 1, 3, 2]

def k_laws_toTree_ic : IC := .seq (.reg [oV 1 (.box (.V 0)), oV 2 (.alloc [.e0])]) (.seq (.reg [oV 3 (.alloc [.e0])]) (.seq (.reg [oE 4 (.faddr 0 (.V 1)), oE 5 (.load false 1 (.E 4)), oE 6 (.call k_laws_toNodeS [([5], (.E 5))]), oE 7 (.faddr 0 (.V 3)), oN (.store [5] (.E 7) (.E 6))]) (.seq (.reg [oE 8 (.load true 1 (.V 3)), oN (.store [5] (.V 2) (.E 8))]) .ret)))

def k_laws_toTree_rv : List RV := [.cell [5] 2 true]

def k_laws_toConfig_vars : List Nat := [0, 1, 3, 2]

def k_laws_toConfig_ic : IC := .seq (.reg [oV 1 (.box (.V 0)), oV 2 (.alloc [iv 0, iv 0, iv 0, iv 0, iv 0, iv 0, iv 0, .e0])]) (.seq (.reg [oV 3 (.alloc [iv 0, iv 0, iv 0, iv 0, iv 0, iv 0, iv 0, .e0])]) (.seq (.reg [oE 4 (.faddr 0 (.V 1)), oE 5 (.load false 1 (.E 4)), oE 6 (.faddr 0 (.V 3)), oN (.store [0] (.E 6) (.E 5))]) (.seq (.reg [oE 7 (.faddr 1 (.V 1)), oE 8 (.load false 1 (.E 7)), oE 9 (.faddr 1 (.V 3)), oN (.store [0] (.E 9) (.E 8))]) (.seq (.reg [oE 10 (.faddr 2 (.V 1)), oE 11 (.load false 1 (.E 10)), oE 12 (.faddr 2 (.V 3)), oN (.store [0] (.E 12) (.E 11))]) (.seq (.reg [oE 13 (.faddr 3 (.V 1)), oE 14 (.load false 1 (.E 13)), oE 15 (.faddr 3 (.V 3)), oN (.store [0] (.E 15) (.E 14))]) (.seq (.reg [oE 16 (.faddr 4 (.V 1)), oE 17 (.load false 1 (.E 16)), oE 18 (.faddr 4 (.V 3)), oN (.store [0] (.E 18) (.E 17))]) (.seq (.reg [oE 19 (.faddr 5 (.V 1)), oE 20 (.load false 1 (.E 19)), oE 21 (.faddr 5 (.V 3)), oN (.store [0] (.E 21) (.E 20))]) (.seq (.reg [oE 22 (.faddr 6 (.V 1)), oE 23 (.load false 1 (.E 22)), oE 24 (.faddr 6 (.V 3)), oN (.store [0] (.E 24) (.E 23))]) (.seq (.reg [oE 25 (.faddr 7 (.V 1)), oE 26 (.load false 1 (.E 25)), oE 27 (.call k_laws_toIntS [([1], (.E 26))]), oE 28 (.faddr 7 (.V 3)), oN (.store [1] (.E 28) (.E 27))]) (.seq (.reg [oE 29 (.load true 8 (.V 3)), oN (.store [0, 0, 0, 0, 0, 0, 0, 1] (.V 2) (.E 29))]) .ret))))))))))

def k_laws_toConfig_rv : List RV := [.cell [0, 0, 0, 0, 0, 0, 0, 1] 2 true]

def k_impl_ShrunkTree_vars : List Nat := [0, 1, 2, 16, 15, 14, 8, 3, 10, 4, 6, 9, 5]

def k_impl_ShrunkTree_b0 : IC := .seq (.reg [oE 17 (.bin .lss (.V 16) (.V 15))]) (.seq (.cond (.E 17) .skip (.exit 0)) (.seq (.block 1 (.seq (.reg [oE 18 (.iaddr 1 (.V 14) (.V 16)), oE 19 (.load false 1 (.E 18)), oV 8 (.mv (.E 19))]) (.seq (.regD [(oE 21 (.faddr 0 (.V 2)), 0, 0), (oE 22 (.load false 1 (.E 21)), 0, 0), (oE 23 (.mv (.V 8)), 0, 0), (oE 24 (.iaddr 5 (.E 22) (.E 23)), 0, 0), (oE 25 (.faddr 4 (.E 24)), 0, 0), (oE 26 (.load false 1 (.E 25)), 0, 0), (oE 27 (.load true 8 (.V 3)), 0, 0), (oE 28 (.call k_impl_Shrunk [([0], (.E 26)), ([0, 0, 0, 0, 0, 0, 0, 1], (.E 27))]), 0, 0), (oE 20 (.mv (.E 28)), 0, 0), (oE 29 (.ext 0 (.E 20)), 0, 0), (oE 30 (.ext 1 (.E 20)), 0, 0), (oV 9 (.mv (.E 29)), 0, 0), (oV 10 (.mv (.E 30)), 0, 0)]) (.seq (.seq (.reg [oE 31 (.mv (.V 10)), oE 32 (.un .not (.E 31))]) (.cond (.E 32) (.seq (.reg [oE 33 (.build [.e0] []), oN (.store [5] (.V 4) (.E 33)), oV 5 (.mv (kb false))]) .ret) .skip)) (.reg [oE 34 (.faddr 0 (.V 6)), oE 35 (.load false 1 (.E 34)), oE 36 (.mv (.V 8)), oE 37 (.mv (.V 9)), oE 38 (.iaddr 5 (.E 35) (.E 36)), oE 39 (.faddr 4 (.E 38)), oN (.store [0] (.E 39) (.E 37))]))))) (.reg [oE 40 (.bin .add (.V 16) (ki 1)), oV 16 (.mv (.E 40))])))

def k_impl_ShrunkTree_ic : IC := .seq (.reg [oV 2 (.box (.V 0)), oV 3 (.box (.V 1)), oV 4 (.alloc [.e0]), oV 5 (.mv (kb false))]) (.seq (.reg [oE 11 (.load true 1 (.V 2)), oE 12 (.call k_impl_copyTree [([5], (.E 11))]), oV 6 (.alloc [.e0]), oN (.store [5] (.V 6) (.E 12))]) (.seq (.seq (.reg [oE 13 (.load true 1 (.V 2)), oV 14 (.call k_impl_LeavesOf [([5], (.E 13))]), oV 15 (.len (.V 14)), oV 16 (.mv (ki 0))]) (.block 0 (.loop k_impl_ShrunkTree_b0))) (.seq (.reg [oE 41 (.load true 1 (.V 6)), oN (.store [5] (.V 4) (.E 41)), oV 5 (.mv (kb true))]) .ret)))

def k_impl_ShrunkTree_rv : List RV := [.cell [5] 4 true, .tmp [0] 5]

def k_laws_eqTree_vars : List Nat := [0, 1, 2, 3, 4]

def k_laws_eqTree_ic : IC := .seq (.reg [oV 2 (.box (.V 0)), oV 3 (.box (.V 1)), oV 4 (.mv (kb false))]) (.seq (.seq (.reg [oE 5 (.faddr 0 (.V 2)), oE 6 (.load false 1 (.E 5)), oE 7 (.faddr 0 (.V 3)), oE 8 (.load false 1 (.E 7)), oE 9 (.call k_laws_eqNodeS [([5], (.E 6)), ([5], (.E 8))]), oE 10 (.un .not (.E 9))]) (.cond (.E 10) (.seq (.reg [oV 4 (.mv (kb false))]) .ret) .skip)) (.seq (.reg [oV 4 (.mv (kb true))]) .ret))

def k_laws_eqTree_rv : List RV := [.tmp [0] 4]

def k_laws_eqConfig_vars : List Nat := [0, 1, 2, 3, 4]

def k_laws_eqConfig_ic : IC := .seq (.reg [oV 2 (.box (.V 0)), oV 3 (.box (.V 1)), oV 4 (.mv (kb false))]) (.seq (.seq (.reg [oE 5 (.faddr 0 (.V 2)), oE 6 (.load false 1 (.E 5)), oE 7 (.faddr 0 (.V 3)), oE 8 (.load false 1 (.E 7)), oE 9 (.bin .neq (.E 6) (.E 8))]) (.cond (.E 9) (.seq (.reg [oV 4 (.mv (kb false))]) .ret) .skip)) (.seq (.seq (.reg [oE 10 (.faddr 1 (.V 2)), oE 11 (.load false 1 (.E 10)), oE 12 (.faddr 1 (.V 3)), oE 13 (.load false 1 (.E 12)), oE 14 (.bin .neq (.E 11) (.E 13))]) (.cond (.E 14) (.seq (.reg [oV 4 (.mv (kb false))]) .ret) .skip)) (.seq (.seq (.reg [oE 15 (.faddr 2 (.V 2)), oE 16 (.load false 1 (.E 15)), oE 17 (.faddr 2 (.V 3)), oE 18 (.load false 1 (.E 17)), oE 19 (.bin .neq (.E 16) (.E 18))]) (.cond (.E 19) (.seq (.reg [oV 4 (.mv (kb false))]) .ret) .skip)) (.seq (.seq (.reg [oE 20 (.faddr 3 (.V 2)), oE 21 (.load false 1 (.E 20)), oE 22 (.faddr 3 (.V 3)), oE 23 (.load false 1 (.E 22)), oE 24 (.bin .neq (.E 21) (.E 23))]) (.cond (.E 24) (.seq (.reg [oV 4 (.mv (kb false))]) .ret) .skip)) (.seq (.seq (.reg [oE 25 (.faddr 4 (.V 2)), oE 26 (.load false 1 (.E 25)), oE 27 (.faddr 4 (.V 3)), oE 28 (.load false 1 (.E 27)), oE 29 (.bin .neq (.E 26) (.E 28))]) (.cond (.E 29) (.seq (.reg [oV 4 (.mv (kb false))]) .ret) .skip)) (.seq (.seq (.reg [oE 30 (.faddr 5 (.V 2)), oE 31 (.load false 1 (.E 30)), oE 32 (.faddr 5 (.V 3)), oE 33 (.load false 1 (.E 32)), oE 34 (.bin .neq (.E 31) (.E 33))]) (.cond (.E 34) (.seq (.reg [oV 4 (.mv (kb false))]) .ret) .skip)) (.seq (.seq (.reg [oE 35 (.faddr 6 (.V 2)), oE 36 (.load false 1 (.E 35)), oE 37 (.faddr 6 (.V 3)), oE 38 (.load false 1 (.E 37)), oE 39 (.bin .neq (.E 36) (.E 38))]) (.cond (.E 39) (.seq (.reg [oV 4 (.mv (kb false))]) .ret) .skip)) (.seq (.seq (.reg [oE 40 (.faddr 7 (.V 2)), oE 41 (.load false 1 (.E 40)), oE 42 (.faddr 7 (.V 3)), oE 43 (.load false 1 (.E 42)), oE 44 (.call k_laws_eqIntS [([1], (.E 41)), ([1], (.E 43))]), oE 45 (.un .not (.E 44))]) (.cond (.E 45) (.seq (.reg [oV 4 (.mv (kb false))]) .ret) .skip)) (.seq (.reg [oV 4 (.mv (kb true))]) .ret)))))))))

def k_laws_eqConfig_rv : List RV := [.tmp [0] 4]

def k_laws_markTree_vars : List Nat := [0, 1, 2, 4]

def k_laws_markTree_ic : IC := .seq (.reg [oV 2 (.box (.V 0)), oV 4 (.mv (ki 0))]) (.seq (.reg [oE 5 (.faddr 0 (.V 2)), oE 6 (.load false 1 (.E 5)), oE 7 (.mv (.V 1)), oE 8 (.call k_laws_markNodeS [([5], (.E 6)), ([0], (.E 7))]), oV 1 (.mv (.E 8))]) (.seq (.reg [oE 9 (.mv (.V 1)), oV 4 (.mv (.E 9))]) .ret))

def k_laws_markTree_rv : List RV := [.tmp [0] 4]

def k_laws_markConfig_vars : List Nat := [0, 1, 2, 4]

def k_laws_markConfig_ic : IC := .seq (.reg [oV 2 (.box (.V 0)), oV 4 (.mv (ki 0))]) (.seq (.reg [oE 5 (.faddr 7 (.V 2)), oE 6 (.load false 1 (.E 5)), oE 7 (.mv (.V 1)), oE 8 (.call k_laws_markIntS [([1], (.E 6)), ([0], (.E 7))]), oV 1 (.mv (.E 8))]) (.seq (.reg [oE 9 (.mv (.V 1)), oV 4 (.mv (.E 9))]) .ret))

def k_laws_markConfig_rv : List RV := [.tmp [0] 4]

def k_laws_heldTree_vars : List Nat := [0, 1, 2, 4]

def k_laws_heldTree_ic : IC := .seq (.reg [oV 2 (.box (.V 0)), oV 4 (.mv (ki 0))]) (.seq (.reg [oE 5 (.faddr 0 (.V 2)), oE 6 (.load false 1 (.E 5)), oE 7 (.mv (.V 1)), oE 8 (.call k_laws_heldNodeS [([5], (.E 6)), ([0], (.E 7))]), oV 1 (.mv (.E 8))]) (.seq (.seq (.reg [oE 9 (.mv (.V 1)), oE 10 (.bin .lss (.E 9) (ki 0))]) (.cond (.E 10) (.seq (.reg [oV 4 (.mv (ki (-1)))]) .ret) .skip)) (.seq (.reg [oE 11 (.mv (.V 1)), oV 4 (.mv (.E 11))]) .ret)))

def k_laws_heldTree_rv : List RV := [.tmp [0] 4]

def k_laws_toIntS_vars : List Nat := [0, 4, 3, 2]

def k_laws_toIntS_b0 : IC := .seq (.seq (.reg [oE 8 (.mv (.V 4)), oE 9 (.mv (.V 0)), oE 10 (.len (.E 9)), oE 11 (.bin .lss (.E 8) (.E 10))]) (.cond (.E 11) .skip (.exit 0))) (.seq (.block 1 (.reg [oE 14 (.mv (.V 3)), oE 15 (.mv (.V 4)), oE 16 (.mv (.V 0)), oE 17 (.mv (.V 4)), oE 18 (.iaddr 1 (.E 16) (.E 17)), oE 19 (.load false 1 (.E 18)), oE 20 (.iaddr 1 (.E 14) (.E 15)), oN (.store [0] (.E 20) (.E 19))])) (.reg [oE 12 (.mv (.V 4)), oE 13 (.bin .add (.E 12) (ki 1)), oV 4 (.mv (.E 13))]))

def k_laws_toIntS_ic : IC := .seq (.reg [oV 2 (.mv (.C .e0))]) (.seq (.reg [oE 5 (.mv (.V 0)), oE 6 (.len (.E 5)), oE 7 (.mksl 8 1 [iv 0] (.E 6) (.E 6)), oV 3 (.mv (.E 7))]) (.seq (.seq (.reg [oV 4 (.mv (ki 0))]) (.block 0 (.loop k_laws_toIntS_b0))) (.seq (.reg [oE 21 (.mv (.V 3)), oV 2 (.mv (.E 21))]) .ret)))

def k_laws_toIntS_rv : List RV := [.tmp [1] 2]

def k_laws_eqIntS_vars : List Nat := [0, 1, 5, 4]

def k_laws_eqIntS_b0 : IC := .seq (.seq (.reg [oE 11 (.mv (.V 5)), oE 12 (.mv (.V 0)), oE 13 (.len (.E 12)), oE 14 (.bin .lss (.E 11) (.E 13))]) (.cond (.E 14) .skip (.exit 0))) (.seq (.block 1 (.seq (.regD [(oE 17 (.mv (.V 0)), 0, 0), (oE 18 (.mv (.V 5)), 0, 0), (oE 19 (.iaddr 1 (.E 17) (.E 18)), 0, 0), (oE 20 (.load false 1 (.E 19)), 0, 0), (oE 21 (.mv (.V 1)), 0, 0), (oE 22 (.mv (.V 5)), 0, 0), (oE 23 (.iaddr 1 (.E 21) (.E 22)), 0, 0), (oE 24 (.load false 1 (.E 23)), 0, 0), (oE 25 (.bin .neq (.E 20) (.E 24)), 0, 0)]) (.cond (.E 25) (.seq (.reg [oV 4 (.mv (kb false))]) .ret) .skip))) (.reg [oE 15 (.mv (.V 5)), oE 16 (.bin .add (.E 15) (ki 1)), oV 5 (.mv (.E 16))]))

def k_laws_eqIntS_ic : IC := .seq (.reg [oV 4 (.mv (kb false))]) (.seq (.seq (.reg [oE 6 (.mv (.V 0)), oE 7 (.len (.E 6)), oE 8 (.mv (.V 1)), oE 9 (.len (.E 8)), oE 10 (.bin .neq (.E 7) (.E 9))]) (.cond (.E 10) (.seq (.reg [oV 4 (.mv (kb false))]) .ret) .skip)) (.seq (.seq (.reg [oV 5 (.mv (ki 0))]) (.block 0 (.loop k_laws_eqIntS_b0))) (.seq (.reg [oV 4 (.mv (kb true))]) .ret)))

def k_laws_eqIntS_rv : List RV := [.tmp [0] 4]

def k_laws_markIntS_vars : List Nat := [0, 1, 5, 4]

def k_laws_markIntS_b0 : IC := .seq (.seq (.reg [oE 6 (.mv (.V 5)), oE 7 (.mv (.V 0)), oE 8 (.len (.E 7)), oE 9 (.bin .lss (.E 6) (.E 8))]) (.cond (.E 9) .skip (.exit 0))) (.seq (.block 1 (.seq (.reg [oE 12 (.mv (.V 0)), oE 13 (.mv (.V 5)), oE 14 (.mv (.V 1)), oE 15 (.iaddr 1 (.E 12) (.E 13)), oN (.store [0] (.E 15) (.E 14))]) (.reg [oE 16 (.mv (.V 1)), oE 17 (.bin .add (.E 16) (ki 1)), oV 1 (.mv (.E 17))]))) (.reg [oE 10 (.mv (.V 5)), oE 11 (.bin .add (.E 10) (ki 1)), oV 5 (.mv (.E 11))]))

def k_laws_markIntS_ic : IC := .seq (.reg [oV 4 (.mv (ki 0))]) (.seq (.seq (.reg [oV 5 (.mv (ki 0))]) (.block 0 (.loop k_laws_markIntS_b0))) (.seq (.reg [oE 18 (.mv (.V 1)), oV 4 (.mv (.E 18))]) .ret))

def k_laws_markIntS_rv : List RV := [.tmp [0] 4]

def k_laws_szIntS_vars : List Nat := [0, 1, 4]

def k_laws_szIntS_ic : IC := .seq (.reg [oV 4 (.mv (ki 0))]) (.seq (.reg [oE 5 (.mv (.V 1)), oE 6 (.mv (.V 0)), oE 7 (.len (.E 6)), oE 8 (.bin .sub (.E 5) (.E 7)), oV 1 (.mv (.E 8))]) (.seq (.seq (.reg [oE 9 (.mv (.V 1)), oE 10 (.bin .lss (.E 9) (ki 0))]) (.cond (.E 10) (.seq (.reg [oV 4 (.mv (ki (-1)))]) .ret) .skip)) (.seq (.reg [oE 11 (.mv (.V 1)), oV 4 (.mv (.E 11))]) .ret)))

def k_laws_szIntS_rv : List RV := [.tmp [0] 4]

def k_laws_szNodeS_vars : List Nat := [0, 1, 4]

def k_laws_szNodeS_ic : IC := .seq (.reg [oV 4 (.mv (ki 0))]) (.seq (.reg [oE 5 (.mv (.V 1)), oE 6 (.mv (.V 0)), oE 7 (.len (.E 6)), oE 8 (.bin .sub (.E 5) (.E 7)), oV 1 (.mv (.E 8))]) (.seq (.seq (.reg [oE 9 (.mv (.V 1)), oE 10 (.bin .lss (.E 9) (ki 0))]) (.cond (.E 10) (.seq (.reg [oV 4 (.mv (ki (-1)))]) .ret) .skip)) (.seq (.reg [oE 11 (.mv (.V 1)), oV 4 (.mv (.E 11))]) .ret)))

def k_laws_szNodeS_rv : List RV := [.tmp [0] 4]

def k_spec_l17Copy_vars : List Nat := [0, 1, 2]

def k_spec_l17Copy_ic : IC := .seq (.reg [oV 1 (.box (.V 0)), oV 2 (.alloc [.e0])]) (.seq (.reg [oE 3 (.bslice 0 5 [iv 0, iv 0, iv 0, iv 0, iv 0] []), oE 4 (.faddr 0 (.V 1)), oE 5 (.load false 1 (.E 4)), oE 6 (.app 40 5 (.E 3) (.E 5)), oE 7 (.build [.e0] [(0, 1, (.E 6))]), oN (.store [5] (.V 2) (.E 7))]) .ret)

def k_spec_l17Copy_rv : List RV := [.cell [5] 2 true]

def k_spec_l17Inner_vars : List Nat := [0, 1, 2]

def k_spec_l17Inner_ic : IC := .seq (.reg [oV 1 (.box (.V 0)), oV 2 (.mv (kb false))]) (.seq (.reg [oE 3 (.faddr 0 (.V 1)), oE 4 (.load false 1 (.E 3)), oE 5 (.bin .neq (.E 4) (ki (-1))), oV 2 (.mv (.E 5))]) .ret)

def k_spec_l17Inner_rv : List RV := [.tmp [0] 2]

def k_spec_Shrunk_vars : List Nat := [0, 1, 3, 4, 5]

def k_spec_Shrunk_ic : IC := .seq (.reg [oV 3 (.box (.V 1)), oV 4 (.mv (ki 0)), oV 5 (.mv (kb false))]) (.seq (.seq (.reg [oE 6 (.load true 8 (.V 3)), oE 7 (.call k_spec_ConfigOk [([0, 0, 0, 0, 0, 0, 0, 1], (.E 6))]), oE 8 (.un .not (.E 7)), oE 9 (.mv (.E 8)), ⟨(some (.E 10)), .mv (.V 0), some ((.E 9), false)⟩, ⟨(some (.E 11)), .call k_spec_l14Leaf [([0], (.E 10))], some ((.E 9), false)⟩, ⟨(some (.E 12)), .un .not (.E 11), some ((.E 9), false)⟩, oE 13 (.pick (.E 9) (kb true) (.E 12))]) (.cond (.E 13) (.seq (.reg [oV 4 (.mv (ki 0)), oV 5 (.mv (kb false))]) .ret) .skip)) (.seq (.reg [oE 14 (.mv (.V 0)), oE 15 (.faddr 5 (.V 3)), oE 16 (.load false 1 (.E 15)), oE 17 (.bin .mul (.E 14) (.E 16)), oE 18 (.faddr 6 (.V 3)), oE 19 (.load false 1 (.E 18)), oE 20 (.call k_spec_FloorDiv [([0], (.E 17)), ([0], (.E 19))]), oE 21 (.ext 0 (.E 20)), oE 22 (.ext 1 (.E 20)), oV 4 (.mv (.E 21)), oV 5 (.mv (.E 22))]) .ret))

def k_spec_Shrunk_rv : List RV := [.tmp [0] 4, .tmp [0] 5]

def k_laws_toNodeS_vars : List Nat := [0, 4, 3, 2]

def k_laws_toNodeS_b0 : IC := .seq (.seq (.reg [oE 8 (.mv (.V 4)), oE 9 (.mv (.V 0)), oE 10 (.len (.E 9)), oE 11 (.bin .lss (.E 8) (.E 10))]) (.cond (.E 11) .skip (.exit 0))) (.seq (.block 1 (.reg [oE 14 (.mv (.V 3)), oE 15 (.mv (.V 4)), oE 16 (.mv (.V 0)), oE 17 (.mv (.V 4)), oE 18 (.iaddr 5 (.E 16) (.E 17)), oE 19 (.load true 5 (.E 18)), oE 20 (.call k_laws_toNode [([0, 0, 0, 0, 0], (.E 19))]), oE 21 (.iaddr 5 (.E 14) (.E 15)), oN (.store [0, 0, 0, 0, 0] (.E 21) (.E 20))])) (.reg [oE 12 (.mv (.V 4)), oE 13 (.bin .add (.E 12) (ki 1)), oV 4 (.mv (.E 13))]))

def k_laws_toNodeS_ic : IC := .seq (.reg [oV 2 (.mv (.C .e0))]) (.seq (.reg [oE 5 (.mv (.V 0)), oE 6 (.len (.E 5)), oE 7 (.mksl 40 5 [iv 0, iv 0, iv 0, iv 0, iv 0] (.E 6) (.E 6)), oV 3 (.mv (.E 7))]) (.seq (.seq (.reg [oV 4 (.mv (ki 0))]) (.block 0 (.loop k_laws_toNodeS_b0))) (.seq (.reg [oE 22 (.mv (.V 3)), oV 2 (.mv (.E 22))]) .ret)))

def k_laws_toNodeS_rv : List RV := [.tmp [5] 2]

def k_impl_copyTree_vars : List Nat := [0, 1, 2]

def k_impl_copyTree_ic : IC := .seq (.reg [oV 1 (.box (.V 0)), oV 2 (.alloc [.e0])]) (.seq (.reg [oE 3 (.faddr 0 (.V 1)), oE 4 (.load false 1 (.E 3)), oE 5 (.call k_slices_Clone___impl_Node_impl_Node_ [([5], (.E 4))]), oE 6 (.build [.e0] [(0, 1, (.E 5))]), oN (.store [5] (.V 2) (.E 6))]) .ret)

def k_impl_copyTree_rv : List RV := [.cell [5] 2 true]

def k_impl_LeavesOf_vars : List Nat := [0, 1, 10, 9, 8, 5, 3, 4, 2]

def k_impl_LeavesOf_b0 : IC := .seq (.reg [oE 11 (.bin .lss (.V 10) (.V 9))]) (.seq (.cond (.E 11) .skip (.exit 0)) (.seq (.block 1 (.seq (.reg [oE 12 (.mv (.V 10)), oE 13 (.iaddr 5 (.V 8) (.V 10)), oE 14 (.load true 5 (.E 13)), oV 5 (.alloc [iv 0, iv 0, iv 0, iv 0, iv 0]), oV 4 (.mv (.E 12)), oN (.store [0, 0, 0, 0, 0] (.V 5) (.E 14))]) (.seq (.reg [oE 15 (.load true 5 (.V 5)), oE 16 (.call k_impl_isLeaf [([0, 0, 0, 0, 0], (.E 15))])]) (.cond (.E 16) (.reg [oE 17 (.mv (.V 3)), oE 18 (.mv (.V 4)), oE 19 (.bslice 1 1 [iv 0] [(0, (.E 18))]), oE 20 (.app 8 1 (.E 17) (.E 19)), oV 3 (.mv (.E 20))]) .skip)))) (.reg [oE 21 (.bin .add (.V 10) (ki 1)), oV 10 (.mv (.E 21))])))

def k_impl_LeavesOf_ic : IC := .seq (.reg [oV 1 (.box (.V 0)), oV 2 (.mv (.C .e0))]) (.seq (.reg [oE 6 (.bslice 0 1 [iv 0] []), oV 3 (.mv (.E 6))]) (.seq (.seq (.reg [oE 7 (.faddr 0 (.V 1)), oV 8 (.load false 1 (.E 7)), oV 9 (.len (.V 8)), oV 10 (.mv (ki 0))]) (.block 0 (.loop k_impl_LeavesOf_b0))) (.seq (.reg [oE 22 (.mv (.V 3)), oV 2 (.mv (.E 22))]) .ret)))

def k_impl_LeavesOf_rv : List RV := [.tmp [1] 2]

def k_impl_Shrunk_vars : List Nat := [0, 1, 3, 4, 5]

def k_impl_Shrunk_ic : IC := .seq (.reg [oV 3 (.box (.V 1)), oV 4 (.mv (ki 0)), oV 5 (.mv (kb false))]) (.seq (.seq (.reg [oE 6 (.load true 8 (.V 3)), oE 7 (.call k_impl_ConfigOk [([0, 0, 0, 0, 0, 0, 0, 1], (.E 6))]), oE 8 (.un .not (.E 7)), oE 9 (.mv (.E 8)), ⟨(some (.E 10)), .mv (.V 0), some ((.E 9), false)⟩, ⟨(some (.E 11)), .call k_impl_isLeafValue [([0], (.E 10))], some ((.E 9), false)⟩, ⟨(some (.E 12)), .un .not (.E 11), some ((.E 9), false)⟩, oE 13 (.pick (.E 9) (kb true) (.E 12))]) (.cond (.E 13) (.seq (.reg [oV 4 (.mv (ki 0)), oV 5 (.mv (kb false))]) .ret) .skip)) (.seq (.reg [oE 14 (.mv (.V 0)), oE 15 (.faddr 5 (.V 3)), oE 16 (.load false 1 (.E 15)), oE 17 (.bin .mul (.E 14) (.E 16)), oE 18 (.faddr 6 (.V 3)), oE 19 (.load false 1 (.E 18)), oE 20 (.call k_impl_FloorDiv [([0], (.E 17)), ([0], (.E 19))]), oE 21 (.ext 0 (.E 20)), oE 22 (.ext 1 (.E 20)), oV 4 (.mv (.E 21)), oV 5 (.mv (.E 22))]) .ret))

def k_impl_Shrunk_rv : List RV := [.tmp [0] 4, .tmp [0] 5]

def k_laws_eqNodeS_vars : List Nat := [0, 1, 5, 4]

def k_laws_eqNodeS_b0 : IC := .seq (.seq (.reg [oE 11 (.mv (.V 5)), oE 12 (.mv (.V 0)), oE 13 (.len (.E 12)), oE 14 (.bin .lss (.E 11) (.E 13))]) (.cond (.E 14) .skip (.exit 0))) (.seq (.block 1 (.seq (.regD [(oE 17 (.mv (.V 0)), 0, 0), (oE 18 (.mv (.V 5)), 0, 0), (oE 19 (.iaddr 5 (.E 17) (.E 18)), 0, 0), (oE 20 (.load true 5 (.E 19)), 0, 0), (oE 21 (.mv (.V 1)), 0, 0), (oE 22 (.mv (.V 5)), 0, 0), (oE 23 (.iaddr 5 (.E 21) (.E 22)), 0, 0), (oE 24 (.load true 5 (.E 23)), 0, 0), (oE 25 (.call k_laws_eqNode [([0, 0, 0, 0, 0], (.E 20)), ([0, 0, 0, 0, 0], (.E 24))]), 0, 0), (oE 26 (.un .not (.E 25)), 0, 0)]) (.cond (.E 26) (.seq (.reg [oV 4 (.mv (kb false))]) .ret) .skip))) (.reg [oE 15 (.mv (.V 5)), oE 16 (.bin .add (.E 15) (ki 1)), oV 5 (.mv (.E 16))]))

def k_laws_eqNodeS_ic : IC := .seq (.reg [oV 4 (.mv (kb false))]) (.seq (.seq (.reg [oE 6 (.mv (.V 0)), oE 7 (.len (.E 6)), oE 8 (.mv (.V 1)), oE 9 (.len (.E 8)), oE 10 (.bin .neq (.E 7) (.E 9))]) (.cond (.E 10) (.seq (.reg [oV 4 (.mv (kb false))]) .ret) .skip)) (.seq (.seq (.reg [oV 5 (.mv (ki 0))]) (.block 0 (.loop k_laws_eqNodeS_b0))) (.seq (.reg [oV 4 (.mv (kb true))]) .ret)))

def k_laws_eqNodeS_rv : List RV := [.tmp [0] 4]

def k_laws_markNodeS_vars : List Nat := [0, 1, 5, 4]

def k_laws_markNodeS_b0 : IC := .seq (.seq (.reg [oE 6 (.mv (.V 5)), oE 7 (.mv (.V 0)), oE 8 (.len (.E 7)), oE 9 (.bin .lss (.E 6) (.E 8))]) (.cond (.E 9) .skip (.exit 0))) (.seq (.block 1 (.seq (.reg [oE 12 (.mv (.V 0)), oE 13 (.mv (.V 5)), oE 14 (.mv (.V 1)), oE 15 (.iaddr 5 (.E 12) (.E 13)), oE 16 (.faddr 0 (.E 15)), oN (.store [0] (.E 16) (.E 14))]) (.seq (.reg [oE 17 (.mv (.V 1)), oE 18 (.bin .add (.E 17) (ki 1)), oV 1 (.mv (.E 18))]) (.seq (.reg [oE 19 (.mv (.V 0)), oE 20 (.mv (.V 5)), oE 21 (.mv (.V 1)), oE 22 (.iaddr 5 (.E 19) (.E 20)), oE 23 (.faddr 1 (.E 22)), oN (.store [0] (.E 23) (.E 21))]) (.seq (.reg [oE 24 (.mv (.V 1)), oE 25 (.bin .add (.E 24) (ki 1)), oV 1 (.mv (.E 25))]) (.seq (.reg [oE 26 (.mv (.V 0)), oE 27 (.mv (.V 5)), oE 28 (.mv (.V 1)), oE 29 (.iaddr 5 (.E 26) (.E 27)), oE 30 (.faddr 2 (.E 29)), oN (.store [0] (.E 30) (.E 28))]) (.seq (.reg [oE 31 (.mv (.V 1)), oE 32 (.bin .add (.E 31) (ki 1)), oV 1 (.mv (.E 32))]) (.seq (.reg [oE 33 (.mv (.V 0)), oE 34 (.mv (.V 5)), oE 35 (.mv (.V 1)), oE 36 (.iaddr 5 (.E 33) (.E 34)), oE 37 (.faddr 3 (.E 36)), oN (.store [0] (.E 37) (.E 35))]) (.seq (.reg [oE 38 (.mv (.V 1)), oE 39 (.bin .add (.E 38) (ki 1)), oV 1 (.mv (.E 39))]) (.seq (.reg [oE 40 (.mv (.V 0)), oE 41 (.mv (.V 5)), oE 42 (.mv (.V 1)), oE 43 (.iaddr 5 (.E 40) (.E 41)), oE 44 (.faddr 4 (.E 43)), oN (.store [0] (.E 44) (.E 42))]) (.reg [oE 45 (.mv (.V 1)), oE 46 (.bin .add (.E 45) (ki 1)), oV 1 (.mv (.E 46))]))))))))))) (.reg [oE 10 (.mv (.V 5)), oE 11 (.bin .add (.E 10) (ki 1)), oV 5 (.mv (.E 11))]))

def k_laws_markNodeS_ic : IC := .seq (.reg [oV 4 (.mv (ki 0))]) (.seq (.seq (.reg [oV 5 (.mv (ki 0))]) (.block 0 (.loop k_laws_markNodeS_b0))) (.seq (.reg [oE 47 (.mv (.V 1)), oV 4 (.mv (.E 47))]) .ret))

def k_laws_markNodeS_rv : List RV := [.tmp [0] 4]

def k_laws_heldNodeS_vars : List Nat := [0, 1, 5, 4]

def k_laws_heldNodeS_b0 : IC := .seq (.seq (.reg [oE 6 (.mv (.V 5)), oE 7 (.mv (.V 0)), oE 8 (.len (.E 7)), oE 9 (.bin .lss (.E 6) (.E 8))]) (.cond (.E 9) .skip (.exit 0))) (.seq (.block 1 (.seq (.seq (.reg [oE 12 (.mv (.V 0)), oE 13 (.mv (.V 5)), oE 14 (.iaddr 5 (.E 12) (.E 13)), oE 15 (.faddr 0 (.E 14)), oE 16 (.load false 1 (.E 15)), oE 17 (.mv (.V 1)), oE 18 (.bin .neq (.E 16) (.E 17))]) (.cond (.E 18) (.seq (.reg [oV 4 (.mv (ki (-1)))]) .ret) .skip)) (.seq (.reg [oE 19 (.mv (.V 1)), oE 20 (.bin .add (.E 19) (ki 1)), oV 1 (.mv (.E 20))]) (.seq (.seq (.reg [oE 21 (.mv (.V 0)), oE 22 (.mv (.V 5)), oE 23 (.iaddr 5 (.E 21) (.E 22)), oE 24 (.faddr 1 (.E 23)), oE 25 (.load false 1 (.E 24)), oE 26 (.mv (.V 1)), oE 27 (.bin .neq (.E 25) (.E 26))]) (.cond (.E 27) (.seq (.reg [oV 4 (.mv (ki (-1)))]) .ret) .skip)) (.seq (.reg [oE 28 (.mv (.V 1)), oE 29 (.bin .add (.E 28) (ki 1)), oV 1 (.mv (.E 29))]) (.seq (.seq (.reg [oE 30 (.mv (.V 0)), oE 31 (.mv (.V 5)), oE 32 (.iaddr 5 (.E 30) (.E 31)), oE 33 (.faddr 2 (.E 32)), oE 34 (.load false 1 (.E 33)), oE 35 (.mv (.V 1)), oE 36 (.bin .neq (.E 34) (.E 35))]) (.cond (.E 36) (.seq (.reg [oV 4 (.mv (ki (-1)))]) .ret) .skip)) (.seq (.reg [oE 37 (.mv (.V 1)), oE 38 (.bin .add (.E 37) (ki 1)), oV 1 (.mv (.E 38))]) (.seq (.seq (.reg [oE 39 (.mv (.V 0)), oE 40 (.mv (.V 5)), oE 41 (.iaddr 5 (.E 39) (.E 40)), oE 42 (.faddr 3 (.E 41)), oE 43 (.load false 1 (.E 42)), oE 44 (.mv (.V 1)), oE 45 (.bin .neq (.E 43) (.E 44))]) (.cond (.E 45) (.seq (.reg [oV 4 (.mv (ki (-1)))]) .ret) .skip)) (.seq (.reg [oE 46 (.mv (.V 1)), oE 47 (.bin .add (.E 46) (ki 1)), oV 1 (.mv (.E 47))]) (.seq (.seq (.reg [oE 48 (.mv (.V 0)), oE 49 (.mv (.V 5)), oE 50 (.iaddr 5 (.E 48) (.E 49)), oE 51 (.faddr 4 (.E 50)), oE 52 (.load false 1 (.E 51)), oE 53 (.mv (.V 1)), oE 54 (.bin .neq (.E 52) (.E 53))]) (.cond (.E 54) (.seq (.reg [oV 4 (.mv (ki (-1)))]) .ret) .skip)) (.reg [oE 55 (.mv (.V 1)), oE 56 (.bin .add (.E 55) (ki 1)), oV 1 (.mv (.E 56))]))))))))))) (.reg [oE 10 (.mv (.V 5)), oE 11 (.bin .add (.E 10) (ki 1)), oV 5 (.mv (.E 11))]))

def k_laws_heldNodeS_ic : IC := .seq (.reg [oV 4 (.mv (ki 0))]) (.seq (.seq (.reg [oV 5 (.mv (ki 0))]) (.block 0 (.loop k_laws_heldNodeS_b0))) (.seq (.reg [oE 57 (.mv (.V 1)), oV 4 (.mv (.E 57))]) .ret))

def k_laws_heldNodeS_rv : List RV := [.tmp [0] 4]

def k_spec_l1In_vars : List Nat := [0, 1, 2, 6]

def k_spec_l1In_ic : IC := .seq (.reg [oV 6 (.mv (kb false))]) (.seq (.reg [oE 7 (.mv (.V 0)), oE 8 (.mv (.V 1)), oE 9 (.bin .geq (.E 7) (.E 8)), oE 10 (.mv (.E 9)), ⟨(some (.E 11)), .mv (.V 0), some ((.E 10), true)⟩, ⟨(some (.E 12)), .mv (.V 2), some ((.E 10), true)⟩, ⟨(some (.E 13)), .bin .leq (.E 11) (.E 12), some ((.E 10), true)⟩, oE 14 (.pick (.E 10) (.E 13) (kb false)), oV 6 (.mv (.E 14))]) .ret)

def k_spec_l1In_rv : List RV := [.tmp [0] 6]

def k_impl_within_vars : List Nat := [0, 1, 2, 6]

def k_impl_within_ic : IC := .seq (.reg [oV 6 (.mv (kb false))]) (.seq (.reg [oE 7 (.mv (.V 0)), oE 8 (.mv (.V 1)), oE 9 (.bin .geq (.E 7) (.E 8)), oE 10 (.mv (.E 9)), ⟨(some (.E 11)), .mv (.V 0), some ((.E 10), true)⟩, ⟨(some (.E 12)), .mv (.V 2), some ((.E 10), true)⟩, ⟨(some (.E 13)), .bin .leq (.E 11) (.E 12), some ((.E 10), true)⟩, oE 14 (.pick (.E 10) (.E 13) (kb false)), oV 6 (.mv (.E 14))]) .ret)

def k_impl_within_rv : List RV := [.tmp [0] 6]

def k_slices_ContainsFunc___int_int__vars : List Nat := [0, 1, 4]

def k_slices_ContainsFunc___int_int__ic : IC := .seq (.reg [oV 4 (.mv (kb false))]) (.seq (.reg [oE 5 (.mv (.V 0)), oE 6 (.mv (.V 1)), oE 7 (.call k_slices_IndexFunc___int_int_ [([1], (.E 5)), ([0], (.E 6))]), oE 8 (.bin .geq (.E 7) (ki 0)), oV 4 (.mv (.E 8))]) .ret)

def k_slices_ContainsFunc___int_int__rv : List RV := [.tmp [0] 4]

def k_impl_isSign_vars : List Nat := [0, 2]

def k_impl_isSign_ic : IC := .seq (.reg [oV 2 (.mv (kb false))]) (.seq (.reg [oE 3 (.mv (.V 0)), oE 4 (.call k_impl_within [([0], (.E 3)), ([0], (ki (-1))), ([0], (ki 1))]), oV 2 (.mv (.E 4))]) .ret)

def k_impl_isSign_rv : List RV := [.tmp [0] 2]

def k_spec_ConfigOk_vars : List Nat := [0, 1, 4, 3, 5, 2]

def k_spec_ConfigOk_b0 : IC := .seq (.seq (.reg [oE 8 (.mv (.V 4)), oE 9 (.bin .lss (.E 8) (ki 5))]) (.cond (.E 9) .skip (.exit 0))) (.seq (.block 1 (.seq (.regD [(oE 12 (.mv (.V 3)), 0, 0), (oE 13 (.mv (.V 4)), 0, 0), (oE 14 (.iaddr 1 (.E 12) (.E 13)), 0, 2), (oE 15 (.load false 1 (.E 14)), 0, 2), (oE 16 (.call k_spec_l8Least []), 0, 0), (oE 17 (.mv (.V 4)), 0, 0), (oE 18 (.iaddr 1 (.E 16) (.E 17)), 0, 1), (oE 19 (.load false 1 (.E 18)), 0, 1), (oE 20 (.call k_spec_l8Most []), 0, 0), (oE 21 (.mv (.V 4)), 0, 0), (oE 22 (.iaddr 1 (.E 20) (.E 21)), 0, 0), (oE 23 (.load false 1 (.E 22)), 0, 0), (oE 24 (.call k_spec_l1In [([0], (.E 15)), ([0], (.E 19)), ([0], (.E 23))]), 0, 0), (oE 25 (.un .not (.E 24)), 0, 0)]) (.cond (.E 25) (.seq (.reg [oV 2 (.mv (kb false))]) .ret) .skip))) (.reg [oE 10 (.mv (.V 4)), oE 11 (.bin .add (.E 10) (ki 1)), oV 4 (.mv (.E 11))]))

def k_spec_ConfigOk_b1 : IC := .seq (.seq (.reg [oE 26 (.mv (.V 5)), oE 27 (.faddr 7 (.V 1)), oE 28 (.load false 1 (.E 27)), oE 29 (.len (.E 28)), oE 30 (.bin .lss (.E 26) (.E 29))]) (.cond (.E 30) .skip (.exit 2))) (.seq (.block 3 (.seq (.reg [oE 33 (.faddr 7 (.V 1)), oE 34 (.load false 1 (.E 33)), oE 35 (.mv (.V 5)), oE 36 (.iaddr 1 (.E 34) (.E 35)), oE 37 (.load false 1 (.E 36)), oE 38 (.call k_spec_l1In [([0], (.E 37)), ([0], (ki (-1))), ([0], (ki 1))]), oE 39 (.un .not (.E 38))]) (.cond (.E 39) (.seq (.reg [oV 2 (.mv (kb false))]) .ret) .skip))) (.reg [oE 31 (.mv (.V 5)), oE 32 (.bin .add (.E 31) (ki 1)), oV 5 (.mv (.E 32))]))

def k_spec_ConfigOk_ic : IC := .seq (.reg [oV 1 (.box (.V 0)), oV 2 (.mv (kb false))]) (.seq (.reg [oE 6 (.load true 8 (.V 1)), oE 7 (.call k_spec_l8Numbers [([0, 0, 0, 0, 0, 0, 0, 1], (.E 6))]), oV 3 (.mv (.E 7))]) (.seq (.seq (.reg [oV 4 (.mv (ki 0))]) (.block 0 (.loop k_spec_ConfigOk_b0))) (.seq (.seq (.reg [oV 5 (.mv (ki 0))]) (.block 2 (.loop k_spec_ConfigOk_b1))) (.seq (.reg [oE 40 (.faddr 6 (.V 1)), oE 41 (.load false 1 (.E 40)), oE 42 (.call k_spec_l1In [([0], (.E 41)), ([0], (ki 1)), ([0], (ki 1000))]), oE 43 (.mv (.E 42)), ⟨(some (.E 44)), .faddr 5 (.V 1), some ((.E 43), true)⟩, ⟨(some (.E 45)), .load false 1 (.E 44), some ((.E 43), true)⟩, ⟨(some (.E 46)), .faddr 6 (.V 1), some ((.E 43), true)⟩, ⟨(some (.E 47)), .load false 1 (.E 46), some ((.E 43), true)⟩, ⟨(some (.E 48)), .call k_spec_l1In [([0], (.E 45)), ([0], (ki 1)), ([0], (.E 47))], some ((.E 43), true)⟩, oE 49 (.pick (.E 43) (.E 48) (kb false)), oE 50 (.mv (.E 49)), ⟨(some (.E 51)), .faddr 7 (.V 1), some ((.E 50), true)⟩, ⟨(some (.E 52)), .load false 1 (.E 51), some ((.E 50), true)⟩, ⟨(some (.E 53)), .len (.E 52), some ((.E 50), true)⟩, ⟨(some (.E 54)), .bin .leq (.E 53) (ki 4), some ((.E 50), true)⟩, oE 55 (.pick (.E 50) (.E 54) (kb false)), oV 2 (.mv (.E 55))]) .ret))))

def k_spec_ConfigOk_rv : List RV := [.tmp [0] 2]

def k_spec_l14Leaf_vars : List Nat := [0, 2]

def k_spec_l14Leaf_ic : IC := .seq (.reg [oV 2 (.mv (kb false))]) (.seq (.reg [oE 3 (.mv (.V 0)), oE 4 (.call k_spec_l1In [([0], (.E 3)), ([0], (ki (-1099511627776))), ([0], (ki 1099511627776))]), oV 2 (.mv (.E 4))]) .ret)

def k_spec_l14Leaf_rv : List RV := [.tmp [0] 2]

def k_spec_FloorDiv_vars : List Nat := [0, 1, 6, 4, 5]

def k_spec_FloorDiv_ic : IC := .seq (.reg [oV 4 (.mv (ki 0)), oV 5 (.mv (kb false))]) (.seq (.seq (.reg [oE 7 (.mv (.V 1)), oE 8 (.bin .eql (.E 7) (ki 0)), oE 9 (.mv (.E 8)), ⟨(some (.E 10)), .mv (.V 1), some ((.E 9), false)⟩, ⟨(some (.E 11)), .bin .eql (.E 10) (ki (-1)), some ((.E 9), false)⟩, ⟨(some (.E 12)), .mv (.E 11), some ((.E 9), false)⟩, ⟨(some (.E 13)), .mv (.V 0), some ((.E 12), true)⟩, ⟨(some (.E 14)), .bin .eql (.E 13) (ki (-9223372036854775808)), some ((.E 12), true)⟩, ⟨(some (.E 15)), .pick (.E 12) (.E 14) (kb false), some ((.E 9), false)⟩, oE 16 (.pick (.E 9) (kb true) (.E 15))]) (.cond (.E 16) (.seq (.reg [oV 4 (.mv (ki 0)), oV 5 (.mv (kb false))]) .ret) .skip)) (.seq (.reg [oE 17 (.mv (.V 0)), oE 18 (.mv (.V 1)), oE 19 (.bin .quo (.E 17) (.E 18)), oV 6 (.mv (.E 19))]) (.seq (.seq (.reg [oE 20 (.mv (.V 0)), oE 21 (.mv (.V 1)), oE 22 (.bin .rem (.E 20) (.E 21)), oE 23 (.bin .neq (.E 22) (ki 0)), oE 24 (.mv (.E 23)), ⟨(some (.E 25)), .mv (.V 0), some ((.E 24), true)⟩, ⟨(some (.E 26)), .bin .lss (.E 25) (ki 0), some ((.E 24), true)⟩, ⟨(some (.E 27)), .mv (.V 1), some ((.E 24), true)⟩, ⟨(some (.E 28)), .bin .lss (.E 27) (ki 0), some ((.E 24), true)⟩, ⟨(some (.E 29)), .eqb true [.b] (.E 26) (.E 28), some ((.E 24), true)⟩, oE 30 (.pick (.E 24) (.E 29) (kb false))]) (.cond (.E 30) (.reg [oE 31 (.mv (.V 6)), oE 32 (.bin .sub (.E 31) (ki 1)), oV 6 (.mv (.E 32))]) .skip)) (.seq (.reg [oE 33 (.mv (.V 6)), oV 4 (.mv (.E 33)), oV 5 (.mv (kb true))]) .ret))))

def k_spec_FloorDiv_rv : List RV := [.tmp [0] 4, .tmp [0] 5]

def k_laws_toNode_vars : List Nat := [0, 1, 3, 2]

def k_laws_toNode_ic : IC := .seq (.reg [oV 1 (.box (.V 0)), oV 2 (.alloc [iv 0, iv 0, iv 0, iv 0, iv 0])]) (.seq (.reg [oV 3 (.alloc [iv 0, iv 0, iv 0, iv 0, iv 0])]) (.seq (.reg [oE 4 (.faddr 0 (.V 1)), oE 5 (.load false 1 (.E 4)), oE 6 (.faddr 0 (.V 3)), oN (.store [0] (.E 6) (.E 5))]) (.seq (.reg [oE 7 (.faddr 1 (.V 1)), oE 8 (.load false 1 (.E 7)), oE 9 (.faddr 1 (.V 3)), oN (.store [0] (.E 9) (.E 8))]) (.seq (.reg [oE 10 (.faddr 2 (.V 1)), oE 11 (.load false 1 (.E 10)), oE 12 (.faddr 2 (.V 3)), oN (.store [0] (.E 12) (.E 11))]) (.seq (.reg [oE 13 (.faddr 3 (.V 1)), oE 14 (.load false 1 (.E 13)), oE 15 (.faddr 3 (.V 3)), oN (.store [0] (.E 15) (.E 14))]) (.seq (.reg [oE 16 (.faddr 4 (.V 1)), oE 17 (.load false 1 (.E 16)), oE 18 (.faddr 4 (.V 3)), oN (.store [0] (.E 18) (.E 17))]) (.seq (.reg [oE 19 (.load true 5 (.V 3)), oN (.store [0, 0, 0, 0, 0] (.V 2) (.E 19))]) .ret)))))))

def k_laws_toNode_rv : List RV := [.cell [0, 0, 0, 0, 0] 2 true]

def k_impl_isLeaf_vars : List Nat := [0, 1, 2]

def k_impl_isLeaf_ic : IC := .seq (.reg [oV 1 (.box (.V 0)), oV 2 (.mv (kb false))]) (.seq (.reg [oE 3 (.faddr 0 (.V 1)), oE 4 (.load false 1 (.E 3)), oE 5 (.bin .eql (.E 4) (ki (-1))), oV 2 (.mv (.E 5))]) .ret)

def k_impl_isLeaf_rv : List RV := [.tmp [0] 2]

def k_impl_ConfigOk_vars : List Nat := [0, 1, 2]

def k_impl_ConfigOk_ic : IC := .seq (.reg [oV 1 (.box (.V 0)), oV 2 (.mv (kb false))]) (.seq (.reg [oE 3 (.faddr 0 (.V 1)), oE 4 (.load false 1 (.E 3)), oE 5 (.call k_impl_within [([0], (.E 4)), ([0], (ki 1)), ([0], (ki 8))]), oE 6 (.mv (.E 5)), ⟨(some (.E 7)), .faddr 1 (.V 1), some ((.E 6), true)⟩, ⟨(some (.E 8)), .load false 1 (.E 7), some ((.E 6), true)⟩, ⟨(some (.E 9)), .call k_impl_within [([0], (.E 8)), ([0], (ki 0)), ([0], (ki 4))], some ((.E 6), true)⟩, oE 10 (.pick (.E 6) (.E 9) (kb false)), oE 11 (.mv (.E 10)), ⟨(some (.E 12)), .faddr 2 (.V 1), some ((.E 11), true)⟩, ⟨(some (.E 13)), .load false 1 (.E 12), some ((.E 11), true)⟩, ⟨(some (.E 14)), .call k_impl_within [([0], (.E 13)), ([0], (ki 2)), ([0], (ki 8))], some ((.E 11), true)⟩, oE 15 (.pick (.E 11) (.E 14) (kb false)), oE 16 (.mv (.E 15)), ⟨(some (.E 17)), .faddr 3 (.V 1), some ((.E 16), true)⟩, ⟨(some (.E 18)), .load false 1 (.E 17), some ((.E 16), true)⟩, ⟨(some (.E 19)), .call k_impl_within [([0], (.E 18)), ([0], (ki 1)), ([0], (ki 100))], some ((.E 16), true)⟩, oE 20 (.pick (.E 16) (.E 19) (kb false)), oE 21 (.mv (.E 20)), ⟨(some (.E 22)), .faddr 4 (.V 1), some ((.E 21), true)⟩, ⟨(some (.E 23)), .load false 1 (.E 22), some ((.E 21), true)⟩, ⟨(some (.E 24)), .call k_impl_within [([0], (.E 23)), ([0], (ki 1)), ([0], (ki 20))], some ((.E 21), true)⟩, oE 25 (.pick (.E 21) (.E 24) (kb false)), oE 26 (.mv (.E 25)), ⟨(some (.E 27)), .faddr 6 (.V 1), some ((.E 26), true)⟩, ⟨(some (.E 28)), .load false 1 (.E 27), some ((.E 26), true)⟩, ⟨(some (.E 29)), .call k_impl_within [([0], (.E 28)), ([0], (ki 1)), ([0], (ki 1000))], some ((.E 26), true)⟩, oE 30 (.pick (.E 26) (.E 29) (kb false)), oE 31 (.mv (.E 30)), ⟨(some (.E 32)), .faddr 5 (.V 1), some ((.E 31), true)⟩, ⟨(some (.E 33)), .load false 1 (.E 32), some ((.E 31), true)⟩, ⟨(some (.E 34)), .faddr 6 (.V 1), some ((.E 31), true)⟩, ⟨(some (.E 35)), .load false 1 (.E 34), some ((.E 31), true)⟩, ⟨(some (.E 36)), .call k_impl_within [([0], (.E 33)), ([0], (ki 1)), ([0], (.E 35))], some ((.E 31), true)⟩, oE 37 (.pick (.E 31) (.E 36) (kb false)), oE 38 (.mv (.E 37)), ⟨(some (.E 39)), .faddr 7 (.V 1), some ((.E 38), true)⟩, ⟨(some (.E 40)), .load false 1 (.E 39), some ((.E 38), true)⟩, ⟨(some (.E 41)), .len (.E 40), some ((.E 38), true)⟩, ⟨(some (.E 42)), .bin .leq (.E 41) (ki 4), some ((.E 38), true)⟩, oE 43 (.pick (.E 38) (.E 42) (kb false)), oE 44 (.mv (.E 43)), ⟨(some (.E 45)), .faddr 7 (.V 1), some ((.E 44), true)⟩, ⟨(some (.E 46)), .load false 1 (.E 45), some ((.E 44), true)⟩, ⟨(some (.E 47)), .call k_slices_ContainsFunc___int_int_ [([1], (.E 46)), ([0], (.C (.fn k_impl_ConfigOk_1 [])))], some ((.E 44), true)⟩, ⟨(some (.E 48)), .un .not (.E 47), some ((.E 44), true)⟩, oE 49 (.pick (.E 44) (.E 48) (kb false)), oV 2 (.mv (.E 49))]) .ret)

def k_impl_ConfigOk_rv : List RV := [.tmp [0] 2]

def k_impl_isLeafValue_vars : List Nat := [0, 2]

def k_impl_isLeafValue_ic : IC := .seq (.reg [oV 2 (.mv (kb false))]) (.seq (.reg [oE 3 (.mv (.V 0)), oE 4 (.call k_impl_within [([0], (.E 3)), ([0], (ki (-1099511627776))), ([0], (ki 1099511627776))]), oV 2 (.mv (.E 4))]) .ret)

def k_impl_isLeafValue_rv : List RV := [.tmp [0] 2]

def k_impl_FloorDiv_vars : List Nat := [0, 1, 6, 4, 5]

def k_impl_FloorDiv_ic : IC := .seq (.reg [oV 4 (.mv (ki 0)), oV 5 (.mv (kb false))]) (.seq (.seq (.reg [oE 7 (.mv (.V 1)), oE 8 (.bin .eql (.E 7) (ki 0)), oE 9 (.mv (.E 8)), ⟨(some (.E 10)), .mv (.V 0), some ((.E 9), false)⟩, ⟨(some (.E 11)), .bin .eql (.E 10) (ki (-9223372036854775808)), some ((.E 9), false)⟩, ⟨(some (.E 12)), .mv (.E 11), some ((.E 9), false)⟩, ⟨(some (.E 13)), .mv (.V 1), some ((.E 12), true)⟩, ⟨(some (.E 14)), .bin .eql (.E 13) (ki (-1)), some ((.E 12), true)⟩, ⟨(some (.E 15)), .pick (.E 12) (.E 14) (kb false), some ((.E 9), false)⟩, oE 16 (.pick (.E 9) (kb true) (.E 15))]) (.cond (.E 16) (.seq (.reg [oV 4 (.mv (ki 0)), oV 5 (.mv (kb false))]) .ret) .skip)) (.seq (.reg [oE 17 (.mv (.V 0)), oE 18 (.mv (.V 1)), oE 19 (.bin .quo (.E 17) (.E 18)), oV 6 (.mv (.E 19))]) (.seq (.seq (.reg [oE 20 (.mv (.V 0)), oE 21 (.mv (.V 1)), oE 22 (.bin .rem (.E 20) (.E 21)), oE 23 (.bin .neq (.E 22) (ki 0)), oE 24 (.mv (.E 23)), ⟨(some (.E 25)), .mv (.V 0), some ((.E 24), true)⟩, ⟨(some (.E 26)), .bin .lss (.E 25) (ki 0), some ((.E 24), true)⟩, ⟨(some (.E 27)), .mv (.V 1), some ((.E 24), true)⟩, ⟨(some (.E 28)), .bin .lss (.E 27) (ki 0), some ((.E 24), true)⟩, ⟨(some (.E 29)), .eqb true [.b] (.E 26) (.E 28), some ((.E 24), true)⟩, oE 30 (.pick (.E 24) (.E 29) (kb false))]) (.cond (.E 30) (.reg [oE 31 (.mv (.V 6)), oE 32 (.bin .sub (.E 31) (ki 1)), oV 6 (.mv (.E 32))]) .skip)) (.seq (.reg [oE 33 (.mv (.V 6)), oV 4 (.mv (.E 33)), oV 5 (.mv (kb true))]) .ret))))

def k_impl_FloorDiv_rv : List RV := [.tmp [0] 4, .tmp [0] 5]

def k_laws_eqNode_vars : List Nat := [0, 1, 2, 3, 4]

def k_laws_eqNode_ic : IC := .seq (.reg [oV 2 (.box (.V 0)), oV 3 (.box (.V 1)), oV 4 (.mv (kb false))]) (.seq (.seq (.reg [oE 5 (.faddr 0 (.V 2)), oE 6 (.load false 1 (.E 5)), oE 7 (.faddr 0 (.V 3)), oE 8 (.load false 1 (.E 7)), oE 9 (.bin .neq (.E 6) (.E 8))]) (.cond (.E 9) (.seq (.reg [oV 4 (.mv (kb false))]) .ret) .skip)) (.seq (.seq (.reg [oE 10 (.faddr 1 (.V 2)), oE 11 (.load false 1 (.E 10)), oE 12 (.faddr 1 (.V 3)), oE 13 (.load false 1 (.E 12)), oE 14 (.bin .neq (.E 11) (.E 13))]) (.cond (.E 14) (.seq (.reg [oV 4 (.mv (kb false))]) .ret) .skip)) (.seq (.seq (.reg [oE 15 (.faddr 2 (.V 2)), oE 16 (.load false 1 (.E 15)), oE 17 (.faddr 2 (.V 3)), oE 18 (.load false 1 (.E 17)), oE 19 (.bin .neq (.E 16) (.E 18))]) (.cond (.E 19) (.seq (.reg [oV 4 (.mv (kb false))]) .ret) .skip)) (.seq (.seq (.reg [oE 20 (.faddr 3 (.V 2)), oE 21 (.load false 1 (.E 20)), oE 22 (.faddr 3 (.V 3)), oE 23 (.load false 1 (.E 22)), oE 24 (.bin .neq (.E 21) (.E 23))]) (.cond (.E 24) (.seq (.reg [oV 4 (.mv (kb false))]) .ret) .skip)) (.seq (.seq (.reg [oE 25 (.faddr 4 (.V 2)), oE 26 (.load false 1 (.E 25)), oE 27 (.faddr 4 (.V 3)), oE 28 (.load false 1 (.E 27)), oE 29 (.bin .neq (.E 26) (.E 28))]) (.cond (.E 29) (.seq (.reg [oV 4 (.mv (kb false))]) .ret) .skip)) (.seq (.reg [oV 4 (.mv (kb true))]) .ret))))))

def k_laws_eqNode_rv : List RV := [.tmp [0] 4]

def k_slices_IndexFunc___int_int__vars : List Nat := [0, 1, 8, 7, 5, 4]

def k_slices_IndexFunc___int_int__b0 : IC := .seq (.reg [oE 9 (.bin .lss (.V 8) (.V 7))]) (.seq (.cond (.E 9) .skip (.exit 0)) (.seq (.block 1 (.seq (.reg [oE 10 (.mv (.V 8)), oV 5 (.mv (.E 10))]) (.seq (.reg [oE 11 (.mv (.V 1)), oE 12 (.mv (.V 0)), oE 13 (.mv (.V 5)), oE 14 (.iaddr 1 (.E 12) (.E 13)), oE 15 (.load false 1 (.E 14)), oE 16 (.callv (.E 11) [([0], (.E 15))])]) (.cond (.E 16) (.seq (.reg [oE 17 (.mv (.V 5)), oV 4 (.mv (.E 17))]) .ret) .skip)))) (.reg [oE 18 (.bin .add (.V 8) (ki 1)), oV 8 (.mv (.E 18))])))

def k_slices_IndexFunc___int_int__ic : IC := .seq (.reg [oV 4 (.mv (ki 0))]) (.seq (.seq (.reg [oE 6 (.mv (.V 0)), oV 7 (.len (.E 6)), oV 8 (.mv (ki 0))]) (.block 0 (.loop k_slices_IndexFunc___int_int__b0))) (.seq (.reg [oV 4 (.mv (ki (-1)))]) .ret))

def k_slices_IndexFunc___int_int__rv : List RV := [.tmp [0] 4]

def k_spec_l8Numbers_vars : List Nat := [0, 1, 2]

def k_spec_l8Numbers_ic : IC := .seq (.reg [oV 1 (.box (.V 0)), oV 2 (.mv (.C .e0))]) (.seq (.reg [oE 3 (.faddr 0 (.V 1)), oE 4 (.load false 1 (.E 3)), oE 5 (.faddr 1 (.V 1)), oE 6 (.load false 1 (.E 5)), oE 7 (.faddr 2 (.V 1)), oE 8 (.load false 1 (.E 7)), oE 9 (.faddr 3 (.V 1)), oE 10 (.load false 1 (.E 9)), oE 11 (.faddr 4 (.V 1)), oE 12 (.load false 1 (.E 11)), oE 13 (.bslice 5 1 [iv 0] [(0, (.E 4)), (1, (.E 6)), (2, (.E 8)), (3, (.E 10)), (4, (.E 12))]), oV 2 (.mv (.E 13))]) .ret)

def k_spec_l8Numbers_rv : List RV := [.tmp [1] 2]

def k_spec_l8Least_vars : List Nat := [0]

def k_spec_l8Least_ic : IC := .seq (.reg [oV 0 (.mv (.C .e0))]) (.seq (.reg [oE 1 (.bslice 5 1 [iv 0] [(0, (ki 1)), (1, (ki 0)), (2, (ki 2)), (3, (ki 1)), (4, (ki 1))]), oV 0 (.mv (.E 1))]) .ret)

def k_spec_l8Least_rv : List RV := [.tmp [1] 0]

def k_spec_l8Most_vars : List Nat := [0]

def k_spec_l8Most_ic : IC := .seq (.reg [oV 0 (.mv (.C .e0))]) (.seq (.reg [oE 1 (.bslice 5 1 [iv 0] [(0, (ki 8)), (1, (ki 4)), (2, (ki 8)), (3, (ki 100)), (4, (ki 20))]), oV 0 (.mv (.E 1))]) .ret)

def k_spec_l8Most_rv : List RV := [.tmp [1] 0]

def k_impl_ConfigOk_1_vars : List Nat := [0, 2]

def k_impl_ConfigOk_1_ic : IC := .seq (.reg [oV 2 (.mv (kb false))]) (.seq (.reg [oE 3 (.mv (.V 0)), oE 4 (.call k_impl_isSign [([0], (.E 3))]), oE 5 (.un .not (.E 4)), oV 2 (.mv (.E 5))]) .ret)

def k_impl_ConfigOk_1_rv : List RV := [.tmp [0] 2]

def tbl : List (Nat × Fun) := [
  (k_laws_FnExactShrunkTree, fnOf k_laws_FnExactShrunkTree_ic k_laws_FnExactShrunkTree_rv []),
  (k_laws_szTree, fnOf k_laws_szTree_ic k_laws_szTree_rv []),
  (k_laws_szConfig, fnOf k_laws_szConfig_ic k_laws_szConfig_rv []),
  (k_spec_ShrunkTree, fnOf k_spec_ShrunkTree_ic k_spec_ShrunkTree_rv []),
  (k_laws_toTree, fnOf k_laws_toTree_ic k_laws_toTree_rv []),
  (k_laws_toConfig, fnOf k_laws_toConfig_ic k_laws_toConfig_rv []),
  (k_impl_ShrunkTree, fnOf k_impl_ShrunkTree_ic k_impl_ShrunkTree_rv []),
  (k_laws_eqTree, fnOf k_laws_eqTree_ic k_laws_eqTree_rv []),
  (k_laws_eqConfig, fnOf k_laws_eqConfig_ic k_laws_eqConfig_rv []),
  (k_laws_markTree, fnOf k_laws_markTree_ic k_laws_markTree_rv [true]),
  (k_laws_markConfig, fnOf k_laws_markConfig_ic k_laws_markConfig_rv [true]),
  (k_laws_heldTree, fnOf k_laws_heldTree_ic k_laws_heldTree_rv []),
  (k_laws_toIntS, fnOf k_laws_toIntS_ic k_laws_toIntS_rv []),
  (k_laws_eqIntS, fnOf k_laws_eqIntS_ic k_laws_eqIntS_rv []),
  (k_laws_markIntS, fnOf k_laws_markIntS_ic k_laws_markIntS_rv [true]),
  (k_laws_szIntS, fnOf k_laws_szIntS_ic k_laws_szIntS_rv []),
  (k_laws_szNodeS, fnOf k_laws_szNodeS_ic k_laws_szNodeS_rv []),
  (k_spec_l17Copy, fnOf k_spec_l17Copy_ic k_spec_l17Copy_rv []),
  (k_spec_l17Inner, fnOf k_spec_l17Inner_ic k_spec_l17Inner_rv []),
  (k_spec_Shrunk, fnOf k_spec_Shrunk_ic k_spec_Shrunk_rv []),
  (k_laws_toNodeS, fnOf k_laws_toNodeS_ic k_laws_toNodeS_rv []),
  (k_impl_copyTree, fnOf k_impl_copyTree_ic k_impl_copyTree_rv []),
  (k_impl_LeavesOf, fnOf k_impl_LeavesOf_ic k_impl_LeavesOf_rv []),
  (k_impl_Shrunk, fnOf k_impl_Shrunk_ic k_impl_Shrunk_rv []),
  (k_laws_eqNodeS, fnOf k_laws_eqNodeS_ic k_laws_eqNodeS_rv []),
  (k_laws_markNodeS, fnOf k_laws_markNodeS_ic k_laws_markNodeS_rv [true]),
  (k_laws_heldNodeS, fnOf k_laws_heldNodeS_ic k_laws_heldNodeS_rv []),
  (k_spec_l1In, fnOf k_spec_l1In_ic k_spec_l1In_rv []),
  (k_impl_within, fnOf k_impl_within_ic k_impl_within_rv []),
  (k_slices_ContainsFunc___int_int_, fnOf k_slices_ContainsFunc___int_int__ic k_slices_ContainsFunc___int_int__rv []),
  (k_impl_isSign, fnOf k_impl_isSign_ic k_impl_isSign_rv []),
  (k_spec_ConfigOk, fnOf k_spec_ConfigOk_ic k_spec_ConfigOk_rv []),
  (k_spec_l14Leaf, fnOf k_spec_l14Leaf_ic k_spec_l14Leaf_rv []),
  (k_spec_FloorDiv, fnOf k_spec_FloorDiv_ic k_spec_FloorDiv_rv []),
  (k_laws_toNode, fnOf k_laws_toNode_ic k_laws_toNode_rv []),
  (k_slices_Clone___impl_Node_impl_Node_, .known [] (cloneG 5 40)),
  (k_impl_isLeaf, fnOf k_impl_isLeaf_ic k_impl_isLeaf_rv []),
  (k_impl_ConfigOk, fnOf k_impl_ConfigOk_ic k_impl_ConfigOk_rv []),
  (k_impl_isLeafValue, fnOf k_impl_isLeafValue_ic k_impl_isLeafValue_rv []),
  (k_impl_FloorDiv, fnOf k_impl_FloorDiv_ic k_impl_FloorDiv_rv []),
  (k_laws_eqNode, fnOf k_laws_eqNode_ic k_laws_eqNode_rv []),
  (k_slices_IndexFunc___int_int_, fnOf k_slices_IndexFunc___int_int__ic k_slices_IndexFunc___int_int__rv []),
  (k_spec_l8Numbers, fnOf k_spec_l8Numbers_ic k_spec_l8Numbers_rv []),
  (k_spec_l8Least, fnOf k_spec_l8Least_ic k_spec_l8Least_rv []),
  (k_spec_l8Most, fnOf k_spec_l8Most_ic k_spec_l8Most_rv []),
  (k_impl_ConfigOk_1, fnOf k_impl_ConfigOk_1_ic k_impl_ConfigOk_1_rv [])]

def T : Table := fun f => (tbl.find? fun q => q.1 == f).map fun q => q.2

theorem T_laws_FnExactShrunkTree : T k_laws_FnExactShrunkTree = some (fnOf k_laws_FnExactShrunkTree_ic k_laws_FnExactShrunkTree_rv []) := rfl

@[simp] theorem M_laws_FnExactShrunkTree : modesOf T k_laws_FnExactShrunkTree = [] := modesOf_code T_laws_FnExactShrunkTree

theorem T_laws_szTree : T k_laws_szTree = some (fnOf k_laws_szTree_ic k_laws_szTree_rv []) := rfl

@[simp] theorem M_laws_szTree : modesOf T k_laws_szTree = [] := modesOf_code T_laws_szTree

theorem T_laws_szConfig : T k_laws_szConfig = some (fnOf k_laws_szConfig_ic k_laws_szConfig_rv []) := rfl

@[simp] theorem M_laws_szConfig : modesOf T k_laws_szConfig = [] := modesOf_code T_laws_szConfig

theorem T_spec_ShrunkTree : T k_spec_ShrunkTree = some (fnOf k_spec_ShrunkTree_ic k_spec_ShrunkTree_rv []) := rfl

@[simp] theorem M_spec_ShrunkTree : modesOf T k_spec_ShrunkTree = [] := modesOf_code T_spec_ShrunkTree

theorem T_laws_toTree : T k_laws_toTree = some (fnOf k_laws_toTree_ic k_laws_toTree_rv []) := rfl

@[simp] theorem M_laws_toTree : modesOf T k_laws_toTree = [] := modesOf_code T_laws_toTree

theorem T_laws_toConfig : T k_laws_toConfig = some (fnOf k_laws_toConfig_ic k_laws_toConfig_rv []) := rfl

@[simp] theorem M_laws_toConfig : modesOf T k_laws_toConfig = [] := modesOf_code T_laws_toConfig

theorem T_impl_ShrunkTree : T k_impl_ShrunkTree = some (fnOf k_impl_ShrunkTree_ic k_impl_ShrunkTree_rv []) := rfl

@[simp] theorem M_impl_ShrunkTree : modesOf T k_impl_ShrunkTree = [] := modesOf_code T_impl_ShrunkTree

theorem T_laws_eqTree : T k_laws_eqTree = some (fnOf k_laws_eqTree_ic k_laws_eqTree_rv []) := rfl

@[simp] theorem M_laws_eqTree : modesOf T k_laws_eqTree = [] := modesOf_code T_laws_eqTree

theorem T_laws_eqConfig : T k_laws_eqConfig = some (fnOf k_laws_eqConfig_ic k_laws_eqConfig_rv []) := rfl

@[simp] theorem M_laws_eqConfig : modesOf T k_laws_eqConfig = [] := modesOf_code T_laws_eqConfig

theorem T_laws_markTree : T k_laws_markTree = some (fnOf k_laws_markTree_ic k_laws_markTree_rv [true]) := rfl

@[simp] theorem M_laws_markTree : modesOf T k_laws_markTree = [true] := modesOf_code T_laws_markTree

theorem T_laws_markConfig : T k_laws_markConfig = some (fnOf k_laws_markConfig_ic k_laws_markConfig_rv [true]) := rfl

@[simp] theorem M_laws_markConfig : modesOf T k_laws_markConfig = [true] := modesOf_code T_laws_markConfig

theorem T_laws_heldTree : T k_laws_heldTree = some (fnOf k_laws_heldTree_ic k_laws_heldTree_rv []) := rfl

@[simp] theorem M_laws_heldTree : modesOf T k_laws_heldTree = [] := modesOf_code T_laws_heldTree

theorem T_laws_toIntS : T k_laws_toIntS = some (fnOf k_laws_toIntS_ic k_laws_toIntS_rv []) := rfl

@[simp] theorem M_laws_toIntS : modesOf T k_laws_toIntS = [] := modesOf_code T_laws_toIntS

theorem T_laws_eqIntS : T k_laws_eqIntS = some (fnOf k_laws_eqIntS_ic k_laws_eqIntS_rv []) := rfl

@[simp] theorem M_laws_eqIntS : modesOf T k_laws_eqIntS = [] := modesOf_code T_laws_eqIntS

theorem T_laws_markIntS : T k_laws_markIntS = some (fnOf k_laws_markIntS_ic k_laws_markIntS_rv [true]) := rfl

@[simp] theorem M_laws_markIntS : modesOf T k_laws_markIntS = [true] := modesOf_code T_laws_markIntS

theorem T_laws_szIntS : T k_laws_szIntS = some (fnOf k_laws_szIntS_ic k_laws_szIntS_rv []) := rfl

@[simp] theorem M_laws_szIntS : modesOf T k_laws_szIntS = [] := modesOf_code T_laws_szIntS

theorem T_laws_szNodeS : T k_laws_szNodeS = some (fnOf k_laws_szNodeS_ic k_laws_szNodeS_rv []) := rfl

@[simp] theorem M_laws_szNodeS : modesOf T k_laws_szNodeS = [] := modesOf_code T_laws_szNodeS

theorem T_spec_l17Copy : T k_spec_l17Copy = some (fnOf k_spec_l17Copy_ic k_spec_l17Copy_rv []) := rfl

@[simp] theorem M_spec_l17Copy : modesOf T k_spec_l17Copy = [] := modesOf_code T_spec_l17Copy

theorem T_spec_l17Inner : T k_spec_l17Inner = some (fnOf k_spec_l17Inner_ic k_spec_l17Inner_rv []) := rfl

@[simp] theorem M_spec_l17Inner : modesOf T k_spec_l17Inner = [] := modesOf_code T_spec_l17Inner

theorem T_spec_Shrunk : T k_spec_Shrunk = some (fnOf k_spec_Shrunk_ic k_spec_Shrunk_rv []) := rfl

@[simp] theorem M_spec_Shrunk : modesOf T k_spec_Shrunk = [] := modesOf_code T_spec_Shrunk

theorem T_laws_toNodeS : T k_laws_toNodeS = some (fnOf k_laws_toNodeS_ic k_laws_toNodeS_rv []) := rfl

@[simp] theorem M_laws_toNodeS : modesOf T k_laws_toNodeS = [] := modesOf_code T_laws_toNodeS

theorem T_impl_copyTree : T k_impl_copyTree = some (fnOf k_impl_copyTree_ic k_impl_copyTree_rv []) := rfl

@[simp] theorem M_impl_copyTree : modesOf T k_impl_copyTree = [] := modesOf_code T_impl_copyTree

theorem T_impl_LeavesOf : T k_impl_LeavesOf = some (fnOf k_impl_LeavesOf_ic k_impl_LeavesOf_rv []) := rfl

@[simp] theorem M_impl_LeavesOf : modesOf T k_impl_LeavesOf = [] := modesOf_code T_impl_LeavesOf

theorem T_impl_Shrunk : T k_impl_Shrunk = some (fnOf k_impl_Shrunk_ic k_impl_Shrunk_rv []) := rfl

@[simp] theorem M_impl_Shrunk : modesOf T k_impl_Shrunk = [] := modesOf_code T_impl_Shrunk

theorem T_laws_eqNodeS : T k_laws_eqNodeS = some (fnOf k_laws_eqNodeS_ic k_laws_eqNodeS_rv []) := rfl

@[simp] theorem M_laws_eqNodeS : modesOf T k_laws_eqNodeS = [] := modesOf_code T_laws_eqNodeS

theorem T_laws_markNodeS : T k_laws_markNodeS = some (fnOf k_laws_markNodeS_ic k_laws_markNodeS_rv [true]) := rfl

@[simp] theorem M_laws_markNodeS : modesOf T k_laws_markNodeS = [true] := modesOf_code T_laws_markNodeS

theorem T_laws_heldNodeS : T k_laws_heldNodeS = some (fnOf k_laws_heldNodeS_ic k_laws_heldNodeS_rv []) := rfl

@[simp] theorem M_laws_heldNodeS : modesOf T k_laws_heldNodeS = [] := modesOf_code T_laws_heldNodeS

theorem T_spec_l1In : T k_spec_l1In = some (fnOf k_spec_l1In_ic k_spec_l1In_rv []) := rfl

@[simp] theorem M_spec_l1In : modesOf T k_spec_l1In = [] := modesOf_code T_spec_l1In

theorem T_impl_within : T k_impl_within = some (fnOf k_impl_within_ic k_impl_within_rv []) := rfl

@[simp] theorem M_impl_within : modesOf T k_impl_within = [] := modesOf_code T_impl_within

theorem T_slices_ContainsFunc___int_int_ : T k_slices_ContainsFunc___int_int_ = some (fnOf k_slices_ContainsFunc___int_int__ic k_slices_ContainsFunc___int_int__rv []) := rfl

@[simp] theorem M_slices_ContainsFunc___int_int_ : modesOf T k_slices_ContainsFunc___int_int_ = [] := modesOf_code T_slices_ContainsFunc___int_int_

theorem T_impl_isSign : T k_impl_isSign = some (fnOf k_impl_isSign_ic k_impl_isSign_rv []) := rfl

@[simp] theorem M_impl_isSign : modesOf T k_impl_isSign = [] := modesOf_code T_impl_isSign

theorem T_spec_ConfigOk : T k_spec_ConfigOk = some (fnOf k_spec_ConfigOk_ic k_spec_ConfigOk_rv []) := rfl

@[simp] theorem M_spec_ConfigOk : modesOf T k_spec_ConfigOk = [] := modesOf_code T_spec_ConfigOk

theorem T_spec_l14Leaf : T k_spec_l14Leaf = some (fnOf k_spec_l14Leaf_ic k_spec_l14Leaf_rv []) := rfl

@[simp] theorem M_spec_l14Leaf : modesOf T k_spec_l14Leaf = [] := modesOf_code T_spec_l14Leaf

theorem T_spec_FloorDiv : T k_spec_FloorDiv = some (fnOf k_spec_FloorDiv_ic k_spec_FloorDiv_rv []) := rfl

@[simp] theorem M_spec_FloorDiv : modesOf T k_spec_FloorDiv = [] := modesOf_code T_spec_FloorDiv

theorem T_laws_toNode : T k_laws_toNode = some (fnOf k_laws_toNode_ic k_laws_toNode_rv []) := rfl

@[simp] theorem M_laws_toNode : modesOf T k_laws_toNode = [] := modesOf_code T_laws_toNode

theorem T_slices_Clone___impl_Node_impl_Node_ : T k_slices_Clone___impl_Node_impl_Node_ = some (.known [] (cloneG 5 40)) := rfl

@[simp] theorem M_slices_Clone___impl_Node_impl_Node_ : modesOf T k_slices_Clone___impl_Node_impl_Node_ = [] := modesOf_known T_slices_Clone___impl_Node_impl_Node_

theorem T_impl_isLeaf : T k_impl_isLeaf = some (fnOf k_impl_isLeaf_ic k_impl_isLeaf_rv []) := rfl

@[simp] theorem M_impl_isLeaf : modesOf T k_impl_isLeaf = [] := modesOf_code T_impl_isLeaf

theorem T_impl_ConfigOk : T k_impl_ConfigOk = some (fnOf k_impl_ConfigOk_ic k_impl_ConfigOk_rv []) := rfl

@[simp] theorem M_impl_ConfigOk : modesOf T k_impl_ConfigOk = [] := modesOf_code T_impl_ConfigOk

theorem T_impl_isLeafValue : T k_impl_isLeafValue = some (fnOf k_impl_isLeafValue_ic k_impl_isLeafValue_rv []) := rfl

@[simp] theorem M_impl_isLeafValue : modesOf T k_impl_isLeafValue = [] := modesOf_code T_impl_isLeafValue

theorem T_impl_FloorDiv : T k_impl_FloorDiv = some (fnOf k_impl_FloorDiv_ic k_impl_FloorDiv_rv []) := rfl

@[simp] theorem M_impl_FloorDiv : modesOf T k_impl_FloorDiv = [] := modesOf_code T_impl_FloorDiv

theorem T_laws_eqNode : T k_laws_eqNode = some (fnOf k_laws_eqNode_ic k_laws_eqNode_rv []) := rfl

@[simp] theorem M_laws_eqNode : modesOf T k_laws_eqNode = [] := modesOf_code T_laws_eqNode

theorem T_slices_IndexFunc___int_int_ : T k_slices_IndexFunc___int_int_ = some (fnOf k_slices_IndexFunc___int_int__ic k_slices_IndexFunc___int_int__rv []) := rfl

@[simp] theorem M_slices_IndexFunc___int_int_ : modesOf T k_slices_IndexFunc___int_int_ = [] := modesOf_code T_slices_IndexFunc___int_int_

theorem T_spec_l8Numbers : T k_spec_l8Numbers = some (fnOf k_spec_l8Numbers_ic k_spec_l8Numbers_rv []) := rfl

@[simp] theorem M_spec_l8Numbers : modesOf T k_spec_l8Numbers = [] := modesOf_code T_spec_l8Numbers

theorem T_spec_l8Least : T k_spec_l8Least = some (fnOf k_spec_l8Least_ic k_spec_l8Least_rv []) := rfl

@[simp] theorem M_spec_l8Least : modesOf T k_spec_l8Least = [] := modesOf_code T_spec_l8Least

theorem T_spec_l8Most : T k_spec_l8Most = some (fnOf k_spec_l8Most_ic k_spec_l8Most_rv []) := rfl

@[simp] theorem M_spec_l8Most : modesOf T k_spec_l8Most = [] := modesOf_code T_spec_l8Most

theorem T_impl_ConfigOk_1 : T k_impl_ConfigOk_1 = some (fnOf k_impl_ConfigOk_1_ic k_impl_ConfigOk_1_rv []) := rfl

@[simp] theorem M_impl_ConfigOk_1 : modesOf T k_impl_ConfigOk_1 = [] := modesOf_code T_impl_ConfigOk_1

end Go.Pe
