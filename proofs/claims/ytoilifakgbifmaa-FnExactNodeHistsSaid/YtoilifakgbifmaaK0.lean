/- The compact texts of the functions that the law reaches; no condition. -/
import Derived.Test.YtoilifakgbifmaaEvA0
set_option linter.all false
namespace Go.Pe
open Go
def k_laws_FnExactNodeHists : Nat := 5

def k_laws_szGrid : Nat := 30

def k_spec_NodeHists : Nat := 31

def k_laws_toGrid : Nat := 32

def k_laws_toIntS : Nat := 33

def k_impl_NodeHists : Nat := 34

def k_laws_eqSlotSS : Nat := 35

def k_laws_eqGrid : Nat := 36

def k_laws_eqIntS : Nat := 37

def k_laws_markGrid : Nat := 38

def k_laws_markIntS : Nat := 39

def k_laws_markSlotSS : Nat := 40

def k_laws_heldSlotSS : Nat := 41

def k_laws_szIntSS : Nat := 63

def k_laws_toIntSS : Nat := 65

def k_laws_eqIntSS : Nat := 67

def k_laws_markIntSS : Nat := 69

def k_laws_szIntS : Nat := 75

def k_spec_GridOk : Nat := 99

def k_spec_HistOf : Nat := 100

def k_impl_GridOk : Nat := 101

def k_impl_HistOf : Nat := 102

def k_laws_eqSlotS : Nat := 103

def k_laws_markSlotS : Nat := 104

def k_laws_heldSlotS : Nat := 105

def k_spec_l1In : Nat := 106

def k_spec_l6Value : Nat := 107

def k_impl_within : Nat := 111

def k_slices_ContainsFunc___int_int_ : Nat := 113

def k_impl_isDecimal : Nat := 116

def k_spec_RowsIn : Nat := 156

def k_spec_CutsOk : Nat := 157

def k_spec_l13Add : Nat := 158

def k_impl_RowsIn : Nat := 159

def k_impl_CutsOk : Nat := 160

def k_impl_GridOk_1 : Nat := 161

def k__impl_Slot__plus : Nat := 162

def k_laws_eqSlot : Nat := 163

def k_slices_IndexFunc___int_int_ : Nat := 169

def k_spec_AddInt : Nat := 174

def k_impl_areDecimals : Nat := 176

def k_impl_AddInt : Nat := 179

def k_impl_areDecimals_1 : Nat := 214

def k_laws_FnExactNodeHists_vars : List Nat := [0, 1, 2, 3, 7, 10, 11, 12, 13, 8, 14, 9, 15, 16, 17, 18, 19, 6]

def k_laws_FnExactNodeHists_ic : IC :=
 .seq (.reg [⟨(some (.V 3)), .box (.V 0), none⟩,
   ⟨(some (.V 6)), .mv (kb false), none⟩])
 (.seq (.seq (.reg [⟨(some (.E 20)), .mv (.V 1), none⟩,
   ⟨(some (.E 21)), .len (.E 20), none⟩,
   ⟨(some (.E 22)), .bin .gtr (.E 21) (ki 1048576), none⟩])
 (.cond (.E 22)
  (.seq (.reg [⟨(some (.V 6)), .mv (kb true), none⟩])
  (.ret))
  (.skip)))
 (.seq (.seq (.reg [⟨(some (.E 23)), .mv (.V 2), none⟩,
   ⟨(some (.E 24)), .len (.E 23), none⟩,
   ⟨(some (.E 25)), .bin .gtr (.E 24) (ki 1048576), none⟩])
 (.cond (.E 25)
  (.seq (.reg [⟨(some (.V 6)), .mv (kb true), none⟩])
  (.ret))
  (.skip)))
 (.seq (.reg [⟨(some (.V 7)), .mv (ki 1048576), none⟩])
 (.seq (.reg [⟨(some (.E 26)), .load true 2 (.V 3), none⟩,
   ⟨(some (.E 27)), .mv (.V 7), none⟩,
   ⟨(some (.E 28)), .call k_laws_szGrid [([1, 1], (.E 26)), ([0], (.E 27))], none⟩,
   ⟨(some (.V 7)), .mv (.E 28), none⟩])
 (.seq (.seq (.reg [⟨(some (.E 29)), .mv (.V 7), none⟩,
   ⟨(some (.E 30)), .bin .lss (.E 29) (ki 0), none⟩])
 (.cond (.E 30)
  (.seq (.reg [⟨(some (.V 6)), .mv (kb true), none⟩])
  (.ret))
  (.skip)))
 (.seq (.reg [⟨(some (.E 32)), .load true 2 (.V 3), none⟩,
   ⟨(some (.E 33)), .call k_laws_toGrid [([1, 1], (.E 32))], none⟩,
   ⟨(some (.E 34)), .mv (.V 1), none⟩,
   ⟨(some (.E 35)), .call k_laws_toIntS [([1], (.E 34))], none⟩,
   ⟨(some (.E 36)), .mv (.V 2), none⟩,
   ⟨(some (.E 37)), .call k_laws_toIntS [([1], (.E 36))], none⟩,
   ⟨(some (.E 38)), .call k_spec_NodeHists [([1, 1], (.E 33)), ([1], (.E 35)), ([1], (.E 37))], none⟩,
   ⟨(some (.E 31)), .mv (.E 38), none⟩,
   ⟨(some (.E 39)), .ext 0 (.E 31), none⟩,
   ⟨(some (.E 40)), .ext 1 (.E 31), none⟩,
   ⟨(some (.V 8)), .mv (.E 39), none⟩,
   ⟨(some (.V 9)), .mv (.E 40), none⟩])
 (.seq (.reg [⟨(some (.E 41)), .load true 2 (.V 3), none⟩,
   ⟨(some (.E 42)), .call k_laws_toGrid [([1, 1], (.E 41))], none⟩,
   ⟨(some (.V 10)), .alloc [.e0, .e0], none⟩,
   ⟨none, .store [1, 1] (.V 10) (.E 42), none⟩])
 (.seq (.reg [⟨(some (.E 43)), .mv (.V 1), none⟩,
   ⟨(some (.E 44)), .call k_laws_toIntS [([1], (.E 43))], none⟩,
   ⟨(some (.V 11)), .mv (.E 44), none⟩])
 (.seq (.reg [⟨(some (.E 45)), .mv (.V 2), none⟩,
   ⟨(some (.E 46)), .call k_laws_toIntS [([1], (.E 45))], none⟩,
   ⟨(some (.V 12)), .mv (.E 46), none⟩])
 (.seq (.reg [⟨(some (.E 48)), .load true 2 (.V 10), none⟩,
   ⟨(some (.E 49)), .mv (.V 11), none⟩,
   ⟨(some (.E 50)), .mv (.V 12), none⟩,
   ⟨(some (.E 51)), .call k_impl_NodeHists [([1, 1], (.E 48)), ([1], (.E 49)), ([1], (.E 50))], none⟩,
   ⟨(some (.E 47)), .mv (.E 51), none⟩,
   ⟨(some (.E 52)), .ext 0 (.E 47), none⟩,
   ⟨(some (.E 53)), .ext 1 (.E 47), none⟩,
   ⟨(some (.V 13)), .mv (.E 52), none⟩,
   ⟨(some (.V 14)), .mv (.E 53), none⟩])
 (.seq (.seq (.reg [⟨(some (.E 54)), .mv (.V 13), none⟩,
   ⟨(some (.E 55)), .mv (.V 8), none⟩,
   ⟨(some (.E 56)), .call k_laws_eqSlotSS [([1], (.E 54)), ([1], (.E 55))], none⟩,
   ⟨(some (.E 57)), .un .not (.E 56), none⟩,
   ⟨(some (.E 58)), .mv (.E 57), none⟩,
   ⟨(some (.E 59)), .mv (.V 14), some ((.E 58), false)⟩,
   ⟨(some (.E 60)), .mv (.V 9), some ((.E 58), false)⟩,
   ⟨(some (.E 61)), .eqb true [.b] (.E 59) (.E 60), some ((.E 58), false)⟩,
   ⟨(some (.E 62)), .pick (.E 58) (kb true) (.E 61), none⟩])
 (.cond (.E 62)
  (.seq (.reg [⟨(some (.V 6)), .mv (kb false), none⟩])
  (.ret))
  (.skip)))
 (.seq (.seq (.regD [(⟨(some (.E 63)), .load true 2 (.V 10), none⟩, 0, 1),
   (⟨(some (.E 64)), .load true 2 (.V 3), none⟩, 0, 0),
   (⟨(some (.E 65)), .call k_laws_toGrid [([1, 1], (.E 64))], none⟩, 0, 0),
   (⟨(some (.E 66)), .call k_laws_eqGrid [([1, 1], (.E 63)), ([1, 1], (.E 65))], none⟩, 0, 0),
   (⟨(some (.E 67)), .un .not (.E 66), none⟩, 0, 0)])
 (.cond (.E 67)
  (.seq (.reg [⟨(some (.V 6)), .mv (kb false), none⟩])
  (.ret))
  (.skip)))
 (.seq (.seq (.reg [⟨(some (.E 68)), .mv (.V 11), none⟩,
   ⟨(some (.E 69)), .mv (.V 1), none⟩,
   ⟨(some (.E 70)), .call k_laws_toIntS [([1], (.E 69))], none⟩,
   ⟨(some (.E 71)), .call k_laws_eqIntS [([1], (.E 68)), ([1], (.E 70))], none⟩,
   ⟨(some (.E 72)), .un .not (.E 71), none⟩])
 (.cond (.E 72)
  (.seq (.reg [⟨(some (.V 6)), .mv (kb false), none⟩])
  (.ret))
  (.skip)))
 (.seq (.seq (.reg [⟨(some (.E 73)), .mv (.V 12), none⟩,
   ⟨(some (.E 74)), .mv (.V 2), none⟩,
   ⟨(some (.E 75)), .call k_laws_toIntS [([1], (.E 74))], none⟩,
   ⟨(some (.E 76)), .call k_laws_eqIntS [([1], (.E 73)), ([1], (.E 75))], none⟩,
   ⟨(some (.E 77)), .un .not (.E 76), none⟩])
 (.cond (.E 77)
  (.seq (.reg [⟨(some (.V 6)), .mv (kb false), none⟩])
  (.ret))
  (.skip)))
 (.seq (.reg [⟨(some (.V 15)), .mv (ki 1), none⟩])
 (.seq (.reg [⟨(some (.E 78)), .load true 2 (.V 10), none⟩,
   ⟨(some (.E 79)), .mv (.V 15), none⟩,
   ⟨(some (.E 80)), .call k_laws_markGrid [([1, 1], (.E 78)), ([0], (.E 79))], none⟩,
   ⟨(some (.V 15)), .mv (.E 80), none⟩])
 (.seq (.reg [⟨(some (.E 81)), .mv (.V 11), none⟩,
   ⟨(some (.E 82)), .mv (.V 15), none⟩,
   ⟨(some (.E 83)), .call k_laws_markIntS [([1], (.E 81)), ([0], (.E 82))], none⟩,
   ⟨(some (.V 15)), .mv (.E 83), none⟩])
 (.seq (.reg [⟨(some (.E 84)), .mv (.V 12), none⟩,
   ⟨(some (.E 85)), .mv (.V 15), none⟩,
   ⟨(some (.E 86)), .call k_laws_markIntS [([1], (.E 84)), ([0], (.E 85))], none⟩,
   ⟨(some (.V 15)), .mv (.E 86), none⟩])
 (.seq (.seq (.reg [⟨(some (.E 87)), .mv (.V 15), none⟩,
   ⟨(some (.E 88)), .bin .lss (.E 87) (ki 0), none⟩,
   ⟨(some (.E 89)), .mv (.E 88), none⟩,
   ⟨(some (.E 90)), .mv (.V 13), some ((.E 89), false)⟩,
   ⟨(some (.E 91)), .mv (.V 8), some ((.E 89), false)⟩,
   ⟨(some (.E 92)), .call k_laws_eqSlotSS [([1], (.E 90)), ([1], (.E 91))], some ((.E 89), false)⟩,
   ⟨(some (.E 93)), .un .not (.E 92), some ((.E 89), false)⟩,
   ⟨(some (.E 94)), .pick (.E 89) (kb true) (.E 93), none⟩,
   ⟨(some (.E 95)), .mv (.E 94), none⟩,
   ⟨(some (.E 96)), .mv (.V 14), some ((.E 95), false)⟩,
   ⟨(some (.E 97)), .mv (.V 9), some ((.E 95), false)⟩,
   ⟨(some (.E 98)), .eqb true [.b] (.E 96) (.E 97), some ((.E 95), false)⟩,
   ⟨(some (.E 99)), .pick (.E 95) (kb true) (.E 98), none⟩])
 (.cond (.E 99)
  (.seq (.reg [⟨(some (.V 6)), .mv (kb false), none⟩])
  (.ret))
  (.skip)))
 (.seq (.reg [⟨(some (.V 16)), .mv (ki 1), none⟩])
 (.seq (.reg [⟨(some (.E 100)), .mv (.V 13), none⟩,
   ⟨(some (.E 101)), .mv (.V 16), none⟩,
   ⟨(some (.E 102)), .call k_laws_markSlotSS [([1], (.E 100)), ([0], (.E 101))], none⟩,
   ⟨(some (.V 16)), .mv (.E 102), none⟩])
 (.seq (.reg [⟨(some (.V 17)), .mv (ki 1), none⟩])
 (.seq (.reg [⟨(some (.E 103)), .mv (.V 13), none⟩,
   ⟨(some (.E 104)), .mv (.V 17), none⟩,
   ⟨(some (.E 105)), .call k_laws_heldSlotSS [([1], (.E 103)), ([0], (.E 104))], none⟩,
   ⟨(some (.V 17)), .mv (.E 105), none⟩])
 (.seq (.seq (.reg [⟨(some (.E 106)), .mv (.V 17), none⟩,
   ⟨(some (.E 107)), .bin .lss (.E 106) (ki 0), none⟩])
 (.cond (.E 107)
  (.seq (.reg [⟨(some (.V 6)), .mv (kb false), none⟩])
  (.ret))
  (.skip)))
 (.seq (.seq (.reg [⟨(some (.E 108)), .mv (.V 17), none⟩,
   ⟨(some (.E 109)), .mv (.V 16), none⟩,
   ⟨(some (.E 110)), .bin .neq (.E 108) (.E 109), none⟩])
 (.cond (.E 110)
  (.seq (.reg [⟨(some (.V 6)), .mv (kb false), none⟩])
  (.ret))
  (.skip)))
 (.seq (.reg [⟨(some (.E 112)), .load true 2 (.V 3), none⟩,
   ⟨(some (.E 113)), .call k_laws_toGrid [([1, 1], (.E 112))], none⟩,
   ⟨(some (.E 114)), .mv (.V 1), none⟩,
   ⟨(some (.E 115)), .call k_laws_toIntS [([1], (.E 114))], none⟩,
   ⟨(some (.E 116)), .mv (.V 2), none⟩,
   ⟨(some (.E 117)), .call k_laws_toIntS [([1], (.E 116))], none⟩,
   ⟨(some (.E 118)), .call k_impl_NodeHists [([1, 1], (.E 113)), ([1], (.E 115)), ([1], (.E 117))], none⟩,
   ⟨(some (.E 111)), .mv (.E 118), none⟩,
   ⟨(some (.E 119)), .ext 0 (.E 111), none⟩,
   ⟨(some (.E 120)), .ext 1 (.E 111), none⟩,
   ⟨(some (.V 18)), .mv (.E 119), none⟩,
   ⟨(some (.V 19)), .mv (.E 120), none⟩])
 (.seq (.seq (.reg [⟨(some (.E 121)), .mv (.V 18), none⟩,
   ⟨(some (.E 122)), .mv (.V 8), none⟩,
   ⟨(some (.E 123)), .call k_laws_eqSlotSS [([1], (.E 121)), ([1], (.E 122))], none⟩,
   ⟨(some (.E 124)), .un .not (.E 123), none⟩,
   ⟨(some (.E 125)), .mv (.E 124), none⟩,
   ⟨(some (.E 126)), .mv (.V 19), some ((.E 125), false)⟩,
   ⟨(some (.E 127)), .mv (.V 9), some ((.E 125), false)⟩,
   ⟨(some (.E 128)), .eqb true [.b] (.E 126) (.E 127), some ((.E 125), false)⟩,
   ⟨(some (.E 129)), .pick (.E 125) (kb true) (.E 128), none⟩])
 (.cond (.E 129)
  (.seq (.reg [⟨(some (.V 6)), .mv (kb false), none⟩])
  (.ret))
  (.skip)))
 (.seq (.reg [⟨(some (.V 17)), .mv (ki 1), none⟩])
 (.seq (.reg [⟨(some (.E 130)), .mv (.V 13), none⟩,
   ⟨(some (.E 131)), .mv (.V 17), none⟩,
   ⟨(some (.E 132)), .call k_laws_heldSlotSS [([1], (.E 130)), ([0], (.E 131))], none⟩,
   ⟨(some (.V 17)), .mv (.E 132), none⟩])
 (.seq (.seq (.reg [⟨(some (.E 133)), .mv (.V 17), none⟩,
   ⟨(some (.E 134)), .bin .lss (.E 133) (ki 0), none⟩])
 (.cond (.E 134)
  (.seq (.reg [⟨(some (.V 6)), .mv (kb false), none⟩])
  (.ret))
  (.skip)))
 (.seq (.seq (.reg [⟨(some (.E 135)), .mv (.V 17), none⟩,
   ⟨(some (.E 136)), .mv (.V 16), none⟩,
   ⟨(some (.E 137)), .bin .neq (.E 135) (.E 136), none⟩])
 (.cond (.E 137)
  (.seq (.reg [⟨(some (.V 6)), .mv (kb false), none⟩])
  (.ret))
  (.skip)))
 (.seq (.reg [⟨(some (.V 6)), .mv (kb true), none⟩])
 (.ret)))))))))))))))))))))))))))))))))

def k_laws_FnExactNodeHists_rv : List RV := [.tmp [0] 6]

def k_laws_szGrid_vars : List Nat := [0, 1, 2, 4]

def k_laws_szGrid_ic : IC :=
 .seq (.reg [⟨(some (.V 2)), .box (.V 0), none⟩,
   ⟨(some (.V 4)), .mv (ki 0), none⟩])
 (.seq (.reg [⟨(some (.E 5)), .faddr 0 (.V 2), none⟩,
   ⟨(some (.E 6)), .load false 1 (.E 5), none⟩,
   ⟨(some (.E 7)), .mv (.V 1), none⟩,
   ⟨(some (.E 8)), .call k_laws_szIntSS [([1], (.E 6)), ([0], (.E 7))], none⟩,
   ⟨(some (.V 1)), .mv (.E 8), none⟩])
 (.seq (.seq (.reg [⟨(some (.E 9)), .mv (.V 1), none⟩,
   ⟨(some (.E 10)), .bin .lss (.E 9) (ki 0), none⟩])
 (.cond (.E 10)
  (.seq (.reg [⟨(some (.V 4)), .mv (ki (-1)), none⟩])
  (.ret))
  (.skip)))
 (.seq (.reg [⟨(some (.E 11)), .faddr 1 (.V 2), none⟩,
   ⟨(some (.E 12)), .load false 1 (.E 11), none⟩,
   ⟨(some (.E 13)), .mv (.V 1), none⟩,
   ⟨(some (.E 14)), .call k_laws_szIntSS [([1], (.E 12)), ([0], (.E 13))], none⟩,
   ⟨(some (.V 1)), .mv (.E 14), none⟩])
 (.seq (.seq (.reg [⟨(some (.E 15)), .mv (.V 1), none⟩,
   ⟨(some (.E 16)), .bin .lss (.E 15) (ki 0), none⟩])
 (.cond (.E 16)
  (.seq (.reg [⟨(some (.V 4)), .mv (ki (-1)), none⟩])
  (.ret))
  (.skip)))
 (.seq (.reg [⟨(some (.E 17)), .mv (.V 1), none⟩,
   ⟨(some (.V 4)), .mv (.E 17), none⟩])
 (.ret))))))

def k_laws_szGrid_rv : List RV := [.tmp [0] 4]

def k_spec_NodeHists_vars : List Nat := [0, 1, 2, 3, 8, 9, 11, 10, 6, 7]

def k_spec_NodeHists_b0 : IC :=
 .seq (.seq (.reg [⟨(some (.E 17)), .mv (.V 9), none⟩,
   ⟨(some (.E 18)), .faddr 0 (.V 3), none⟩,
   ⟨(some (.E 19)), .load false 1 (.E 18), none⟩,
   ⟨(some (.E 20)), .len (.E 19), none⟩,
   ⟨(some (.E 21)), .bin .lss (.E 17) (.E 20), none⟩])
 (.cond (.E 21)
  (.skip)
  (.exit 0)))
 (.seq (.block 1 (.seq (.regD [(⟨(some (.E 25)), .faddr 1 (.V 3), none⟩, 0, 0),
    (⟨(some (.E 26)), .load false 1 (.E 25), none⟩, 0, 0),
    (⟨(some (.E 27)), .mv (.V 9), none⟩, 0, 0),
    (⟨(some (.E 28)), .iaddr 1 (.E 26) (.E 27), none⟩, 0, 0),
    (⟨(some (.E 29)), .load false 1 (.E 28), none⟩, 0, 0),
    (⟨(some (.E 30)), .mv (.V 1), none⟩, 0, 0),
    (⟨(some (.E 31)), .mv (.V 2), none⟩, 0, 0),
    (⟨(some (.E 32)), .faddr 0 (.V 3), none⟩, 0, 0),
    (⟨(some (.E 33)), .load false 1 (.E 32), none⟩, 0, 0),
    (⟨(some (.E 34)), .mv (.V 9), none⟩, 0, 0),
    (⟨(some (.E 35)), .iaddr 1 (.E 33) (.E 34), none⟩, 0, 0),
    (⟨(some (.E 36)), .load false 1 (.E 35), none⟩, 0, 0),
    (⟨(some (.E 37)), .len (.E 36), none⟩, 0, 0),
    (⟨(some (.E 38)), .bin .add (.E 37) (ki 1), none⟩, 0, 0),
    (⟨(some (.E 39)), .call k_spec_HistOf [([1], (.E 29)), ([1], (.E 30)), ([1], (.E 31)), ([0], (.E 38))], none⟩, 0, 0),
    (⟨(some (.E 24)), .mv (.E 39), none⟩, 0, 0),
    (⟨(some (.E 40)), .ext 0 (.E 24), none⟩, 0, 0),
    (⟨(some (.E 41)), .ext 1 (.E 24), none⟩, 0, 0),
    (⟨(some (.V 10)), .mv (.E 40), none⟩, 0, 0),
    (⟨(some (.V 11)), .mv (.E 41), none⟩, 0, 0)])
  (.seq (.seq (.reg [⟨(some (.E 42)), .mv (.V 11), none⟩,
    ⟨(some (.E 43)), .un .not (.E 42), none⟩])
  (.cond (.E 43)
   (.seq (.reg [⟨(some (.E 44)), .bslice 0 1 [(.own 2 [])] [], none⟩,
     ⟨(some (.V 6)), .mv (.E 44), none⟩,
     ⟨(some (.V 7)), .mv (kb false), none⟩])
   (.ret))
   (.skip)))
  (.reg [⟨(some (.E 45)), .mv (.V 8), none⟩,
    ⟨(some (.E 46)), .mv (.V 10), none⟩,
    ⟨(some (.E 47)), .bslice 1 1 [(.own 2 [])] [(0, (.E 46))], none⟩,
    ⟨(some (.E 48)), .app 24 1 (.E 45) (.E 47), none⟩,
    ⟨(some (.V 8)), .mv (.E 48), none⟩]))))
 (.reg [⟨(some (.E 22)), .mv (.V 9), none⟩,
   ⟨(some (.E 23)), .bin .add (.E 22) (ki 1), none⟩,
   ⟨(some (.V 9)), .mv (.E 23), none⟩]))

def k_spec_NodeHists_ic : IC :=
 .seq (.reg [⟨(some (.V 3)), .box (.V 0), none⟩,
   ⟨(some (.V 6)), .mv (.C .e0), none⟩,
   ⟨(some (.V 7)), .mv (kb false), none⟩])
 (.seq (.reg [⟨(some (.E 12)), .bslice 0 1 [(.own 2 [])] [], none⟩,
   ⟨(some (.V 8)), .mv (.E 12), none⟩])
 (.seq (.seq (.reg [⟨(some (.E 13)), .load true 2 (.V 3), none⟩,
   ⟨(some (.E 14)), .call k_spec_GridOk [([1, 1], (.E 13))], none⟩,
   ⟨(some (.E 15)), .un .not (.E 14), none⟩])
 (.cond (.E 15)
  (.seq (.reg [⟨(some (.E 16)), .mv (.V 8), none⟩,
    ⟨(some (.V 6)), .mv (.E 16), none⟩,
    ⟨(some (.V 7)), .mv (kb false), none⟩])
  (.ret))
  (.skip)))
 (.seq (.seq (.reg [⟨(some (.V 9)), .mv (ki 0), none⟩])
 (.block 0 (.loop k_spec_NodeHists_b0)))
 (.seq (.reg [⟨(some (.E 49)), .mv (.V 8), none⟩,
   ⟨(some (.V 6)), .mv (.E 49), none⟩,
   ⟨(some (.V 7)), .mv (kb true), none⟩])
 (.ret)))))

def k_spec_NodeHists_rv : List RV := [.tmp [1] 6, .tmp [0] 7]

def k_laws_toGrid_vars : List Nat := [0, 1, 3, 2]

def k_laws_toGrid_ic : IC :=
 .seq (.reg [⟨(some (.V 1)), .box (.V 0), none⟩,
   ⟨(some (.V 2)), .alloc [.e0, .e0], none⟩])
 (.seq (.reg [⟨(some (.V 3)), .alloc [.e0, .e0], none⟩])
 (.seq (.reg [⟨(some (.E 4)), .faddr 0 (.V 1), none⟩,
   ⟨(some (.E 5)), .load false 1 (.E 4), none⟩,
   ⟨(some (.E 6)), .call k_laws_toIntSS [([1], (.E 5))], none⟩,
   ⟨(some (.E 7)), .faddr 0 (.V 3), none⟩,
   ⟨none, .store [1] (.E 7) (.E 6), none⟩])
 (.seq (.reg [⟨(some (.E 8)), .faddr 1 (.V 1), none⟩,
   ⟨(some (.E 9)), .load false 1 (.E 8), none⟩,
   ⟨(some (.E 10)), .call k_laws_toIntSS [([1], (.E 9))], none⟩,
   ⟨(some (.E 11)), .faddr 1 (.V 3), none⟩,
   ⟨none, .store [1] (.E 11) (.E 10), none⟩])
 (.seq (.reg [⟨(some (.E 12)), .load true 2 (.V 3), none⟩,
   ⟨none, .store [1, 1] (.V 2) (.E 12), none⟩])
 (.ret)))))

def k_laws_toGrid_rv : List RV := [.cell [1, 1] 2 true]

def k_laws_toIntS_vars : List Nat := [0, 4, 3, 2]

def k_laws_toIntS_b0 : IC :=
 .seq (.seq (.reg [⟨(some (.E 8)), .mv (.V 4), none⟩,
   ⟨(some (.E 9)), .mv (.V 0), none⟩,
   ⟨(some (.E 10)), .len (.E 9), none⟩,
   ⟨(some (.E 11)), .bin .lss (.E 8) (.E 10), none⟩])
 (.cond (.E 11)
  (.skip)
  (.exit 0)))
 (.seq (.block 1 (.reg [⟨(some (.E 14)), .mv (.V 3), none⟩,
    ⟨(some (.E 15)), .mv (.V 4), none⟩,
    ⟨(some (.E 16)), .mv (.V 0), none⟩,
    ⟨(some (.E 17)), .mv (.V 4), none⟩,
    ⟨(some (.E 18)), .iaddr 1 (.E 16) (.E 17), none⟩,
    ⟨(some (.E 19)), .load false 1 (.E 18), none⟩,
    ⟨(some (.E 20)), .iaddr 1 (.E 14) (.E 15), none⟩,
    ⟨none, .store [0] (.E 20) (.E 19), none⟩]))
 (.reg [⟨(some (.E 12)), .mv (.V 4), none⟩,
   ⟨(some (.E 13)), .bin .add (.E 12) (ki 1), none⟩,
   ⟨(some (.V 4)), .mv (.E 13), none⟩]))

def k_laws_toIntS_ic : IC :=
 .seq (.reg [⟨(some (.V 2)), .mv (.C .e0), none⟩])
 (.seq (.reg [⟨(some (.E 5)), .mv (.V 0), none⟩,
   ⟨(some (.E 6)), .len (.E 5), none⟩,
   ⟨(some (.E 7)), .mksl 8 1 [(.v (.int .i64 0))] (.E 6) (.E 6), none⟩,
   ⟨(some (.V 3)), .mv (.E 7), none⟩])
 (.seq (.seq (.reg [⟨(some (.V 4)), .mv (ki 0), none⟩])
 (.block 0 (.loop k_laws_toIntS_b0)))
 (.seq (.reg [⟨(some (.E 21)), .mv (.V 3), none⟩,
   ⟨(some (.V 2)), .mv (.E 21), none⟩])
 (.ret))))

def k_laws_toIntS_rv : List RV := [.tmp [1] 2]

def k_impl_NodeHists_vars : List Nat := [0, 1, 2, 3, 20, 19, 18, 9, 10, 12, 8, 11, 6, 7]

def k_impl_NodeHists_b0 : IC :=
 .seq (.reg [⟨(some (.E 21)), .bin .lss (.V 20) (.V 19), none⟩])
 (.seq (.cond (.E 21)
  (.skip)
  (.exit 0))
 (.seq (.block 1 (.seq (.reg [⟨(some (.E 22)), .mv (.V 20), none⟩,
    ⟨(some (.E 23)), .iaddr 1 (.V 18) (.V 20), none⟩,
    ⟨(some (.E 24)), .load false 1 (.E 23), none⟩,
    ⟨(some (.V 9)), .mv (.E 22), none⟩,
    ⟨(some (.V 10)), .mv (.E 24), none⟩])
  (.seq (.reg [⟨(some (.E 26)), .faddr 1 (.V 3), none⟩,
    ⟨(some (.E 27)), .load false 1 (.E 26), none⟩,
    ⟨(some (.E 28)), .mv (.V 9), none⟩,
    ⟨(some (.E 29)), .iaddr 1 (.E 27) (.E 28), none⟩,
    ⟨(some (.E 30)), .load false 1 (.E 29), none⟩,
    ⟨(some (.E 31)), .mv (.V 1), none⟩,
    ⟨(some (.E 32)), .mv (.V 2), none⟩,
    ⟨(some (.E 33)), .mv (.V 10), none⟩,
    ⟨(some (.E 34)), .len (.E 33), none⟩,
    ⟨(some (.E 35)), .bin .add (.E 34) (ki 1), none⟩,
    ⟨(some (.E 36)), .call k_impl_HistOf [([1], (.E 30)), ([1], (.E 31)), ([1], (.E 32)), ([0], (.E 35))], none⟩,
    ⟨(some (.E 25)), .mv (.E 36), none⟩,
    ⟨(some (.E 37)), .ext 0 (.E 25), none⟩,
    ⟨(some (.E 38)), .ext 1 (.E 25), none⟩,
    ⟨(some (.V 11)), .mv (.E 37), none⟩,
    ⟨(some (.V 12)), .mv (.E 38), none⟩])
  (.seq (.seq (.reg [⟨(some (.E 39)), .mv (.V 12), none⟩,
    ⟨(some (.E 40)), .un .not (.E 39), none⟩])
  (.cond (.E 40)
   (.seq (.reg [⟨(some (.V 6)), .mv (.C .e0), none⟩,
     ⟨(some (.V 7)), .mv (kb false), none⟩])
   (.ret))
   (.skip)))
  (.reg [⟨(some (.E 41)), .mv (.V 8), none⟩,
    ⟨(some (.E 42)), .mv (.V 11), none⟩,
    ⟨(some (.E 43)), .bslice 1 1 [(.own 2 [])] [(0, (.E 42))], none⟩,
    ⟨(some (.E 44)), .app 24 1 (.E 41) (.E 43), none⟩,
    ⟨(some (.V 8)), .mv (.E 44), none⟩])))))
 (.reg [⟨(some (.E 45)), .bin .add (.V 20) (ki 1), none⟩,
   ⟨(some (.V 20)), .mv (.E 45), none⟩])))

def k_impl_NodeHists_ic : IC :=
 .seq (.reg [⟨(some (.V 3)), .box (.V 0), none⟩,
   ⟨(some (.V 6)), .mv (.C .e0), none⟩,
   ⟨(some (.V 7)), .mv (kb false), none⟩])
 (.seq (.seq (.reg [⟨(some (.E 13)), .load true 2 (.V 3), none⟩,
   ⟨(some (.E 14)), .call k_impl_GridOk [([1, 1], (.E 13))], none⟩,
   ⟨(some (.E 15)), .un .not (.E 14), none⟩])
 (.cond (.E 15)
  (.seq (.reg [⟨(some (.V 6)), .mv (.C .e0), none⟩,
    ⟨(some (.V 7)), .mv (kb false), none⟩])
  (.ret))
  (.skip)))
 (.seq (.reg [⟨(some (.E 16)), .bslice 0 1 [(.own 2 [])] [], none⟩,
   ⟨(some (.V 8)), .mv (.E 16), none⟩])
 (.seq (.seq (.reg [⟨(some (.E 17)), .faddr 0 (.V 3), none⟩,
   ⟨(some (.V 18)), .load false 1 (.E 17), none⟩,
   ⟨(some (.V 19)), .len (.V 18), none⟩,
   ⟨(some (.V 20)), .mv (ki 0), none⟩])
 (.block 0 (.loop k_impl_NodeHists_b0)))
 (.seq (.reg [⟨(some (.E 46)), .mv (.V 8), none⟩,
   ⟨(some (.V 6)), .mv (.E 46), none⟩,
   ⟨(some (.V 7)), .mv (kb true), none⟩])
 (.ret)))))

def k_impl_NodeHists_rv : List RV := [.tmp [1] 6, .tmp [0] 7]

def k_laws_eqSlotSS_vars : List Nat := [0, 1, 5, 4]

def k_laws_eqSlotSS_b0 : IC :=
 .seq (.seq (.reg [⟨(some (.E 11)), .mv (.V 5), none⟩,
   ⟨(some (.E 12)), .mv (.V 0), none⟩,
   ⟨(some (.E 13)), .len (.E 12), none⟩,
   ⟨(some (.E 14)), .bin .lss (.E 11) (.E 13), none⟩])
 (.cond (.E 14)
  (.skip)
  (.exit 0)))
 (.seq (.block 1 (.seq (.regD [(⟨(some (.E 17)), .mv (.V 0), none⟩, 0, 0),
    (⟨(some (.E 18)), .mv (.V 5), none⟩, 0, 0),
    (⟨(some (.E 19)), .iaddr 1 (.E 17) (.E 18), none⟩, 0, 0),
    (⟨(some (.E 20)), .load false 1 (.E 19), none⟩, 0, 0),
    (⟨(some (.E 21)), .mv (.V 1), none⟩, 0, 0),
    (⟨(some (.E 22)), .mv (.V 5), none⟩, 0, 0),
    (⟨(some (.E 23)), .iaddr 1 (.E 21) (.E 22), none⟩, 0, 0),
    (⟨(some (.E 24)), .load false 1 (.E 23), none⟩, 0, 0),
    (⟨(some (.E 25)), .call k_laws_eqSlotS [([2], (.E 20)), ([2], (.E 24))], none⟩, 0, 0),
    (⟨(some (.E 26)), .un .not (.E 25), none⟩, 0, 0)])
  (.cond (.E 26)
   (.seq (.reg [⟨(some (.V 4)), .mv (kb false), none⟩])
   (.ret))
   (.skip))))
 (.reg [⟨(some (.E 15)), .mv (.V 5), none⟩,
   ⟨(some (.E 16)), .bin .add (.E 15) (ki 1), none⟩,
   ⟨(some (.V 5)), .mv (.E 16), none⟩]))

def k_laws_eqSlotSS_ic : IC :=
 .seq (.reg [⟨(some (.V 4)), .mv (kb false), none⟩])
 (.seq (.seq (.reg [⟨(some (.E 6)), .mv (.V 0), none⟩,
   ⟨(some (.E 7)), .len (.E 6), none⟩,
   ⟨(some (.E 8)), .mv (.V 1), none⟩,
   ⟨(some (.E 9)), .len (.E 8), none⟩,
   ⟨(some (.E 10)), .bin .neq (.E 7) (.E 9), none⟩])
 (.cond (.E 10)
  (.seq (.reg [⟨(some (.V 4)), .mv (kb false), none⟩])
  (.ret))
  (.skip)))
 (.seq (.seq (.reg [⟨(some (.V 5)), .mv (ki 0), none⟩])
 (.block 0 (.loop k_laws_eqSlotSS_b0)))
 (.seq (.reg [⟨(some (.V 4)), .mv (kb true), none⟩])
 (.ret))))

def k_laws_eqSlotSS_rv : List RV := [.tmp [0] 4]

def k_laws_eqGrid_vars : List Nat := [0, 1, 2, 3, 4]

def k_laws_eqGrid_ic : IC :=
 .seq (.reg [⟨(some (.V 2)), .box (.V 0), none⟩,
   ⟨(some (.V 3)), .box (.V 1), none⟩,
   ⟨(some (.V 4)), .mv (kb false), none⟩])
 (.seq (.seq (.reg [⟨(some (.E 5)), .faddr 0 (.V 2), none⟩,
   ⟨(some (.E 6)), .load false 1 (.E 5), none⟩,
   ⟨(some (.E 7)), .faddr 0 (.V 3), none⟩,
   ⟨(some (.E 8)), .load false 1 (.E 7), none⟩,
   ⟨(some (.E 9)), .call k_laws_eqIntSS [([1], (.E 6)), ([1], (.E 8))], none⟩,
   ⟨(some (.E 10)), .un .not (.E 9), none⟩])
 (.cond (.E 10)
  (.seq (.reg [⟨(some (.V 4)), .mv (kb false), none⟩])
  (.ret))
  (.skip)))
 (.seq (.seq (.reg [⟨(some (.E 11)), .faddr 1 (.V 2), none⟩,
   ⟨(some (.E 12)), .load false 1 (.E 11), none⟩,
   ⟨(some (.E 13)), .faddr 1 (.V 3), none⟩,
   ⟨(some (.E 14)), .load false 1 (.E 13), none⟩,
   ⟨(some (.E 15)), .call k_laws_eqIntSS [([1], (.E 12)), ([1], (.E 14))], none⟩,
   ⟨(some (.E 16)), .un .not (.E 15), none⟩])
 (.cond (.E 16)
  (.seq (.reg [⟨(some (.V 4)), .mv (kb false), none⟩])
  (.ret))
  (.skip)))
 (.seq (.reg [⟨(some (.V 4)), .mv (kb true), none⟩])
 (.ret))))

def k_laws_eqGrid_rv : List RV := [.tmp [0] 4]

def k_laws_eqIntS_vars : List Nat := [0, 1, 5, 4]

def k_laws_eqIntS_b0 : IC :=
 .seq (.seq (.reg [⟨(some (.E 11)), .mv (.V 5), none⟩,
   ⟨(some (.E 12)), .mv (.V 0), none⟩,
   ⟨(some (.E 13)), .len (.E 12), none⟩,
   ⟨(some (.E 14)), .bin .lss (.E 11) (.E 13), none⟩])
 (.cond (.E 14)
  (.skip)
  (.exit 0)))
 (.seq (.block 1 (.seq (.regD [(⟨(some (.E 17)), .mv (.V 0), none⟩, 0, 0),
    (⟨(some (.E 18)), .mv (.V 5), none⟩, 0, 0),
    (⟨(some (.E 19)), .iaddr 1 (.E 17) (.E 18), none⟩, 0, 0),
    (⟨(some (.E 20)), .load false 1 (.E 19), none⟩, 0, 0),
    (⟨(some (.E 21)), .mv (.V 1), none⟩, 0, 0),
    (⟨(some (.E 22)), .mv (.V 5), none⟩, 0, 0),
    (⟨(some (.E 23)), .iaddr 1 (.E 21) (.E 22), none⟩, 0, 0),
    (⟨(some (.E 24)), .load false 1 (.E 23), none⟩, 0, 0),
    (⟨(some (.E 25)), .bin .neq (.E 20) (.E 24), none⟩, 0, 0)])
  (.cond (.E 25)
   (.seq (.reg [⟨(some (.V 4)), .mv (kb false), none⟩])
   (.ret))
   (.skip))))
 (.reg [⟨(some (.E 15)), .mv (.V 5), none⟩,
   ⟨(some (.E 16)), .bin .add (.E 15) (ki 1), none⟩,
   ⟨(some (.V 5)), .mv (.E 16), none⟩]))

def k_laws_eqIntS_ic : IC :=
 .seq (.reg [⟨(some (.V 4)), .mv (kb false), none⟩])
 (.seq (.seq (.reg [⟨(some (.E 6)), .mv (.V 0), none⟩,
   ⟨(some (.E 7)), .len (.E 6), none⟩,
   ⟨(some (.E 8)), .mv (.V 1), none⟩,
   ⟨(some (.E 9)), .len (.E 8), none⟩,
   ⟨(some (.E 10)), .bin .neq (.E 7) (.E 9), none⟩])
 (.cond (.E 10)
  (.seq (.reg [⟨(some (.V 4)), .mv (kb false), none⟩])
  (.ret))
  (.skip)))
 (.seq (.seq (.reg [⟨(some (.V 5)), .mv (ki 0), none⟩])
 (.block 0 (.loop k_laws_eqIntS_b0)))
 (.seq (.reg [⟨(some (.V 4)), .mv (kb true), none⟩])
 (.ret))))

def k_laws_eqIntS_rv : List RV := [.tmp [0] 4]

def k_laws_markGrid_vars : List Nat := [0, 1, 2, 4]

def k_laws_markGrid_ic : IC :=
 .seq (.reg [⟨(some (.V 2)), .box (.V 0), none⟩,
   ⟨(some (.V 4)), .mv (ki 0), none⟩])
 (.seq (.reg [⟨(some (.E 5)), .faddr 0 (.V 2), none⟩,
   ⟨(some (.E 6)), .load false 1 (.E 5), none⟩,
   ⟨(some (.E 7)), .mv (.V 1), none⟩,
   ⟨(some (.E 8)), .call k_laws_markIntSS [([1], (.E 6)), ([0], (.E 7))], none⟩,
   ⟨(some (.V 1)), .mv (.E 8), none⟩])
 (.seq (.reg [⟨(some (.E 9)), .faddr 1 (.V 2), none⟩,
   ⟨(some (.E 10)), .load false 1 (.E 9), none⟩,
   ⟨(some (.E 11)), .mv (.V 1), none⟩,
   ⟨(some (.E 12)), .call k_laws_markIntSS [([1], (.E 10)), ([0], (.E 11))], none⟩,
   ⟨(some (.V 1)), .mv (.E 12), none⟩])
 (.seq (.reg [⟨(some (.E 13)), .mv (.V 1), none⟩,
   ⟨(some (.V 4)), .mv (.E 13), none⟩])
 (.ret))))

def k_laws_markGrid_rv : List RV := [.tmp [0] 4]

def k_laws_markIntS_vars : List Nat := [0, 1, 5, 4]

def k_laws_markIntS_b0 : IC :=
 .seq (.seq (.reg [⟨(some (.E 6)), .mv (.V 5), none⟩,
   ⟨(some (.E 7)), .mv (.V 0), none⟩,
   ⟨(some (.E 8)), .len (.E 7), none⟩,
   ⟨(some (.E 9)), .bin .lss (.E 6) (.E 8), none⟩])
 (.cond (.E 9)
  (.skip)
  (.exit 0)))
 (.seq (.block 1 (.seq (.reg [⟨(some (.E 12)), .mv (.V 0), none⟩,
    ⟨(some (.E 13)), .mv (.V 5), none⟩,
    ⟨(some (.E 14)), .mv (.V 1), none⟩,
    ⟨(some (.E 15)), .iaddr 1 (.E 12) (.E 13), none⟩,
    ⟨none, .store [0] (.E 15) (.E 14), none⟩])
  (.reg [⟨(some (.E 16)), .mv (.V 1), none⟩,
    ⟨(some (.E 17)), .bin .add (.E 16) (ki 1), none⟩,
    ⟨(some (.V 1)), .mv (.E 17), none⟩])))
 (.reg [⟨(some (.E 10)), .mv (.V 5), none⟩,
   ⟨(some (.E 11)), .bin .add (.E 10) (ki 1), none⟩,
   ⟨(some (.V 5)), .mv (.E 11), none⟩]))

def k_laws_markIntS_ic : IC :=
 .seq (.reg [⟨(some (.V 4)), .mv (ki 0), none⟩])
 (.seq (.seq (.reg [⟨(some (.V 5)), .mv (ki 0), none⟩])
 (.block 0 (.loop k_laws_markIntS_b0)))
 (.seq (.reg [⟨(some (.E 18)), .mv (.V 1), none⟩,
   ⟨(some (.V 4)), .mv (.E 18), none⟩])
 (.ret)))

def k_laws_markIntS_rv : List RV := [.tmp [0] 4]

def k_laws_markSlotSS_vars : List Nat := [0, 1, 5, 4]

def k_laws_markSlotSS_b0 : IC :=
 .seq (.seq (.reg [⟨(some (.E 6)), .mv (.V 5), none⟩,
   ⟨(some (.E 7)), .mv (.V 0), none⟩,
   ⟨(some (.E 8)), .len (.E 7), none⟩,
   ⟨(some (.E 9)), .bin .lss (.E 6) (.E 8), none⟩])
 (.cond (.E 9)
  (.skip)
  (.exit 0)))
 (.seq (.block 1 (.reg [⟨(some (.E 12)), .mv (.V 0), none⟩,
    ⟨(some (.E 13)), .mv (.V 5), none⟩,
    ⟨(some (.E 14)), .iaddr 1 (.E 12) (.E 13), none⟩,
    ⟨(some (.E 15)), .load false 1 (.E 14), none⟩,
    ⟨(some (.E 16)), .mv (.V 1), none⟩,
    ⟨(some (.E 17)), .call k_laws_markSlotS [([2], (.E 15)), ([0], (.E 16))], none⟩,
    ⟨(some (.V 1)), .mv (.E 17), none⟩]))
 (.reg [⟨(some (.E 10)), .mv (.V 5), none⟩,
   ⟨(some (.E 11)), .bin .add (.E 10) (ki 1), none⟩,
   ⟨(some (.V 5)), .mv (.E 11), none⟩]))

def k_laws_markSlotSS_ic : IC :=
 .seq (.reg [⟨(some (.V 4)), .mv (ki 0), none⟩])
 (.seq (.seq (.reg [⟨(some (.V 5)), .mv (ki 0), none⟩])
 (.block 0 (.loop k_laws_markSlotSS_b0)))
 (.seq (.reg [⟨(some (.E 18)), .mv (.V 1), none⟩,
   ⟨(some (.V 4)), .mv (.E 18), none⟩])
 (.ret)))

def k_laws_markSlotSS_rv : List RV := [.tmp [0] 4]

def k_laws_heldSlotSS_vars : List Nat := [0, 1, 5, 4]

def k_laws_heldSlotSS_b0 : IC :=
 .seq (.seq (.reg [⟨(some (.E 6)), .mv (.V 5), none⟩,
   ⟨(some (.E 7)), .mv (.V 0), none⟩,
   ⟨(some (.E 8)), .len (.E 7), none⟩,
   ⟨(some (.E 9)), .bin .lss (.E 6) (.E 8), none⟩])
 (.cond (.E 9)
  (.skip)
  (.exit 0)))
 (.seq (.block 1 (.seq (.reg [⟨(some (.E 12)), .mv (.V 0), none⟩,
    ⟨(some (.E 13)), .mv (.V 5), none⟩,
    ⟨(some (.E 14)), .iaddr 1 (.E 12) (.E 13), none⟩,
    ⟨(some (.E 15)), .load false 1 (.E 14), none⟩,
    ⟨(some (.E 16)), .mv (.V 1), none⟩,
    ⟨(some (.E 17)), .call k_laws_heldSlotS [([2], (.E 15)), ([0], (.E 16))], none⟩,
    ⟨(some (.V 1)), .mv (.E 17), none⟩])
  (.seq (.reg [⟨(some (.E 18)), .mv (.V 1), none⟩,
    ⟨(some (.E 19)), .bin .lss (.E 18) (ki 0), none⟩])
  (.cond (.E 19)
   (.seq (.reg [⟨(some (.V 4)), .mv (ki (-1)), none⟩])
   (.ret))
   (.skip)))))
 (.reg [⟨(some (.E 10)), .mv (.V 5), none⟩,
   ⟨(some (.E 11)), .bin .add (.E 10) (ki 1), none⟩,
   ⟨(some (.V 5)), .mv (.E 11), none⟩]))

def k_laws_heldSlotSS_ic : IC :=
 .seq (.reg [⟨(some (.V 4)), .mv (ki 0), none⟩])
 (.seq (.seq (.reg [⟨(some (.V 5)), .mv (ki 0), none⟩])
 (.block 0 (.loop k_laws_heldSlotSS_b0)))
 (.seq (.reg [⟨(some (.E 20)), .mv (.V 1), none⟩,
   ⟨(some (.V 4)), .mv (.E 20), none⟩])
 (.ret)))

def k_laws_heldSlotSS_rv : List RV := [.tmp [0] 4]

def k_laws_szIntSS_vars : List Nat := [0, 1, 5, 4]

def k_laws_szIntSS_b0 : IC :=
 .seq (.seq (.reg [⟨(some (.E 12)), .mv (.V 5), none⟩,
   ⟨(some (.E 13)), .mv (.V 0), none⟩,
   ⟨(some (.E 14)), .len (.E 13), none⟩,
   ⟨(some (.E 15)), .bin .lss (.E 12) (.E 14), none⟩])
 (.cond (.E 15)
  (.skip)
  (.exit 0)))
 (.seq (.block 1 (.seq (.reg [⟨(some (.E 18)), .mv (.V 0), none⟩,
    ⟨(some (.E 19)), .mv (.V 5), none⟩,
    ⟨(some (.E 20)), .iaddr 1 (.E 18) (.E 19), none⟩,
    ⟨(some (.E 21)), .load false 1 (.E 20), none⟩,
    ⟨(some (.E 22)), .mv (.V 1), none⟩,
    ⟨(some (.E 23)), .call k_laws_szIntS [([1], (.E 21)), ([0], (.E 22))], none⟩,
    ⟨(some (.V 1)), .mv (.E 23), none⟩])
  (.seq (.reg [⟨(some (.E 24)), .mv (.V 1), none⟩,
    ⟨(some (.E 25)), .bin .lss (.E 24) (ki 0), none⟩])
  (.cond (.E 25)
   (.seq (.reg [⟨(some (.V 4)), .mv (ki (-1)), none⟩])
   (.ret))
   (.skip)))))
 (.reg [⟨(some (.E 16)), .mv (.V 5), none⟩,
   ⟨(some (.E 17)), .bin .add (.E 16) (ki 1), none⟩,
   ⟨(some (.V 5)), .mv (.E 17), none⟩]))

def k_laws_szIntSS_ic : IC :=
 .seq (.reg [⟨(some (.V 4)), .mv (ki 0), none⟩])
 (.seq (.reg [⟨(some (.E 6)), .mv (.V 1), none⟩,
   ⟨(some (.E 7)), .mv (.V 0), none⟩,
   ⟨(some (.E 8)), .len (.E 7), none⟩,
   ⟨(some (.E 9)), .bin .sub (.E 6) (.E 8), none⟩,
   ⟨(some (.V 1)), .mv (.E 9), none⟩])
 (.seq (.seq (.reg [⟨(some (.E 10)), .mv (.V 1), none⟩,
   ⟨(some (.E 11)), .bin .lss (.E 10) (ki 0), none⟩])
 (.cond (.E 11)
  (.seq (.reg [⟨(some (.V 4)), .mv (ki (-1)), none⟩])
  (.ret))
  (.skip)))
 (.seq (.seq (.reg [⟨(some (.V 5)), .mv (ki 0), none⟩])
 (.block 0 (.loop k_laws_szIntSS_b0)))
 (.seq (.reg [⟨(some (.E 26)), .mv (.V 1), none⟩,
   ⟨(some (.V 4)), .mv (.E 26), none⟩])
 (.ret)))))

def k_laws_szIntSS_rv : List RV := [.tmp [0] 4]

def k_laws_toIntSS_vars : List Nat := [0, 4, 3, 2]

def k_laws_toIntSS_b0 : IC :=
 .seq (.seq (.reg [⟨(some (.E 8)), .mv (.V 4), none⟩,
   ⟨(some (.E 9)), .mv (.V 0), none⟩,
   ⟨(some (.E 10)), .len (.E 9), none⟩,
   ⟨(some (.E 11)), .bin .lss (.E 8) (.E 10), none⟩])
 (.cond (.E 11)
  (.skip)
  (.exit 0)))
 (.seq (.block 1 (.reg [⟨(some (.E 14)), .mv (.V 3), none⟩,
    ⟨(some (.E 15)), .mv (.V 4), none⟩,
    ⟨(some (.E 16)), .mv (.V 0), none⟩,
    ⟨(some (.E 17)), .mv (.V 4), none⟩,
    ⟨(some (.E 18)), .iaddr 1 (.E 16) (.E 17), none⟩,
    ⟨(some (.E 19)), .load false 1 (.E 18), none⟩,
    ⟨(some (.E 20)), .call k_laws_toIntS [([1], (.E 19))], none⟩,
    ⟨(some (.E 21)), .iaddr 1 (.E 14) (.E 15), none⟩,
    ⟨none, .store [1] (.E 21) (.E 20), none⟩]))
 (.reg [⟨(some (.E 12)), .mv (.V 4), none⟩,
   ⟨(some (.E 13)), .bin .add (.E 12) (ki 1), none⟩,
   ⟨(some (.V 4)), .mv (.E 13), none⟩]))

def k_laws_toIntSS_ic : IC :=
 .seq (.reg [⟨(some (.V 2)), .mv (.C .e0), none⟩])
 (.seq (.reg [⟨(some (.E 5)), .mv (.V 0), none⟩,
   ⟨(some (.E 6)), .len (.E 5), none⟩,
   ⟨(some (.E 7)), .mksl 24 1 [(.own 1 [])] (.E 6) (.E 6), none⟩,
   ⟨(some (.V 3)), .mv (.E 7), none⟩])
 (.seq (.seq (.reg [⟨(some (.V 4)), .mv (ki 0), none⟩])
 (.block 0 (.loop k_laws_toIntSS_b0)))
 (.seq (.reg [⟨(some (.E 22)), .mv (.V 3), none⟩,
   ⟨(some (.V 2)), .mv (.E 22), none⟩])
 (.ret))))

def k_laws_toIntSS_rv : List RV := [.tmp [1] 2]

def k_laws_eqIntSS_vars : List Nat := [0, 1, 5, 4]

def k_laws_eqIntSS_b0 : IC :=
 .seq (.seq (.reg [⟨(some (.E 11)), .mv (.V 5), none⟩,
   ⟨(some (.E 12)), .mv (.V 0), none⟩,
   ⟨(some (.E 13)), .len (.E 12), none⟩,
   ⟨(some (.E 14)), .bin .lss (.E 11) (.E 13), none⟩])
 (.cond (.E 14)
  (.skip)
  (.exit 0)))
 (.seq (.block 1 (.seq (.regD [(⟨(some (.E 17)), .mv (.V 0), none⟩, 0, 0),
    (⟨(some (.E 18)), .mv (.V 5), none⟩, 0, 0),
    (⟨(some (.E 19)), .iaddr 1 (.E 17) (.E 18), none⟩, 0, 0),
    (⟨(some (.E 20)), .load false 1 (.E 19), none⟩, 0, 0),
    (⟨(some (.E 21)), .mv (.V 1), none⟩, 0, 0),
    (⟨(some (.E 22)), .mv (.V 5), none⟩, 0, 0),
    (⟨(some (.E 23)), .iaddr 1 (.E 21) (.E 22), none⟩, 0, 0),
    (⟨(some (.E 24)), .load false 1 (.E 23), none⟩, 0, 0),
    (⟨(some (.E 25)), .call k_laws_eqIntS [([1], (.E 20)), ([1], (.E 24))], none⟩, 0, 0),
    (⟨(some (.E 26)), .un .not (.E 25), none⟩, 0, 0)])
  (.cond (.E 26)
   (.seq (.reg [⟨(some (.V 4)), .mv (kb false), none⟩])
   (.ret))
   (.skip))))
 (.reg [⟨(some (.E 15)), .mv (.V 5), none⟩,
   ⟨(some (.E 16)), .bin .add (.E 15) (ki 1), none⟩,
   ⟨(some (.V 5)), .mv (.E 16), none⟩]))

def k_laws_eqIntSS_ic : IC :=
 .seq (.reg [⟨(some (.V 4)), .mv (kb false), none⟩])
 (.seq (.seq (.reg [⟨(some (.E 6)), .mv (.V 0), none⟩,
   ⟨(some (.E 7)), .len (.E 6), none⟩,
   ⟨(some (.E 8)), .mv (.V 1), none⟩,
   ⟨(some (.E 9)), .len (.E 8), none⟩,
   ⟨(some (.E 10)), .bin .neq (.E 7) (.E 9), none⟩])
 (.cond (.E 10)
  (.seq (.reg [⟨(some (.V 4)), .mv (kb false), none⟩])
  (.ret))
  (.skip)))
 (.seq (.seq (.reg [⟨(some (.V 5)), .mv (ki 0), none⟩])
 (.block 0 (.loop k_laws_eqIntSS_b0)))
 (.seq (.reg [⟨(some (.V 4)), .mv (kb true), none⟩])
 (.ret))))

def k_laws_eqIntSS_rv : List RV := [.tmp [0] 4]

def k_laws_markIntSS_vars : List Nat := [0, 1, 5, 4]

def k_laws_markIntSS_b0 : IC :=
 .seq (.seq (.reg [⟨(some (.E 6)), .mv (.V 5), none⟩,
   ⟨(some (.E 7)), .mv (.V 0), none⟩,
   ⟨(some (.E 8)), .len (.E 7), none⟩,
   ⟨(some (.E 9)), .bin .lss (.E 6) (.E 8), none⟩])
 (.cond (.E 9)
  (.skip)
  (.exit 0)))
 (.seq (.block 1 (.reg [⟨(some (.E 12)), .mv (.V 0), none⟩,
    ⟨(some (.E 13)), .mv (.V 5), none⟩,
    ⟨(some (.E 14)), .iaddr 1 (.E 12) (.E 13), none⟩,
    ⟨(some (.E 15)), .load false 1 (.E 14), none⟩,
    ⟨(some (.E 16)), .mv (.V 1), none⟩,
    ⟨(some (.E 17)), .call k_laws_markIntS [([1], (.E 15)), ([0], (.E 16))], none⟩,
    ⟨(some (.V 1)), .mv (.E 17), none⟩]))
 (.reg [⟨(some (.E 10)), .mv (.V 5), none⟩,
   ⟨(some (.E 11)), .bin .add (.E 10) (ki 1), none⟩,
   ⟨(some (.V 5)), .mv (.E 11), none⟩]))

def k_laws_markIntSS_ic : IC :=
 .seq (.reg [⟨(some (.V 4)), .mv (ki 0), none⟩])
 (.seq (.seq (.reg [⟨(some (.V 5)), .mv (ki 0), none⟩])
 (.block 0 (.loop k_laws_markIntSS_b0)))
 (.seq (.reg [⟨(some (.E 18)), .mv (.V 1), none⟩,
   ⟨(some (.V 4)), .mv (.E 18), none⟩])
 (.ret)))

def k_laws_markIntSS_rv : List RV := [.tmp [0] 4]

def k_laws_szIntS_vars : List Nat := [0, 1, 4]

def k_laws_szIntS_ic : IC :=
 .seq (.reg [⟨(some (.V 4)), .mv (ki 0), none⟩])
 (.seq (.reg [⟨(some (.E 5)), .mv (.V 1), none⟩,
   ⟨(some (.E 6)), .mv (.V 0), none⟩,
   ⟨(some (.E 7)), .len (.E 6), none⟩,
   ⟨(some (.E 8)), .bin .sub (.E 5) (.E 7), none⟩,
   ⟨(some (.V 1)), .mv (.E 8), none⟩])
 (.seq (.seq (.reg [⟨(some (.E 9)), .mv (.V 1), none⟩,
   ⟨(some (.E 10)), .bin .lss (.E 9) (ki 0), none⟩])
 (.cond (.E 10)
  (.seq (.reg [⟨(some (.V 4)), .mv (ki (-1)), none⟩])
  (.ret))
  (.skip)))
 (.seq (.reg [⟨(some (.E 11)), .mv (.V 1), none⟩,
   ⟨(some (.V 4)), .mv (.E 11), none⟩])
 (.ret))))

def k_laws_szIntS_rv : List RV := [.tmp [0] 4]

def k_spec_GridOk_vars : List Nat := [0, 1, 3, 4, 2]

def k_spec_GridOk_b0 : IC :=
 .seq (.seq (.reg [⟨(some (.E 50)), .mv (.V 4), none⟩,
   ⟨(some (.E 51)), .faddr 1 (.V 1), none⟩,
   ⟨(some (.E 52)), .load false 1 (.E 51), none⟩,
   ⟨(some (.E 53)), .mv (.V 3), none⟩,
   ⟨(some (.E 54)), .iaddr 1 (.E 52) (.E 53), none⟩,
   ⟨(some (.E 55)), .load false 1 (.E 54), none⟩,
   ⟨(some (.E 56)), .len (.E 55), none⟩,
   ⟨(some (.E 57)), .bin .lss (.E 50) (.E 56), none⟩])
 (.cond (.E 57)
  (.skip)
  (.exit 2)))
 (.seq (.block 3 (.seq (.regD [(⟨(some (.E 60)), .faddr 1 (.V 1), none⟩, 0, 0),
    (⟨(some (.E 61)), .load false 1 (.E 60), none⟩, 0, 0),
    (⟨(some (.E 62)), .mv (.V 3), none⟩, 0, 0),
    (⟨(some (.E 63)), .iaddr 1 (.E 61) (.E 62), none⟩, 0, 0),
    (⟨(some (.E 64)), .load false 1 (.E 63), none⟩, 0, 0),
    (⟨(some (.E 65)), .mv (.V 4), none⟩, 0, 0),
    (⟨(some (.E 66)), .iaddr 1 (.E 64) (.E 65), none⟩, 0, 0),
    (⟨(some (.E 67)), .load false 1 (.E 66), none⟩, 0, 0),
    (⟨(some (.E 68)), .faddr 0 (.V 1), none⟩, 0, 0),
    (⟨(some (.E 69)), .load false 1 (.E 68), none⟩, 0, 0),
    (⟨(some (.E 70)), .mv (.V 3), none⟩, 0, 0),
    (⟨(some (.E 71)), .iaddr 1 (.E 69) (.E 70), none⟩, 0, 0),
    (⟨(some (.E 72)), .load false 1 (.E 71), none⟩, 0, 0),
    (⟨(some (.E 73)), .len (.E 72), none⟩, 0, 0),
    (⟨(some (.E 74)), .call k_spec_l1In [([0], (.E 67)), ([0], (ki 0)), ([0], (.E 73))], none⟩, 0, 0),
    (⟨(some (.E 75)), .un .not (.E 74), none⟩, 0, 0)])
  (.cond (.E 75)
   (.seq (.reg [⟨(some (.V 2)), .mv (kb false), none⟩])
   (.ret))
   (.skip))))
 (.reg [⟨(some (.E 58)), .mv (.V 4), none⟩,
   ⟨(some (.E 59)), .bin .add (.E 58) (ki 1), none⟩,
   ⟨(some (.V 4)), .mv (.E 59), none⟩]))

def k_spec_GridOk_b1 : IC :=
 .seq (.seq (.reg [⟨(some (.E 25)), .mv (.V 3), none⟩,
   ⟨(some (.E 26)), .faddr 0 (.V 1), none⟩,
   ⟨(some (.E 27)), .load false 1 (.E 26), none⟩,
   ⟨(some (.E 28)), .len (.E 27), none⟩,
   ⟨(some (.E 29)), .bin .lss (.E 25) (.E 28), none⟩])
 (.cond (.E 29)
  (.skip)
  (.exit 0)))
 (.seq (.block 1 (.seq (.seq (.regD [(⟨(some (.E 32)), .faddr 0 (.V 1), none⟩, 0, 0),
    (⟨(some (.E 33)), .load false 1 (.E 32), none⟩, 0, 0),
    (⟨(some (.E 34)), .mv (.V 3), none⟩, 0, 0),
    (⟨(some (.E 35)), .iaddr 1 (.E 33) (.E 34), none⟩, 0, 0),
    (⟨(some (.E 36)), .load false 1 (.E 35), none⟩, 0, 0),
    (⟨(some (.E 37)), .call k_spec_CutsOk [([1], (.E 36))], none⟩, 0, 0),
    (⟨(some (.E 38)), .un .not (.E 37), none⟩, 0, 0),
    (⟨(some (.E 39)), .mv (.E 38), none⟩, 0, 0),
    (⟨(some (.E 40)), .faddr 1 (.V 1), some ((.E 39), false)⟩, 0, 1),
    (⟨(some (.E 41)), .load false 1 (.E 40), some ((.E 39), false)⟩, 0, 1),
    (⟨(some (.E 42)), .mv (.V 3), some ((.E 39), false)⟩, 0, 0),
    (⟨(some (.E 43)), .iaddr 1 (.E 41) (.E 42), some ((.E 39), false)⟩, 0, 1),
    (⟨(some (.E 44)), .load false 1 (.E 43), some ((.E 39), false)⟩, 0, 1),
    (⟨(some (.E 45)), .len (.E 44), some ((.E 39), false)⟩, 0, 1),
    (⟨(some (.E 46)), .load true 2 (.V 1), some ((.E 39), false)⟩, 0, 0),
    (⟨(some (.E 47)), .call k_spec_RowsIn [([1, 1], (.E 46))], some ((.E 39), false)⟩, 0, 0),
    (⟨(some (.E 48)), .bin .neq (.E 45) (.E 47), some ((.E 39), false)⟩, 0, 0),
    (⟨(some (.E 49)), .pick (.E 39) (kb true) (.E 48), none⟩, 0, 0)])
  (.cond (.E 49)
   (.seq (.reg [⟨(some (.V 2)), .mv (kb false), none⟩])
   (.ret))
   (.skip)))
  (.seq (.reg [⟨(some (.V 4)), .mv (ki 0), none⟩])
  (.block 2 (.loop k_spec_GridOk_b0)))))
 (.reg [⟨(some (.E 30)), .mv (.V 3), none⟩,
   ⟨(some (.E 31)), .bin .add (.E 30) (ki 1), none⟩,
   ⟨(some (.V 3)), .mv (.E 31), none⟩]))

def k_spec_GridOk_ic : IC :=
 .seq (.reg [⟨(some (.V 1)), .box (.V 0), none⟩,
   ⟨(some (.V 2)), .mv (kb false), none⟩])
 (.seq (.seq (.reg [⟨(some (.E 5)), .faddr 0 (.V 1), none⟩,
   ⟨(some (.E 6)), .load false 1 (.E 5), none⟩,
   ⟨(some (.E 7)), .len (.E 6), none⟩,
   ⟨(some (.E 8)), .call k_spec_l1In [([0], (.E 7)), ([0], (ki 1)), ([0], (ki 4))], none⟩,
   ⟨(some (.E 9)), .un .not (.E 8), none⟩,
   ⟨(some (.E 10)), .mv (.E 9), none⟩,
   ⟨(some (.E 11)), .faddr 1 (.V 1), some ((.E 10), false)⟩,
   ⟨(some (.E 12)), .load false 1 (.E 11), some ((.E 10), false)⟩,
   ⟨(some (.E 13)), .len (.E 12), some ((.E 10), false)⟩,
   ⟨(some (.E 14)), .faddr 0 (.V 1), some ((.E 10), false)⟩,
   ⟨(some (.E 15)), .load false 1 (.E 14), some ((.E 10), false)⟩,
   ⟨(some (.E 16)), .len (.E 15), some ((.E 10), false)⟩,
   ⟨(some (.E 17)), .bin .neq (.E 13) (.E 16), some ((.E 10), false)⟩,
   ⟨(some (.E 18)), .pick (.E 10) (kb true) (.E 17), none⟩,
   ⟨(some (.E 19)), .mv (.E 18), none⟩,
   ⟨(some (.E 20)), .load true 2 (.V 1), some ((.E 19), false)⟩,
   ⟨(some (.E 21)), .call k_spec_RowsIn [([1, 1], (.E 20))], some ((.E 19), false)⟩,
   ⟨(some (.E 22)), .call k_spec_l1In [([0], (.E 21)), ([0], (ki 1)), ([0], (ki 40))], some ((.E 19), false)⟩,
   ⟨(some (.E 23)), .un .not (.E 22), some ((.E 19), false)⟩,
   ⟨(some (.E 24)), .pick (.E 19) (kb true) (.E 23), none⟩])
 (.cond (.E 24)
  (.seq (.reg [⟨(some (.V 2)), .mv (kb false), none⟩])
  (.ret))
  (.skip)))
 (.seq (.seq (.reg [⟨(some (.V 3)), .mv (ki 0), none⟩])
 (.block 0 (.loop k_spec_GridOk_b1)))
 (.seq (.reg [⟨(some (.V 2)), .mv (kb true), none⟩])
 (.ret))))

def k_spec_GridOk_rv : List RV := [.tmp [0] 2]

def k_spec_HistOf_vars : List Nat := [0, 1, 2, 3, 10, 12, 13, 11, 15, 14, 8, 9]

def k_spec_HistOf_b0 : IC :=
 .seq (.seq (.reg [⟨(some (.E 23)), .mv (.V 12), none⟩,
   ⟨(some (.E 24)), .mv (.V 2), none⟩,
   ⟨(some (.E 25)), .len (.E 24), none⟩,
   ⟨(some (.E 26)), .bin .lss (.E 23) (.E 25), none⟩])
 (.cond (.E 26)
  (.skip)
  (.exit 0)))
 (.seq (.block 1 (.seq (.reg [⟨(some (.E 29)), .mv (.V 2), none⟩,
    ⟨(some (.E 30)), .mv (.V 12), none⟩,
    ⟨(some (.E 31)), .iaddr 1 (.E 29) (.E 30), none⟩,
    ⟨(some (.E 32)), .load false 1 (.E 31), none⟩,
    ⟨(some (.V 13)), .mv (.E 32), none⟩])
  (.seq (.seq (.reg [⟨(some (.E 33)), .mv (.V 13), none⟩,
    ⟨(some (.E 34)), .mv (.V 0), none⟩,
    ⟨(some (.E 35)), .len (.E 34), none⟩,
    ⟨(some (.E 36)), .bin .sub (.E 35) (ki 1), none⟩,
    ⟨(some (.E 37)), .call k_spec_l1In [([0], (.E 33)), ([0], (ki 0)), ([0], (.E 36))], none⟩,
    ⟨(some (.E 38)), .un .not (.E 37), none⟩,
    ⟨(some (.E 39)), .mv (.E 38), none⟩,
    ⟨(some (.E 40)), .mv (.V 13), some ((.E 39), false)⟩,
    ⟨(some (.E 41)), .mv (.V 1), some ((.E 39), false)⟩,
    ⟨(some (.E 42)), .len (.E 41), some ((.E 39), false)⟩,
    ⟨(some (.E 43)), .bin .sub (.E 42) (ki 1), some ((.E 39), false)⟩,
    ⟨(some (.E 44)), .call k_spec_l1In [([0], (.E 40)), ([0], (ki 0)), ([0], (.E 43))], some ((.E 39), false)⟩,
    ⟨(some (.E 45)), .un .not (.E 44), some ((.E 39), false)⟩,
    ⟨(some (.E 46)), .pick (.E 39) (kb true) (.E 45), none⟩,
    ⟨(some (.E 47)), .mv (.E 46), none⟩,
    ⟨(some (.E 48)), .mv (.V 0), some ((.E 47), false)⟩,
    ⟨(some (.E 49)), .mv (.V 13), some ((.E 47), false)⟩,
    ⟨(some (.E 50)), .iaddr 1 (.E 48) (.E 49), some ((.E 47), false)⟩,
    ⟨(some (.E 51)), .load false 1 (.E 50), some ((.E 47), false)⟩,
    ⟨(some (.E 52)), .mv (.V 3), some ((.E 47), false)⟩,
    ⟨(some (.E 53)), .bin .sub (.E 52) (ki 1), some ((.E 47), false)⟩,
    ⟨(some (.E 54)), .call k_spec_l1In [([0], (.E 51)), ([0], (ki 0)), ([0], (.E 53))], some ((.E 47), false)⟩,
    ⟨(some (.E 55)), .un .not (.E 54), some ((.E 47), false)⟩,
    ⟨(some (.E 56)), .pick (.E 47) (kb true) (.E 55), none⟩])
  (.cond (.E 56)
   (.seq (.reg [⟨(some (.E 57)), .mv (.V 10), none⟩,
     ⟨(some (.V 8)), .mv (.E 57), none⟩,
     ⟨(some (.V 9)), .mv (kb false), none⟩])
   (.ret))
   (.skip)))
  (.seq (.regD [(⟨(some (.E 59)), .mv (.V 11), none⟩, 0, 0),
    (⟨(some (.E 60)), .mv (.V 0), none⟩, 0, 0),
    (⟨(some (.E 61)), .mv (.V 13), none⟩, 0, 0),
    (⟨(some (.E 62)), .iaddr 1 (.E 60) (.E 61), none⟩, 0, 0),
    (⟨(some (.E 63)), .load false 1 (.E 62), none⟩, 0, 0),
    (⟨(some (.E 64)), .iaddr 2 (.E 59) (.E 63), none⟩, 0, 0),
    (⟨(some (.E 65)), .load true 2 (.E 64), none⟩, 0, 0),
    (⟨(some (.E 66)), .mv (.V 1), none⟩, 0, 0),
    (⟨(some (.E 67)), .mv (.V 13), none⟩, 0, 0),
    (⟨(some (.E 68)), .iaddr 1 (.E 66) (.E 67), none⟩, 0, 0),
    (⟨(some (.E 69)), .load false 1 (.E 68), none⟩, 0, 0),
    (⟨(some (.E 70)), .build [(.v (.int .i64 0)), (.v (.int .i64 0))] [(0, 1, (ki 1)), (1, 1, (.E 69))], none⟩, 0, 0),
    (⟨(some (.E 71)), .call k_spec_l13Add [([0, 0], (.E 65)), ([0, 0], (.E 70))], none⟩, 0, 0),
    (⟨(some (.E 58)), .mv (.E 71), none⟩, 0, 0),
    (⟨(some (.E 72)), .ext 0 (.E 58), none⟩, 0, 0),
    (⟨(some (.E 73)), .ext 1 (.E 58), none⟩, 0, 0),
    (⟨(some (.V 14)), .allocL [(.v (.int .i64 0)), (.v (.int .i64 0))], none⟩, 0, 0),
    (⟨none, .store [0, 0] (.V 14) (.E 72), none⟩, 0, 0),
    (⟨(some (.V 15)), .mv (.E 73), none⟩, 0, 0)])
  (.seq (.seq (.reg [⟨(some (.E 74)), .mv (.V 15), none⟩,
    ⟨(some (.E 75)), .un .not (.E 74), none⟩])
  (.cond (.E 75)
   (.seq (.reg [⟨(some (.E 76)), .mv (.V 10), none⟩,
     ⟨(some (.V 8)), .mv (.E 76), none⟩,
     ⟨(some (.V 9)), .mv (kb false), none⟩])
   (.ret))
   (.skip)))
  (.regD [(⟨(some (.E 77)), .mv (.V 11), none⟩, 0, 0),
    (⟨(some (.E 78)), .mv (.V 0), none⟩, 0, 0),
    (⟨(some (.E 79)), .mv (.V 13), none⟩, 0, 0),
    (⟨(some (.E 80)), .iaddr 1 (.E 78) (.E 79), none⟩, 0, 0),
    (⟨(some (.E 81)), .load false 1 (.E 80), none⟩, 0, 0),
    (⟨(some (.E 82)), .load true 2 (.V 14), none⟩, 0, 0),
    (⟨(some (.E 83)), .iaddr 2 (.E 77) (.E 81), none⟩, 0, 0),
    (⟨none, .store [0, 0] (.E 83) (.E 82), none⟩, 0, 0)]))))))
 (.reg [⟨(some (.E 27)), .mv (.V 12), none⟩,
   ⟨(some (.E 28)), .bin .add (.E 27) (ki 1), none⟩,
   ⟨(some (.V 12)), .mv (.E 28), none⟩]))

def k_spec_HistOf_ic : IC :=
 .seq (.reg [⟨(some (.V 8)), .mv (.C .e0), none⟩,
   ⟨(some (.V 9)), .mv (kb false), none⟩])
 (.seq (.reg [⟨(some (.E 16)), .bslice 0 2 [(.v (.int .i64 0)), (.v (.int .i64 0))] [], none⟩,
   ⟨(some (.V 10)), .mv (.E 16), none⟩])
 (.seq (.seq (.reg [⟨(some (.E 17)), .mv (.V 3), none⟩,
   ⟨(some (.E 18)), .call k_spec_l1In [([0], (.E 17)), ([0], (ki 1)), ([0], (ki 8))], none⟩,
   ⟨(some (.E 19)), .un .not (.E 18), none⟩])
 (.cond (.E 19)
  (.seq (.reg [⟨(some (.E 20)), .mv (.V 10), none⟩,
    ⟨(some (.V 8)), .mv (.E 20), none⟩,
    ⟨(some (.V 9)), .mv (kb false), none⟩])
  (.ret))
  (.skip)))
 (.seq (.reg [⟨(some (.E 21)), .mv (.V 3), none⟩,
   ⟨(some (.E 22)), .mksl 16 2 [(.v (.int .i64 0)), (.v (.int .i64 0))] (.E 21) (.E 21), none⟩,
   ⟨(some (.V 11)), .mv (.E 22), none⟩])
 (.seq (.seq (.reg [⟨(some (.V 12)), .mv (ki 0), none⟩])
 (.block 0 (.loop k_spec_HistOf_b0)))
 (.seq (.reg [⟨(some (.E 84)), .mv (.V 11), none⟩,
   ⟨(some (.V 8)), .mv (.E 84), none⟩,
   ⟨(some (.V 9)), .mv (kb true), none⟩])
 (.ret))))))

def k_spec_HistOf_rv : List RV := [.tmp [2] 8, .tmp [0] 9]

def k_impl_GridOk_vars : List Nat := [0, 1, 28, 27, 26, 4, 3, 2]

def k_impl_GridOk_b0 : IC :=
 .seq (.reg [⟨(some (.E 29)), .bin .lss (.V 28) (.V 27), none⟩])
 (.seq (.cond (.E 29)
  (.skip)
  (.exit 0))
 (.seq (.block 1 (.seq (.reg [⟨(some (.E 30)), .mv (.V 28), none⟩,
    ⟨(some (.E 31)), .iaddr 1 (.V 26) (.V 28), none⟩,
    ⟨(some (.E 32)), .load false 1 (.E 31), none⟩,
    ⟨(some (.V 4)), .alloc [.e0], none⟩,
    ⟨(some (.V 3)), .mv (.E 30), none⟩,
    ⟨none, .store [1] (.V 4) (.E 32), none⟩])
  (.seq (.regD [(⟨(some (.E 33)), .load false 1 (.V 4), none⟩, 0, 0),
    (⟨(some (.E 34)), .call k_impl_CutsOk [([1], (.E 33))], none⟩, 0, 0),
    (⟨(some (.E 35)), .un .not (.E 34), none⟩, 0, 0),
    (⟨(some (.E 36)), .mv (.E 35), none⟩, 0, 0),
    (⟨(some (.E 37)), .faddr 1 (.V 1), some ((.E 36), false)⟩, 0, 1),
    (⟨(some (.E 38)), .load false 1 (.E 37), some ((.E 36), false)⟩, 0, 1),
    (⟨(some (.E 39)), .mv (.V 3), some ((.E 36), false)⟩, 0, 0),
    (⟨(some (.E 40)), .iaddr 1 (.E 38) (.E 39), some ((.E 36), false)⟩, 0, 1),
    (⟨(some (.E 41)), .load false 1 (.E 40), some ((.E 36), false)⟩, 0, 1),
    (⟨(some (.E 42)), .len (.E 41), some ((.E 36), false)⟩, 0, 1),
    (⟨(some (.E 43)), .load true 2 (.V 1), some ((.E 36), false)⟩, 0, 0),
    (⟨(some (.E 44)), .call k_impl_RowsIn [([1, 1], (.E 43))], some ((.E 36), false)⟩, 0, 0),
    (⟨(some (.E 45)), .bin .neq (.E 42) (.E 44), some ((.E 36), false)⟩, 0, 0),
    (⟨(some (.E 46)), .pick (.E 36) (kb true) (.E 45), none⟩, 0, 0),
    (⟨(some (.E 47)), .mv (.E 46), none⟩, 0, 0),
    (⟨(some (.E 48)), .faddr 1 (.V 1), some ((.E 47), false)⟩, 0, 0),
    (⟨(some (.E 49)), .load false 1 (.E 48), some ((.E 47), false)⟩, 0, 0),
    (⟨(some (.E 50)), .mv (.V 3), some ((.E 47), false)⟩, 0, 0),
    (⟨(some (.E 51)), .iaddr 1 (.E 49) (.E 50), some ((.E 47), false)⟩, 0, 0),
    (⟨(some (.E 52)), .load false 1 (.E 51), some ((.E 47), false)⟩, 0, 0),
    (⟨(some (.E 53)), .mkfn k_impl_GridOk_1 [(.V 4)], some ((.E 47), false)⟩, 0, 0),
    (⟨(some (.E 54)), .call k_slices_ContainsFunc___int_int_ [([1], (.E 52)), ([0], (.E 53))], some ((.E 47), false)⟩, 0, 0),
    (⟨(some (.E 55)), .pick (.E 47) (kb true) (.E 54), none⟩, 0, 0)])
  (.cond (.E 55)
   (.seq (.reg [⟨(some (.V 2)), .mv (kb false), none⟩])
   (.ret))
   (.skip)))))
 (.reg [⟨(some (.E 56)), .bin .add (.V 28) (ki 1), none⟩,
   ⟨(some (.V 28)), .mv (.E 56), none⟩])))

def k_impl_GridOk_ic : IC :=
 .seq (.reg [⟨(some (.V 1)), .box (.V 0), none⟩,
   ⟨(some (.V 2)), .mv (kb false), none⟩])
 (.seq (.seq (.reg [⟨(some (.E 5)), .faddr 0 (.V 1), none⟩,
   ⟨(some (.E 6)), .load false 1 (.E 5), none⟩,
   ⟨(some (.E 7)), .len (.E 6), none⟩,
   ⟨(some (.E 8)), .call k_impl_within [([0], (.E 7)), ([0], (ki 1)), ([0], (ki 4))], none⟩,
   ⟨(some (.E 9)), .un .not (.E 8), none⟩,
   ⟨(some (.E 10)), .mv (.E 9), none⟩,
   ⟨(some (.E 11)), .faddr 1 (.V 1), some ((.E 10), false)⟩,
   ⟨(some (.E 12)), .load false 1 (.E 11), some ((.E 10), false)⟩,
   ⟨(some (.E 13)), .len (.E 12), some ((.E 10), false)⟩,
   ⟨(some (.E 14)), .faddr 0 (.V 1), some ((.E 10), false)⟩,
   ⟨(some (.E 15)), .load false 1 (.E 14), some ((.E 10), false)⟩,
   ⟨(some (.E 16)), .len (.E 15), some ((.E 10), false)⟩,
   ⟨(some (.E 17)), .bin .neq (.E 13) (.E 16), some ((.E 10), false)⟩,
   ⟨(some (.E 18)), .pick (.E 10) (kb true) (.E 17), none⟩,
   ⟨(some (.E 19)), .mv (.E 18), none⟩,
   ⟨(some (.E 20)), .load true 2 (.V 1), some ((.E 19), false)⟩,
   ⟨(some (.E 21)), .call k_impl_RowsIn [([1, 1], (.E 20))], some ((.E 19), false)⟩,
   ⟨(some (.E 22)), .call k_impl_within [([0], (.E 21)), ([0], (ki 1)), ([0], (ki 40))], some ((.E 19), false)⟩,
   ⟨(some (.E 23)), .un .not (.E 22), some ((.E 19), false)⟩,
   ⟨(some (.E 24)), .pick (.E 19) (kb true) (.E 23), none⟩])
 (.cond (.E 24)
  (.seq (.reg [⟨(some (.V 2)), .mv (kb false), none⟩])
  (.ret))
  (.skip)))
 (.seq (.seq (.reg [⟨(some (.E 25)), .faddr 0 (.V 1), none⟩,
   ⟨(some (.V 26)), .load false 1 (.E 25), none⟩,
   ⟨(some (.V 27)), .len (.V 26), none⟩,
   ⟨(some (.V 28)), .mv (ki 0), none⟩])
 (.block 0 (.loop k_impl_GridOk_b0)))
 (.seq (.reg [⟨(some (.V 2)), .mv (kb true), none⟩])
 (.ret))))

def k_impl_GridOk_rv : List RV := [.tmp [0] 2]

def k_impl_HistOf_vars : List Nat := [0, 1, 2, 3, 22, 21, 20, 12, 10, 14, 13, 8, 9]

def k_impl_HistOf_b0 : IC :=
 .seq (.reg [⟨(some (.E 23)), .bin .lss (.V 22) (.V 21), none⟩])
 (.seq (.cond (.E 23)
  (.skip)
  (.exit 0))
 (.seq (.block 1 (.seq (.reg [⟨(some (.E 24)), .iaddr 1 (.V 20) (.V 22), none⟩,
    ⟨(some (.E 25)), .load false 1 (.E 24), none⟩,
    ⟨(some (.V 12)), .mv (.E 25), none⟩])
  (.seq (.seq (.reg [⟨(some (.E 26)), .mv (.V 12), none⟩,
    ⟨(some (.E 27)), .mv (.V 0), none⟩,
    ⟨(some (.E 28)), .len (.E 27), none⟩,
    ⟨(some (.E 29)), .mv (.V 1), none⟩,
    ⟨(some (.E 30)), .len (.E 29), none⟩,
    ⟨(some (.E 31)), .mx false (.E 28) (.E 30), none⟩,
    ⟨(some (.E 32)), .bin .sub (.E 31) (ki 1), none⟩,
    ⟨(some (.E 33)), .call k_impl_within [([0], (.E 26)), ([0], (ki 0)), ([0], (.E 32))], none⟩,
    ⟨(some (.E 34)), .un .not (.E 33), none⟩,
    ⟨(some (.E 35)), .mv (.E 34), none⟩,
    ⟨(some (.E 36)), .mv (.V 0), some ((.E 35), false)⟩,
    ⟨(some (.E 37)), .mv (.V 12), some ((.E 35), false)⟩,
    ⟨(some (.E 38)), .iaddr 1 (.E 36) (.E 37), some ((.E 35), false)⟩,
    ⟨(some (.E 39)), .load false 1 (.E 38), some ((.E 35), false)⟩,
    ⟨(some (.E 40)), .mv (.V 3), some ((.E 35), false)⟩,
    ⟨(some (.E 41)), .bin .sub (.E 40) (ki 1), some ((.E 35), false)⟩,
    ⟨(some (.E 42)), .call k_impl_within [([0], (.E 39)), ([0], (ki 0)), ([0], (.E 41))], some ((.E 35), false)⟩,
    ⟨(some (.E 43)), .un .not (.E 42), some ((.E 35), false)⟩,
    ⟨(some (.E 44)), .pick (.E 35) (kb true) (.E 43), none⟩])
  (.cond (.E 44)
   (.seq (.reg [⟨(some (.V 8)), .mv (.C .e0), none⟩,
     ⟨(some (.V 9)), .mv (kb false), none⟩])
   (.ret))
   (.skip)))
  (.seq (.regD [(⟨(some (.E 46)), .mv (.V 10), none⟩, 0, 0),
    (⟨(some (.E 47)), .mv (.V 0), none⟩, 0, 0),
    (⟨(some (.E 48)), .mv (.V 12), none⟩, 0, 0),
    (⟨(some (.E 49)), .iaddr 1 (.E 47) (.E 48), none⟩, 0, 0),
    (⟨(some (.E 50)), .load false 1 (.E 49), none⟩, 0, 0),
    (⟨(some (.E 51)), .iaddr 2 (.E 46) (.E 50), none⟩, 0, 0),
    (⟨(some (.E 52)), .load true 2 (.E 51), none⟩, 0, 0),
    (⟨(some (.E 53)), .mv (.V 1), none⟩, 0, 0),
    (⟨(some (.E 54)), .mv (.V 12), none⟩, 0, 0),
    (⟨(some (.E 55)), .iaddr 1 (.E 53) (.E 54), none⟩, 0, 0),
    (⟨(some (.E 56)), .load false 1 (.E 55), none⟩, 0, 0),
    (⟨(some (.E 57)), .build [(.v (.int .i64 0)), (.v (.int .i64 0))] [(0, 1, (ki 1)), (1, 1, (.E 56))], none⟩, 0, 0),
    (⟨(some (.E 58)), .call k__impl_Slot__plus [([0, 0], (.E 52)), ([0, 0], (.E 57))], none⟩, 0, 0),
    (⟨(some (.E 45)), .mv (.E 58), none⟩, 0, 0),
    (⟨(some (.E 59)), .ext 0 (.E 45), none⟩, 0, 0),
    (⟨(some (.E 60)), .ext 1 (.E 45), none⟩, 0, 0),
    (⟨(some (.V 13)), .allocL [(.v (.int .i64 0)), (.v (.int .i64 0))], none⟩, 0, 0),
    (⟨none, .store [0, 0] (.V 13) (.E 59), none⟩, 0, 0),
    (⟨(some (.V 14)), .mv (.E 60), none⟩, 0, 0)])
  (.seq (.seq (.reg [⟨(some (.E 61)), .mv (.V 14), none⟩,
    ⟨(some (.E 62)), .un .not (.E 61), none⟩])
  (.cond (.E 62)
   (.seq (.reg [⟨(some (.V 8)), .mv (.C .e0), none⟩,
     ⟨(some (.V 9)), .mv (kb false), none⟩])
   (.ret))
   (.skip)))
  (.regD [(⟨(some (.E 63)), .mv (.V 10), none⟩, 0, 0),
    (⟨(some (.E 64)), .mv (.V 0), none⟩, 0, 0),
    (⟨(some (.E 65)), .mv (.V 12), none⟩, 0, 0),
    (⟨(some (.E 66)), .iaddr 1 (.E 64) (.E 65), none⟩, 0, 0),
    (⟨(some (.E 67)), .load false 1 (.E 66), none⟩, 0, 0),
    (⟨(some (.E 68)), .load true 2 (.V 13), none⟩, 0, 0),
    (⟨(some (.E 69)), .iaddr 2 (.E 63) (.E 67), none⟩, 0, 0),
    (⟨none, .store [0, 0] (.E 69) (.E 68), none⟩, 0, 0)]))))))
 (.reg [⟨(some (.E 70)), .bin .add (.V 22) (ki 1), none⟩,
   ⟨(some (.V 22)), .mv (.E 70), none⟩])))

def k_impl_HistOf_ic : IC :=
 .seq (.reg [⟨(some (.V 8)), .mv (.C .e0), none⟩,
   ⟨(some (.V 9)), .mv (kb false), none⟩])
 (.seq (.seq (.reg [⟨(some (.E 15)), .mv (.V 3), none⟩,
   ⟨(some (.E 16)), .call k_impl_within [([0], (.E 15)), ([0], (ki 1)), ([0], (ki 8))], none⟩,
   ⟨(some (.E 17)), .un .not (.E 16), none⟩])
 (.cond (.E 17)
  (.seq (.reg [⟨(some (.V 8)), .mv (.C .e0), none⟩,
    ⟨(some (.V 9)), .mv (kb false), none⟩])
  (.ret))
  (.skip)))
 (.seq (.reg [⟨(some (.E 18)), .mv (.V 3), none⟩,
   ⟨(some (.E 19)), .mksl 16 2 [(.v (.int .i64 0)), (.v (.int .i64 0))] (.E 18) (.E 18), none⟩,
   ⟨(some (.V 10)), .mv (.E 19), none⟩])
 (.seq (.seq (.reg [⟨(some (.V 20)), .mv (.V 2), none⟩,
   ⟨(some (.V 21)), .len (.V 20), none⟩,
   ⟨(some (.V 22)), .mv (ki 0), none⟩])
 (.block 0 (.loop k_impl_HistOf_b0)))
 (.seq (.reg [⟨(some (.E 71)), .mv (.V 10), none⟩,
   ⟨(some (.V 8)), .mv (.E 71), none⟩,
   ⟨(some (.V 9)), .mv (kb true), none⟩])
 (.ret)))))

def k_impl_HistOf_rv : List RV := [.tmp [2] 8, .tmp [0] 9]

def k_laws_eqSlotS_vars : List Nat := [0, 1, 5, 4]

def k_laws_eqSlotS_b0 : IC :=
 .seq (.seq (.reg [⟨(some (.E 11)), .mv (.V 5), none⟩,
   ⟨(some (.E 12)), .mv (.V 0), none⟩,
   ⟨(some (.E 13)), .len (.E 12), none⟩,
   ⟨(some (.E 14)), .bin .lss (.E 11) (.E 13), none⟩])
 (.cond (.E 14)
  (.skip)
  (.exit 0)))
 (.seq (.block 1 (.seq (.regD [(⟨(some (.E 17)), .mv (.V 0), none⟩, 0, 0),
    (⟨(some (.E 18)), .mv (.V 5), none⟩, 0, 0),
    (⟨(some (.E 19)), .iaddr 2 (.E 17) (.E 18), none⟩, 0, 0),
    (⟨(some (.E 20)), .load true 2 (.E 19), none⟩, 0, 0),
    (⟨(some (.E 21)), .mv (.V 1), none⟩, 0, 0),
    (⟨(some (.E 22)), .mv (.V 5), none⟩, 0, 0),
    (⟨(some (.E 23)), .iaddr 2 (.E 21) (.E 22), none⟩, 0, 0),
    (⟨(some (.E 24)), .load true 2 (.E 23), none⟩, 0, 0),
    (⟨(some (.E 25)), .call k_laws_eqSlot [([0, 0], (.E 20)), ([0, 0], (.E 24))], none⟩, 0, 0),
    (⟨(some (.E 26)), .un .not (.E 25), none⟩, 0, 0)])
  (.cond (.E 26)
   (.seq (.reg [⟨(some (.V 4)), .mv (kb false), none⟩])
   (.ret))
   (.skip))))
 (.reg [⟨(some (.E 15)), .mv (.V 5), none⟩,
   ⟨(some (.E 16)), .bin .add (.E 15) (ki 1), none⟩,
   ⟨(some (.V 5)), .mv (.E 16), none⟩]))

def k_laws_eqSlotS_ic : IC :=
 .seq (.reg [⟨(some (.V 4)), .mv (kb false), none⟩])
 (.seq (.seq (.reg [⟨(some (.E 6)), .mv (.V 0), none⟩,
   ⟨(some (.E 7)), .len (.E 6), none⟩,
   ⟨(some (.E 8)), .mv (.V 1), none⟩,
   ⟨(some (.E 9)), .len (.E 8), none⟩,
   ⟨(some (.E 10)), .bin .neq (.E 7) (.E 9), none⟩])
 (.cond (.E 10)
  (.seq (.reg [⟨(some (.V 4)), .mv (kb false), none⟩])
  (.ret))
  (.skip)))
 (.seq (.seq (.reg [⟨(some (.V 5)), .mv (ki 0), none⟩])
 (.block 0 (.loop k_laws_eqSlotS_b0)))
 (.seq (.reg [⟨(some (.V 4)), .mv (kb true), none⟩])
 (.ret))))

def k_laws_eqSlotS_rv : List RV := [.tmp [0] 4]

def k_laws_markSlotS_vars : List Nat := [0, 1, 5, 4]

def k_laws_markSlotS_b0 : IC :=
 .seq (.seq (.reg [⟨(some (.E 6)), .mv (.V 5), none⟩,
   ⟨(some (.E 7)), .mv (.V 0), none⟩,
   ⟨(some (.E 8)), .len (.E 7), none⟩,
   ⟨(some (.E 9)), .bin .lss (.E 6) (.E 8), none⟩])
 (.cond (.E 9)
  (.skip)
  (.exit 0)))
 (.seq (.block 1 (.seq (.reg [⟨(some (.E 12)), .mv (.V 0), none⟩,
    ⟨(some (.E 13)), .mv (.V 5), none⟩,
    ⟨(some (.E 14)), .mv (.V 1), none⟩,
    ⟨(some (.E 15)), .iaddr 2 (.E 12) (.E 13), none⟩,
    ⟨(some (.E 16)), .faddr 0 (.E 15), none⟩,
    ⟨none, .store [0] (.E 16) (.E 14), none⟩])
  (.seq (.reg [⟨(some (.E 17)), .mv (.V 1), none⟩,
    ⟨(some (.E 18)), .bin .add (.E 17) (ki 1), none⟩,
    ⟨(some (.V 1)), .mv (.E 18), none⟩])
  (.seq (.reg [⟨(some (.E 19)), .mv (.V 0), none⟩,
    ⟨(some (.E 20)), .mv (.V 5), none⟩,
    ⟨(some (.E 21)), .mv (.V 1), none⟩,
    ⟨(some (.E 22)), .iaddr 2 (.E 19) (.E 20), none⟩,
    ⟨(some (.E 23)), .faddr 1 (.E 22), none⟩,
    ⟨none, .store [0] (.E 23) (.E 21), none⟩])
  (.reg [⟨(some (.E 24)), .mv (.V 1), none⟩,
    ⟨(some (.E 25)), .bin .add (.E 24) (ki 1), none⟩,
    ⟨(some (.V 1)), .mv (.E 25), none⟩])))))
 (.reg [⟨(some (.E 10)), .mv (.V 5), none⟩,
   ⟨(some (.E 11)), .bin .add (.E 10) (ki 1), none⟩,
   ⟨(some (.V 5)), .mv (.E 11), none⟩]))

def k_laws_markSlotS_ic : IC :=
 .seq (.reg [⟨(some (.V 4)), .mv (ki 0), none⟩])
 (.seq (.seq (.reg [⟨(some (.V 5)), .mv (ki 0), none⟩])
 (.block 0 (.loop k_laws_markSlotS_b0)))
 (.seq (.reg [⟨(some (.E 26)), .mv (.V 1), none⟩,
   ⟨(some (.V 4)), .mv (.E 26), none⟩])
 (.ret)))

def k_laws_markSlotS_rv : List RV := [.tmp [0] 4]

def k_laws_heldSlotS_vars : List Nat := [0, 1, 5, 4]

def k_laws_heldSlotS_b0 : IC :=
 .seq (.seq (.reg [⟨(some (.E 6)), .mv (.V 5), none⟩,
   ⟨(some (.E 7)), .mv (.V 0), none⟩,
   ⟨(some (.E 8)), .len (.E 7), none⟩,
   ⟨(some (.E 9)), .bin .lss (.E 6) (.E 8), none⟩])
 (.cond (.E 9)
  (.skip)
  (.exit 0)))
 (.seq (.block 1 (.seq (.seq (.reg [⟨(some (.E 12)), .mv (.V 0), none⟩,
    ⟨(some (.E 13)), .mv (.V 5), none⟩,
    ⟨(some (.E 14)), .iaddr 2 (.E 12) (.E 13), none⟩,
    ⟨(some (.E 15)), .faddr 0 (.E 14), none⟩,
    ⟨(some (.E 16)), .load false 1 (.E 15), none⟩,
    ⟨(some (.E 17)), .mv (.V 1), none⟩,
    ⟨(some (.E 18)), .bin .neq (.E 16) (.E 17), none⟩])
  (.cond (.E 18)
   (.seq (.reg [⟨(some (.V 4)), .mv (ki (-1)), none⟩])
   (.ret))
   (.skip)))
  (.seq (.reg [⟨(some (.E 19)), .mv (.V 1), none⟩,
    ⟨(some (.E 20)), .bin .add (.E 19) (ki 1), none⟩,
    ⟨(some (.V 1)), .mv (.E 20), none⟩])
  (.seq (.seq (.reg [⟨(some (.E 21)), .mv (.V 0), none⟩,
    ⟨(some (.E 22)), .mv (.V 5), none⟩,
    ⟨(some (.E 23)), .iaddr 2 (.E 21) (.E 22), none⟩,
    ⟨(some (.E 24)), .faddr 1 (.E 23), none⟩,
    ⟨(some (.E 25)), .load false 1 (.E 24), none⟩,
    ⟨(some (.E 26)), .mv (.V 1), none⟩,
    ⟨(some (.E 27)), .bin .neq (.E 25) (.E 26), none⟩])
  (.cond (.E 27)
   (.seq (.reg [⟨(some (.V 4)), .mv (ki (-1)), none⟩])
   (.ret))
   (.skip)))
  (.reg [⟨(some (.E 28)), .mv (.V 1), none⟩,
    ⟨(some (.E 29)), .bin .add (.E 28) (ki 1), none⟩,
    ⟨(some (.V 1)), .mv (.E 29), none⟩])))))
 (.reg [⟨(some (.E 10)), .mv (.V 5), none⟩,
   ⟨(some (.E 11)), .bin .add (.E 10) (ki 1), none⟩,
   ⟨(some (.V 5)), .mv (.E 11), none⟩]))

def k_laws_heldSlotS_ic : IC :=
 .seq (.reg [⟨(some (.V 4)), .mv (ki 0), none⟩])
 (.seq (.seq (.reg [⟨(some (.V 5)), .mv (ki 0), none⟩])
 (.block 0 (.loop k_laws_heldSlotS_b0)))
 (.seq (.reg [⟨(some (.E 30)), .mv (.V 1), none⟩,
   ⟨(some (.V 4)), .mv (.E 30), none⟩])
 (.ret)))

def k_laws_heldSlotS_rv : List RV := [.tmp [0] 4]

def k_spec_l1In_vars : List Nat := [0, 1, 2, 6]

def k_spec_l1In_ic : IC :=
 .seq (.reg [⟨(some (.V 6)), .mv (kb false), none⟩])
 (.seq (.reg [⟨(some (.E 7)), .mv (.V 0), none⟩,
   ⟨(some (.E 8)), .mv (.V 1), none⟩,
   ⟨(some (.E 9)), .bin .geq (.E 7) (.E 8), none⟩,
   ⟨(some (.E 10)), .mv (.E 9), none⟩,
   ⟨(some (.E 11)), .mv (.V 0), some ((.E 10), true)⟩,
   ⟨(some (.E 12)), .mv (.V 2), some ((.E 10), true)⟩,
   ⟨(some (.E 13)), .bin .leq (.E 11) (.E 12), some ((.E 10), true)⟩,
   ⟨(some (.E 14)), .pick (.E 10) (.E 13) (kb false), none⟩,
   ⟨(some (.V 6)), .mv (.E 14), none⟩])
 (.ret))

def k_spec_l1In_rv : List RV := [.tmp [0] 6]

def k_spec_l6Value_vars : List Nat := [0, 2]

def k_spec_l6Value_ic : IC :=
 .seq (.reg [⟨(some (.V 2)), .mv (kb false), none⟩])
 (.seq (.reg [⟨(some (.E 3)), .mv (.V 0), none⟩,
   ⟨(some (.E 4)), .call k_spec_l1In [([0], (.E 3)), ([0], (ki (-2147483647))), ([0], (ki 2147483647))], none⟩,
   ⟨(some (.V 2)), .mv (.E 4), none⟩])
 (.ret))

def k_spec_l6Value_rv : List RV := [.tmp [0] 2]

def k_impl_within_vars : List Nat := [0, 1, 2, 6]

def k_impl_within_ic : IC :=
 .seq (.reg [⟨(some (.V 6)), .mv (kb false), none⟩])
 (.seq (.reg [⟨(some (.E 7)), .mv (.V 0), none⟩,
   ⟨(some (.E 8)), .mv (.V 1), none⟩,
   ⟨(some (.E 9)), .bin .geq (.E 7) (.E 8), none⟩,
   ⟨(some (.E 10)), .mv (.E 9), none⟩,
   ⟨(some (.E 11)), .mv (.V 0), some ((.E 10), true)⟩,
   ⟨(some (.E 12)), .mv (.V 2), some ((.E 10), true)⟩,
   ⟨(some (.E 13)), .bin .leq (.E 11) (.E 12), some ((.E 10), true)⟩,
   ⟨(some (.E 14)), .pick (.E 10) (.E 13) (kb false), none⟩,
   ⟨(some (.V 6)), .mv (.E 14), none⟩])
 (.ret))

def k_impl_within_rv : List RV := [.tmp [0] 6]

def k_slices_ContainsFunc___int_int__vars : List Nat := [0, 1, 4]

def k_slices_ContainsFunc___int_int__ic : IC :=
 .seq (.reg [⟨(some (.V 4)), .mv (kb false), none⟩])
 (.seq (.reg [⟨(some (.E 5)), .mv (.V 0), none⟩,
   ⟨(some (.E 6)), .mv (.V 1), none⟩,
   ⟨(some (.E 7)), .call k_slices_IndexFunc___int_int_ [([1], (.E 5)), ([0], (.E 6))], none⟩,
   ⟨(some (.E 8)), .bin .geq (.E 7) (ki 0), none⟩,
   ⟨(some (.V 4)), .mv (.E 8), none⟩])
 (.ret))

def k_slices_ContainsFunc___int_int__rv : List RV := [.tmp [0] 4]

def k_impl_isDecimal_vars : List Nat := [0, 2]

def k_impl_isDecimal_ic : IC :=
 .seq (.reg [⟨(some (.V 2)), .mv (kb false), none⟩])
 (.seq (.reg [⟨(some (.E 3)), .mv (.V 0), none⟩,
   ⟨(some (.E 4)), .call k_impl_within [([0], (.E 3)), ([0], (ki (-2147483647))), ([0], (ki 2147483647))], none⟩,
   ⟨(some (.V 2)), .mv (.E 4), none⟩])
 (.ret))

def k_impl_isDecimal_rv : List RV := [.tmp [0] 2]

def k_spec_RowsIn_vars : List Nat := [0, 1, 2]

def k_spec_RowsIn_ic : IC :=
 .seq (.reg [⟨(some (.V 1)), .box (.V 0), none⟩,
   ⟨(some (.V 2)), .mv (ki 0), none⟩])
 (.seq (.seq (.reg [⟨(some (.E 3)), .faddr 1 (.V 1), none⟩,
   ⟨(some (.E 4)), .load false 1 (.E 3), none⟩,
   ⟨(some (.E 5)), .len (.E 4), none⟩,
   ⟨(some (.E 6)), .bin .eql (.E 5) (ki 0), none⟩])
 (.cond (.E 6)
  (.seq (.reg [⟨(some (.V 2)), .mv (ki 0), none⟩])
  (.ret))
  (.skip)))
 (.seq (.reg [⟨(some (.E 7)), .faddr 1 (.V 1), none⟩,
   ⟨(some (.E 8)), .load false 1 (.E 7), none⟩,
   ⟨(some (.E 9)), .iaddr 1 (.E 8) (ki 0), none⟩,
   ⟨(some (.E 10)), .load false 1 (.E 9), none⟩,
   ⟨(some (.E 11)), .len (.E 10), none⟩,
   ⟨(some (.V 2)), .mv (.E 11), none⟩])
 (.ret)))

def k_spec_RowsIn_rv : List RV := [.tmp [0] 2]

def k_spec_CutsOk_vars : List Nat := [0, 3, 2]

def k_spec_CutsOk_b0 : IC :=
 .seq (.seq (.reg [⟨(some (.E 4)), .mv (.V 3), none⟩,
   ⟨(some (.E 5)), .mv (.V 0), none⟩,
   ⟨(some (.E 6)), .len (.E 5), none⟩,
   ⟨(some (.E 7)), .bin .lss (.E 4) (.E 6), none⟩])
 (.cond (.E 7)
  (.skip)
  (.exit 0)))
 (.seq (.block 1 (.seq (.regD [(⟨(some (.E 10)), .mv (.V 0), none⟩, 0, 0),
    (⟨(some (.E 11)), .mv (.V 3), none⟩, 0, 0),
    (⟨(some (.E 12)), .iaddr 1 (.E 10) (.E 11), none⟩, 0, 0),
    (⟨(some (.E 13)), .load false 1 (.E 12), none⟩, 0, 0),
    (⟨(some (.E 14)), .call k_spec_l6Value [([0], (.E 13))], none⟩, 0, 0),
    (⟨(some (.E 15)), .un .not (.E 14), none⟩, 0, 0),
    (⟨(some (.E 16)), .mv (.E 15), none⟩, 0, 0),
    (⟨(some (.E 17)), .mv (.V 3), some ((.E 16), false)⟩, 0, 0),
    (⟨(some (.E 18)), .bin .gtr (.E 17) (ki 0), some ((.E 16), false)⟩, 0, 0),
    (⟨(some (.E 19)), .mv (.E 18), some ((.E 16), false)⟩, 0, 0),
    (⟨(some (.E 20)), .mv (.V 0), some ((.E 19), true)⟩, 0, 0),
    (⟨(some (.E 21)), .mv (.V 3), some ((.E 19), true)⟩, 0, 0),
    (⟨(some (.E 22)), .bin .sub (.E 21) (ki 1), some ((.E 19), true)⟩, 0, 0),
    (⟨(some (.E 23)), .iaddr 1 (.E 20) (.E 22), some ((.E 19), true)⟩, 0, 0),
    (⟨(some (.E 24)), .load false 1 (.E 23), some ((.E 19), true)⟩, 0, 0),
    (⟨(some (.E 25)), .mv (.V 0), some ((.E 19), true)⟩, 0, 0),
    (⟨(some (.E 26)), .mv (.V 3), some ((.E 19), true)⟩, 0, 0),
    (⟨(some (.E 27)), .iaddr 1 (.E 25) (.E 26), some ((.E 19), true)⟩, 0, 0),
    (⟨(some (.E 28)), .load false 1 (.E 27), some ((.E 19), true)⟩, 0, 0),
    (⟨(some (.E 29)), .bin .geq (.E 24) (.E 28), some ((.E 19), true)⟩, 0, 0),
    (⟨(some (.E 30)), .pick (.E 19) (.E 29) (kb false), some ((.E 16), false)⟩, 0, 0),
    (⟨(some (.E 31)), .pick (.E 16) (kb true) (.E 30), none⟩, 0, 0)])
  (.cond (.E 31)
   (.seq (.reg [⟨(some (.V 2)), .mv (kb false), none⟩])
   (.ret))
   (.skip))))
 (.reg [⟨(some (.E 8)), .mv (.V 3), none⟩,
   ⟨(some (.E 9)), .bin .add (.E 8) (ki 1), none⟩,
   ⟨(some (.V 3)), .mv (.E 9), none⟩]))

def k_spec_CutsOk_ic : IC :=
 .seq (.reg [⟨(some (.V 2)), .mv (kb false), none⟩])
 (.seq (.seq (.reg [⟨(some (.V 3)), .mv (ki 0), none⟩])
 (.block 0 (.loop k_spec_CutsOk_b0)))
 (.seq (.reg [⟨(some (.E 32)), .mv (.V 0), none⟩,
   ⟨(some (.E 33)), .len (.E 32), none⟩,
   ⟨(some (.E 34)), .bin .leq (.E 33) (ki 7), none⟩,
   ⟨(some (.V 2)), .mv (.E 34), none⟩])
 (.ret)))

def k_spec_CutsOk_rv : List RV := [.tmp [0] 2]

def k_spec_l13Add_vars : List Nat := [0, 1, 2, 3, 7, 9, 4, 6, 8, 5]

def k_spec_l13Add_ic : IC :=
 .seq (.reg [⟨(some (.V 2)), .box (.V 0), none⟩,
   ⟨(some (.V 3)), .box (.V 1), none⟩,
   ⟨(some (.V 4)), .alloc [(.v (.int .i64 0)), (.v (.int .i64 0))], none⟩,
   ⟨(some (.V 5)), .mv (kb false), none⟩])
 (.seq (.reg [⟨(some (.E 11)), .faddr 0 (.V 2), none⟩,
   ⟨(some (.E 12)), .load false 1 (.E 11), none⟩,
   ⟨(some (.E 13)), .faddr 0 (.V 3), none⟩,
   ⟨(some (.E 14)), .load false 1 (.E 13), none⟩,
   ⟨(some (.E 15)), .call k_spec_AddInt [([0], (.E 12)), ([0], (.E 14))], none⟩,
   ⟨(some (.E 10)), .mv (.E 15), none⟩,
   ⟨(some (.E 16)), .ext 0 (.E 10), none⟩,
   ⟨(some (.E 17)), .ext 1 (.E 10), none⟩,
   ⟨(some (.V 6)), .mv (.E 16), none⟩,
   ⟨(some (.V 7)), .mv (.E 17), none⟩])
 (.seq (.reg [⟨(some (.E 19)), .faddr 1 (.V 2), none⟩,
   ⟨(some (.E 20)), .load false 1 (.E 19), none⟩,
   ⟨(some (.E 21)), .faddr 1 (.V 3), none⟩,
   ⟨(some (.E 22)), .load false 1 (.E 21), none⟩,
   ⟨(some (.E 23)), .call k_spec_AddInt [([0], (.E 20)), ([0], (.E 22))], none⟩,
   ⟨(some (.E 18)), .mv (.E 23), none⟩,
   ⟨(some (.E 24)), .ext 0 (.E 18), none⟩,
   ⟨(some (.E 25)), .ext 1 (.E 18), none⟩,
   ⟨(some (.V 8)), .mv (.E 24), none⟩,
   ⟨(some (.V 9)), .mv (.E 25), none⟩])
 (.seq (.seq (.reg [⟨(some (.E 26)), .mv (.V 7), none⟩,
   ⟨(some (.E 27)), .un .not (.E 26), none⟩,
   ⟨(some (.E 28)), .mv (.E 27), none⟩,
   ⟨(some (.E 29)), .mv (.V 9), some ((.E 28), false)⟩,
   ⟨(some (.E 30)), .un .not (.E 29), some ((.E 28), false)⟩,
   ⟨(some (.E 31)), .pick (.E 28) (kb true) (.E 30), none⟩])
 (.cond (.E 31)
  (.seq (.reg [⟨(some (.E 32)), .build [(.v (.int .i64 0)), (.v (.int .i64 0))] [], none⟩,
    ⟨none, .store [0, 0] (.V 4) (.E 32), none⟩,
    ⟨(some (.V 5)), .mv (kb false), none⟩])
  (.ret))
  (.skip)))
 (.seq (.reg [⟨(some (.E 33)), .mv (.V 6), none⟩,
   ⟨(some (.E 34)), .mv (.V 8), none⟩,
   ⟨(some (.E 35)), .build [(.v (.int .i64 0)), (.v (.int .i64 0))] [(0, 1, (.E 33)), (1, 1, (.E 34))], none⟩,
   ⟨none, .store [0, 0] (.V 4) (.E 35), none⟩,
   ⟨(some (.V 5)), .mv (kb true), none⟩])
 (.ret)))))

def k_spec_l13Add_rv : List RV := [.cell [0, 0] 4 true, .tmp [0] 5]

def k_impl_RowsIn_vars : List Nat := [0, 1, 2]

def k_impl_RowsIn_ic : IC :=
 .seq (.reg [⟨(some (.V 1)), .box (.V 0), none⟩,
   ⟨(some (.V 2)), .mv (ki 0), none⟩])
 (.seq (.seq (.reg [⟨(some (.E 3)), .faddr 1 (.V 1), none⟩,
   ⟨(some (.E 4)), .load false 1 (.E 3), none⟩,
   ⟨(some (.E 5)), .len (.E 4), none⟩,
   ⟨(some (.E 6)), .bin .eql (.E 5) (ki 0), none⟩])
 (.cond (.E 6)
  (.seq (.reg [⟨(some (.V 2)), .mv (ki 0), none⟩])
  (.ret))
  (.skip)))
 (.seq (.reg [⟨(some (.E 7)), .faddr 1 (.V 1), none⟩,
   ⟨(some (.E 8)), .load false 1 (.E 7), none⟩,
   ⟨(some (.E 9)), .iaddr 1 (.E 8) (ki 0), none⟩,
   ⟨(some (.E 10)), .load false 1 (.E 9), none⟩,
   ⟨(some (.E 11)), .len (.E 10), none⟩,
   ⟨(some (.V 2)), .mv (.E 11), none⟩])
 (.ret)))

def k_impl_RowsIn_rv : List RV := [.tmp [0] 2]

def k_impl_CutsOk_vars : List Nat := [0, 3, 2]

def k_impl_CutsOk_b0 : IC :=
 .seq (.seq (.reg [⟨(some (.E 4)), .mv (.V 3), none⟩,
   ⟨(some (.E 5)), .mv (.V 0), none⟩,
   ⟨(some (.E 6)), .len (.E 5), none⟩,
   ⟨(some (.E 7)), .bin .lss (.E 4) (.E 6), none⟩])
 (.cond (.E 7)
  (.skip)
  (.exit 0)))
 (.seq (.block 1 (.seq (.regD [(⟨(some (.E 10)), .mv (.V 0), none⟩, 0, 0),
    (⟨(some (.E 11)), .mv (.V 3), none⟩, 0, 0),
    (⟨(some (.E 12)), .bin .sub (.E 11) (ki 1), none⟩, 0, 0),
    (⟨(some (.E 13)), .iaddr 1 (.E 10) (.E 12), none⟩, 0, 0),
    (⟨(some (.E 14)), .load false 1 (.E 13), none⟩, 0, 0),
    (⟨(some (.E 15)), .mv (.V 0), none⟩, 0, 0),
    (⟨(some (.E 16)), .mv (.V 3), none⟩, 0, 0),
    (⟨(some (.E 17)), .iaddr 1 (.E 15) (.E 16), none⟩, 0, 0),
    (⟨(some (.E 18)), .load false 1 (.E 17), none⟩, 0, 0),
    (⟨(some (.E 19)), .bin .geq (.E 14) (.E 18), none⟩, 0, 0)])
  (.cond (.E 19)
   (.seq (.reg [⟨(some (.V 2)), .mv (kb false), none⟩])
   (.ret))
   (.skip))))
 (.reg [⟨(some (.E 8)), .mv (.V 3), none⟩,
   ⟨(some (.E 9)), .bin .add (.E 8) (ki 1), none⟩,
   ⟨(some (.V 3)), .mv (.E 9), none⟩]))

def k_impl_CutsOk_ic : IC :=
 .seq (.reg [⟨(some (.V 2)), .mv (kb false), none⟩])
 (.seq (.seq (.reg [⟨(some (.V 3)), .mv (ki 1), none⟩])
 (.block 0 (.loop k_impl_CutsOk_b0)))
 (.seq (.reg [⟨(some (.E 20)), .mv (.V 0), none⟩,
   ⟨(some (.E 21)), .len (.E 20), none⟩,
   ⟨(some (.E 22)), .bin .leq (.E 21) (ki 7), none⟩,
   ⟨(some (.E 23)), .mv (.E 22), none⟩,
   ⟨(some (.E 24)), .mv (.V 0), some ((.E 23), true)⟩,
   ⟨(some (.E 25)), .call k_impl_areDecimals [([1], (.E 24))], some ((.E 23), true)⟩,
   ⟨(some (.E 26)), .pick (.E 23) (.E 25) (kb false), none⟩,
   ⟨(some (.V 2)), .mv (.E 26), none⟩])
 (.ret)))

def k_impl_CutsOk_rv : List RV := [.tmp [0] 2]

def k_impl_GridOk_1_vars : List Nat := [0, 1, 3]

def k_impl_GridOk_1_ic : IC :=
 .seq (.reg [⟨(some (.V 3)), .mv (kb false), none⟩])
 (.seq (.reg [⟨(some (.E 4)), .mv (.V 0), none⟩,
   ⟨(some (.E 5)), .load false 1 (.V 1), none⟩,
   ⟨(some (.E 6)), .len (.E 5), none⟩,
   ⟨(some (.E 7)), .call k_impl_within [([0], (.E 4)), ([0], (ki 0)), ([0], (.E 6))], none⟩,
   ⟨(some (.E 8)), .un .not (.E 7), none⟩,
   ⟨(some (.V 3)), .mv (.E 8), none⟩])
 (.ret))

def k_impl_GridOk_1_rv : List RV := [.tmp [0] 3]

def k__impl_Slot__plus_vars : List Nat := [0, 1, 2, 3, 7, 9, 4, 6, 8, 5]

def k__impl_Slot__plus_ic : IC :=
 .seq (.reg [⟨(some (.V 2)), .box (.V 0), none⟩,
   ⟨(some (.V 3)), .box (.V 1), none⟩,
   ⟨(some (.V 4)), .alloc [(.v (.int .i64 0)), (.v (.int .i64 0))], none⟩,
   ⟨(some (.V 5)), .mv (kb false), none⟩])
 (.seq (.reg [⟨(some (.E 11)), .faddr 0 (.V 2), none⟩,
   ⟨(some (.E 12)), .load false 1 (.E 11), none⟩,
   ⟨(some (.E 13)), .faddr 0 (.V 3), none⟩,
   ⟨(some (.E 14)), .load false 1 (.E 13), none⟩,
   ⟨(some (.E 15)), .call k_impl_AddInt [([0], (.E 12)), ([0], (.E 14))], none⟩,
   ⟨(some (.E 10)), .mv (.E 15), none⟩,
   ⟨(some (.E 16)), .ext 0 (.E 10), none⟩,
   ⟨(some (.E 17)), .ext 1 (.E 10), none⟩,
   ⟨(some (.V 6)), .mv (.E 16), none⟩,
   ⟨(some (.V 7)), .mv (.E 17), none⟩])
 (.seq (.reg [⟨(some (.E 19)), .faddr 1 (.V 2), none⟩,
   ⟨(some (.E 20)), .load false 1 (.E 19), none⟩,
   ⟨(some (.E 21)), .faddr 1 (.V 3), none⟩,
   ⟨(some (.E 22)), .load false 1 (.E 21), none⟩,
   ⟨(some (.E 23)), .call k_impl_AddInt [([0], (.E 20)), ([0], (.E 22))], none⟩,
   ⟨(some (.E 18)), .mv (.E 23), none⟩,
   ⟨(some (.E 24)), .ext 0 (.E 18), none⟩,
   ⟨(some (.E 25)), .ext 1 (.E 18), none⟩,
   ⟨(some (.V 8)), .mv (.E 24), none⟩,
   ⟨(some (.V 9)), .mv (.E 25), none⟩])
 (.seq (.seq (.reg [⟨(some (.E 26)), .mv (.V 7), none⟩,
   ⟨(some (.E 27)), .un .not (.E 26), none⟩,
   ⟨(some (.E 28)), .mv (.E 27), none⟩,
   ⟨(some (.E 29)), .mv (.V 9), some ((.E 28), false)⟩,
   ⟨(some (.E 30)), .un .not (.E 29), some ((.E 28), false)⟩,
   ⟨(some (.E 31)), .pick (.E 28) (kb true) (.E 30), none⟩])
 (.cond (.E 31)
  (.seq (.reg [⟨(some (.E 32)), .build [(.v (.int .i64 0)), (.v (.int .i64 0))] [], none⟩,
    ⟨none, .store [0, 0] (.V 4) (.E 32), none⟩,
    ⟨(some (.V 5)), .mv (kb false), none⟩])
  (.ret))
  (.skip)))
 (.seq (.reg [⟨(some (.E 33)), .mv (.V 6), none⟩,
   ⟨(some (.E 34)), .mv (.V 8), none⟩,
   ⟨(some (.E 35)), .build [(.v (.int .i64 0)), (.v (.int .i64 0))] [(0, 1, (.E 33)), (1, 1, (.E 34))], none⟩,
   ⟨none, .store [0, 0] (.V 4) (.E 35), none⟩,
   ⟨(some (.V 5)), .mv (kb true), none⟩])
 (.ret)))))

def k__impl_Slot__plus_rv : List RV := [.cell [0, 0] 4 true, .tmp [0] 5]

def k_laws_eqSlot_vars : List Nat := [0, 1, 2, 3, 4]

def k_laws_eqSlot_ic : IC :=
 .seq (.reg [⟨(some (.V 2)), .box (.V 0), none⟩,
   ⟨(some (.V 3)), .box (.V 1), none⟩,
   ⟨(some (.V 4)), .mv (kb false), none⟩])
 (.seq (.seq (.reg [⟨(some (.E 5)), .faddr 0 (.V 2), none⟩,
   ⟨(some (.E 6)), .load false 1 (.E 5), none⟩,
   ⟨(some (.E 7)), .faddr 0 (.V 3), none⟩,
   ⟨(some (.E 8)), .load false 1 (.E 7), none⟩,
   ⟨(some (.E 9)), .bin .neq (.E 6) (.E 8), none⟩])
 (.cond (.E 9)
  (.seq (.reg [⟨(some (.V 4)), .mv (kb false), none⟩])
  (.ret))
  (.skip)))
 (.seq (.seq (.reg [⟨(some (.E 10)), .faddr 1 (.V 2), none⟩,
   ⟨(some (.E 11)), .load false 1 (.E 10), none⟩,
   ⟨(some (.E 12)), .faddr 1 (.V 3), none⟩,
   ⟨(some (.E 13)), .load false 1 (.E 12), none⟩,
   ⟨(some (.E 14)), .bin .neq (.E 11) (.E 13), none⟩])
 (.cond (.E 14)
  (.seq (.reg [⟨(some (.V 4)), .mv (kb false), none⟩])
  (.ret))
  (.skip)))
 (.seq (.reg [⟨(some (.V 4)), .mv (kb true), none⟩])
 (.ret))))

def k_laws_eqSlot_rv : List RV := [.tmp [0] 4]

def k_slices_IndexFunc___int_int__vars : List Nat := [0, 1, 8, 7, 5, 4]

def k_slices_IndexFunc___int_int__b0 : IC :=
 .seq (.reg [⟨(some (.E 9)), .bin .lss (.V 8) (.V 7), none⟩])
 (.seq (.cond (.E 9)
  (.skip)
  (.exit 0))
 (.seq (.block 1 (.seq (.reg [⟨(some (.E 10)), .mv (.V 8), none⟩,
    ⟨(some (.V 5)), .mv (.E 10), none⟩])
  (.seq (.reg [⟨(some (.E 11)), .mv (.V 1), none⟩,
    ⟨(some (.E 12)), .mv (.V 0), none⟩,
    ⟨(some (.E 13)), .mv (.V 5), none⟩,
    ⟨(some (.E 14)), .iaddr 1 (.E 12) (.E 13), none⟩,
    ⟨(some (.E 15)), .load false 1 (.E 14), none⟩,
    ⟨(some (.E 16)), .callv (.E 11) [([0], (.E 15))], none⟩])
  (.cond (.E 16)
   (.seq (.reg [⟨(some (.E 17)), .mv (.V 5), none⟩,
     ⟨(some (.V 4)), .mv (.E 17), none⟩])
   (.ret))
   (.skip)))))
 (.reg [⟨(some (.E 18)), .bin .add (.V 8) (ki 1), none⟩,
   ⟨(some (.V 8)), .mv (.E 18), none⟩])))

def k_slices_IndexFunc___int_int__ic : IC :=
 .seq (.reg [⟨(some (.V 4)), .mv (ki 0), none⟩])
 (.seq (.seq (.reg [⟨(some (.E 6)), .mv (.V 0), none⟩,
   ⟨(some (.V 7)), .len (.E 6), none⟩,
   ⟨(some (.V 8)), .mv (ki 0), none⟩])
 (.block 0 (.loop k_slices_IndexFunc___int_int__b0)))
 (.seq (.reg [⟨(some (.V 4)), .mv (ki (-1)), none⟩])
 (.ret)))

def k_slices_IndexFunc___int_int__rv : List RV := [.tmp [0] 4]

def k_spec_AddInt_vars : List Nat := [0, 1, 4, 5]

def k_spec_AddInt_ic : IC :=
 .seq (.reg [⟨(some (.V 4)), .mv (ki 0), none⟩,
   ⟨(some (.V 5)), .mv (kb false), none⟩])
 (.seq (.seq (.reg [⟨(some (.E 6)), .mv (.V 1), none⟩,
   ⟨(some (.E 7)), .bin .gtr (.E 6) (ki 0), none⟩,
   ⟨(some (.E 8)), .mv (.E 7), none⟩,
   ⟨(some (.E 9)), .mv (.V 0), some ((.E 8), true)⟩,
   ⟨(some (.E 10)), .mv (.V 1), some ((.E 8), true)⟩,
   ⟨(some (.E 11)), .bin .sub (ki 9223372036854775807) (.E 10), some ((.E 8), true)⟩,
   ⟨(some (.E 12)), .bin .gtr (.E 9) (.E 11), some ((.E 8), true)⟩,
   ⟨(some (.E 13)), .pick (.E 8) (.E 12) (kb false), none⟩,
   ⟨(some (.E 14)), .mv (.E 13), none⟩,
   ⟨(some (.E 15)), .mv (.V 1), some ((.E 14), false)⟩,
   ⟨(some (.E 16)), .bin .lss (.E 15) (ki 0), some ((.E 14), false)⟩,
   ⟨(some (.E 17)), .mv (.E 16), some ((.E 14), false)⟩,
   ⟨(some (.E 18)), .mv (.V 0), some ((.E 17), true)⟩,
   ⟨(some (.E 19)), .mv (.V 1), some ((.E 17), true)⟩,
   ⟨(some (.E 20)), .bin .sub (ki (-9223372036854775808)) (.E 19), some ((.E 17), true)⟩,
   ⟨(some (.E 21)), .bin .lss (.E 18) (.E 20), some ((.E 17), true)⟩,
   ⟨(some (.E 22)), .pick (.E 17) (.E 21) (kb false), some ((.E 14), false)⟩,
   ⟨(some (.E 23)), .pick (.E 14) (kb true) (.E 22), none⟩])
 (.cond (.E 23)
  (.seq (.reg [⟨(some (.V 4)), .mv (ki 0), none⟩,
    ⟨(some (.V 5)), .mv (kb false), none⟩])
  (.ret))
  (.skip)))
 (.seq (.reg [⟨(some (.E 24)), .mv (.V 0), none⟩,
   ⟨(some (.E 25)), .mv (.V 1), none⟩,
   ⟨(some (.E 26)), .bin .add (.E 24) (.E 25), none⟩,
   ⟨(some (.V 4)), .mv (.E 26), none⟩,
   ⟨(some (.V 5)), .mv (kb true), none⟩])
 (.ret)))

def k_spec_AddInt_rv : List RV := [.tmp [0] 4, .tmp [0] 5]

def k_impl_areDecimals_vars : List Nat := [0, 2]

def k_impl_areDecimals_ic : IC :=
 .seq (.reg [⟨(some (.V 2)), .mv (kb false), none⟩])
 (.seq (.reg [⟨(some (.E 3)), .mv (.V 0), none⟩,
   ⟨(some (.E 4)), .call k_slices_ContainsFunc___int_int_ [([1], (.E 3)), ([0], (.C (.fn k_impl_areDecimals_1 [])))], none⟩,
   ⟨(some (.E 5)), .un .not (.E 4), none⟩,
   ⟨(some (.V 2)), .mv (.E 5), none⟩])
 (.ret))

def k_impl_areDecimals_rv : List RV := [.tmp [0] 2]

def k_impl_AddInt_vars : List Nat := [0, 1, 6, 4, 5]

def k_impl_AddInt_ic : IC :=
 .seq (.reg [⟨(some (.V 4)), .mv (ki 0), none⟩,
   ⟨(some (.V 5)), .mv (kb false), none⟩])
 (.seq (.reg [⟨(some (.E 7)), .mv (.V 0), none⟩,
   ⟨(some (.E 8)), .mv (.V 1), none⟩,
   ⟨(some (.E 9)), .bin .add (.E 7) (.E 8), none⟩,
   ⟨(some (.V 6)), .mv (.E 9), none⟩])
 (.seq (.seq (.reg [⟨(some (.E 10)), .mv (.V 0), none⟩,
   ⟨(some (.E 11)), .bin .lss (.E 10) (ki 0), none⟩,
   ⟨(some (.E 12)), .mv (.V 1), none⟩,
   ⟨(some (.E 13)), .bin .lss (.E 12) (ki 0), none⟩,
   ⟨(some (.E 14)), .eqb false [.b] (.E 11) (.E 13), none⟩,
   ⟨(some (.E 15)), .mv (.E 14), none⟩,
   ⟨(some (.E 16)), .mv (.V 6), some ((.E 15), true)⟩,
   ⟨(some (.E 17)), .bin .lss (.E 16) (ki 0), some ((.E 15), true)⟩,
   ⟨(some (.E 18)), .mv (.V 0), some ((.E 15), true)⟩,
   ⟨(some (.E 19)), .bin .lss (.E 18) (ki 0), some ((.E 15), true)⟩,
   ⟨(some (.E 20)), .eqb true [.b] (.E 17) (.E 19), some ((.E 15), true)⟩,
   ⟨(some (.E 21)), .pick (.E 15) (.E 20) (kb false), none⟩])
 (.cond (.E 21)
  (.seq (.reg [⟨(some (.V 4)), .mv (ki 0), none⟩,
    ⟨(some (.V 5)), .mv (kb false), none⟩])
  (.ret))
  (.skip)))
 (.seq (.reg [⟨(some (.E 22)), .mv (.V 6), none⟩,
   ⟨(some (.V 4)), .mv (.E 22), none⟩,
   ⟨(some (.V 5)), .mv (kb true), none⟩])
 (.ret))))

def k_impl_AddInt_rv : List RV := [.tmp [0] 4, .tmp [0] 5]

def k_impl_areDecimals_1_vars : List Nat := [0, 2]

def k_impl_areDecimals_1_ic : IC :=
 .seq (.reg [⟨(some (.V 2)), .mv (kb false), none⟩])
 (.seq (.reg [⟨(some (.E 3)), .mv (.V 0), none⟩,
   ⟨(some (.E 4)), .call k_impl_isDecimal [([0], (.E 3))], none⟩,
   ⟨(some (.E 5)), .un .not (.E 4), none⟩,
   ⟨(some (.V 2)), .mv (.E 5), none⟩])
 (.ret))

def k_impl_areDecimals_1_rv : List RV := [.tmp [0] 2]

def tbl : List (Nat × Fun) := [
  (k_laws_FnExactNodeHists, fnOf k_laws_FnExactNodeHists_ic k_laws_FnExactNodeHists_rv []),
  (k_laws_szGrid, fnOf k_laws_szGrid_ic k_laws_szGrid_rv []),
  (k_spec_NodeHists, fnOf k_spec_NodeHists_ic k_spec_NodeHists_rv []),
  (k_laws_toGrid, fnOf k_laws_toGrid_ic k_laws_toGrid_rv []),
  (k_laws_toIntS, fnOf k_laws_toIntS_ic k_laws_toIntS_rv []),
  (k_impl_NodeHists, fnOf k_impl_NodeHists_ic k_impl_NodeHists_rv []),
  (k_laws_eqSlotSS, fnOf k_laws_eqSlotSS_ic k_laws_eqSlotSS_rv []),
  (k_laws_eqGrid, fnOf k_laws_eqGrid_ic k_laws_eqGrid_rv []),
  (k_laws_eqIntS, fnOf k_laws_eqIntS_ic k_laws_eqIntS_rv []),
  (k_laws_markGrid, fnOf k_laws_markGrid_ic k_laws_markGrid_rv [true]),
  (k_laws_markIntS, fnOf k_laws_markIntS_ic k_laws_markIntS_rv [true]),
  (k_laws_markSlotSS, fnOf k_laws_markSlotSS_ic k_laws_markSlotSS_rv [true]),
  (k_laws_heldSlotSS, fnOf k_laws_heldSlotSS_ic k_laws_heldSlotSS_rv []),
  (k_laws_szIntSS, fnOf k_laws_szIntSS_ic k_laws_szIntSS_rv []),
  (k_laws_toIntSS, fnOf k_laws_toIntSS_ic k_laws_toIntSS_rv []),
  (k_laws_eqIntSS, fnOf k_laws_eqIntSS_ic k_laws_eqIntSS_rv []),
  (k_laws_markIntSS, fnOf k_laws_markIntSS_ic k_laws_markIntSS_rv [true]),
  (k_laws_szIntS, fnOf k_laws_szIntS_ic k_laws_szIntS_rv []),
  (k_spec_GridOk, fnOf k_spec_GridOk_ic k_spec_GridOk_rv []),
  (k_spec_HistOf, fnOf k_spec_HistOf_ic k_spec_HistOf_rv []),
  (k_impl_GridOk, fnOf k_impl_GridOk_ic k_impl_GridOk_rv []),
  (k_impl_HistOf, fnOf k_impl_HistOf_ic k_impl_HistOf_rv []),
  (k_laws_eqSlotS, fnOf k_laws_eqSlotS_ic k_laws_eqSlotS_rv []),
  (k_laws_markSlotS, fnOf k_laws_markSlotS_ic k_laws_markSlotS_rv [true]),
  (k_laws_heldSlotS, fnOf k_laws_heldSlotS_ic k_laws_heldSlotS_rv []),
  (k_spec_l1In, fnOf k_spec_l1In_ic k_spec_l1In_rv []),
  (k_spec_l6Value, fnOf k_spec_l6Value_ic k_spec_l6Value_rv []),
  (k_impl_within, fnOf k_impl_within_ic k_impl_within_rv []),
  (k_slices_ContainsFunc___int_int_, fnOf k_slices_ContainsFunc___int_int__ic k_slices_ContainsFunc___int_int__rv []),
  (k_impl_isDecimal, fnOf k_impl_isDecimal_ic k_impl_isDecimal_rv []),
  (k_spec_RowsIn, fnOf k_spec_RowsIn_ic k_spec_RowsIn_rv []),
  (k_spec_CutsOk, fnOf k_spec_CutsOk_ic k_spec_CutsOk_rv []),
  (k_spec_l13Add, fnOf k_spec_l13Add_ic k_spec_l13Add_rv []),
  (k_impl_RowsIn, fnOf k_impl_RowsIn_ic k_impl_RowsIn_rv []),
  (k_impl_CutsOk, fnOf k_impl_CutsOk_ic k_impl_CutsOk_rv []),
  (k_impl_GridOk_1, fnOf k_impl_GridOk_1_ic k_impl_GridOk_1_rv []),
  (k__impl_Slot__plus, fnOf k__impl_Slot__plus_ic k__impl_Slot__plus_rv []),
  (k_laws_eqSlot, fnOf k_laws_eqSlot_ic k_laws_eqSlot_rv []),
  (k_slices_IndexFunc___int_int_, fnOf k_slices_IndexFunc___int_int__ic k_slices_IndexFunc___int_int__rv []),
  (k_spec_AddInt, fnOf k_spec_AddInt_ic k_spec_AddInt_rv []),
  (k_impl_areDecimals, fnOf k_impl_areDecimals_ic k_impl_areDecimals_rv []),
  (k_impl_AddInt, fnOf k_impl_AddInt_ic k_impl_AddInt_rv []),
  (k_impl_areDecimals_1, fnOf k_impl_areDecimals_1_ic k_impl_areDecimals_1_rv [])]

def T : Table := fun f => (tbl.find? fun q => q.1 == f).map fun q => q.2

theorem T_laws_FnExactNodeHists : T k_laws_FnExactNodeHists = some (fnOf k_laws_FnExactNodeHists_ic k_laws_FnExactNodeHists_rv []) := rfl

@[simp] theorem M_laws_FnExactNodeHists : modesOf T k_laws_FnExactNodeHists = [] := modesOf_code T_laws_FnExactNodeHists

theorem T_laws_szGrid : T k_laws_szGrid = some (fnOf k_laws_szGrid_ic k_laws_szGrid_rv []) := rfl

@[simp] theorem M_laws_szGrid : modesOf T k_laws_szGrid = [] := modesOf_code T_laws_szGrid

theorem T_spec_NodeHists : T k_spec_NodeHists = some (fnOf k_spec_NodeHists_ic k_spec_NodeHists_rv []) := rfl

@[simp] theorem M_spec_NodeHists : modesOf T k_spec_NodeHists = [] := modesOf_code T_spec_NodeHists

theorem T_laws_toGrid : T k_laws_toGrid = some (fnOf k_laws_toGrid_ic k_laws_toGrid_rv []) := rfl

@[simp] theorem M_laws_toGrid : modesOf T k_laws_toGrid = [] := modesOf_code T_laws_toGrid

theorem T_laws_toIntS : T k_laws_toIntS = some (fnOf k_laws_toIntS_ic k_laws_toIntS_rv []) := rfl

@[simp] theorem M_laws_toIntS : modesOf T k_laws_toIntS = [] := modesOf_code T_laws_toIntS

theorem T_impl_NodeHists : T k_impl_NodeHists = some (fnOf k_impl_NodeHists_ic k_impl_NodeHists_rv []) := rfl

@[simp] theorem M_impl_NodeHists : modesOf T k_impl_NodeHists = [] := modesOf_code T_impl_NodeHists

theorem T_laws_eqSlotSS : T k_laws_eqSlotSS = some (fnOf k_laws_eqSlotSS_ic k_laws_eqSlotSS_rv []) := rfl

@[simp] theorem M_laws_eqSlotSS : modesOf T k_laws_eqSlotSS = [] := modesOf_code T_laws_eqSlotSS

theorem T_laws_eqGrid : T k_laws_eqGrid = some (fnOf k_laws_eqGrid_ic k_laws_eqGrid_rv []) := rfl

@[simp] theorem M_laws_eqGrid : modesOf T k_laws_eqGrid = [] := modesOf_code T_laws_eqGrid

theorem T_laws_eqIntS : T k_laws_eqIntS = some (fnOf k_laws_eqIntS_ic k_laws_eqIntS_rv []) := rfl

@[simp] theorem M_laws_eqIntS : modesOf T k_laws_eqIntS = [] := modesOf_code T_laws_eqIntS

theorem T_laws_markGrid : T k_laws_markGrid = some (fnOf k_laws_markGrid_ic k_laws_markGrid_rv [true]) := rfl

@[simp] theorem M_laws_markGrid : modesOf T k_laws_markGrid = [true] := modesOf_code T_laws_markGrid

theorem T_laws_markIntS : T k_laws_markIntS = some (fnOf k_laws_markIntS_ic k_laws_markIntS_rv [true]) := rfl

@[simp] theorem M_laws_markIntS : modesOf T k_laws_markIntS = [true] := modesOf_code T_laws_markIntS

theorem T_laws_markSlotSS : T k_laws_markSlotSS = some (fnOf k_laws_markSlotSS_ic k_laws_markSlotSS_rv [true]) := rfl

@[simp] theorem M_laws_markSlotSS : modesOf T k_laws_markSlotSS = [true] := modesOf_code T_laws_markSlotSS

theorem T_laws_heldSlotSS : T k_laws_heldSlotSS = some (fnOf k_laws_heldSlotSS_ic k_laws_heldSlotSS_rv []) := rfl

@[simp] theorem M_laws_heldSlotSS : modesOf T k_laws_heldSlotSS = [] := modesOf_code T_laws_heldSlotSS

theorem T_laws_szIntSS : T k_laws_szIntSS = some (fnOf k_laws_szIntSS_ic k_laws_szIntSS_rv []) := rfl

@[simp] theorem M_laws_szIntSS : modesOf T k_laws_szIntSS = [] := modesOf_code T_laws_szIntSS

theorem T_laws_toIntSS : T k_laws_toIntSS = some (fnOf k_laws_toIntSS_ic k_laws_toIntSS_rv []) := rfl

@[simp] theorem M_laws_toIntSS : modesOf T k_laws_toIntSS = [] := modesOf_code T_laws_toIntSS

theorem T_laws_eqIntSS : T k_laws_eqIntSS = some (fnOf k_laws_eqIntSS_ic k_laws_eqIntSS_rv []) := rfl

@[simp] theorem M_laws_eqIntSS : modesOf T k_laws_eqIntSS = [] := modesOf_code T_laws_eqIntSS

theorem T_laws_markIntSS : T k_laws_markIntSS = some (fnOf k_laws_markIntSS_ic k_laws_markIntSS_rv [true]) := rfl

@[simp] theorem M_laws_markIntSS : modesOf T k_laws_markIntSS = [true] := modesOf_code T_laws_markIntSS

theorem T_laws_szIntS : T k_laws_szIntS = some (fnOf k_laws_szIntS_ic k_laws_szIntS_rv []) := rfl

@[simp] theorem M_laws_szIntS : modesOf T k_laws_szIntS = [] := modesOf_code T_laws_szIntS

theorem T_spec_GridOk : T k_spec_GridOk = some (fnOf k_spec_GridOk_ic k_spec_GridOk_rv []) := rfl

@[simp] theorem M_spec_GridOk : modesOf T k_spec_GridOk = [] := modesOf_code T_spec_GridOk

theorem T_spec_HistOf : T k_spec_HistOf = some (fnOf k_spec_HistOf_ic k_spec_HistOf_rv []) := rfl

@[simp] theorem M_spec_HistOf : modesOf T k_spec_HistOf = [] := modesOf_code T_spec_HistOf

theorem T_impl_GridOk : T k_impl_GridOk = some (fnOf k_impl_GridOk_ic k_impl_GridOk_rv []) := rfl

@[simp] theorem M_impl_GridOk : modesOf T k_impl_GridOk = [] := modesOf_code T_impl_GridOk

theorem T_impl_HistOf : T k_impl_HistOf = some (fnOf k_impl_HistOf_ic k_impl_HistOf_rv []) := rfl

@[simp] theorem M_impl_HistOf : modesOf T k_impl_HistOf = [] := modesOf_code T_impl_HistOf

theorem T_laws_eqSlotS : T k_laws_eqSlotS = some (fnOf k_laws_eqSlotS_ic k_laws_eqSlotS_rv []) := rfl

@[simp] theorem M_laws_eqSlotS : modesOf T k_laws_eqSlotS = [] := modesOf_code T_laws_eqSlotS

theorem T_laws_markSlotS : T k_laws_markSlotS = some (fnOf k_laws_markSlotS_ic k_laws_markSlotS_rv [true]) := rfl

@[simp] theorem M_laws_markSlotS : modesOf T k_laws_markSlotS = [true] := modesOf_code T_laws_markSlotS

theorem T_laws_heldSlotS : T k_laws_heldSlotS = some (fnOf k_laws_heldSlotS_ic k_laws_heldSlotS_rv []) := rfl

@[simp] theorem M_laws_heldSlotS : modesOf T k_laws_heldSlotS = [] := modesOf_code T_laws_heldSlotS

theorem T_spec_l1In : T k_spec_l1In = some (fnOf k_spec_l1In_ic k_spec_l1In_rv []) := rfl

@[simp] theorem M_spec_l1In : modesOf T k_spec_l1In = [] := modesOf_code T_spec_l1In

theorem T_spec_l6Value : T k_spec_l6Value = some (fnOf k_spec_l6Value_ic k_spec_l6Value_rv []) := rfl

@[simp] theorem M_spec_l6Value : modesOf T k_spec_l6Value = [] := modesOf_code T_spec_l6Value

theorem T_impl_within : T k_impl_within = some (fnOf k_impl_within_ic k_impl_within_rv []) := rfl

@[simp] theorem M_impl_within : modesOf T k_impl_within = [] := modesOf_code T_impl_within

theorem T_slices_ContainsFunc___int_int_ : T k_slices_ContainsFunc___int_int_ = some (fnOf k_slices_ContainsFunc___int_int__ic k_slices_ContainsFunc___int_int__rv []) := rfl

@[simp] theorem M_slices_ContainsFunc___int_int_ : modesOf T k_slices_ContainsFunc___int_int_ = [] := modesOf_code T_slices_ContainsFunc___int_int_

theorem T_impl_isDecimal : T k_impl_isDecimal = some (fnOf k_impl_isDecimal_ic k_impl_isDecimal_rv []) := rfl

@[simp] theorem M_impl_isDecimal : modesOf T k_impl_isDecimal = [] := modesOf_code T_impl_isDecimal

theorem T_spec_RowsIn : T k_spec_RowsIn = some (fnOf k_spec_RowsIn_ic k_spec_RowsIn_rv []) := rfl

@[simp] theorem M_spec_RowsIn : modesOf T k_spec_RowsIn = [] := modesOf_code T_spec_RowsIn

theorem T_spec_CutsOk : T k_spec_CutsOk = some (fnOf k_spec_CutsOk_ic k_spec_CutsOk_rv []) := rfl

@[simp] theorem M_spec_CutsOk : modesOf T k_spec_CutsOk = [] := modesOf_code T_spec_CutsOk

theorem T_spec_l13Add : T k_spec_l13Add = some (fnOf k_spec_l13Add_ic k_spec_l13Add_rv []) := rfl

@[simp] theorem M_spec_l13Add : modesOf T k_spec_l13Add = [] := modesOf_code T_spec_l13Add

theorem T_impl_RowsIn : T k_impl_RowsIn = some (fnOf k_impl_RowsIn_ic k_impl_RowsIn_rv []) := rfl

@[simp] theorem M_impl_RowsIn : modesOf T k_impl_RowsIn = [] := modesOf_code T_impl_RowsIn

theorem T_impl_CutsOk : T k_impl_CutsOk = some (fnOf k_impl_CutsOk_ic k_impl_CutsOk_rv []) := rfl

@[simp] theorem M_impl_CutsOk : modesOf T k_impl_CutsOk = [] := modesOf_code T_impl_CutsOk

theorem T_impl_GridOk_1 : T k_impl_GridOk_1 = some (fnOf k_impl_GridOk_1_ic k_impl_GridOk_1_rv []) := rfl

@[simp] theorem M_impl_GridOk_1 : modesOf T k_impl_GridOk_1 = [] := modesOf_code T_impl_GridOk_1

theorem T__impl_Slot__plus : T k__impl_Slot__plus = some (fnOf k__impl_Slot__plus_ic k__impl_Slot__plus_rv []) := rfl

@[simp] theorem M__impl_Slot__plus : modesOf T k__impl_Slot__plus = [] := modesOf_code T__impl_Slot__plus

theorem T_laws_eqSlot : T k_laws_eqSlot = some (fnOf k_laws_eqSlot_ic k_laws_eqSlot_rv []) := rfl

@[simp] theorem M_laws_eqSlot : modesOf T k_laws_eqSlot = [] := modesOf_code T_laws_eqSlot

theorem T_slices_IndexFunc___int_int_ : T k_slices_IndexFunc___int_int_ = some (fnOf k_slices_IndexFunc___int_int__ic k_slices_IndexFunc___int_int__rv []) := rfl

@[simp] theorem M_slices_IndexFunc___int_int_ : modesOf T k_slices_IndexFunc___int_int_ = [] := modesOf_code T_slices_IndexFunc___int_int_

theorem T_spec_AddInt : T k_spec_AddInt = some (fnOf k_spec_AddInt_ic k_spec_AddInt_rv []) := rfl

@[simp] theorem M_spec_AddInt : modesOf T k_spec_AddInt = [] := modesOf_code T_spec_AddInt

theorem T_impl_areDecimals : T k_impl_areDecimals = some (fnOf k_impl_areDecimals_ic k_impl_areDecimals_rv []) := rfl

@[simp] theorem M_impl_areDecimals : modesOf T k_impl_areDecimals = [] := modesOf_code T_impl_areDecimals

theorem T_impl_AddInt : T k_impl_AddInt = some (fnOf k_impl_AddInt_ic k_impl_AddInt_rv []) := rfl

@[simp] theorem M_impl_AddInt : modesOf T k_impl_AddInt = [] := modesOf_code T_impl_AddInt

theorem T_impl_areDecimals_1 : T k_impl_areDecimals_1 = some (fnOf k_impl_areDecimals_1_ic k_impl_areDecimals_1_rv []) := rfl

@[simp] theorem M_impl_areDecimals_1 : modesOf T k_impl_areDecimals_1 = [] := modesOf_code T_impl_areDecimals_1

end Go.Pe
