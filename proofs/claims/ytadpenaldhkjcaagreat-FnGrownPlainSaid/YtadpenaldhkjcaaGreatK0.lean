/- The compact texts of the functions that the law reaches; no condition. -/
import Derived.Test.YtadpenaldhkjcaaGreatEvA0
set_option linter.all false
namespace Go.Pe
open Go
def bs (l : List UInt8) : ByteArray := ⟨l.toArray⟩
def zpj : Nat := 4
def zme : Nat := 8
def zmf : Nat := 10
def zj2 : Nat := 14
def zmg : Nat := 15
def zmh : Nat := 16
def zmi : Nat := 17
def zi5 : Nat := 18
def zi6 : Nat := 19
def zmj : Nat := 20
def zmk : Nat := 21
def zml : Nat := 22
def zj3 : Nat := 23
def zmm : Nat := 24
def zmn : Nat := 46
def zdn : Nat := 47
def zmo : Nat := 50
def zmp : Nat := 51
def zmq : Nat := 52
def zb7 : Nat := 56
def zj4 : Nat := 57
def zj5 : Nat := 58
def zmr : Nat := 59
def zj6 : Nat := 60
def zms : Nat := 61
def zmt : Nat := 62
def zmu : Nat := 63
def zh4 : Nat := 64
def zj7 : Nat := 65
def zh5 : Nat := 66
def zhi : Nat := 67
def zj8 : Nat := 68
def zbx : Nat := 69
def zmv : Nat := 70
def zmw : Nat := 71
def zi7 : Nat := 72
def zmx : Nat := 73
def zmy : Nat := 74
def zmz : Nat := 75
def zm0 : Nat := 76
def zm1 : Nat := 77
def zm2 : Nat := 78
def zm3 : Nat := 95
def zj9 : Nat := 96
def zbc : Nat := 97
def zm4 : Nat := 98
def zd3 : Nat := 99
def zka : Nat := 100
def zm5 : Nat := 101
def zm6 : Nat := 102
def zm7 : Nat := 103
def zm8 : Nat := 104
def zkb : Nat := 105
def zm9 : Nat := 106
def zna : Nat := 107
def zkc : Nat := 113
def znb : Nat := 114
def zi8 : Nat := 115
def znc : Nat := 116
def zi9 : Nat := 117
def zkd : Nat := 118
def znd : Nat := 119
def zne : Nat := 120
def znf : Nat := 121
def zng : Nat := 122
def znh : Nat := 123
def zke : Nat := 124
def zkf : Nat := 125
def zkg : Nat := 126
def zkh : Nat := 127
def zni : Nat := 128
def zki : Nat := 129
def znj : Nat := 130
def zkj : Nat := 131
def znk : Nat := 136
def znl : Nat := 137
def zgm : Nat := 138
def zja : Nat := 139
def zjb : Nat := 140
def znm : Nat := 141
def zkk : Nat := 142
def znn : Nat := 148
def zno : Nat := 149
def zkl : Nat := 150
def znp : Nat := 151
def zjc : Nat := 152
def znq : Nat := 153
def zkm : Nat := 154
def znr : Nat := 159
def zns : Nat := 160
def znt : Nat := 161
def znu : Nat := 162
def zkn : Nat := 163
def zko : Nat := 164
def zkp : Nat := 165
def znv : Nat := 169
def zkq : Nat := 170
def znw : Nat := 171
def zjd : Nat := 172
def zkr : Nat := 173
def zfx : Nat := 174
def zje : Nat := 175
def zks : Nat := 176
def znx : Nat := 177
def zkt : Nat := 184
def zku : Nat := 185
def zkv : Nat := 186
def zny : Nat := 187
def zkw : Nat := 188
def zgn : Nat := 189
def zjf : Nat := 190
def zh6 : Nat := 191
def zjg : Nat := 192
def zjh : Nat := 193
def zkx : Nat := 194
def zky : Nat := 199
def ya6 : List Nat := [0, 3, 4, 5, 7, 9, 11, 6, 8, 10, 12, 2]
def znz : IC := .seq (.reg [oV 2 (.mv (kb false))]) (.seq (.seq (.reg [mV 14 0, oE 15 (.call zme [([1], (.E 14))])]) (.cond (.E 15) (.seq (.reg [oV 2 (.mv (kb true))]) .ret) .skip)) (.seq (.reg [mV 17 0, oE 18 (.call zmh [([1], (.E 17))]), oE 16 (.mv (.E 18)), xE 19 0 16, xE 20 1 16, xE 21 2 16, oV 3 (.alloc [.e0, .e0]), oV 5 (.alloc [iv 0, iv 0, iv 0, iv 0, iv 0, iv 0, iv 0, .e0]), oN (.store [1, 1] (.V 3) (.E 19)), vE 4 20, oN (.store [0, 0, 0, 0, 0, 0, 0, 1] (.V 5) (.E 21))]) (.seq (.seq (.reg [oE 22 (.load true 2 (.V 3)), mV 23 4, oE 24 (.load true 8 (.V 5)), oE 25 (.call zmi [([1, 1], (.E 22)), ([1], (.E 23)), ([0, 0, 0, 0, 0, 0, 0, 1], (.E 24))]), oE 26 (.un .not (.E 25))]) (.cond (.E 26) (.seq (.reg [oE 27 (.load true 2 (.V 3)), mV 28 4, oE 29 (.load true 8 (.V 5)), oE 30 (.call zi5 [([1, 1], (.E 27)), ([1], (.E 28)), ([0, 0, 0, 0, 0, 0, 0, 1], (.E 29))]), oE 31 (.un .not (.E 30)), vE 2 31]) .ret) .skip)) (.seq (.reg [oE 32 (.faddr 7 (.V 5)), oN (.store [1] (.E 32) (.C .e0))]) (.seq (.reg [oE 34 (.load true 2 (.V 3)), mV 35 4, oE 36 (.load true 8 (.V 5)), oE 37 (.call zi6 [([1, 1], (.E 34)), ([1], (.E 35)), ([0, 0, 0, 0, 0, 0, 0, 1], (.E 36))]), oE 33 (.mv (.E 37)), xE 38 0 33, xE 39 1 33, oV 6 (.alloc [.e0]), oN (.store [5] (.V 6) (.E 38)), vE 7 39]) (.seq (.reg [oE 40 (.bslice 4 1 [iv 0] [(0, (ki 0)), (1, (ki 0)), (2, (ki 0)), (3, (ki 0))]), oE 41 (.faddr 7 (.V 5)), oN (.store [1] (.E 41) (.E 40))]) (.seq (.reg [oE 43 (.load true 2 (.V 3)), mV 44 4, oE 45 (.load true 8 (.V 5)), oE 46 (.call zi6 [([1, 1], (.E 43)), ([1], (.E 44)), ([0, 0, 0, 0, 0, 0, 0, 1], (.E 45))]), oE 42 (.mv (.E 46)), xE 47 0 42, xE 48 1 42, oV 8 (.alloc [.e0]), oN (.store [5] (.V 8) (.E 47)), vE 9 48]) (.seq (.reg [oE 49 (.faddr 1 (.V 5)), oN (.store [0] (.E 49) (ki 0))]) (.seq (.reg [oE 51 (.load true 2 (.V 3)), mV 52 4, oE 53 (.load true 8 (.V 5)), oE 54 (.call zi6 [([1, 1], (.E 51)), ([1], (.E 52)), ([0, 0, 0, 0, 0, 0, 0, 1], (.E 53))]), oE 50 (.mv (.E 54)), xE 55 0 50, xE 56 1 50, oV 10 (.alloc [.e0]), oN (.store [5] (.V 10) (.E 55)), vE 11 56]) (.seq (.regD [(mV 58 4, 0, 0), (mV 59 4, 0, 0), (oE 60 (.len (.E 59)), 0, 0), (oE 61 (.call zmk [([0], (.E 60))]), 0, 0), (oE 62 (.call zmg [([1], (.E 58)), ([1], (.E 61))]), 0, 0), (oE 63 (.faddr 3 (.V 5)), 2, 1), (oE 64 (.load false 1 (.E 63)), 2, 1), (oE 65 (.call zml []), 0, 0), (oE 66 (.call zmj [([0, 0], (.E 62)), ([0], (.E 64)), ([0, 0], (.E 65))]), 0, 0), (oE 57 (.mv (.E 66)), 0, 0), (xE 67 0 57, 0, 0), (xE 68 1 57, 0, 0), (vE 12 67, 0, 0), (oE 13 (.mv (.E 68)), 0, 0)]) (.seq (.regD [(mV 69 7, 0, 0), (oE 70 (.mv (.E 69)), 0, 0), (⟨(some (.E 71)), .mv (.V 9), some ((.E 70), true)⟩, 0, 0), (oE 72 (.pick (.E 70) (.E 71) (kb false)), 0, 0), (oE 73 (.mv (.E 72)), 0, 0), (⟨(some (.E 74)), .mv (.V 11), some ((.E 73), true)⟩, 0, 0), (oE 75 (.pick (.E 73) (.E 74) (kb false)), 0, 0), (oE 76 (.mv (.E 75)), 0, 0), (⟨(some (.E 77)), .load true 1 (.V 6), some ((.E 76), true)⟩, 0, 0), (⟨(some (.E 78)), .load true 1 (.V 8), some ((.E 76), true)⟩, 0, 0), (⟨(some (.E 79)), .call zj3 [([5], (.E 77)), ([5], (.E 78))], some ((.E 76), true)⟩, 0, 0), (oE 80 (.pick (.E 76) (.E 79) (kb false)), 0, 0), (oE 81 (.mv (.E 80)), 0, 0), (⟨(some (.E 82)), .load true 1 (.V 10), some ((.E 81), true)⟩, 0, 1), (⟨(some (.E 83)), .mv (.V 12), some ((.E 81), true)⟩, 0, 0), (⟨(some (.E 84)), .call zmm [([0], (.E 83))], some ((.E 81), true)⟩, 0, 0), (⟨(some (.E 85)), .call zj3 [([5], (.E 82)), ([5], (.E 84))], some ((.E 81), true)⟩, 0, 0), (oE 86 (.pick (.E 81) (.E 85) (kb false)), 0, 0), (vE 2 86, 0, 0)]) .ret)))))))))))
def zn0 : List RV := [.tmp [0] 2]
def ya7 : List Nat := [0, 2]
def zr0 : IC := .seq (.reg [oV 2 (.mv (kb false))]) (.seq (.reg [mV 3 0, oE 4 (.len (.E 3)), oE 5 (.bin .gtr (.E 4) (ki 1048576)), vE 2 5]) .ret)
def zr1 : List RV := [.tmp [0] 2]
def ya8 : List Nat := [0, 1, 2, 3, 4, 5, 7, 10, 13, 9, 12, 11]
def zn1 : IC := .seq (.reg [oV 5 (.box (.V 0)), oV 7 (.box (.V 2)), oV 9 (.box (.V 4)), oV 10 (.alloc [iv 0, iv 0, iv 0, iv 0, iv 0, iv 0]), oV 11 (.mv (kb false))]) (.seq (.seq (.reg [oE 14 (.load true 2 (.V 5)), mV 15 1, oE 16 (.load true 8 (.V 7)), oE 17 (.call zi5 [([1, 1], (.E 14)), ([1], (.E 15)), ([0, 0, 0, 0, 0, 0, 0, 1], (.E 16))]), oE 18 (.un .not (.E 17))]) (.cond (.E 18) (.seq (.reg [oE 19 (.build [iv 0, iv 0, iv 0, iv 0, iv 0, iv 0] []), oN (.store [0, 0, 0, 0, 0, 0] (.V 10) (.E 19)), oV 11 (.mv (kb false))]) .ret) .skip)) (.seq (.reg [oE 21 (.load true 2 (.V 5)), mV 22 1, mV 23 3, oE 24 (.call zmo [([1, 1], (.E 21)), ([1], (.E 22)), ([1], (.E 23))]), oE 20 (.mv (.E 24)), xE 25 0 20, xE 26 1 20, vE 12 25, vE 13 26]) (.seq (.seq (.reg [mV 27 13, oE 28 (.un .not (.E 27))]) (.cond (.E 28) (.seq (.reg [oE 29 (.build [iv 0, iv 0, iv 0, iv 0, iv 0, iv 0] []), oN (.store [0, 0, 0, 0, 0, 0] (.V 10) (.E 29)), oV 11 (.mv (kb false))]) .ret) .skip)) (.seq (.regD [(oE 30 (.load true 8 (.V 7)), 0, 1), (oE 31 (.load true 2 (.V 9)), 0, 1), (mV 32 12, 0, 0), (oE 33 (.faddr 4 (.V 7)), 0, 0), (oE 34 (.load false 1 (.E 33)), 0, 0), (oE 35 (.call zmq [([1], (.E 32)), ([0], (.E 34))]), 0, 0), (oE 36 (.call zmp [([0, 0, 0, 0, 0, 0, 0, 1], (.E 30)), ([0, 0], (.E 31)), ([6], (.E 35))]), 0, 0), (xE 37 0 36, 0, 0), (xE 38 1 36, 0, 0), (oN (.store [0, 0, 0, 0, 0, 0] (.V 10) (.E 37)), 0, 0), (vE 11 38, 0, 0)]) .ret))))
def zn2 : List RV := [.cell [0, 0, 0, 0, 0, 0] 10 true, .tmp [0] 11]
def ya9 : List Nat := [0, 1, 2, 3, 4, 5, 9, 7, 8, 6]
def zr2 : IC := .seq (.reg [oV 3 (.box (.V 0)), oV 4 (.box (.V 1)), oV 5 (.box (.V 2)), oV 6 (.mv (kb false))]) (.seq (.reg [oE 11 (.load true 8 (.V 3)), oE 12 (.load true 2 (.V 4)), oE 13 (.load true 6 (.V 5)), oE 14 (.call zj4 [([0, 0, 0, 0, 0, 0, 0, 1], (.E 11)), ([0, 0], (.E 12)), ([0, 0, 0, 0, 0, 0], (.E 13))]), oE 10 (.mv (.E 14)), xE 15 0 10, xE 16 1 10, xE 17 2 10, vE 7 15, vE 8 16, vE 9 17]) (.seq (.reg [oE 18 (.load true 8 (.V 3)), oE 19 (.call zj5 [([0, 0, 0, 0, 0, 0, 0, 1], (.E 18))]), oE 20 (.mv (.E 19)), ⟨(some (.E 21)), .mv (.V 9), some ((.E 20), true)⟩, oE 22 (.pick (.E 20) (.E 21) (kb false)), oE 23 (.mv (.E 22)), ⟨(some (.E 24)), .faddr 2 (.V 5), some ((.E 23), true)⟩, ⟨(some (.E 25)), .faddr 0 (.E 24), some ((.E 23), true)⟩, ⟨(some (.E 26)), .load false 1 (.E 25), some ((.E 23), true)⟩, ⟨(some (.E 27)), .faddr 4 (.V 3), some ((.E 23), true)⟩, ⟨(some (.E 28)), .load false 1 (.E 27), some ((.E 23), true)⟩, ⟨(some (.E 29)), .bin .geq (.E 26) (.E 28), some ((.E 23), true)⟩, oE 30 (.pick (.E 23) (.E 29) (kb false)), oE 31 (.mv (.E 30)), ⟨(some (.E 32)), .faddr 4 (.V 5), some ((.E 31), true)⟩, ⟨(some (.E 33)), .faddr 0 (.E 32), some ((.E 31), true)⟩, ⟨(some (.E 34)), .load false 1 (.E 33), some ((.E 31), true)⟩, ⟨(some (.E 35)), .faddr 4 (.V 3), some ((.E 31), true)⟩, ⟨(some (.E 36)), .load false 1 (.E 35), some ((.E 31), true)⟩, ⟨(some (.E 37)), .bin .geq (.E 34) (.E 36), some ((.E 31), true)⟩, oE 38 (.pick (.E 31) (.E 37) (kb false)), oE 39 (.mv (.E 38)), ⟨(some (.E 40)), .load true 8 (.V 3), some ((.E 39), true)⟩, ⟨(some (.E 41)), .faddr 0 (.V 5), some ((.E 39), true)⟩, ⟨(some (.E 42)), .load false 1 (.E 41), some ((.E 39), true)⟩, ⟨(some (.E 43)), .call zj6 [([0, 0, 0, 0, 0, 0, 0, 1], (.E 40)), ([0], (.E 42))], some ((.E 39), true)⟩, ⟨(some (.E 44)), .mv (.V 7), some ((.E 39), true)⟩, ⟨(some (.E 45)), .mv (.V 8), some ((.E 39), true)⟩, ⟨(some (.E 46)), .call zmr [([0], (.E 43)), ([0], (.E 44)), ([0], (.E 45))], some ((.E 39), true)⟩, oE 47 (.pick (.E 39) (.E 46) (kb false)), oE 48 (.mv (.E 47)), ⟨(some (.E 49)), .load true 6 (.V 5), some ((.E 48), true)⟩, ⟨(some (.E 50)), .faddr 3 (.V 3), some ((.E 48), true)⟩, ⟨(some (.E 51)), .load false 1 (.E 50), some ((.E 48), true)⟩, ⟨(some (.E 52)), .call zms [([0, 0, 0, 0, 0, 0], (.E 49)), ([0], (.E 51))], some ((.E 48), true)⟩, oE 53 (.pick (.E 48) (.E 52) (kb false)), vE 6 53]) .ret))
def zr3 : List RV := [.tmp [0] 6]
def yba : List Nat := [0, 1, 6, 5, 4]
def zxk : IC := .seq (.seq (.reg [mV 8 6, mV 9 1, oE 10 (.len (.E 9)), oE 11 (.bin .lss (.E 8) (.E 10))]) (.cond (.E 11) .skip (.exit 0))) (.seq (.block 1 (.seq (.reg [oE 14 (.faddr 0 (.V 5)), oE 15 (.load false 1 (.E 14)), oE 16 (.bin .add (.E 15) (ki 1)), oE 17 (.faddr 0 (.V 5)), oN (.store [0] (.E 17) (.E 16))]) (.regD [(oE 18 (.faddr 1 (.V 5)), 0, 0), (oE 19 (.load false 1 (.E 18)), 0, 0), (mV 20 0, 0, 0), (mV 21 1, 0, 0), (mV 22 6, 0, 0), (oE 23 (.iaddr 1 (.E 21) (.E 22)), 0, 0), (oE 24 (.load false 1 (.E 23)), 0, 0), (oE 25 (.iaddr 1 (.E 20) (.E 24)), 0, 0), (oE 26 (.load false 1 (.E 25)), 0, 0), (oE 27 (.bin .add (.E 19) (.E 26)), 0, 0), (oE 28 (.faddr 1 (.V 5)), 0, 0), (oN (.store [0] (.E 28) (.E 27)), 0, 0)]))) (.reg [mV 12 6, oE 13 (.bin .add (.E 12) (ki 1)), vE 6 13]))
def zr4 : IC := .seq (.reg [oV 4 (.alloc [iv 0, iv 0])]) (.seq (.reg [oE 7 (.build [iv 0, iv 0] []), oV 5 (.alloc [iv 0, iv 0]), oN (.store [0, 0] (.V 5) (.E 7))]) (.seq (.seq (.reg [oV 6 (.mv (ki 0))]) (.block 0 (.loop zxk))) (.seq (.reg [oE 29 (.load true 2 (.V 5)), oN (.store [0, 0] (.V 4) (.E 29))]) .ret)))
def zr5 : List RV := [.cell [0, 0] 4 true]
def ybb : List Nat := [0, 6, 7, 8, 2, 4, 3]
def zr6 : IC := .seq (.reg [oV 2 (.alloc [.e0, .e0]), oV 3 (.mv (.C .e0)), oV 4 (.alloc [iv 0, iv 0, iv 0, iv 0, iv 0, iv 0, iv 0, .e0])]) (.seq (.reg [mV 10 0, oE 11 (.call zmn [([1], (.E 10))]), oE 9 (.mv (.E 11)), xE 12 0 9, xE 13 1 9, xE 14 2 9, xE 15 3 9, oV 6 (.alloc [.e0, .e0]), oV 8 (.alloc [iv 0, iv 0, iv 0, iv 0, iv 0, iv 0, iv 0, .e0]), oE 5 (.mv (.E 12)), oN (.store [1, 1] (.V 6) (.E 13)), vE 7 14, oN (.store [0, 0, 0, 0, 0, 0, 0, 1] (.V 8) (.E 15))]) (.seq (.regD [(oE 16 (.load true 2 (.V 6)), 0, 0), (mV 17 7, 0, 0), (oE 18 (.load true 8 (.V 8)), 0, 1), (oN (.store [1, 1] (.V 2) (.E 16)), 0, 0), (vE 3 17, 0, 0), (oN (.store [0, 0, 0, 0, 0, 0, 0, 1] (.V 4) (.E 18)), 0, 0)]) .ret))
def zr7 : List RV := [.cell [1, 1] 2 true, .tmp [1] 3, .cell [0, 0, 0, 0, 0, 0, 0, 1] 4 true]
def ybc : List Nat := [0, 1, 2, 3, 5, 7, 6]
def z0s : IC := .seq (.seq (.reg [mV 23 7, mV 24 1, oE 25 (.len (.E 24)), oE 26 (.bin .lss (.E 23) (.E 25))]) (.cond (.E 26) .skip (.exit 0))) (.seq (.block 1 (.seq (.reg [mV 29 1, mV 30 7, oE 31 (.iaddr 1 (.E 29) (.E 30)), oE 32 (.load false 1 (.E 31)), oE 33 (.call zb7 [([0], (.E 32)), ([0], (ki (-2199023255552))), ([0], (ki 2199023255552))]), oE 34 (.un .not (.E 33))]) (.cond (.E 34) (.seq (.reg [oV 6 (.mv (kb false))]) .ret) .skip))) (.reg [mV 27 7, oE 28 (.bin .add (.E 27) (ki 1)), vE 7 28]))
def zkz : IC := .seq (.reg [oV 3 (.box (.V 0)), oV 5 (.box (.V 2)), oV 6 (.mv (kb false))]) (.seq (.seq (.reg [oE 8 (.load true 2 (.V 3)), oE 9 (.call zmt [([1, 1], (.E 8))]), oE 10 (.un .not (.E 9)), oE 11 (.mv (.E 10)), ⟨(some (.E 12)), .load true 8 (.V 5), some ((.E 11), false)⟩, ⟨(some (.E 13)), .call zmu [([0, 0, 0, 0, 0, 0, 0, 1], (.E 12))], some ((.E 11), false)⟩, ⟨(some (.E 14)), .un .not (.E 13), some ((.E 11), false)⟩, oE 15 (.pick (.E 11) (kb true) (.E 14)), oE 16 (.mv (.E 15)), ⟨(some (.E 17)), .mv (.V 1), some ((.E 16), false)⟩, ⟨(some (.E 18)), .len (.E 17), some ((.E 16), false)⟩, ⟨(some (.E 19)), .load true 2 (.V 3), some ((.E 16), false)⟩, ⟨(some (.E 20)), .call zh4 [([1, 1], (.E 19))], some ((.E 16), false)⟩, ⟨(some (.E 21)), .bin .neq (.E 18) (.E 20), some ((.E 16), false)⟩, oE 22 (.pick (.E 16) (kb true) (.E 21))]) (.cond (.E 22) (.seq (.reg [oV 6 (.mv (kb false))]) .ret) .skip)) (.seq (.seq (.reg [oV 7 (.mv (ki 0))]) (.block 0 (.loop z0s))) (.seq (.reg [oV 6 (.mv (kb true))]) .ret)))
def zk0 : List RV := [.tmp [0] 6]
def ybd : List Nat := [0, 1, 2, 3, 5, 6]
def zk1 : IC := .seq (.reg [oV 3 (.box (.V 0)), oV 5 (.box (.V 2)), oV 6 (.mv (kb false))]) (.seq (.reg [oE 7 (.load true 2 (.V 3)), oE 8 (.call zj7 [([1, 1], (.E 7))]), oE 9 (.mv (.E 8)), ⟨(some (.E 10)), .load true 8 (.V 5), some ((.E 9), true)⟩, ⟨(some (.E 11)), .call zj5 [([0, 0, 0, 0, 0, 0, 0, 1], (.E 10))], some ((.E 9), true)⟩, oE 12 (.pick (.E 9) (.E 11) (kb false)), oE 13 (.mv (.E 12)), ⟨(some (.E 14)), .mv (.V 1), some ((.E 13), true)⟩, ⟨(some (.E 15)), .len (.E 14), some ((.E 13), true)⟩, ⟨(some (.E 16)), .load true 2 (.V 3), some ((.E 13), true)⟩, ⟨(some (.E 17)), .call zh5 [([1, 1], (.E 16))], some ((.E 13), true)⟩, ⟨(some (.E 18)), .bin .eql (.E 15) (.E 17), some ((.E 13), true)⟩, oE 19 (.pick (.E 13) (.E 18) (kb false)), oE 20 (.mv (.E 19)), ⟨(some (.E 21)), .mv (.V 1), some ((.E 20), true)⟩, ⟨(some (.E 22)), .call zhi [([1], (.E 21)), ([0], (.C (.fn zj8 [])))], some ((.E 20), true)⟩, ⟨(some (.E 23)), .un .not (.E 22), some ((.E 20), true)⟩, oE 24 (.pick (.E 20) (.E 23) (kb false)), vE 6 24]) .ret)
def zk2 : List RV := [.tmp [0] 6]
def ybe : List Nat := [0, 1, 2, 3, 5, 6, 10, 8, 11, 12, 13, 9, 14, 16, 17, 21, 19, 22, 20, 7]
def zh7 : IC := .seq (.seq (.reg [mV 36 10, mV 37 8, oE 38 (.len (.E 37)), oE 39 (.bin .lss (.E 36) (.E 38))]) (.cond (.E 39) .skip (.exit 0))) (.seq (.block 1 (.seq (.reg [mV 42 8, mV 43 10, oE 44 (.iaddr 4 (.E 42) (.E 43)), oE 45 (.load true 4 (.E 44)), oV 11 (.alloc [.e0, iv 0, iv 0, iv 0]), oN (.store [1, 0, 0, 0] (.V 11) (.E 45))]) (.seq (.reg [oE 46 (.build [iv 0, iv 0, iv 0, iv 0, iv 0, iv 0] []), oV 12 (.alloc [iv 0, iv 0, iv 0, iv 0, iv 0, iv 0]), oN (.store [0, 0, 0, 0, 0, 0] (.V 12) (.E 46)), oV 13 (.mv (kb false))]) (.seq (.seq (.reg [oE 47 (.faddr 3 (.V 11)), oE 48 (.load false 1 (.E 47)), oE 49 (.faddr 1 (.V 5)), oE 50 (.load false 1 (.E 49)), oE 51 (.bin .lss (.E 48) (.E 50))]) (.cond (.E 51) (.reg [oE 53 (.load true 2 (.V 3)), mV 54 1, oE 55 (.load true 8 (.V 5)), oE 56 (.faddr 0 (.V 11)), oE 57 (.load false 1 (.E 56)), oE 58 (.faddr 1 (.V 11)), oE 59 (.load true 2 (.E 58)), oE 60 (.call zmf [([1, 1], (.E 53)), ([1], (.E 54)), ([0, 0, 0, 0, 0, 0, 0, 1], (.E 55)), ([1], (.E 57)), ([0, 0], (.E 59))]), oE 52 (.mv (.E 60)), xE 61 0 52, xE 62 1 52, oN (.store [0, 0, 0, 0, 0, 0] (.V 12) (.E 61)), vE 13 62]) .skip)) (.seq (.seq (.reg [mV 63 13, oE 64 (.un .not (.E 63))]) (.cond (.E 64) (.seq (.regD [(mV 66 1, 0, 0), (oE 67 (.faddr 0 (.V 11)), 0, 0), (oE 68 (.load false 1 (.E 67)), 0, 0), (oE 69 (.call zmx [([1], (.E 66)), ([1], (.E 68))]), 0, 0), (oE 70 (.faddr 3 (.V 5)), 1, 0), (oE 71 (.load false 1 (.E 70)), 1, 0), (oE 72 (.faddr 1 (.V 11)), 1, 0), (oE 73 (.load true 2 (.E 72)), 1, 0), (oE 74 (.call zi7 [([0, 0], (.E 69)), ([0], (.E 71)), ([0, 0], (.E 73))]), 0, 0), (oE 65 (.mv (.E 74)), 0, 0), (xE 75 0 65, 0, 0), (xE 76 1 65, 0, 0), (vE 14 75, 0, 0), (oE 15 (.mv (.E 76)), 0, 0)]) (.seq (.reg [oE 77 (.faddr 0 (.V 9)), oE 78 (.load false 1 (.E 77)), mV 79 14, oE 80 (.build [iv 0, iv 0, iv 0, iv 0, iv 0] [(0, 1, (ki (-1))), (4, 1, (.E 79))]), oE 81 (.bslice 1 5 [iv 0, iv 0, iv 0, iv 0, iv 0] [(0, (.E 80))]), oE 82 (.app 40 5 (.E 78) (.E 81)), oE 83 (.faddr 0 (.V 9)), oN (.store [5] (.E 83) (.E 82))]) (.exit 1))) .skip)) (.seq (.reg [oE 85 (.load true 8 (.V 5)), oE 86 (.faddr 1 (.V 11)), oE 87 (.load true 2 (.E 86)), oE 88 (.load true 6 (.V 12)), oE 89 (.call zj4 [([0, 0, 0, 0, 0, 0, 0, 1], (.E 85)), ([0, 0], (.E 87)), ([0, 0, 0, 0, 0, 0], (.E 88))]), oE 84 (.mv (.E 89)), xE 90 0 84, xE 91 1 84, xE 92 2 84, vE 16 90, vE 17 91, oE 18 (.mv (.E 92))]) (.seq (.regD [(oE 94 (.load true 8 (.V 5)), 0, 0), (oE 95 (.faddr 0 (.V 12)), 0, 0), (oE 96 (.load false 1 (.E 95)), 0, 0), (oE 97 (.call zj6 [([0, 0, 0, 0, 0, 0, 0, 1], (.E 94)), ([0], (.E 96))]), 0, 0), (oE 98 (.faddr 1 (.V 11)), 1, 0), (oE 99 (.load true 2 (.E 98)), 1, 0), (mV 100 16, 0, 0), (mV 101 17, 0, 0), (oE 102 (.call zmy [([0], (.E 97)), ([0, 0], (.E 99)), ([0], (.E 100)), ([0], (.E 101))]), 0, 0), (oE 93 (.mv (.E 102)), 0, 0), (xE 103 0 93, 0, 0), (xE 104 1 93, 0, 0), (oV 19 (.allocL [iv 0, iv 0]), 0, 0), (oV 20 (.allocL [iv 0, iv 0]), 0, 0), (oN (.store [0, 0] (.V 19) (.E 103)), 0, 0), (oN (.store [0, 0] (.V 20) (.E 104)), 0, 0)]) (.seq (.regD [(oE 106 (.faddr 1 (.V 3)), 0, 0), (oE 107 (.load false 1 (.E 106)), 0, 0), (oE 108 (.faddr 0 (.V 12)), 0, 0), (oE 109 (.load false 1 (.E 108)), 0, 0), (oE 110 (.iaddr 1 (.E 107) (.E 109)), 0, 0), (oE 111 (.load false 1 (.E 110)), 0, 0), (oE 112 (.faddr 0 (.V 11)), 0, 0), (oE 113 (.load false 1 (.E 112)), 0, 0), (oE 114 (.faddr 1 (.V 12)), 0, 0), (oE 115 (.load false 1 (.E 114)), 0, 0), (oE 116 (.call zmz [([1], (.E 111)), ([1], (.E 113)), ([0], (.E 115))]), 0, 0), (oE 105 (.mv (.E 116)), 0, 0), (xE 117 0 105, 0, 0), (xE 118 1 105, 0, 0), (vE 21 117, 0, 0), (vE 22 118, 0, 0)]) (.seq (.regD [(oE 119 (.faddr 0 (.V 9)), 0, 1), (oE 120 (.load false 1 (.E 119)), 0, 1), (oE 121 (.faddr 0 (.V 12)), 0, 0), (oE 122 (.load false 1 (.E 121)), 0, 0), (oE 123 (.faddr 0 (.V 3)), 0, 0), (oE 124 (.load false 1 (.E 123)), 0, 0), (oE 125 (.faddr 0 (.V 12)), 0, 0), (oE 126 (.load false 1 (.E 125)), 0, 0), (oE 127 (.iaddr 1 (.E 124) (.E 126)), 0, 0), (oE 128 (.load false 1 (.E 127)), 0, 0), (oE 129 (.faddr 1 (.V 12)), 0, 0), (oE 130 (.load false 1 (.E 129)), 0, 0), (oE 131 (.iaddr 1 (.E 128) (.E 130)), 0, 0), (oE 132 (.load false 1 (.E 131)), 0, 0), (mV 133 8, 0, 0), (oE 134 (.len (.E 133)), 0, 0), (mV 135 8, 0, 0), (oE 136 (.len (.E 135)), 0, 0), (oE 137 (.bin .add (.E 136) (ki 1)), 0, 0), (oE 138 (.build [iv 0, iv 0, iv 0, iv 0, iv 0] [(0, 1, (.E 122)), (1, 1, (.E 132)), (2, 1, (.E 134)), (3, 1, (.E 137))]), 0, 0), (oE 139 (.bslice 1 5 [iv 0, iv 0, iv 0, iv 0, iv 0] [(0, (.E 138))]), 0, 0), (oE 140 (.app 40 5 (.E 120) (.E 139)), 0, 0), (oE 141 (.faddr 0 (.V 9)), 0, 0), (oN (.store [5] (.E 141) (.E 140)), 0, 0)]) (.reg [mV 142 8, mV 143 21, oE 144 (.load true 2 (.V 19)), oE 145 (.faddr 3 (.V 11)), oE 146 (.load false 1 (.E 145)), oE 147 (.bin .add (.E 146) (ki 1)), oE 148 (.build [.e0, iv 0, iv 0, iv 0] [(0, 1, (.E 143)), (1, 2, (.E 144)), (3, 1, (.E 147))]), mV 149 22, oE 150 (.load true 2 (.V 20)), oE 151 (.faddr 3 (.V 11)), oE 152 (.load false 1 (.E 151)), oE 153 (.bin .add (.E 152) (ki 1)), oE 154 (.build [.e0, iv 0, iv 0, iv 0] [(0, 1, (.E 149)), (1, 2, (.E 150)), (3, 1, (.E 153))]), oE 155 (.bslice 2 4 [(.own 1 []), iv 0, iv 0, iv 0] [(0, (.E 148)), (1, (.E 154))]), oE 156 (.app 48 4 (.E 142) (.E 155)), vE 8 156])))))))))) (.reg [mV 40 10, oE 41 (.bin .add (.E 40) (ki 1)), vE 10 41]))
def zpk : IC := .seq (.reg [oV 3 (.box (.V 0)), oV 5 (.box (.V 2)), oV 6 (.alloc [.e0]), oV 7 (.mv (kb false))]) (.seq (.seq (.reg [oE 23 (.load true 2 (.V 3)), mV 24 1, oE 25 (.load true 8 (.V 5)), oE 26 (.call zi5 [([1, 1], (.E 23)), ([1], (.E 24)), ([0, 0, 0, 0, 0, 0, 0, 1], (.E 25))]), oE 27 (.un .not (.E 26))]) (.cond (.E 27) (.seq (.reg [oE 28 (.build [.e0] []), oN (.store [5] (.V 6) (.E 28)), oV 7 (.mv (kb false))]) .ret) .skip)) (.seq (.reg [oE 29 (.load true 2 (.V 3)), oE 30 (.call zh5 [([1, 1], (.E 29))]), oE 31 (.call zmv [([0], (.E 30))]), oE 32 (.call zmw []), oE 33 (.build [.e0, iv 0, iv 0, iv 0] [(0, 1, (.E 31)), (1, 2, (.E 32))]), oE 34 (.bslice 1 4 [(.own 1 []), iv 0, iv 0, iv 0] [(0, (.E 33))]), oE 35 (.build [.e0] []), oV 9 (.alloc [.e0]), vE 8 34, oN (.store [5] (.V 9) (.E 35))]) (.seq (.seq (.reg [oV 10 (.mv (ki 0))]) (.block 0 (.loop zh7))) (.seq (.reg [oE 157 (.load true 1 (.V 9)), oN (.store [5] (.V 6) (.E 157)), oV 7 (.mv (kb true))]) .ret))))
def zpl : List RV := [.cell [5] 6 true, .tmp [0] 7]
def ybf : List Nat := [0, 1, 2, 3, 5, 8, 6, 7]
def zn3 : IC := .seq (.reg [oV 3 (.box (.V 0)), oV 5 (.box (.V 2)), oV 6 (.mv (ki 0)), oV 7 (.mv (kb false))]) (.seq (.seq (.reg [oE 10 (.faddr 0 (.V 3)), oE 11 (.load false 1 (.E 10)), oE 12 (.call zb7 [([0], (.E 11)), ([0], (ki 0)), ([0], (ki 40))]), oE 13 (.un .not (.E 12)), oE 14 (.mv (.E 13)), ⟨(some (.E 15)), .mv (.V 1), some ((.E 14), false)⟩, ⟨(some (.E 16)), .call zb7 [([0], (.E 15)), ([0], (ki 1)), ([0], (ki 100))], some ((.E 14), false)⟩, ⟨(some (.E 17)), .un .not (.E 16), some ((.E 14), false)⟩, oE 18 (.pick (.E 14) (kb true) (.E 17)), oE 19 (.mv (.E 18)), ⟨(some (.E 20)), .load true 2 (.V 5), some ((.E 19), false)⟩, ⟨(some (.E 21)), .call zm0 [([0, 0], (.E 20))], some ((.E 19), false)⟩, ⟨(some (.E 22)), .un .not (.E 21), some ((.E 19), false)⟩, oE 23 (.pick (.E 19) (kb true) (.E 22))]) (.cond (.E 23) (.seq (.reg [oV 6 (.mv (ki 0)), oV 7 (.mv (kb false))]) .ret) .skip)) (.seq (.reg [oE 25 (.faddr 1 (.V 3)), oE 26 (.load false 1 (.E 25)), oE 27 (.faddr 0 (.V 3)), oE 28 (.load false 1 (.E 27)), mV 29 1, oE 30 (.bin .add (.E 28) (.E 29)), oE 31 (.call zm1 [([0], (.E 26)), ([0], (.E 30))]), oE 24 (.mv (.E 31)), xE 32 0 24, xE 33 1 24, vE 8 32, oE 9 (.mv (.E 33))]) (.seq (.reg [mV 34 8, oE 35 (.faddr 0 (.V 5)), oE 36 (.load false 1 (.E 35)), oE 37 (.faddr 1 (.V 5)), oE 38 (.load false 1 (.E 37)), oE 39 (.call zm2 [([0], (.E 34)), ([0], (.E 36)), ([0], (.E 38))]), vE 6 39, oV 7 (.mv (kb true))]) .ret)))
def zn4 : List RV := [.tmp [0] 6, .tmp [0] 7]
def ybg : List Nat := [0, 4, 3, 2]
def zxl : IC := .seq (.seq (.reg [mV 6 4, mV 7 0, oE 8 (.bin .lss (.E 6) (.E 7)), oE 9 (.mv (.E 8)), ⟨(some (.E 10)), .mv (.V 0), some ((.E 9), true)⟩, ⟨(some (.E 11)), .bin .leq (.E 10) (ki 40), some ((.E 9), true)⟩, oE 12 (.pick (.E 9) (.E 11) (kb false))]) (.cond (.E 12) .skip (.exit 0))) (.seq (.block 1 (.reg [mV 15 3, mV 16 4, oE 17 (.bslice 1 1 [iv 0] [(0, (.E 16))]), oE 18 (.app 8 1 (.E 15) (.E 17)), vE 3 18])) (.reg [mV 13 4, oE 14 (.bin .add (.E 13) (ki 1)), vE 4 14]))
def zr8 : IC := .seq (.reg [oV 2 (.mv (.C .e0))]) (.seq (.reg [oE 5 (.bslice 0 1 [iv 0] []), vE 3 5]) (.seq (.seq (.reg [oV 4 (.mv (ki 0))]) (.block 0 (.loop zxl))) (.seq (.reg [mV 19 3, vE 2 19]) .ret)))
def zr9 : List RV := [.tmp [1] 2]
def ybh : List Nat := [0]
def zsa : IC := .seq (.reg [oV 0 (.alloc [iv 0, iv 0])]) (.seq (.reg [oE 1 (.build [iv 0, iv 0] [(0, 1, (ki (-1099511627776))), (1, 1, (ki 1099511627776))]), oN (.store [0, 0] (.V 0) (.E 1))]) .ret)
def zsb : List RV := [.cell [0, 0] 0 true]
def ybi : List Nat := [0, 1, 2, 3, 5, 4]
def z0t : IC := .seq (.seq (.reg [mV 13 5, oE 14 (.faddr 0 (.V 2)), oE 15 (.load false 1 (.E 14)), oE 16 (.len (.E 15)), oE 17 (.bin .lss (.E 13) (.E 16))]) (.cond (.E 17) .skip (.exit 0))) (.seq (.block 1 (.seq (.regD [(oE 20 (.faddr 0 (.V 2)), 0, 0), (oE 21 (.load false 1 (.E 20)), 0, 0), (mV 22 5, 0, 0), (oE 23 (.iaddr 5 (.E 21) (.E 22)), 0, 0), (oE 24 (.load true 5 (.E 23)), 0, 0), (oE 25 (.faddr 0 (.V 3)), 0, 0), (oE 26 (.load false 1 (.E 25)), 0, 0), (mV 27 5, 0, 0), (oE 28 (.iaddr 5 (.E 26) (.E 27)), 0, 0), (oE 29 (.load true 5 (.E 28)), 0, 0), (oE 30 (.eqb true [.i .i64, .i .i64, .i .i64, .i .i64, .i .i64] (.E 24) (.E 29)), 0, 0)]) (.cond (.E 30) (.seq (.reg [oV 4 (.mv (kb false))]) .ret) .skip))) (.reg [mV 18 5, oE 19 (.bin .add (.E 18) (ki 1)), vE 5 19]))
def zpm : IC := .seq (.reg [oV 2 (.box (.V 0)), oV 3 (.box (.V 1)), oV 4 (.mv (kb false))]) (.seq (.seq (.reg [oE 6 (.faddr 0 (.V 2)), oE 7 (.load false 1 (.E 6)), oE 8 (.len (.E 7)), oE 9 (.faddr 0 (.V 3)), oE 10 (.load false 1 (.E 9)), oE 11 (.len (.E 10)), oE 12 (.bin .neq (.E 8) (.E 11))]) (.cond (.E 12) (.seq (.reg [oV 4 (.mv (kb false))]) .ret) .skip)) (.seq (.seq (.reg [oV 5 (.mv (ki 0))]) (.block 0 (.loop z0t))) (.seq (.reg [oV 4 (.mv (kb true))]) .ret)))
def zpn : List RV := [.tmp [0] 4]
def ybj : List Nat := [0, 2]
def zsc : IC := .seq (.reg [oV 2 (.alloc [.e0])]) (.seq (.reg [mV 3 0, oE 4 (.build [iv 0, iv 0, iv 0, iv 0, iv 0] [(0, 1, (ki (-1))), (4, 1, (.E 3))]), oE 5 (.bslice 1 5 [iv 0, iv 0, iv 0, iv 0, iv 0] [(0, (.E 4))]), oE 6 (.build [.e0] [(0, 1, (.E 5))]), oN (.store [5] (.V 2) (.E 6))]) .ret)
def zsd : List RV := [.cell [5] 2 true]
def ybk : List Nat := [0, 6, 7, 10, 8, 9, 11, 12, 3, 5, 2, 4]
def zse : IC := .seq (.seq (.reg [mV 20 10, mV 21 8, oE 22 (.bin .lss (.E 20) (.E 21))]) (.cond (.E 22) .skip (.exit 0))) (.seq (.block 1 (.seq (.reg [mV 25 6, oE 26 (.call zbc [([0], (.E 25)), ([0], (ki 41))]), oE 27 (.bin .sub (.E 26) (ki 20)), oE 28 (.bin .mul (ki 100) (.E 27)), mV 29 6, oE 30 (.call zbc [([0], (.E 29)), ([0], (ki 3))]), oE 31 (.bin .add (.E 28) (.E 30)), vE 11 31]) (.seq (.seq (.reg [oE 32 (.faddr 1 (.V 7)), oE 33 (.load false 1 (.E 32)), oE 34 (.iaddr 1 (.E 33) (ki 0)), oE 35 (.load false 1 (.E 34)), oE 36 (.len (.E 35)), mV 37 10, oE 38 (.bin .gtr (.E 36) (.E 37)), oE 39 (.mv (.E 38)), ⟨(some (.E 40)), .mv (.V 6), some ((.E 39), true)⟩, ⟨(some (.E 41)), .call zdn [([0], (.E 40)), ([0], (ki 4))], some ((.E 39), true)⟩, ⟨(some (.E 42)), .un .not (.E 41), some ((.E 39), true)⟩, oE 43 (.pick (.E 39) (.E 42) (kb false))]) (.cond (.E 43) (.regD [(oE 44 (.faddr 1 (.V 7)), 0, 1), (oE 45 (.load false 1 (.E 44)), 0, 1), (oE 46 (.iaddr 1 (.E 45) (ki 0)), 0, 1), (oE 47 (.load false 1 (.E 46)), 0, 1), (mV 48 10, 0, 0), (oE 49 (.iaddr 1 (.E 47) (.E 48)), 0, 1), (oE 50 (.load false 1 (.E 49)), 0, 1), (oE 51 (.bin .mul (ki 300) (.E 50)), 0, 0), (oE 52 (.bin .sub (.E 51) (ki 400)), 0, 0), (mV 53 6, 0, 0), (oE 54 (.call zbc [([0], (.E 53)), ([0], (ki 4))]), 0, 0), (oE 55 (.bin .mul (ki 50) (.E 54)), 0, 0), (oE 56 (.bin .add (.E 52) (.E 55)), 0, 0), (vE 11 56, 0, 0)]) .skip)) (.reg [mV 57 9, mV 58 11, oE 59 (.bslice 1 1 [iv 0] [(0, (.E 58))]), oE 60 (.app 8 1 (.E 57) (.E 59)), vE 9 60])))) (.reg [mV 23 10, oE 24 (.bin .add (.E 23) (ki 1)), vE 10 24]))
def zsf : IC := .seq (.reg [oV 2 (.mv (.C (.v (.pointer none)))), oV 3 (.alloc [.e0, .e0]), oV 4 (.mv (.C .e0)), oV 5 (.alloc [iv 0, iv 0, iv 0, iv 0, iv 0, iv 0, iv 0, .e0])]) (.seq (.reg [mV 13 0, oE 14 (.call zm3 [([1], (.E 13))]), vE 6 14]) (.seq (.reg [mV 15 6, oE 16 (.call zj9 [([0], (.E 15))]), oV 7 (.alloc [.e0, .e0]), oN (.store [1, 1] (.V 7) (.E 16))]) (.seq (.reg [oE 17 (.load true 2 (.V 7)), oE 18 (.call zh4 [([1, 1], (.E 17))]), vE 8 18]) (.seq (.reg [oE 19 (.bslice 0 1 [iv 0] []), vE 9 19]) (.seq (.seq (.reg [oV 10 (.mv (ki 0))]) (.block 0 (.loop zse))) (.seq (.seq (.reg [mV 61 6, oE 62 (.call zdn [([0], (.E 61)), ([0], (ki 12))])]) (.cond (.E 62) (.reg [mV 63 6, mV 64 8, oE 65 (.call zm4 [([0], (.E 63)), ([0], (.E 64))]), vE 9 65]) .skip)) (.seq (.seq (.reg [mV 66 6, oE 67 (.call zdn [([0], (.E 66)), ([0], (ki 20))])]) (.cond (.E 67) (.reg [mV 68 9, mV 69 6, oE 70 (.bslice 3 1 [iv 0] [(0, (ki 0)), (1, (ki 2199023255552)), (2, (ki 2199023255553))]), oE 71 (.call zd3 [([0], (.E 69)), ([1], (.E 70))]), oE 72 (.bslice 1 1 [iv 0] [(0, (.E 71))]), oE 73 (.app 8 1 (.E 68) (.E 72)), vE 9 73]) .skip)) (.seq (.seq (.reg [mV 74 8, oE 75 (.bin .gtr (.E 74) (ki 0)), oE 76 (.mv (.E 75)), ⟨(some (.E 77)), .mv (.V 6), some ((.E 76), true)⟩, ⟨(some (.E 78)), .call zdn [([0], (.E 77)), ([0], (ki 20))], some ((.E 76), true)⟩, oE 79 (.pick (.E 76) (.E 78) (kb false))]) (.cond (.E 79) (.reg [mV 80 9, mV 81 6, oE 82 (.bslice 4 1 [iv 0] [(0, (ki 2199023255552)), (1, (ki 2199023255553)), (2, (ki (-2199023255552))), (3, (ki (-2199023255553)))]), oE 83 (.call zd3 [([0], (.E 81)), ([1], (.E 82))]), oE 84 (.iaddr 1 (.E 80) (ki 0)), oN (.store [0] (.E 84) (.E 83))]) .skip)) (.seq (.reg [mV 85 6, oE 86 (.call zka [([0], (.E 85))]), oV 12 (.alloc [iv 0, iv 0, iv 0, iv 0, iv 0, iv 0, iv 0, .e0]), oN (.store [0, 0, 0, 0, 0, 0, 0, 1] (.V 12) (.E 86))]) (.seq (.seq (.reg [mV 87 6, oE 88 (.call zdn [([0], (.E 87)), ([0], (ki 20))])]) (.cond (.E 88) (.reg [mV 89 6, oE 90 (.call zm5 [([0], (.E 89))]), oN (.store [0, 0, 0, 0, 0, 0, 0, 1] (.V 12) (.E 90))]) .skip)) (.seq (.seq (.reg [mV 91 6, oE 92 (.call zdn [([0], (.E 91)), ([0], (ki 20))])]) (.cond (.E 92) (.reg [mV 93 6, oE 94 (.call zm6 [([0], (.E 93))]), oN (.store [1, 1] (.V 7) (.E 94))]) .skip)) (.seq (.regD [(mV 95 6, 0, 0), (oE 96 (.load true 2 (.V 7)), 0, 0), (mV 97 9, 0, 0), (oE 98 (.load true 8 (.V 12)), 0, 1), (vE 2 95, 0, 0), (oN (.store [1, 1] (.V 3) (.E 96)), 0, 0), (vE 4 97, 0, 0), (oN (.store [0, 0, 0, 0, 0, 0, 0, 1] (.V 5) (.E 98)), 0, 0)]) .ret))))))))))))
def zsg : List RV := [.tmp [0] 2, .cell [1, 1] 3 true, .tmp [1] 4, .cell [0, 0, 0, 0, 0, 0, 0, 1] 5 true]
def ybl : List Nat := [0, 1, 4]
def zsh : IC := .seq (.reg [oV 4 (.mv (kb false))]) (.seq (.reg [mV 5 0, mV 6 1, oE 7 (.call zbc [([0], (.E 5)), ([0], (.E 6))]), oE 8 (.bin .eql (.E 7) (ki 0)), vE 4 8]) .ret)
def zsi : List RV := [.tmp [0] 4]
def ybm : List Nat := [0, 1, 2, 3, 20, 19, 18, 9, 10, 12, 8, 11, 6, 7]
def zsj : IC := .seq (.reg [oE 21 (.bin .lss (.V 20) (.V 19))]) (.seq (.cond (.E 21) .skip (.exit 0)) (.seq (.block 1 (.seq (.reg [mV 22 20, oE 23 (.iaddr 1 (.V 18) (.V 20)), oE 24 (.load false 1 (.E 23)), vE 9 22, vE 10 24]) (.seq (.reg [oE 26 (.faddr 1 (.V 3)), oE 27 (.load false 1 (.E 26)), mV 28 9, oE 29 (.iaddr 1 (.E 27) (.E 28)), oE 30 (.load false 1 (.E 29)), mV 31 1, mV 32 2, mV 33 10, oE 34 (.len (.E 33)), oE 35 (.bin .add (.E 34) (ki 1)), oE 36 (.call zm8 [([1], (.E 30)), ([1], (.E 31)), ([1], (.E 32)), ([0], (.E 35))]), oE 25 (.mv (.E 36)), xE 37 0 25, xE 38 1 25, vE 11 37, vE 12 38]) (.seq (.seq (.reg [mV 39 12, oE 40 (.un .not (.E 39))]) (.cond (.E 40) (.seq (.reg [oV 6 (.mv (.C .e0)), oV 7 (.mv (kb false))]) .ret) .skip)) (.reg [mV 41 8, mV 42 11, oE 43 (.bslice 1 1 [(.own 2 [])] [(0, (.E 42))]), oE 44 (.app 24 1 (.E 41) (.E 43)), vE 8 44]))))) (.reg [oE 45 (.bin .add (.V 20) (ki 1)), vE 20 45])))
def zpo : IC := .seq (.reg [oV 3 (.box (.V 0)), oV 6 (.mv (.C .e0)), oV 7 (.mv (kb false))]) (.seq (.seq (.reg [oE 13 (.load true 2 (.V 3)), oE 14 (.call zj7 [([1, 1], (.E 13))]), oE 15 (.un .not (.E 14))]) (.cond (.E 15) (.seq (.reg [oV 6 (.mv (.C .e0)), oV 7 (.mv (kb false))]) .ret) .skip)) (.seq (.reg [oE 16 (.bslice 0 1 [(.own 2 [])] []), vE 8 16]) (.seq (.seq (.reg [oE 17 (.faddr 0 (.V 3)), oV 18 (.load false 1 (.E 17)), oV 19 (.len (.V 18)), oV 20 (.mv (ki 0))]) (.block 0 (.loop zsj))) (.seq (.reg [mV 46 8, vE 6 46, oV 7 (.mv (kb true))]) .ret))))
def zpp : List RV := [.tmp [1] 6, .tmp [0] 7]
def ybn : List Nat := [0, 1, 2, 19, 18, 17, 3, 4, 10, 8, 34, 33, 32, 41, 40, 39, 13, 14, 11, 15, 12, 6, 7]
def zsk : IC := .seq (.reg [oE 20 (.bin .lss (.V 19) (.V 18))]) (.seq (.cond (.E 20) .skip (.exit 0)) (.seq (.block 1 (.seq (.reg [oE 21 (.iaddr 6 (.V 17) (.V 19)), oE 22 (.load true 6 (.E 21)), oV 10 (.alloc [iv 0, iv 0, iv 0, iv 0, iv 0, iv 0]), oN (.store [0, 0, 0, 0, 0, 0] (.V 10) (.E 22))]) (.seq (.reg [oE 23 (.load true 8 (.V 3)), oE 24 (.load true 2 (.V 4)), oE 25 (.load true 6 (.V 10)), oE 26 (.call zj2 [([0, 0, 0, 0, 0, 0, 0, 1], (.E 23)), ([0, 0], (.E 24)), ([0, 0, 0, 0, 0, 0], (.E 25))])]) (.cond (.E 26) (.reg [mV 27 8, oE 28 (.load true 6 (.V 10)), oE 29 (.bslice 1 6 [iv 0, iv 0, iv 0, iv 0, iv 0, iv 0] [(0, (.E 28))]), oE 30 (.app 48 6 (.E 27) (.E 29)), vE 8 30]) .skip)))) (.reg [oE 31 (.bin .add (.V 19) (ki 1)), vE 19 31])))
def zk3 : IC := .seq (.reg [oE 42 (.bin .lss (.V 41) (.V 40))]) (.seq (.cond (.E 42) .skip (.exit 4)) (.seq (.block 5 (.seq (.reg [mV 43 41, oE 44 (.iaddr 6 (.V 39) (.V 41)), oE 45 (.load true 6 (.E 44)), oV 15 (.alloc [iv 0, iv 0, iv 0, iv 0, iv 0, iv 0]), vE 14 43, oN (.store [0, 0, 0, 0, 0, 0] (.V 15) (.E 45))]) (.reg [mV 46 13, oE 47 (.mv (.E 46)), ⟨(some (.E 48)), .mv (.V 14), some ((.E 47), true)⟩, ⟨(some (.E 49)), .mv (.V 11), some ((.E 47), true)⟩, ⟨(some (.E 50)), .bin .eql (.E 48) (.E 49), some ((.E 47), true)⟩, ⟨(some (.E 51)), .mv (.E 50), some ((.E 47), true)⟩, ⟨(some (.E 52)), .load true 6 (.V 15), some ((.E 51), false)⟩, ⟨(some (.E 53)), .load true 6 (.V 12), some ((.E 51), false)⟩, ⟨(some (.E 54)), .faddr 3 (.V 3), some ((.E 51), false)⟩, ⟨(some (.E 55)), .load false 1 (.E 54), some ((.E 51), false)⟩, ⟨(some (.E 56)), .call zkb [([0, 0, 0, 0, 0, 0], (.E 52)), ([0, 0, 0, 0, 0, 0], (.E 53)), ([0], (.E 55))], some ((.E 51), false)⟩, ⟨(some (.E 57)), .un .not (.E 56), some ((.E 51), false)⟩, ⟨(some (.E 58)), .pick (.E 51) (kb true) (.E 57), some ((.E 47), true)⟩, oE 59 (.pick (.E 47) (.E 58) (kb false)), vE 13 59]))) (.reg [oE 60 (.bin .add (.V 41) (ki 1)), vE 41 60])))
def zxm : IC := .seq (.reg [oE 35 (.bin .lss (.V 34) (.V 33))]) (.seq (.cond (.E 35) .skip (.exit 2)) (.seq (.block 3 (.seq (.reg [mV 36 34, oE 37 (.iaddr 6 (.V 32) (.V 34)), oE 38 (.load true 6 (.E 37)), oV 12 (.alloc [iv 0, iv 0, iv 0, iv 0, iv 0, iv 0]), vE 11 36, oN (.store [0, 0, 0, 0, 0, 0] (.V 12) (.E 38))]) (.seq (.reg [oV 13 (.mv (kb true))]) (.seq (.seq (.reg [oV 39 (.mv (.V 8)), oV 40 (.len (.V 39)), oV 41 (.mv (ki 0))]) (.block 4 (.loop zk3))) (.seq (.reg [mV 61 13]) (.cond (.E 61) (.seq (.reg [oE 62 (.load true 6 (.V 12)), oN (.store [0, 0, 0, 0, 0, 0] (.V 6) (.E 62)), oV 7 (.mv (kb true))]) .ret) .skip)))))) (.reg [oE 63 (.bin .add (.V 34) (ki 1)), vE 34 63])))
def zsl : IC := .seq (.reg [oV 3 (.box (.V 0)), oV 4 (.box (.V 1)), oV 6 (.alloc [iv 0, iv 0, iv 0, iv 0, iv 0, iv 0]), oV 7 (.mv (kb false))]) (.seq (.reg [oE 16 (.bslice 0 6 [iv 0, iv 0, iv 0, iv 0, iv 0, iv 0] []), vE 8 16]) (.seq (.seq (.reg [oV 17 (.mv (.V 2)), oV 18 (.len (.V 17)), oV 19 (.mv (ki 0))]) (.block 0 (.loop zsk))) (.seq (.seq (.reg [oV 32 (.mv (.V 8)), oV 33 (.len (.V 32)), oV 34 (.mv (ki 0))]) (.block 2 (.loop zxm))) (.seq (.reg [oE 64 (.build [iv 0, iv 0, iv 0, iv 0, iv 0, iv 0] []), oN (.store [0, 0, 0, 0, 0, 0] (.V 6) (.E 64)), oV 7 (.mv (kb false))]) .ret))))
def zsm : List RV := [.cell [0, 0, 0, 0, 0, 0] 6 true, .tmp [0] 7]
def ybo : List Nat := [0, 1, 16, 15, 14, 7, 9, 10, 8, 12, 11, 5, 6, 4]
def zn5 : IC := .seq (.seq (.reg [mV 28 10, mV 29 8, oE 30 (.len (.E 29)), oE 31 (.bin .sub (.E 30) (ki 1)), oE 32 (.bin .lss (.E 28) (.E 31))]) (.cond (.E 32) .skip (.exit 2))) (.seq (.block 3 (.seq (.regD [(mV 36 8, 0, 0), (mV 37 8, 0, 0), (oE 38 (.len (.E 37)), 0, 0), (oE 39 (.bin .sub (.E 38) (ki 1)), 0, 0), (oE 40 (.iaddr 2 (.E 36) (.E 39)), 0, 0), (oE 41 (.load true 2 (.E 40)), 0, 0), (mV 42 8, 0, 0), (mV 43 10, 0, 0), (oE 44 (.iaddr 2 (.E 42) (.E 43)), 0, 0), (oE 45 (.load true 2 (.E 44)), 0, 0), (oE 46 (.call zna [([0, 0], (.E 41)), ([0, 0], (.E 45))]), 0, 0), (oE 35 (.mv (.E 46)), 0, 0), (xE 47 0 35, 0, 0), (xE 48 1 35, 0, 0), (oV 11 (.allocL [iv 0, iv 0]), 0, 0), (oN (.store [0, 0] (.V 11) (.E 47)), 0, 0), (vE 12 48, 0, 0)]) (.seq (.seq (.reg [mV 49 12, oE 50 (.un .not (.E 49))]) (.cond (.E 50) (.seq (.reg [oV 4 (.mv (.C .e0))]) .ret) .skip)) (.seq (.reg [mV 51 8, mV 52 10, oE 53 (.iaddr 2 (.E 51) (.E 52)), oE 54 (.faddr 0 (.E 53)), oE 55 (.load false 1 (.E 54)), mV 56 1, oE 57 (.bin .geq (.E 55) (.E 56)), oE 58 (.mv (.E 57)), ⟨(some (.E 59)), .faddr 0 (.V 11), some ((.E 58), true)⟩, ⟨(some (.E 60)), .load false 1 (.E 59), some ((.E 58), true)⟩, ⟨(some (.E 61)), .mv (.V 1), some ((.E 58), true)⟩, ⟨(some (.E 62)), .bin .geq (.E 60) (.E 61), some ((.E 58), true)⟩, oE 63 (.pick (.E 58) (.E 62) (kb false))]) (.cond (.E 63) (.regD [(mV 64 5, 0, 0), (mV 65 6, 0, 0), (mV 66 10, 0, 0), (mV 67 8, 0, 0), (mV 68 10, 0, 0), (oE 69 (.iaddr 2 (.E 67) (.E 68)), 0, 0), (oE 70 (.load true 2 (.E 69)), 0, 0), (oE 71 (.load true 2 (.V 11)), 0, 0), (oE 72 (.build [iv 0, iv 0, iv 0, iv 0, iv 0, iv 0] [(0, 1, (.E 65)), (1, 1, (.E 66)), (2, 2, (.E 70)), (4, 2, (.E 71))]), 0, 0), (oE 73 (.bslice 1 6 [iv 0, iv 0, iv 0, iv 0, iv 0, iv 0] [(0, (.E 72))]), 0, 0), (oE 74 (.app 48 6 (.E 64) (.E 73)), 0, 0), (vE 5 74, 0, 0)]) .skip))))) (.reg [mV 33 10, oE 34 (.bin .add (.E 33) (ki 1)), vE 10 34]))
def zsn : IC := .seq (.reg [oE 17 (.bin .lss (.V 16) (.V 15))]) (.seq (.cond (.E 17) .skip (.exit 0)) (.seq (.block 1 (.seq (.reg [mV 18 16, oE 19 (.iaddr 1 (.V 14) (.V 16)), oE 20 (.load false 1 (.E 19)), vE 6 18, vE 7 20]) (.seq (.reg [mV 22 7, oE 23 (.call zm9 [([2], (.E 22))]), oE 21 (.mv (.E 23)), xE 24 0 21, xE 25 1 21, vE 8 24, vE 9 25]) (.seq (.seq (.reg [mV 26 9, oE 27 (.un .not (.E 26))]) (.cond (.E 27) (.seq (.reg [oV 4 (.mv (.C .e0))]) .ret) .skip)) (.seq (.reg [oV 10 (.mv (ki 0))]) (.block 2 (.loop zn5))))))) (.reg [oE 75 (.bin .add (.V 16) (ki 1)), vE 16 75])))
def zso : IC := .seq (.reg [oV 4 (.mv (.C .e0))]) (.seq (.reg [oE 13 (.bslice 0 6 [iv 0, iv 0, iv 0, iv 0, iv 0, iv 0] []), vE 5 13]) (.seq (.seq (.reg [oV 14 (.mv (.V 0)), oV 15 (.len (.V 14)), oV 16 (.mv (ki 0))]) (.block 0 (.loop zsn))) (.seq (.reg [mV 76 5, vE 4 76]) .ret)))
def zsp : List RV := [.tmp [6] 4]
def ybp : List Nat := [0, 1, 2, 6]
def zsq : IC := .seq (.reg [oV 6 (.mv (kb false))]) (.seq (.reg [mV 7 0, mV 8 1, oE 9 (.bin .geq (.E 7) (.E 8)), oE 10 (.mv (.E 9)), ⟨(some (.E 11)), .mv (.V 0), some ((.E 10), true)⟩, ⟨(some (.E 12)), .mv (.V 2), some ((.E 10), true)⟩, ⟨(some (.E 13)), .bin .leq (.E 11) (.E 12), some ((.E 10), true)⟩, oE 14 (.pick (.E 10) (.E 13) (kb false)), vE 6 14]) .ret)
def zsr : List RV := [.tmp [0] 6]
def ybq : List Nat := [0, 1, 2, 5, 3, 4, 10, 12, 9, 11, 6, 7, 8]
def zss : IC := .seq (.reg [oV 3 (.box (.V 0)), oV 4 (.box (.V 1)), oV 5 (.box (.V 2)), oV 6 (.mv (ki 0)), oV 7 (.mv (ki 0)), oV 8 (.mv (kb false))]) (.seq (.reg [oE 14 (.faddr 2 (.V 5)), oE 15 (.load true 2 (.E 14)), oE 16 (.faddr 3 (.V 3)), oE 17 (.load false 1 (.E 16)), oE 18 (.load true 2 (.V 4)), oE 19 (.call zi7 [([0, 0], (.E 15)), ([0], (.E 17)), ([0, 0], (.E 18))]), oE 13 (.mv (.E 19)), xE 20 0 13, xE 21 1 13, vE 9 20, vE 10 21]) (.seq (.reg [oE 23 (.faddr 4 (.V 5)), oE 24 (.load true 2 (.E 23)), oE 25 (.faddr 3 (.V 3)), oE 26 (.load false 1 (.E 25)), oE 27 (.load true 2 (.V 4)), oE 28 (.call zi7 [([0, 0], (.E 24)), ([0], (.E 26)), ([0, 0], (.E 27))]), oE 22 (.mv (.E 28)), xE 29 0 22, xE 30 1 22, vE 11 29, vE 12 30]) (.seq (.seq (.reg [mV 31 10, oE 32 (.un .not (.E 31)), oE 33 (.mv (.E 32)), ⟨(some (.E 34)), .mv (.V 12), some ((.E 33), false)⟩, ⟨(some (.E 35)), .un .not (.E 34), some ((.E 33), false)⟩, oE 36 (.pick (.E 33) (kb true) (.E 35))]) (.cond (.E 36) (.seq (.reg [oV 6 (.mv (ki 0)), oV 7 (.mv (ki 0)), oV 8 (.mv (kb false))]) .ret) .skip)) (.seq (.reg [mV 37 9, mV 38 11, vE 6 37, vE 7 38, oV 8 (.mv (kb true))]) .ret))))
def zst : List RV := [.tmp [0] 6, .tmp [0] 7, .tmp [0] 8]
def ybr : List Nat := [0, 1, 2]
def zsu : IC := .seq (.reg [oV 1 (.box (.V 0)), oV 2 (.mv (kb false))]) (.seq (.reg [oE 3 (.faddr 0 (.V 1)), oE 4 (.load false 1 (.E 3)), oE 5 (.call zbx [([0], (.E 4)), ([0], (ki 1)), ([0], (ki 8))]), oE 6 (.mv (.E 5)), ⟨(some (.E 7)), .faddr 1 (.V 1), some ((.E 6), true)⟩, ⟨(some (.E 8)), .load false 1 (.E 7), some ((.E 6), true)⟩, ⟨(some (.E 9)), .call zbx [([0], (.E 8)), ([0], (ki 0)), ([0], (ki 4))], some ((.E 6), true)⟩, oE 10 (.pick (.E 6) (.E 9) (kb false)), oE 11 (.mv (.E 10)), ⟨(some (.E 12)), .faddr 2 (.V 1), some ((.E 11), true)⟩, ⟨(some (.E 13)), .load false 1 (.E 12), some ((.E 11), true)⟩, ⟨(some (.E 14)), .call zbx [([0], (.E 13)), ([0], (ki 2)), ([0], (ki 8))], some ((.E 11), true)⟩, oE 15 (.pick (.E 11) (.E 14) (kb false)), oE 16 (.mv (.E 15)), ⟨(some (.E 17)), .faddr 3 (.V 1), some ((.E 16), true)⟩, ⟨(some (.E 18)), .load false 1 (.E 17), some ((.E 16), true)⟩, ⟨(some (.E 19)), .call zbx [([0], (.E 18)), ([0], (ki 1)), ([0], (ki 100))], some ((.E 16), true)⟩, oE 20 (.pick (.E 16) (.E 19) (kb false)), oE 21 (.mv (.E 20)), ⟨(some (.E 22)), .faddr 4 (.V 1), some ((.E 21), true)⟩, ⟨(some (.E 23)), .load false 1 (.E 22), some ((.E 21), true)⟩, ⟨(some (.E 24)), .call zbx [([0], (.E 23)), ([0], (ki 1)), ([0], (ki 20))], some ((.E 21), true)⟩, oE 25 (.pick (.E 21) (.E 24) (kb false)), oE 26 (.mv (.E 25)), ⟨(some (.E 27)), .faddr 6 (.V 1), some ((.E 26), true)⟩, ⟨(some (.E 28)), .load false 1 (.E 27), some ((.E 26), true)⟩, ⟨(some (.E 29)), .call zbx [([0], (.E 28)), ([0], (ki 1)), ([0], (ki 1000))], some ((.E 26), true)⟩, oE 30 (.pick (.E 26) (.E 29) (kb false)), oE 31 (.mv (.E 30)), ⟨(some (.E 32)), .faddr 5 (.V 1), some ((.E 31), true)⟩, ⟨(some (.E 33)), .load false 1 (.E 32), some ((.E 31), true)⟩, ⟨(some (.E 34)), .faddr 6 (.V 1), some ((.E 31), true)⟩, ⟨(some (.E 35)), .load false 1 (.E 34), some ((.E 31), true)⟩, ⟨(some (.E 36)), .call zbx [([0], (.E 33)), ([0], (ki 1)), ([0], (.E 35))], some ((.E 31), true)⟩, oE 37 (.pick (.E 31) (.E 36) (kb false)), oE 38 (.mv (.E 37)), ⟨(some (.E 39)), .faddr 7 (.V 1), some ((.E 38), true)⟩, ⟨(some (.E 40)), .load false 1 (.E 39), some ((.E 38), true)⟩, ⟨(some (.E 41)), .len (.E 40), some ((.E 38), true)⟩, ⟨(some (.E 42)), .bin .leq (.E 41) (ki 4), some ((.E 38), true)⟩, oE 43 (.pick (.E 38) (.E 42) (kb false)), oE 44 (.mv (.E 43)), ⟨(some (.E 45)), .faddr 7 (.V 1), some ((.E 44), true)⟩, ⟨(some (.E 46)), .load false 1 (.E 45), some ((.E 44), true)⟩, ⟨(some (.E 47)), .call zhi [([1], (.E 46)), ([0], (.C (.fn zkc [])))], some ((.E 44), true)⟩, ⟨(some (.E 48)), .un .not (.E 47), some ((.E 44), true)⟩, oE 49 (.pick (.E 44) (.E 48) (kb false)), vE 2 49]) .ret)
def zsv : List RV := [.tmp [0] 2]
def ybs : List Nat := [0, 1, 2, 7, 6]
def zpq : IC := .seq (.reg [oV 6 (.mv (kb false))]) (.seq (.seq (.reg [oV 7 (.mv (.V 0))]) (.block 0 (.seq (.reg [oE 9 (.bin .eql (.V 7) (ki 1)), oE 8 (.mv (.E 9))]) (.cond (.E 8) (.seq (.reg [mV 10 1, mV 11 2, oE 12 (.bin .leq (.E 10) (.E 11)), vE 6 12]) .ret) (.seq (.reg [oE 14 (.bin .eql (.V 7) (ki (-1))), oE 13 (.mv (.E 14))]) (.cond (.E 13) (.seq (.reg [mV 15 1, mV 16 2, oE 17 (.bin .geq (.E 15) (.E 16)), vE 6 17]) .ret) .skip)))))) (.seq (.reg [oV 6 (.mv (kb true))]) .ret))
def zpr : List RV := [.tmp [0] 6]
def ybt : List Nat := [0, 1, 2, 4]
def zps : IC := .seq (.reg [oV 2 (.box (.V 0)), oV 4 (.mv (ki 0))]) (.seq (.seq (.reg [mV 5 1, oE 6 (.faddr 7 (.V 2)), oE 7 (.load false 1 (.E 6)), oE 8 (.len (.E 7)), oE 9 (.bin .sub (.E 8) (ki 1)), oE 10 (.call zbx [([0], (.E 5)), ([0], (ki 0)), ([0], (.E 9))]), oE 11 (.un .not (.E 10))]) (.cond (.E 11) (.seq (.reg [oV 4 (.mv (ki 0))]) .ret) .skip)) (.seq (.reg [oE 12 (.faddr 7 (.V 2)), oE 13 (.load false 1 (.E 12)), mV 14 1, oE 15 (.iaddr 1 (.E 13) (.E 14)), oE 16 (.load false 1 (.E 15)), vE 4 16]) .ret))
def zpt : List RV := [.tmp [0] 4]
def ybu : List Nat := [0, 1, 2, 7, 5, 9, 6, 8, 10, 12, 11, 4]
def zsw : IC := .seq (.reg [oV 2 (.box (.V 0)), oV 4 (.mv (kb false))]) (.seq (.reg [oE 14 (.load true 6 (.V 2)), mV 15 1, oE 16 (.call zi8 [([0, 0, 0, 0, 0, 0], (.E 14)), ([0], (.E 15))]), oE 13 (.mv (.E 16)), xE 17 0 13, xE 18 1 13, oV 5 (.alloc [(.v (.bool false)), (.v (.int .u64 0)), (.v (.int .u64 0)), iv 0]), oN (.store [0, 0, 0, 0] (.V 5) (.E 17)), vE 6 18]) (.seq (.reg [oE 20 (.load true 6 (.V 2)), oE 21 (.call znc [([0, 0, 0, 0, 0, 0], (.E 20))]), oE 19 (.mv (.E 21)), xE 22 0 19, xE 23 1 19, oV 7 (.alloc [iv 0, iv 0]), oN (.store [0, 0] (.V 7) (.E 22)), vE 8 23]) (.seq (.reg [oE 25 (.load true 2 (.V 7)), mV 26 1, oE 27 (.call zi9 [([0, 0], (.E 25)), ([0], (.E 26))]), oE 24 (.mv (.E 27)), xE 28 0 24, xE 29 1 24, oV 9 (.alloc [(.v (.bool false)), (.v (.int .u64 0)), (.v (.int .u64 0)), iv 0]), oN (.store [0, 0, 0, 0] (.V 9) (.E 28)), vE 10 29]) (.seq (.reg [oE 31 (.load true 4 (.V 5)), oE 32 (.load true 4 (.V 9)), oE 33 (.call zkd [([0, 0, 0, 0], (.E 31)), ([0, 0, 0, 0], (.E 32))]), oE 30 (.mv (.E 33)), xE 34 0 30, xE 35 1 30, vE 11 34, vE 12 35]) (.seq (.reg [mV 36 6, oE 37 (.mv (.E 36)), ⟨(some (.E 38)), .mv (.V 8), some ((.E 37), true)⟩, oE 39 (.pick (.E 37) (.E 38) (kb false)), oE 40 (.mv (.E 39)), ⟨(some (.E 41)), .mv (.V 10), some ((.E 40), true)⟩, oE 42 (.pick (.E 40) (.E 41) (kb false)), oE 43 (.mv (.E 42)), ⟨(some (.E 44)), .mv (.V 12), some ((.E 43), true)⟩, oE 45 (.pick (.E 43) (.E 44) (kb false)), oE 46 (.mv (.E 45)), ⟨(some (.E 47)), .mv (.V 11), some ((.E 46), true)⟩, ⟨(some (.E 48)), .bin .gtr (.E 47) (ki 0), some ((.E 46), true)⟩, oE 49 (.pick (.E 46) (.E 48) (kb false)), vE 4 49]) .ret)))))
def zsx : List RV := [.tmp [0] 4]
def ybv : List Nat := [0, 1, 3, 4, 2]
def z0u : IC := .seq (.seq (.reg [mV 50 4, oE 51 (.faddr 1 (.V 1)), oE 52 (.load false 1 (.E 51)), mV 53 3, oE 54 (.iaddr 1 (.E 52) (.E 53)), oE 55 (.load false 1 (.E 54)), oE 56 (.len (.E 55)), oE 57 (.bin .lss (.E 50) (.E 56))]) (.cond (.E 57) .skip (.exit 2))) (.seq (.block 3 (.seq (.regD [(oE 60 (.faddr 1 (.V 1)), 0, 0), (oE 61 (.load false 1 (.E 60)), 0, 0), (mV 62 3, 0, 0), (oE 63 (.iaddr 1 (.E 61) (.E 62)), 0, 0), (oE 64 (.load false 1 (.E 63)), 0, 0), (mV 65 4, 0, 0), (oE 66 (.iaddr 1 (.E 64) (.E 65)), 0, 0), (oE 67 (.load false 1 (.E 66)), 0, 0), (oE 68 (.faddr 0 (.V 1)), 0, 0), (oE 69 (.load false 1 (.E 68)), 0, 0), (mV 70 3, 0, 0), (oE 71 (.iaddr 1 (.E 69) (.E 70)), 0, 0), (oE 72 (.load false 1 (.E 71)), 0, 0), (oE 73 (.len (.E 72)), 0, 0), (oE 74 (.call zb7 [([0], (.E 67)), ([0], (ki 0)), ([0], (.E 73))]), 0, 0), (oE 75 (.un .not (.E 74)), 0, 0)]) (.cond (.E 75) (.seq (.reg [oV 2 (.mv (kb false))]) .ret) .skip))) (.reg [mV 58 4, oE 59 (.bin .add (.E 58) (ki 1)), vE 4 59]))
def z0v : IC := .seq (.seq (.reg [mV 25 3, oE 26 (.faddr 0 (.V 1)), oE 27 (.load false 1 (.E 26)), oE 28 (.len (.E 27)), oE 29 (.bin .lss (.E 25) (.E 28))]) (.cond (.E 29) .skip (.exit 0))) (.seq (.block 1 (.seq (.seq (.regD [(oE 32 (.faddr 0 (.V 1)), 0, 0), (oE 33 (.load false 1 (.E 32)), 0, 0), (mV 34 3, 0, 0), (oE 35 (.iaddr 1 (.E 33) (.E 34)), 0, 0), (oE 36 (.load false 1 (.E 35)), 0, 0), (oE 37 (.call znd [([1], (.E 36))]), 0, 0), (oE 38 (.un .not (.E 37)), 0, 0), (oE 39 (.mv (.E 38)), 0, 0), (⟨(some (.E 40)), .faddr 1 (.V 1), some ((.E 39), false)⟩, 0, 1), (⟨(some (.E 41)), .load false 1 (.E 40), some ((.E 39), false)⟩, 0, 1), (⟨(some (.E 42)), .mv (.V 3), some ((.E 39), false)⟩, 0, 0), (⟨(some (.E 43)), .iaddr 1 (.E 41) (.E 42), some ((.E 39), false)⟩, 0, 1), (⟨(some (.E 44)), .load false 1 (.E 43), some ((.E 39), false)⟩, 0, 1), (⟨(some (.E 45)), .len (.E 44), some ((.E 39), false)⟩, 0, 1), (⟨(some (.E 46)), .load true 2 (.V 1), some ((.E 39), false)⟩, 0, 0), (⟨(some (.E 47)), .call zh4 [([1, 1], (.E 46))], some ((.E 39), false)⟩, 0, 0), (⟨(some (.E 48)), .bin .neq (.E 45) (.E 47), some ((.E 39), false)⟩, 0, 0), (oE 49 (.pick (.E 39) (kb true) (.E 48)), 0, 0)]) (.cond (.E 49) (.seq (.reg [oV 2 (.mv (kb false))]) .ret) .skip)) (.seq (.reg [oV 4 (.mv (ki 0))]) (.block 2 (.loop z0u))))) (.reg [mV 30 3, oE 31 (.bin .add (.E 30) (ki 1)), vE 3 31]))
def zk4 : IC := .seq (.reg [oV 1 (.box (.V 0)), oV 2 (.mv (kb false))]) (.seq (.seq (.reg [oE 5 (.faddr 0 (.V 1)), oE 6 (.load false 1 (.E 5)), oE 7 (.len (.E 6)), oE 8 (.call zb7 [([0], (.E 7)), ([0], (ki 1)), ([0], (ki 4))]), oE 9 (.un .not (.E 8)), oE 10 (.mv (.E 9)), ⟨(some (.E 11)), .faddr 1 (.V 1), some ((.E 10), false)⟩, ⟨(some (.E 12)), .load false 1 (.E 11), some ((.E 10), false)⟩, ⟨(some (.E 13)), .len (.E 12), some ((.E 10), false)⟩, ⟨(some (.E 14)), .faddr 0 (.V 1), some ((.E 10), false)⟩, ⟨(some (.E 15)), .load false 1 (.E 14), some ((.E 10), false)⟩, ⟨(some (.E 16)), .len (.E 15), some ((.E 10), false)⟩, ⟨(some (.E 17)), .bin .neq (.E 13) (.E 16), some ((.E 10), false)⟩, oE 18 (.pick (.E 10) (kb true) (.E 17)), oE 19 (.mv (.E 18)), ⟨(some (.E 20)), .load true 2 (.V 1), some ((.E 19), false)⟩, ⟨(some (.E 21)), .call zh4 [([1, 1], (.E 20))], some ((.E 19), false)⟩, ⟨(some (.E 22)), .call zb7 [([0], (.E 21)), ([0], (ki 1)), ([0], (ki 40))], some ((.E 19), false)⟩, ⟨(some (.E 23)), .un .not (.E 22), some ((.E 19), false)⟩, oE 24 (.pick (.E 19) (kb true) (.E 23))]) (.cond (.E 24) (.seq (.reg [oV 2 (.mv (kb false))]) .ret) .skip)) (.seq (.seq (.reg [oV 3 (.mv (ki 0))]) (.block 0 (.loop z0v))) (.seq (.reg [oV 2 (.mv (kb true))]) .ret)))
def zk5 : List RV := [.tmp [0] 2]
def ybw : List Nat := [0, 1, 4, 3, 5, 2]
def zk6 : IC := .seq (.seq (.reg [mV 8 4, oE 9 (.bin .lss (.E 8) (ki 5))]) (.cond (.E 9) .skip (.exit 0))) (.seq (.block 1 (.seq (.regD [(mV 12 3, 0, 0), (mV 13 4, 0, 0), (oE 14 (.iaddr 1 (.E 12) (.E 13)), 0, 2), (oE 15 (.load false 1 (.E 14)), 0, 2), (oE 16 (.call znf []), 0, 0), (mV 17 4, 0, 0), (oE 18 (.iaddr 1 (.E 16) (.E 17)), 0, 1), (oE 19 (.load false 1 (.E 18)), 0, 1), (oE 20 (.call zng []), 0, 0), (mV 21 4, 0, 0), (oE 22 (.iaddr 1 (.E 20) (.E 21)), 0, 0), (oE 23 (.load false 1 (.E 22)), 0, 0), (oE 24 (.call zb7 [([0], (.E 15)), ([0], (.E 19)), ([0], (.E 23))]), 0, 0), (oE 25 (.un .not (.E 24)), 0, 0)]) (.cond (.E 25) (.seq (.reg [oV 2 (.mv (kb false))]) .ret) .skip))) (.reg [mV 10 4, oE 11 (.bin .add (.E 10) (ki 1)), vE 4 11]))
def z0w : IC := .seq (.seq (.reg [mV 26 5, oE 27 (.faddr 7 (.V 1)), oE 28 (.load false 1 (.E 27)), oE 29 (.len (.E 28)), oE 30 (.bin .lss (.E 26) (.E 29))]) (.cond (.E 30) .skip (.exit 2))) (.seq (.block 3 (.seq (.reg [oE 33 (.faddr 7 (.V 1)), oE 34 (.load false 1 (.E 33)), mV 35 5, oE 36 (.iaddr 1 (.E 34) (.E 35)), oE 37 (.load false 1 (.E 36)), oE 38 (.call zb7 [([0], (.E 37)), ([0], (ki (-1))), ([0], (ki 1))]), oE 39 (.un .not (.E 38))]) (.cond (.E 39) (.seq (.reg [oV 2 (.mv (kb false))]) .ret) .skip))) (.reg [mV 31 5, oE 32 (.bin .add (.E 31) (ki 1)), vE 5 32]))
def zsy : IC := .seq (.reg [oV 1 (.box (.V 0)), oV 2 (.mv (kb false))]) (.seq (.reg [oE 6 (.load true 8 (.V 1)), oE 7 (.call zne [([0, 0, 0, 0, 0, 0, 0, 1], (.E 6))]), vE 3 7]) (.seq (.seq (.reg [oV 4 (.mv (ki 0))]) (.block 0 (.loop zk6))) (.seq (.seq (.reg [oV 5 (.mv (ki 0))]) (.block 2 (.loop z0w))) (.seq (.reg [oE 40 (.faddr 6 (.V 1)), oE 41 (.load false 1 (.E 40)), oE 42 (.call zb7 [([0], (.E 41)), ([0], (ki 1)), ([0], (ki 1000))]), oE 43 (.mv (.E 42)), ⟨(some (.E 44)), .faddr 5 (.V 1), some ((.E 43), true)⟩, ⟨(some (.E 45)), .load false 1 (.E 44), some ((.E 43), true)⟩, ⟨(some (.E 46)), .faddr 6 (.V 1), some ((.E 43), true)⟩, ⟨(some (.E 47)), .load false 1 (.E 46), some ((.E 43), true)⟩, ⟨(some (.E 48)), .call zb7 [([0], (.E 45)), ([0], (ki 1)), ([0], (.E 47))], some ((.E 43), true)⟩, oE 49 (.pick (.E 43) (.E 48) (kb false)), oE 50 (.mv (.E 49)), ⟨(some (.E 51)), .faddr 7 (.V 1), some ((.E 50), true)⟩, ⟨(some (.E 52)), .load false 1 (.E 51), some ((.E 50), true)⟩, ⟨(some (.E 53)), .len (.E 52), some ((.E 50), true)⟩, ⟨(some (.E 54)), .bin .leq (.E 53) (ki 4), some ((.E 50), true)⟩, oE 55 (.pick (.E 50) (.E 54) (kb false)), vE 2 55]) .ret))))
def zsz : List RV := [.tmp [0] 2]
def ybx : List Nat := [0, 1, 2]
def zpu : IC := .seq (.reg [oV 1 (.box (.V 0)), oV 2 (.mv (ki 0))]) (.seq (.seq (.reg [oE 3 (.faddr 1 (.V 1)), oE 4 (.load false 1 (.E 3)), oE 5 (.len (.E 4)), oE 6 (.bin .eql (.E 5) (ki 0))]) (.cond (.E 6) (.seq (.reg [oV 2 (.mv (ki 0))]) .ret) .skip)) (.seq (.reg [oE 7 (.faddr 1 (.V 1)), oE 8 (.load false 1 (.E 7)), oE 9 (.iaddr 1 (.E 8) (ki 0)), oE 10 (.load false 1 (.E 9)), oE 11 (.len (.E 10)), vE 2 11]) .ret))
def zpv : List RV := [.tmp [0] 2]
def yby : List Nat := [0, 1, 28, 27, 26, 4, 3, 2]
def z0x : IC := .seq (.reg [oE 29 (.bin .lss (.V 28) (.V 27))]) (.seq (.cond (.E 29) .skip (.exit 0)) (.seq (.block 1 (.seq (.reg [mV 30 28, oE 31 (.iaddr 1 (.V 26) (.V 28)), oE 32 (.load false 1 (.E 31)), oV 4 (.alloc [.e0]), vE 3 30, oN (.store [1] (.V 4) (.E 32))]) (.seq (.regD [(oE 33 (.load false 1 (.V 4)), 0, 0), (oE 34 (.call znh [([1], (.E 33))]), 0, 0), (oE 35 (.un .not (.E 34)), 0, 0), (oE 36 (.mv (.E 35)), 0, 0), (⟨(some (.E 37)), .faddr 1 (.V 1), some ((.E 36), false)⟩, 0, 1), (⟨(some (.E 38)), .load false 1 (.E 37), some ((.E 36), false)⟩, 0, 1), (⟨(some (.E 39)), .mv (.V 3), some ((.E 36), false)⟩, 0, 0), (⟨(some (.E 40)), .iaddr 1 (.E 38) (.E 39), some ((.E 36), false)⟩, 0, 1), (⟨(some (.E 41)), .load false 1 (.E 40), some ((.E 36), false)⟩, 0, 1), (⟨(some (.E 42)), .len (.E 41), some ((.E 36), false)⟩, 0, 1), (⟨(some (.E 43)), .load true 2 (.V 1), some ((.E 36), false)⟩, 0, 0), (⟨(some (.E 44)), .call zh5 [([1, 1], (.E 43))], some ((.E 36), false)⟩, 0, 0), (⟨(some (.E 45)), .bin .neq (.E 42) (.E 44), some ((.E 36), false)⟩, 0, 0), (oE 46 (.pick (.E 36) (kb true) (.E 45)), 0, 0), (oE 47 (.mv (.E 46)), 0, 0), (⟨(some (.E 48)), .faddr 1 (.V 1), some ((.E 47), false)⟩, 0, 0), (⟨(some (.E 49)), .load false 1 (.E 48), some ((.E 47), false)⟩, 0, 0), (⟨(some (.E 50)), .mv (.V 3), some ((.E 47), false)⟩, 0, 0), (⟨(some (.E 51)), .iaddr 1 (.E 49) (.E 50), some ((.E 47), false)⟩, 0, 0), (⟨(some (.E 52)), .load false 1 (.E 51), some ((.E 47), false)⟩, 0, 0), (⟨(some (.E 53)), .mkfn zke [(.V 4)], some ((.E 47), false)⟩, 0, 0), (⟨(some (.E 54)), .call zhi [([1], (.E 52)), ([0], (.E 53))], some ((.E 47), false)⟩, 0, 0), (oE 55 (.pick (.E 47) (kb true) (.E 54)), 0, 0)]) (.cond (.E 55) (.seq (.reg [oV 2 (.mv (kb false))]) .ret) .skip)))) (.reg [oE 56 (.bin .add (.V 28) (ki 1)), vE 28 56])))
def zk7 : IC := .seq (.reg [oV 1 (.box (.V 0)), oV 2 (.mv (kb false))]) (.seq (.seq (.reg [oE 5 (.faddr 0 (.V 1)), oE 6 (.load false 1 (.E 5)), oE 7 (.len (.E 6)), oE 8 (.call zbx [([0], (.E 7)), ([0], (ki 1)), ([0], (ki 4))]), oE 9 (.un .not (.E 8)), oE 10 (.mv (.E 9)), ⟨(some (.E 11)), .faddr 1 (.V 1), some ((.E 10), false)⟩, ⟨(some (.E 12)), .load false 1 (.E 11), some ((.E 10), false)⟩, ⟨(some (.E 13)), .len (.E 12), some ((.E 10), false)⟩, ⟨(some (.E 14)), .faddr 0 (.V 1), some ((.E 10), false)⟩, ⟨(some (.E 15)), .load false 1 (.E 14), some ((.E 10), false)⟩, ⟨(some (.E 16)), .len (.E 15), some ((.E 10), false)⟩, ⟨(some (.E 17)), .bin .neq (.E 13) (.E 16), some ((.E 10), false)⟩, oE 18 (.pick (.E 10) (kb true) (.E 17)), oE 19 (.mv (.E 18)), ⟨(some (.E 20)), .load true 2 (.V 1), some ((.E 19), false)⟩, ⟨(some (.E 21)), .call zh5 [([1, 1], (.E 20))], some ((.E 19), false)⟩, ⟨(some (.E 22)), .call zbx [([0], (.E 21)), ([0], (ki 1)), ([0], (ki 40))], some ((.E 19), false)⟩, ⟨(some (.E 23)), .un .not (.E 22), some ((.E 19), false)⟩, oE 24 (.pick (.E 19) (kb true) (.E 23))]) (.cond (.E 24) (.seq (.reg [oV 2 (.mv (kb false))]) .ret) .skip)) (.seq (.seq (.reg [oE 25 (.faddr 0 (.V 1)), oV 26 (.load false 1 (.E 25)), oV 27 (.len (.V 26)), oV 28 (.mv (ki 0))]) (.block 0 (.loop z0x))) (.seq (.reg [oV 2 (.mv (kb true))]) .ret)))
def zk8 : List RV := [.tmp [0] 2]
def ybz : List Nat := [0, 1, 2]
def zpw : IC := .seq (.reg [oV 1 (.box (.V 0)), oV 2 (.mv (ki 0))]) (.seq (.seq (.reg [oE 3 (.faddr 1 (.V 1)), oE 4 (.load false 1 (.E 3)), oE 5 (.len (.E 4)), oE 6 (.bin .eql (.E 5) (ki 0))]) (.cond (.E 6) (.seq (.reg [oV 2 (.mv (ki 0))]) .ret) .skip)) (.seq (.reg [oE 7 (.faddr 1 (.V 1)), oE 8 (.load false 1 (.E 7)), oE 9 (.iaddr 1 (.E 8) (ki 0)), oE 10 (.load false 1 (.E 9)), oE 11 (.len (.E 10)), vE 2 11]) .ret))
def zpx : List RV := [.tmp [0] 2]
def yb0 : List Nat := [0, 1, 4]
def zpy : IC := .seq (.reg [oV 4 (.mv (kb false))]) (.seq (.reg [mV 5 0, mV 6 1, oE 7 (.call zkf [([1], (.E 5)), ([0], (.E 6))]), oE 8 (.bin .geq (.E 7) (ki 0)), vE 4 8]) .ret)
def zpz : List RV := [.tmp [0] 4]
def yb1 : List Nat := [0, 2]
def zs0 : IC := .seq (.reg [oV 2 (.mv (kb false))]) (.seq (.reg [mV 3 0, oE 4 (.call zbx [([0], (.E 3)), ([0], (ki (-2199023255552))), ([0], (ki 2199023255552))]), oE 5 (.un .not (.E 4)), vE 2 5]) .ret)
def zs1 : List RV := [.tmp [0] 2]
def yb2 : List Nat := [0, 1, 2, 6]
def zs2 : IC := .seq (.reg [oV 6 (.mv (kb false))]) (.seq (.reg [mV 7 0, mV 8 1, oE 9 (.bin .geq (.E 7) (.E 8)), oE 10 (.mv (.E 9)), ⟨(some (.E 11)), .mv (.V 0), some ((.E 10), true)⟩, ⟨(some (.E 12)), .mv (.V 2), some ((.E 10), true)⟩, ⟨(some (.E 13)), .bin .leq (.E 11) (.E 12), some ((.E 10), true)⟩, oE 14 (.pick (.E 10) (.E 13) (kb false)), vE 6 14]) .ret)
def zs3 : List RV := [.tmp [0] 6]
def yb3 : List Nat := [0, 3, 11, 10, 4, 2]
def zxn : IC := .seq (.reg [oE 12 (.bin .lss (.V 11) (.V 10))]) (.seq (.cond (.E 12) .skip (.exit 0)) (.seq (.block 1 (.seq (.reg [mV 13 11, vE 4 13]) (.reg [mV 14 3, mV 15 4, oE 16 (.bslice 1 1 [iv 0] [(0, (.E 15))]), oE 17 (.app 8 1 (.E 14) (.E 16)), vE 3 17]))) (.reg [oE 18 (.bin .add (.V 11) (ki 1)), vE 11 18])))
def zs4 : IC := .seq (.reg [oV 2 (.mv (.C .e0))]) (.seq (.reg [oE 5 (.bslice 0 1 [iv 0] []), vE 3 5]) (.seq (.seq (.reg [mV 6 0, oE 7 (.call zbx [([0], (.E 6)), ([0], (ki 1)), ([0], (ki 40))]), oE 8 (.un .not (.E 7))]) (.cond (.E 8) (.seq (.reg [mV 9 3, vE 2 9]) .ret) .skip)) (.seq (.seq (.reg [oV 10 (.mv (.V 0)), oV 11 (.mv (ki 0))]) (.block 0 (.loop zxn))) (.seq (.reg [mV 19 3, vE 2 19]) .ret))))
def zs5 : List RV := [.tmp [1] 2]
def yb4 : List Nat := [0]
def zs6 : IC := .seq (.reg [oV 0 (.alloc [iv 0, iv 0])]) (.seq (.reg [oE 1 (.build [iv 0, iv 0] [(0, 1, (ki (-1099511627776))), (1, 1, (ki 1099511627776))]), oN (.store [0, 0] (.V 0) (.E 1))]) .ret)
def zs7 : List RV := [.cell [0, 0] 0 true]
def yb5 : List Nat := [0, 1, 2, 3, 5, 8, 6, 7]
def zp0 : IC := .seq (.reg [oV 3 (.box (.V 0)), oV 5 (.box (.V 2)), oV 6 (.mv (ki 0)), oV 7 (.mv (kb false))]) (.seq (.seq (.reg [oE 10 (.faddr 0 (.V 3)), oE 11 (.load false 1 (.E 10)), mV 12 1, oE 13 (.call zkg [([0], (.E 11)), ([0], (.E 12))]), oE 14 (.un .not (.E 13)), oE 15 (.mv (.E 14)), ⟨(some (.E 16)), .load true 2 (.V 5), some ((.E 15), false)⟩, ⟨(some (.E 17)), .call zkh [([0, 0], (.E 16))], some ((.E 15), false)⟩, ⟨(some (.E 18)), .un .not (.E 17), some ((.E 15), false)⟩, oE 19 (.pick (.E 15) (kb true) (.E 18))]) (.cond (.E 19) (.seq (.reg [oV 6 (.mv (ki 0)), oV 7 (.mv (kb false))]) .ret) .skip)) (.seq (.reg [oE 21 (.faddr 1 (.V 3)), oE 22 (.load false 1 (.E 21)), oE 23 (.faddr 0 (.V 3)), oE 24 (.load false 1 (.E 23)), mV 25 1, oE 26 (.bin .add (.E 24) (.E 25)), oE 27 (.call zni [([0], (.E 22)), ([0], (.E 26))]), oE 20 (.mv (.E 27)), xE 28 0 20, xE 29 1 20, vE 8 28, oE 9 (.mv (.E 29))]) (.seq (.reg [mV 30 8, oE 31 (.faddr 0 (.V 5)), oE 32 (.load false 1 (.E 31)), oE 33 (.faddr 1 (.V 5)), oE 34 (.load false 1 (.E 33)), oE 35 (.call zki [([0], (.E 30)), ([0], (.E 32)), ([0], (.E 34))]), vE 6 35, oV 7 (.mv (kb true))]) .ret)))
def zp1 : List RV := [.tmp [0] 6, .tmp [0] 7]
def yb6 : List Nat := [0, 1, 13, 12, 11, 5, 7, 4]
def zxo : IC := .seq (.reg [oE 14 (.bin .lss (.V 13) (.V 12))]) (.seq (.cond (.E 14) .skip (.exit 0)) (.seq (.block 1 (.seq (.reg [oE 15 (.iaddr 1 (.V 11) (.V 13)), oE 16 (.load false 1 (.E 15)), vE 7 16]) (.regD [(oE 17 (.faddr 1 (.V 5)), 0, 0), (oE 18 (.load false 1 (.E 17)), 0, 0), (mV 19 0, 0, 0), (mV 20 7, 0, 0), (oE 21 (.iaddr 1 (.E 19) (.E 20)), 0, 0), (oE 22 (.load false 1 (.E 21)), 0, 0), (oE 23 (.bin .add (.E 18) (.E 22)), 0, 0), (oE 24 (.faddr 1 (.V 5)), 0, 0), (oN (.store [0] (.E 24) (.E 23)), 0, 0)]))) (.reg [oE 25 (.bin .add (.V 13) (ki 1)), vE 13 25])))
def zs8 : IC := .seq (.reg [oV 4 (.alloc [iv 0, iv 0])]) (.seq (.reg [mV 8 1, oE 9 (.len (.E 8)), oE 10 (.build [iv 0, iv 0] [(0, 1, (.E 9))]), oV 5 (.alloc [iv 0, iv 0]), oN (.store [0, 0] (.V 5) (.E 10))]) (.seq (.seq (.reg [oV 11 (.mv (.V 1)), oV 12 (.len (.V 11)), oV 13 (.mv (ki 0))]) (.block 0 (.loop zxo))) (.seq (.reg [oE 26 (.load true 2 (.V 5)), oN (.store [0, 0] (.V 4) (.E 26))]) .ret)))
def zs9 : List RV := [.cell [0, 0] 4 true]
def yb7 : List Nat := [0, 1, 2, 3, 5, 10, 8, 9, 11, 12]
def zn6 : IC := .seq (.reg [oV 5 (.box (.V 1)), oV 8 (.alloc [iv 0, iv 0]), oV 9 (.alloc [iv 0, iv 0])]) (.seq (.regD [(mV 13 2, 0, 0), (mV 14 3, 0, 0), (oE 15 (.call znj [([0], (.E 13)), ([0], (.E 14))]), 0, 0), (oE 16 (.faddr 0 (.V 5)), 1, 0), (oE 17 (.load false 1 (.E 16)), 1, 0), (oE 18 (.faddr 1 (.V 5)), 1, 0), (oE 19 (.load false 1 (.E 18)), 1, 0), (oE 20 (.call zki [([0], (.E 15)), ([0], (.E 17)), ([0], (.E 19))]), 0, 0), (vE 10 20, 0, 0)]) (.seq (.regD [(oE 21 (.faddr 0 (.V 5)), 0, 1), (oE 22 (.load false 1 (.E 21)), 0, 1), (mV 23 10, 0, 0), (oE 24 (.build [iv 0, iv 0] [(0, 1, (.E 22)), (1, 1, (.E 23))]), 0, 0), (mV 25 10, 0, 0), (oE 26 (.faddr 1 (.V 5)), 0, 3), (oE 27 (.load false 1 (.E 26)), 0, 3), (oE 28 (.build [iv 0, iv 0] [(0, 1, (.E 25)), (1, 1, (.E 27))]), 0, 0), (oV 11 (.alloc [iv 0, iv 0]), 0, 0), (oV 12 (.allocL [iv 0, iv 0]), 0, 0), (oN (.store [0, 0] (.V 11) (.E 24)), 0, 0), (oN (.store [0, 0] (.V 12) (.E 28)), 0, 0)]) (.seq (.block 0 (.seq (.reg [oE 30 (.load true 2 (.V 5)), oE 31 (.call zkh [([0, 0], (.E 30))]), oE 32 (.un .not (.E 31)), oE 29 (.mv (.E 32))]) (.cond (.E 29) (.seq (.regD [(oE 33 (.load true 2 (.V 5)), 0, 0), (oE 34 (.load true 2 (.V 5)), 0, 1), (oN (.store [0, 0] (.V 8) (.E 33)), 0, 0), (oN (.store [0, 0] (.V 9) (.E 34)), 0, 0)]) .ret) (.seq (.reg [mV 36 0, oE 37 (.bin .eql (.E 36) (ki 1)), oE 35 (.mv (.E 37))]) (.cond (.E 35) (.seq (.regD [(oE 38 (.load true 2 (.V 11)), 0, 0), (oE 39 (.load true 2 (.V 12)), 0, 1), (oN (.store [0, 0] (.V 8) (.E 38)), 0, 0), (oN (.store [0, 0] (.V 9) (.E 39)), 0, 0)]) .ret) (.seq (.reg [mV 41 0, oE 42 (.bin .eql (.E 41) (ki (-1))), oE 40 (.mv (.E 42))]) (.cond (.E 40) (.seq (.regD [(oE 43 (.load true 2 (.V 12)), 0, 0), (oE 44 (.load true 2 (.V 11)), 0, 1), (oN (.store [0, 0] (.V 8) (.E 43)), 0, 0), (oN (.store [0, 0] (.V 9) (.E 44)), 0, 0)]) .ret) .skip))))))) (.seq (.regD [(oE 45 (.load true 2 (.V 5)), 0, 0), (oE 46 (.load true 2 (.V 5)), 0, 1), (oN (.store [0, 0] (.V 8) (.E 45)), 0, 0), (oN (.store [0, 0] (.V 9) (.E 46)), 0, 0)]) .ret))))
def zn7 : List RV := [.cell [0, 0] 8 true, .cell [0, 0] 9 true]
def yb8 : List Nat := [0, 1, 2, 16, 15, 14, 11, 8, 9, 6, 7]
def zp2 : IC := .seq (.reg [oE 17 (.bin .lss (.V 16) (.V 15))]) (.seq (.cond (.E 17) .skip (.exit 0)) (.seq (.block 1 (.seq (.reg [oE 18 (.iaddr 1 (.V 14) (.V 16)), oE 19 (.load false 1 (.E 18)), vE 11 19]) (.block 2 (.seq (.reg [mV 25 11, mV 26 0, oE 27 (.len (.E 26)), oE 28 (.bin .sub (.E 27) (ki 1)), oE 29 (.call zbx [([0], (.E 25)), ([0], (ki 0)), ([0], (.E 28))]), oE 30 (.un .not (.E 29)), oE 24 (.mv (.E 30))]) (.cond (.E 24) .skip (.seq (.reg [mV 32 0, mV 33 11, oE 34 (.iaddr 1 (.E 32) (.E 33)), oE 35 (.load false 1 (.E 34)), mV 36 2, oE 37 (.bin .leq (.E 35) (.E 36)), oE 31 (.mv (.E 37))]) (.cond (.E 31) (.reg [mV 38 8, mV 39 11, oE 40 (.bslice 1 1 [iv 0] [(0, (.E 39))]), oE 41 (.app 8 1 (.E 38) (.E 40)), vE 8 41]) (.reg [mV 20 9, mV 21 11, oE 22 (.bslice 1 1 [iv 0] [(0, (.E 21))]), oE 23 (.app 8 1 (.E 20) (.E 22)), vE 9 23])))))))) (.reg [oE 42 (.bin .add (.V 16) (ki 1)), vE 16 42])))
def zta : IC := .seq (.reg [oV 6 (.mv (.C .e0)), oV 7 (.mv (.C .e0))]) (.seq (.reg [oE 12 (.bslice 0 1 [iv 0] []), oE 13 (.bslice 0 1 [iv 0] []), vE 8 12, vE 9 13]) (.seq (.seq (.reg [oV 14 (.mv (.V 1)), oV 15 (.len (.V 14)), oV 16 (.mv (ki 0))]) (.block 0 (.loop zp2))) (.seq (.reg [mV 43 8, mV 44 9, vE 6 43, vE 7 44]) .ret)))
def ztb : List RV := [.tmp [1] 6, .tmp [1] 7]
def yb9 : List Nat := [0, 1, 2]
def ztc : IC := .seq (.reg [oV 1 (.box (.V 0)), oV 2 (.mv (kb false))]) (.seq (.reg [oE 3 (.faddr 0 (.V 1)), oE 4 (.load false 1 (.E 3)), oE 5 (.faddr 1 (.V 1)), oE 6 (.load false 1 (.E 5)), oE 7 (.bin .leq (.E 4) (.E 6)), oE 8 (.mv (.E 7)), ⟨(some (.E 9)), .faddr 0 (.V 1), some ((.E 8), true)⟩, ⟨(some (.E 10)), .load false 1 (.E 9), some ((.E 8), true)⟩, ⟨(some (.E 11)), .call zkj [([0], (.E 10))], some ((.E 8), true)⟩, oE 12 (.pick (.E 8) (.E 11) (kb false)), oE 13 (.mv (.E 12)), ⟨(some (.E 14)), .faddr 1 (.V 1), some ((.E 13), true)⟩, ⟨(some (.E 15)), .load false 1 (.E 14), some ((.E 13), true)⟩, ⟨(some (.E 16)), .call zkj [([0], (.E 15))], some ((.E 13), true)⟩, oE 17 (.pick (.E 13) (.E 16) (kb false)), vE 2 17]) .ret)
def ztd : List RV := [.tmp [0] 2]
def yca : List Nat := [0, 1, 6, 4, 5]
def zte : IC := .seq (.reg [oV 4 (.mv (ki 0)), oV 5 (.mv (kb false))]) (.seq (.seq (.reg [mV 7 1, oE 8 (.bin .eql (.E 7) (ki 0)), oE 9 (.mv (.E 8)), ⟨(some (.E 10)), .mv (.V 1), some ((.E 9), false)⟩, ⟨(some (.E 11)), .bin .eql (.E 10) (ki (-1)), some ((.E 9), false)⟩, ⟨(some (.E 12)), .mv (.E 11), some ((.E 9), false)⟩, ⟨(some (.E 13)), .mv (.V 0), some ((.E 12), true)⟩, ⟨(some (.E 14)), .bin .eql (.E 13) (ki (-9223372036854775808)), some ((.E 12), true)⟩, ⟨(some (.E 15)), .pick (.E 12) (.E 14) (kb false), some ((.E 9), false)⟩, oE 16 (.pick (.E 9) (kb true) (.E 15))]) (.cond (.E 16) (.seq (.reg [oV 4 (.mv (ki 0)), oV 5 (.mv (kb false))]) .ret) .skip)) (.seq (.reg [mV 17 0, mV 18 1, oE 19 (.bin .quo (.E 17) (.E 18)), vE 6 19]) (.seq (.seq (.reg [mV 20 0, mV 21 1, oE 22 (.bin .rem (.E 20) (.E 21)), oE 23 (.bin .neq (.E 22) (ki 0)), oE 24 (.mv (.E 23)), ⟨(some (.E 25)), .mv (.V 0), some ((.E 24), true)⟩, ⟨(some (.E 26)), .bin .lss (.E 25) (ki 0), some ((.E 24), true)⟩, ⟨(some (.E 27)), .mv (.V 1), some ((.E 24), true)⟩, ⟨(some (.E 28)), .bin .lss (.E 27) (ki 0), some ((.E 24), true)⟩, ⟨(some (.E 29)), .eqb true [.b] (.E 26) (.E 28), some ((.E 24), true)⟩, oE 30 (.pick (.E 24) (.E 29) (kb false))]) (.cond (.E 30) (.reg [mV 31 6, oE 32 (.bin .sub (.E 31) (ki 1)), vE 6 32]) .skip)) (.seq (.reg [mV 33 6, vE 4 33, oV 5 (.mv (kb true))]) .ret))))
def ztf : List RV := [.tmp [0] 4, .tmp [0] 5]
def ycb : List Nat := [0, 1, 2, 6]
def zp3 : IC := .seq (.reg [oV 6 (.mv (ki 0))]) (.seq (.seq (.reg [mV 7 0, mV 8 1, oE 9 (.bin .lss (.E 7) (.E 8))]) (.cond (.E 9) (.seq (.reg [mV 10 1, vE 6 10]) .ret) .skip)) (.seq (.seq (.reg [mV 11 0, mV 12 2, oE 13 (.bin .gtr (.E 11) (.E 12))]) (.cond (.E 13) (.seq (.reg [mV 14 2, vE 6 14]) .ret) .skip)) (.seq (.reg [mV 15 0, vE 6 15]) .ret)))
def zp4 : List RV := [.tmp [0] 6]
def ycc : List Nat := [0, 4, 3, 2]
def ztg : IC := .seq (.seq (.reg [mV 8 4, mV 9 0, oE 10 (.len (.E 9)), oE 11 (.bin .lss (.E 8) (.E 10)), oE 12 (.mv (.E 11)), ⟨(some (.E 13)), .mv (.V 4), some ((.E 12), true)⟩, ⟨(some (.E 14)), .bin .lss (.E 13) (ki 4000), some ((.E 12), true)⟩, oE 15 (.pick (.E 12) (.E 14) (kb false))]) (.cond (.E 15) .skip (.exit 0))) (.seq (.block 1 (.reg [mV 18 3, oE 19 (.bin .mul (.E 18) (ki 131)), mV 20 0, mV 21 4, oE 22 (.iaddr 1 (.E 20) (.E 21)), oE 23 (.load false 1 (.E 22)), oE 24 (.convI .i64 (.E 23)), oE 25 (.bin .add (.E 19) (.E 24)), oE 26 (.bin .add (.E 25) (ki 7)), oE 27 (.bin .and (.E 26) (ki 1073741823)), vE 3 27])) (.reg [mV 16 4, oE 17 (.bin .add (.E 16) (ki 1)), vE 4 17]))
def zth : IC := .seq (.reg [oV 2 (.mv (.C (.v (.pointer none))))]) (.seq (.reg [mV 5 0, oE 6 (.len (.E 5)), oE 7 (.bin .add (ki 28507) (.E 6)), vE 3 7]) (.seq (.seq (.reg [oV 4 (.mv (ki 0))]) (.block 0 (.loop ztg))) (.seq (.reg [mV 28 0, mV 29 3, oE 30 (.build [.e0, iv 0, iv 0] [(0, 1, (.E 28)), (2, 1, (.E 29))]), oE 31 (.box (.E 30)), vE 2 31]) .ret)))
def zti : List RV := [.tmp [0] 2]
def ycd : List Nat := [0, 2]
def ztj : IC := .seq (.reg [oV 2 (.alloc [.e0, .e0])]) (.seq (.reg [mV 3 0, oE 4 (.call znl [([0], (.E 3))]), mV 5 0, oE 6 (.call zbc [([0], (.E 5)), ([0], (ki 5))]), oE 7 (.bin .add (ki 2) (.E 6)), oE 8 (.call znk [([1, 0, 1, 1], (.E 4)), ([0], (.E 7))]), oN (.store [1, 1] (.V 2) (.E 8))]) .ret)
def ztk : List RV := [.cell [1, 1] 2 true]
def yce : List Nat := [0, 1, 5, 6, 7, 8, 4]
def zn8 : IC := .seq (.reg [oV 4 (.mv (ki 0))]) (.seq (.seq (.reg [mV 9 1, oE 10 (.bin .leq (.E 9) (ki 0))]) (.cond (.E 10) (.seq (.reg [oV 4 (.mv (ki 0))]) .ret) .skip)) (.seq (.seq (.reg [mV 11 1, oE 12 (.bin .leq (.E 11) (ki 256))]) (.cond (.E 12) (.seq (.reg [mV 13 0, oE 14 (.call zgm [([0], (.E 13))]), mV 15 1, oE 16 (.bin .rem (.E 14) (.E 15)), vE 4 16]) .ret) .skip)) (.seq (.reg [mV 17 0, oE 18 (.call zgm [([0], (.E 17))]), vE 5 18]) (.seq (.reg [mV 19 0, oE 20 (.call zgm [([0], (.E 19))]), vE 6 20]) (.seq (.reg [mV 21 0, oE 22 (.call zgm [([0], (.E 21))]), vE 7 22]) (.seq (.reg [mV 23 0, oE 24 (.call zgm [([0], (.E 23))]), vE 8 24]) (.seq (.reg [mV 25 5, oE 26 (.bin .mul (.E 25) (ki 16777216)), mV 27 6, oE 28 (.bin .mul (.E 27) (ki 65536)), oE 29 (.bin .add (.E 26) (.E 28)), mV 30 7, oE 31 (.bin .mul (.E 30) (ki 256)), oE 32 (.bin .add (.E 29) (.E 31)), mV 33 8, oE 34 (.bin .add (.E 32) (.E 33)), mV 35 1, oE 36 (.bin .rem (.E 34) (.E 35)), vE 4 36]) .ret)))))))
def zn9 : List RV := [.tmp [0] 4]
def ycf : List Nat := [0, 1, 7, 6, 5, 4]
def ztl : IC := .seq (.seq (.reg [mV 11 7, mV 12 1, oE 13 (.bin .lss (.E 11) (.E 12))]) (.cond (.E 13) .skip (.exit 0))) (.seq (.block 1 (.seq (.reg [mV 16 6]) (.cond (.E 16) (.reg [mV 17 5, mV 18 0, oE 19 (.call zm7 [([0], (.E 18))]), oE 20 (.bslice 1 1 [iv 0] [(0, (.E 19))]), oE 21 (.app 8 1 (.E 17) (.E 20)), vE 5 21]) (.reg [mV 22 5, mV 23 0, oE 24 (.call zbc [([0], (.E 23)), ([0], (ki 41))]), oE 25 (.bin .sub (.E 24) (ki 20)), oE 26 (.bin .mul (ki 100) (.E 25)), mV 27 0, oE 28 (.call zbc [([0], (.E 27)), ([0], (ki 3))]), oE 29 (.bin .add (.E 26) (.E 28)), oE 30 (.bslice 1 1 [iv 0] [(0, (.E 29))]), oE 31 (.app 8 1 (.E 22) (.E 30)), vE 5 31])))) (.reg [mV 14 7, oE 15 (.bin .add (.E 14) (ki 1)), vE 7 15]))
def ztm : IC := .seq (.reg [oV 4 (.mv (.C .e0))]) (.seq (.reg [oE 8 (.bslice 0 1 [iv 0] []), vE 5 8]) (.seq (.reg [mV 9 0, oE 10 (.call zdn [([0], (.E 9)), ([0], (ki 20))]), vE 6 10]) (.seq (.seq (.reg [oV 7 (.mv (ki 0))]) (.block 0 (.loop ztl))) (.seq (.reg [mV 32 5, vE 4 32]) .ret))))
def ztn : List RV := [.tmp [1] 4]
def ycg : List Nat := [0, 1, 4]
def zto : IC := .seq (.reg [oV 4 (.mv (ki 0))]) (.seq (.reg [mV 5 1, mV 6 0, mV 7 1, oE 8 (.len (.E 7)), oE 9 (.call zbc [([0], (.E 6)), ([0], (.E 8))]), oE 10 (.iaddr 1 (.E 5) (.E 9)), oE 11 (.load false 1 (.E 10)), vE 4 11]) .ret)
def ztp : List RV := [.tmp [0] 4]
def ych : List Nat := [0, 3, 5, 4, 2]
def zxp : IC := .seq (.seq (.reg [mV 40 5, mV 41 4, oE 42 (.bin .lss (.E 40) (.E 41))]) (.cond (.E 42) .skip (.exit 0))) (.seq (.block 1 (.regD [(oE 45 (.faddr 7 (.V 3)), 0, 2), (oE 46 (.load false 1 (.E 45)), 0, 2), (mV 47 0, 0, 0), (oE 48 (.call zbc [([0], (.E 47)), ([0], (ki 3))]), 0, 0), (oE 49 (.bin .sub (.E 48) (ki 1)), 0, 0), (oE 50 (.bslice 1 1 [iv 0] [(0, (.E 49))]), 0, 0), (oE 51 (.app 8 1 (.E 46) (.E 50)), 0, 0), (oE 52 (.faddr 7 (.V 3)), 0, 0), (oN (.store [1] (.E 52) (.E 51)), 0, 0)])) (.reg [mV 43 5, oE 44 (.bin .add (.E 43) (ki 1)), vE 5 44]))
def zk9 : IC := .seq (.reg [oV 2 (.alloc [iv 0, iv 0, iv 0, iv 0, iv 0, iv 0, iv 0, .e0])]) (.seq (.reg [mV 6 0, oE 7 (.call zbc [([0], (.E 6)), ([0], (ki 4))]), oE 8 (.bin .add (ki 1) (.E 7)), mV 9 0, oE 10 (.call zbc [([0], (.E 9)), ([0], (ki 4))]), mV 11 0, oE 12 (.call zbc [([0], (.E 11)), ([0], (ki 5))]), oE 13 (.bin .add (ki 2) (.E 12)), mV 14 0, oE 15 (.call zbc [([0], (.E 14)), ([0], (ki 3))]), oE 16 (.bin .add (ki 1) (.E 15)), mV 17 0, oE 18 (.call zbc [([0], (.E 17)), ([0], (ki 3))]), oE 19 (.bin .add (ki 1) (.E 18)), mV 20 0, oE 21 (.call zbc [([0], (.E 20)), ([0], (ki 3))]), oE 22 (.bin .add (ki 1) (.E 21)), oE 23 (.build [iv 0, iv 0, iv 0, iv 0, iv 0, iv 0, iv 0, .e0] [(0, 1, (.E 8)), (1, 1, (.E 10)), (2, 1, (.E 13)), (3, 1, (.E 16)), (4, 1, (.E 19)), (5, 1, (ki 1)), (6, 1, (.E 22))]), oV 3 (.alloc [iv 0, iv 0, iv 0, iv 0, iv 0, iv 0, iv 0, .e0]), oN (.store [0, 0, 0, 0, 0, 0, 0, 1] (.V 3) (.E 23))]) (.seq (.seq (.reg [mV 24 0, oE 25 (.call zdn [([0], (.E 24)), ([0], (ki 8))])]) (.cond (.E 25) (.reg [mV 26 0, oE 27 (.call zbc [([0], (.E 26)), ([0], (ki 100))]), oE 28 (.bin .add (ki 1) (.E 27)), oE 29 (.faddr 3 (.V 3)), oN (.store [0] (.E 29) (.E 28))]) .skip)) (.seq (.seq (.reg [mV 30 0, oE 31 (.call zdn [([0], (.E 30)), ([0], (ki 4))])]) (.cond (.E 31) (.reg [mV 32 0, oE 33 (.faddr 6 (.V 3)), oE 34 (.load false 1 (.E 33)), oE 35 (.call zbc [([0], (.E 32)), ([0], (.E 34))]), oE 36 (.bin .add (ki 1) (.E 35)), oE 37 (.faddr 5 (.V 3)), oN (.store [0] (.E 37) (.E 36))]) .skip)) (.seq (.reg [mV 38 0, oE 39 (.call zbc [([0], (.E 38)), ([0], (ki 5))]), vE 4 39]) (.seq (.seq (.reg [oV 5 (.mv (ki 0))]) (.block 0 (.loop zxp))) (.seq (.reg [oE 53 (.load true 8 (.V 3)), oN (.store [0, 0, 0, 0, 0, 0, 0, 1] (.V 2) (.E 53))]) .ret))))))
def zla : List RV := [.cell [0, 0, 0, 0, 0, 0, 0, 1] 2 true]
def yci : List Nat := [0, 7, 3, 2]
def zfy : IC := .seq (.reg [oV 2 (.alloc [iv 0, iv 0, iv 0, iv 0, iv 0, iv 0, iv 0, .e0])]) (.seq (.reg [mV 4 0, oE 5 (.call zka [([0], (.E 4))]), oV 3 (.alloc [iv 0, iv 0, iv 0, iv 0, iv 0, iv 0, iv 0, .e0]), oN (.store [0, 0, 0, 0, 0, 0, 0, 1] (.V 3) (.E 5))]) (.seq (.seq (.reg [mV 6 0, oV 7 (.call zbc [([0], (.E 6)), ([0], (ki 12))])]) (.block 0 (.seq (.reg [oE 9 (.bin .eql (.V 7) (ki 0)), oE 8 (.mv (.E 9))]) (.cond (.E 8) (.reg [mV 10 0, oE 11 (.bslice 5 1 [iv 0] [(0, (ki 0)), (1, (ki 1)), (2, (ki 8)), (3, (ki 9)), (4, (ki (-1)))]), oE 12 (.call zd3 [([0], (.E 10)), ([1], (.E 11))]), oE 13 (.faddr 0 (.V 3)), oN (.store [0] (.E 13) (.E 12))]) (.seq (.reg [oE 15 (.bin .eql (.V 7) (ki 1)), oE 14 (.mv (.E 15))]) (.cond (.E 14) (.reg [mV 16 0, oE 17 (.bslice 4 1 [iv 0] [(0, (ki (-1))), (1, (ki 0)), (2, (ki 4)), (3, (ki 5))]), oE 18 (.call zd3 [([0], (.E 16)), ([1], (.E 17))]), oE 19 (.faddr 1 (.V 3)), oN (.store [0] (.E 19) (.E 18))]) (.seq (.reg [oE 21 (.bin .eql (.V 7) (ki 2)), oE 20 (.mv (.E 21))]) (.cond (.E 20) (.reg [mV 22 0, oE 23 (.bslice 4 1 [iv 0] [(0, (ki 1)), (1, (ki 2)), (2, (ki 8)), (3, (ki 9))]), oE 24 (.call zd3 [([0], (.E 22)), ([1], (.E 23))]), oE 25 (.faddr 2 (.V 3)), oN (.store [0] (.E 25) (.E 24))]) (.seq (.reg [oE 27 (.bin .eql (.V 7) (ki 3)), oE 26 (.mv (.E 27))]) (.cond (.E 26) (.reg [mV 28 0, oE 29 (.bslice 5 1 [iv 0] [(0, (ki 0)), (1, (ki 1)), (2, (ki 100)), (3, (ki 101)), (4, (ki 9223372036854775807))]), oE 30 (.call zd3 [([0], (.E 28)), ([1], (.E 29))]), oE 31 (.faddr 3 (.V 3)), oN (.store [0] (.E 31) (.E 30))]) (.seq (.reg [oE 33 (.bin .eql (.V 7) (ki 4)), oE 32 (.mv (.E 33))]) (.cond (.E 32) (.reg [mV 34 0, oE 35 (.bslice 4 1 [iv 0] [(0, (ki 0)), (1, (ki 1)), (2, (ki 20)), (3, (ki 21))]), oE 36 (.call zd3 [([0], (.E 34)), ([1], (.E 35))]), oE 37 (.faddr 4 (.V 3)), oN (.store [0] (.E 37) (.E 36))]) (.seq (.reg [oE 39 (.bin .eql (.V 7) (ki 5)), oE 38 (.mv (.E 39))]) (.cond (.E 38) (.reg [mV 40 0, oE 41 (.faddr 6 (.V 3)), oE 42 (.load false 1 (.E 41)), oE 43 (.faddr 6 (.V 3)), oE 44 (.load false 1 (.E 43)), oE 45 (.bin .add (.E 44) (ki 1)), oE 46 (.bslice 5 1 [iv 0] [(0, (ki 0)), (1, (ki 1)), (2, (.E 42)), (3, (.E 45)), (4, (ki (-1)))]), oE 47 (.call zd3 [([0], (.E 40)), ([1], (.E 46))]), oE 48 (.faddr 5 (.V 3)), oN (.store [0] (.E 48) (.E 47))]) (.seq (.reg [oE 50 (.bin .eql (.V 7) (ki 6)), oE 49 (.mv (.E 50))]) (.cond (.E 49) (.reg [mV 51 0, oE 52 (.bslice 5 1 [iv 0] [(0, (ki 0)), (1, (ki 1)), (2, (ki 1000)), (3, (ki 1001)), (4, (ki 9223372036854775807))]), oE 53 (.call zd3 [([0], (.E 51)), ([1], (.E 52))]), oE 54 (.faddr 6 (.V 3)), oN (.store [0] (.E 54) (.E 53))]) (.seq (.reg [oE 56 (.bin .eql (.V 7) (ki 7)), oE 55 (.mv (.E 56))]) (.cond (.E 55) (.regD [(oE 57 (.faddr 7 (.V 3)), 0, 2), (oE 58 (.load false 1 (.E 57)), 0, 2), (mV 59 0, 0, 0), (oE 60 (.call zbc [([0], (.E 59)), ([0], (ki 5))]), 0, 0), (oE 61 (.bin .sub (.E 60) (ki 2)), 0, 0), (oE 62 (.bslice 1 1 [iv 0] [(0, (.E 61))]), 0, 0), (oE 63 (.app 8 1 (.E 58) (.E 62)), 0, 0), (oE 64 (.faddr 7 (.V 3)), 0, 0), (oN (.store [1] (.E 64) (.E 63)), 0, 0)]) .skip)))))))))))))))))) (.seq (.reg [oE 65 (.load true 8 (.V 3)), oN (.store [0, 0, 0, 0, 0, 0, 0, 1] (.V 2) (.E 65))]) .ret)))
def zfz : List RV := [.cell [0, 0, 0, 0, 0, 0, 0, 1] 2 true]
def ycj : List Nat := [0, 3, 13, 4, 2]
def zgo : IC := .seq (.reg [oV 2 (.alloc [.e0, .e0])]) (.seq (.reg [mV 5 0, oE 6 (.call zj9 [([0], (.E 5))]), oV 3 (.alloc [.e0, .e0]), oN (.store [1, 1] (.V 3) (.E 6))]) (.seq (.reg [mV 7 0, oE 8 (.faddr 0 (.V 3)), oE 9 (.load false 1 (.E 8)), oE 10 (.len (.E 9)), oE 11 (.call zbc [([0], (.E 7)), ([0], (.E 10))]), vE 4 11]) (.seq (.seq (.reg [mV 12 0, oV 13 (.call zbc [([0], (.E 12)), ([0], (ki 14))])]) (.block 0 (.seq (.reg [oE 15 (.bin .eql (.V 13) (ki 0)), oE 14 (.mv (.E 15))]) (.cond (.E 14) (.regD [(oE 16 (.faddr 0 (.V 3)), 0, 3), (oE 17 (.load false 1 (.E 16)), 0, 3), (mV 18 4, 0, 0), (oE 19 (.faddr 0 (.V 3)), 0, 2), (oE 20 (.load false 1 (.E 19)), 0, 2), (mV 21 4, 0, 0), (oE 22 (.iaddr 1 (.E 20) (.E 21)), 0, 2), (oE 23 (.load false 1 (.E 22)), 0, 2), (mV 24 0, 0, 0), (oE 25 (.call zja [([0], (.E 24))]), 0, 0), (oE 26 (.bslice 1 1 [iv 0] [(0, (.E 25))]), 0, 0), (oE 27 (.app 8 1 (.E 23) (.E 26)), 0, 0), (oE 28 (.iaddr 1 (.E 17) (.E 18)), 0, 0), (oN (.store [1] (.E 28) (.E 27)), 0, 0)]) (.seq (.reg [oE 30 (.bin .eql (.V 13) (ki 1)), oE 29 (.mv (.E 30))]) (.cond (.E 29) (.regD [(oE 31 (.faddr 1 (.V 3)), 0, 2), (oE 32 (.load false 1 (.E 31)), 0, 2), (mV 33 4, 0, 0), (oE 34 (.iaddr 1 (.E 32) (.E 33)), 0, 2), (oE 35 (.load false 1 (.E 34)), 0, 2), (mV 36 0, 0, 0), (oE 37 (.bslice 5 1 [iv 0] [(0, (ki 0)), (1, (ki 1)), (2, (ki (-1))), (3, (ki 8)), (4, (ki 9223372036854775807))]), 0, 0), (oE 38 (.call zd3 [([0], (.E 36)), ([1], (.E 37))]), 0, 0), (oE 39 (.iaddr 1 (.E 35) (ki 0)), 0, 0), (oN (.store [0] (.E 39) (.E 38)), 0, 0)]) (.seq (.reg [oE 41 (.bin .eql (.V 13) (ki 2)), oE 40 (.mv (.E 41))]) (.cond (.E 40) (.regD [(oE 42 (.faddr 1 (.V 3)), 0, 2), (oE 43 (.load false 1 (.E 42)), 0, 2), (mV 44 4, 0, 0), (oE 45 (.faddr 1 (.V 3)), 0, 1), (oE 46 (.load false 1 (.E 45)), 0, 1), (mV 47 4, 0, 0), (oE 48 (.iaddr 1 (.E 46) (.E 47)), 0, 1), (oE 49 (.load false 1 (.E 48)), 0, 1), (oE 50 (.bslice 1 1 [iv 0] [(0, (ki 0))]), 0, 0), (oE 51 (.app 8 1 (.E 49) (.E 50)), 0, 0), (oE 52 (.iaddr 1 (.E 43) (.E 44)), 0, 0), (oN (.store [1] (.E 52) (.E 51)), 0, 0)]) (.seq (.reg [oE 54 (.bin .eql (.V 13) (ki 3)), oE 53 (.mv (.E 54))]) (.cond (.E 53) (.reg [oE 55 (.faddr 1 (.V 3)), oE 56 (.load false 1 (.E 55)), oE 57 (.bslice 1 1 [iv 0] [(0, (ki 0))]), oE 58 (.bslice 1 1 [(.own 1 [])] [(0, (.E 57))]), oE 59 (.app 24 1 (.E 56) (.E 58)), oE 60 (.faddr 1 (.V 3)), oN (.store [1] (.E 60) (.E 59))]) (.seq (.reg [oE 62 (.bin .eql (.V 13) (ki 4)), oE 61 (.mv (.E 62))]) (.cond (.E 61) (.reg [oE 63 (.faddr 0 (.V 3)), oE 64 (.load false 1 (.E 63)), oE 65 (.bslice 0 1 [iv 0] []), oE 66 (.bslice 1 1 [(.own 1 [])] [(0, (.E 65))]), oE 67 (.app 24 1 (.E 64) (.E 66)), oE 68 (.faddr 0 (.V 3)), oN (.store [1] (.E 68) (.E 67))]) (.seq (.reg [oE 70 (.bin .eql (.V 13) (ki 5)), oE 69 (.mv (.E 70))]) (.cond (.E 69) (.reg [oE 71 (.bslice 0 1 [(.own 1 [])] []), oE 72 (.faddr 1 (.V 3)), oN (.store [1] (.E 72) (.E 71))]) (.seq (.reg [oE 74 (.bin .eql (.V 13) (ki 6)), oE 73 (.mv (.E 74))]) (.cond (.E 73) (.regD [(oE 75 (.faddr 0 (.V 3)), 0, 1), (oE 76 (.load false 1 (.E 75)), 0, 1), (mV 77 4, 0, 0), (oE 78 (.faddr 0 (.V 3)), 0, 1), (oE 79 (.load false 1 (.E 78)), 0, 1), (mV 80 4, 0, 0), (oE 81 (.iaddr 1 (.E 79) (.E 80)), 0, 1), (oE 82 (.load false 1 (.E 81)), 0, 1), (mV 83 0, 0, 0), (oE 84 (.faddr 0 (.V 3)), 0, 0), (oE 85 (.load false 1 (.E 84)), 0, 0), (mV 86 4, 0, 0), (oE 87 (.iaddr 1 (.E 85) (.E 86)), 0, 0), (oE 88 (.load false 1 (.E 87)), 0, 0), (oE 89 (.len (.E 88)), 0, 0), (oE 90 (.bin .add (.E 89) (ki 1)), 0, 0), (oE 91 (.call zbc [([0], (.E 83)), ([0], (.E 90))]), 0, 0), (oE 92 (.slice 1 (.E 82) none (some (.E 91)) none), 0, 0), (oE 93 (.iaddr 1 (.E 76) (.E 77)), 0, 0), (oN (.store [1] (.E 93) (.E 92)), 0, 0)]) .skip)))))))))))))))) (.seq (.reg [oE 94 (.load true 2 (.V 3)), oN (.store [1, 1] (.V 2) (.E 94))]) .ret))))
def zgp : List RV := [.cell [1, 1] 2 true]
def yck : List Nat := [0, 6, 4, 3, 2]
def z0y : IC := .seq (.seq (.reg [mV 14 4, oE 15 (.bin .lss (.E 14) (ki 8))]) (.cond (.E 15) .skip (.exit 1))) (.seq (.block 2 (.reg [mV 18 3, oE 19 (.bin .mul (.E 18) (ki 256)), mV 20 0, oE 21 (.call zgm [([0], (.E 20))]), oE 22 (.bin .add (.E 19) (.E 21)), vE 3 22])) (.reg [mV 16 4, oE 17 (.bin .add (.E 16) (ki 1)), vE 4 17]))
def zlb : IC := .seq (.reg [oV 2 (.mv (ki 0))]) (.seq (.seq (.reg [mV 5 0, oV 6 (.call zbc [([0], (.E 5)), ([0], (ki 4))])]) (.block 0 (.seq (.reg [oE 8 (.bin .eql (.V 6) (ki 0)), oE 7 (.mv (.E 8))]) (.cond (.E 7) (.seq (.reg [mV 9 0, oE 10 (.bslice 14 1 [iv 0] [(0, (ki 0)), (1, (ki 1)), (2, (ki (-1))), (3, (ki 9)), (4, (ki 10)), (5, (ki 999)), (6, (ki 1000)), (7, (ki 2147483647)), (8, (ki (-2147483648))), (9, (ki 3037000499)), (10, (ki 3037000500)), (11, (ki 9223372036854775807)), (12, (ki (-9223372036854775807))), (13, (ki (-9223372036854775808)))]), oE 11 (.call zd3 [([0], (.E 9)), ([1], (.E 10))]), vE 2 11]) .ret) (.seq (.reg [oE 13 (.bin .eql (.V 6) (ki 1)), oE 12 (.mv (.E 13))]) (.cond (.E 12) (.seq (.reg [oV 3 (.mv (ki 0))]) (.seq (.seq (.reg [oV 4 (.mv (ki 0))]) (.block 1 (.loop z0y))) (.seq (.reg [mV 23 3, vE 2 23]) .ret))) (.seq (.reg [oE 25 (.bin .eql (.V 6) (ki 2)), oE 24 (.mv (.E 25))]) (.cond (.E 24) (.seq (.reg [mV 26 0, oE 27 (.call zbc [([0], (.E 26)), ([0], (ki 1000000))]), oE 28 (.bin .sub (.E 27) (ki 500000)), vE 2 28]) .ret) .skip)))))))) (.seq (.reg [mV 29 0, oE 30 (.call zbc [([0], (.E 29)), ([0], (ki 41))]), oE 31 (.bin .sub (.E 30) (ki 20)), vE 2 31]) .ret))
def zlc : List RV := [.tmp [0] 2]
def ycl : List Nat := [0, 1, 2, 3, 22, 21, 20, 12, 10, 14, 13, 8, 9]
def zld : IC := .seq (.reg [oE 23 (.bin .lss (.V 22) (.V 21))]) (.seq (.cond (.E 23) .skip (.exit 0)) (.seq (.block 1 (.seq (.reg [oE 24 (.iaddr 1 (.V 20) (.V 22)), oE 25 (.load false 1 (.E 24)), vE 12 25]) (.seq (.seq (.reg [mV 26 12, mV 27 0, oE 28 (.len (.E 27)), mV 29 1, oE 30 (.len (.E 29)), oE 31 (.mx false (.E 28) (.E 30)), oE 32 (.bin .sub (.E 31) (ki 1)), oE 33 (.call zbx [([0], (.E 26)), ([0], (ki 0)), ([0], (.E 32))]), oE 34 (.un .not (.E 33)), oE 35 (.mv (.E 34)), ⟨(some (.E 36)), .mv (.V 0), some ((.E 35), false)⟩, ⟨(some (.E 37)), .mv (.V 12), some ((.E 35), false)⟩, ⟨(some (.E 38)), .iaddr 1 (.E 36) (.E 37), some ((.E 35), false)⟩, ⟨(some (.E 39)), .load false 1 (.E 38), some ((.E 35), false)⟩, ⟨(some (.E 40)), .mv (.V 3), some ((.E 35), false)⟩, ⟨(some (.E 41)), .bin .sub (.E 40) (ki 1), some ((.E 35), false)⟩, ⟨(some (.E 42)), .call zbx [([0], (.E 39)), ([0], (ki 0)), ([0], (.E 41))], some ((.E 35), false)⟩, ⟨(some (.E 43)), .un .not (.E 42), some ((.E 35), false)⟩, oE 44 (.pick (.E 35) (kb true) (.E 43))]) (.cond (.E 44) (.seq (.reg [oV 8 (.mv (.C .e0)), oV 9 (.mv (kb false))]) .ret) .skip)) (.seq (.regD [(mV 46 10, 0, 0), (mV 47 0, 0, 0), (mV 48 12, 0, 0), (oE 49 (.iaddr 1 (.E 47) (.E 48)), 0, 0), (oE 50 (.load false 1 (.E 49)), 0, 0), (oE 51 (.iaddr 2 (.E 46) (.E 50)), 0, 0), (oE 52 (.load true 2 (.E 51)), 0, 0), (mV 53 1, 0, 0), (mV 54 12, 0, 0), (oE 55 (.iaddr 1 (.E 53) (.E 54)), 0, 0), (oE 56 (.load false 1 (.E 55)), 0, 0), (oE 57 (.build [iv 0, iv 0] [(0, 1, (ki 1)), (1, 1, (.E 56))]), 0, 0), (oE 58 (.call zjb [([0, 0], (.E 52)), ([0, 0], (.E 57))]), 0, 0), (oE 45 (.mv (.E 58)), 0, 0), (xE 59 0 45, 0, 0), (xE 60 1 45, 0, 0), (oV 13 (.allocL [iv 0, iv 0]), 0, 0), (oN (.store [0, 0] (.V 13) (.E 59)), 0, 0), (vE 14 60, 0, 0)]) (.seq (.seq (.reg [mV 61 14, oE 62 (.un .not (.E 61))]) (.cond (.E 62) (.seq (.reg [oV 8 (.mv (.C .e0)), oV 9 (.mv (kb false))]) .ret) .skip)) (.regD [(mV 63 10, 0, 0), (mV 64 0, 0, 0), (mV 65 12, 0, 0), (oE 66 (.iaddr 1 (.E 64) (.E 65)), 0, 0), (oE 67 (.load false 1 (.E 66)), 0, 0), (oE 68 (.load true 2 (.V 13)), 0, 0), (oE 69 (.iaddr 2 (.E 63) (.E 67)), 0, 0), (oN (.store [0, 0] (.E 69) (.E 68)), 0, 0)])))))) (.reg [oE 70 (.bin .add (.V 22) (ki 1)), vE 22 70])))
def zp5 : IC := .seq (.reg [oV 8 (.mv (.C .e0)), oV 9 (.mv (kb false))]) (.seq (.seq (.reg [mV 15 3, oE 16 (.call zbx [([0], (.E 15)), ([0], (ki 1)), ([0], (ki 8))]), oE 17 (.un .not (.E 16))]) (.cond (.E 17) (.seq (.reg [oV 8 (.mv (.C .e0)), oV 9 (.mv (kb false))]) .ret) .skip)) (.seq (.reg [mV 18 3, oE 19 (.mksl 16 2 [iv 0, iv 0] (.E 18) (.E 18)), vE 10 19]) (.seq (.seq (.reg [oV 20 (.mv (.V 2)), oV 21 (.len (.V 20)), oV 22 (.mv (ki 0))]) (.block 0 (.loop zld))) (.seq (.reg [mV 71 10, vE 8 71, oV 9 (.mv (kb true))]) .ret))))
def zp6 : List RV := [.tmp [2] 8, .tmp [0] 9]
def ycm : List Nat := [0, 1, 2, 3, 4, 7, 9, 8, 10, 12, 11, 6]
def ztq : IC := .seq (.reg [oV 3 (.box (.V 0)), oV 4 (.box (.V 1)), oV 6 (.mv (kb false))]) (.seq (.reg [oE 14 (.load true 6 (.V 3)), mV 15 2, oE 16 (.call zi8 [([0, 0, 0, 0, 0, 0], (.E 14)), ([0], (.E 15))]), oE 13 (.mv (.E 16)), xE 17 0 13, xE 18 1 13, oV 7 (.alloc [(.v (.bool false)), (.v (.int .u64 0)), (.v (.int .u64 0)), iv 0]), oN (.store [0, 0, 0, 0] (.V 7) (.E 17)), vE 8 18]) (.seq (.reg [oE 20 (.load true 6 (.V 4)), mV 21 2, oE 22 (.call zi8 [([0, 0, 0, 0, 0, 0], (.E 20)), ([0], (.E 21))]), oE 19 (.mv (.E 22)), xE 23 0 19, xE 24 1 19, oV 9 (.alloc [(.v (.bool false)), (.v (.int .u64 0)), (.v (.int .u64 0)), iv 0]), oN (.store [0, 0, 0, 0] (.V 9) (.E 23)), vE 10 24]) (.seq (.reg [oE 26 (.load true 4 (.V 7)), oE 27 (.load true 4 (.V 9)), oE 28 (.call zkd [([0, 0, 0, 0], (.E 26)), ([0, 0, 0, 0], (.E 27))]), oE 25 (.mv (.E 28)), xE 29 0 25, xE 30 1 25, vE 11 29, vE 12 30]) (.seq (.reg [mV 31 8, oE 32 (.mv (.E 31)), ⟨(some (.E 33)), .mv (.V 10), some ((.E 32), true)⟩, oE 34 (.pick (.E 32) (.E 33) (kb false)), oE 35 (.mv (.E 34)), ⟨(some (.E 36)), .mv (.V 12), some ((.E 35), true)⟩, oE 37 (.pick (.E 35) (.E 36) (kb false)), oE 38 (.mv (.E 37)), ⟨(some (.E 39)), .mv (.V 11), some ((.E 38), true)⟩, ⟨(some (.E 40)), .bin .gtr (.E 39) (ki 0), some ((.E 38), true)⟩, ⟨(some (.E 41)), .mv (.E 40), some ((.E 38), true)⟩, ⟨(some (.E 42)), .mv (.V 11), some ((.E 41), false)⟩, ⟨(some (.E 43)), .bin .eql (.E 42) (ki 0), some ((.E 41), false)⟩, ⟨(some (.E 44)), .mv (.E 43), some ((.E 41), false)⟩, ⟨(some (.E 45)), .load true 6 (.V 3), some ((.E 44), true)⟩, ⟨(some (.E 46)), .load true 6 (.V 4), some ((.E 44), true)⟩, ⟨(some (.E 47)), .call znm [([0, 0, 0, 0, 0, 0], (.E 45)), ([0, 0, 0, 0, 0, 0], (.E 46))], some ((.E 44), true)⟩, ⟨(some (.E 48)), .pick (.E 44) (.E 47) (kb false), some ((.E 41), false)⟩, ⟨(some (.E 49)), .pick (.E 41) (kb true) (.E 48), some ((.E 38), true)⟩, oE 50 (.pick (.E 38) (.E 49) (kb false)), vE 6 50]) .ret))))
def ztr : List RV := [.tmp [0] 6]
def ycn : List Nat := [0, 14, 13, 12, 5, 7, 9, 8, 4, 2, 3]
def zts : IC := .seq (.reg [oE 15 (.bin .lss (.V 14) (.V 13))]) (.seq (.cond (.E 15) .skip (.exit 0)) (.seq (.block 1 (.seq (.reg [oE 16 (.iaddr 2 (.V 12) (.V 14)), oE 17 (.load true 2 (.E 16)), oV 7 (.alloc [iv 0, iv 0]), oN (.store [0, 0] (.V 7) (.E 17))]) (.seq (.reg [oE 19 (.load true 2 (.V 5)), oE 20 (.load true 2 (.V 7)), oE 21 (.call zjb [([0, 0], (.E 19)), ([0, 0], (.E 20))]), oE 18 (.mv (.E 21)), xE 22 0 18, xE 23 1 18, oV 8 (.alloc [iv 0, iv 0]), oN (.store [0, 0] (.V 8) (.E 22)), vE 9 23]) (.seq (.seq (.reg [mV 24 9, oE 25 (.un .not (.E 24))]) (.cond (.E 25) (.seq (.reg [oV 2 (.mv (.C .e0)), oV 3 (.mv (kb false))]) .ret) .skip)) (.regD [(oE 26 (.load true 2 (.V 8)), 0, 2), (mV 27 4, 0, 0), (oE 28 (.load true 2 (.V 8)), 0, 0), (oE 29 (.bslice 1 2 [iv 0, iv 0] [(0, (.E 28))]), 0, 0), (oE 30 (.app 16 2 (.E 27) (.E 29)), 0, 0), (oN (.store [0, 0] (.V 5) (.E 26)), 0, 0), (vE 4 30, 0, 0)]))))) (.reg [oE 31 (.bin .add (.V 14) (ki 1)), vE 14 31])))
def ztt : IC := .seq (.reg [oV 2 (.mv (.C .e0)), oV 3 (.mv (kb false))]) (.seq (.reg [oE 10 (.bslice 0 2 [iv 0, iv 0] []), oE 11 (.build [iv 0, iv 0] []), oV 5 (.alloc [iv 0, iv 0]), vE 4 10, oN (.store [0, 0] (.V 5) (.E 11))]) (.seq (.seq (.reg [oV 12 (.mv (.V 0)), oV 13 (.len (.V 12)), oV 14 (.mv (ki 0))]) (.block 0 (.loop zts))) (.seq (.reg [mV 32 4, vE 2 32, oV 3 (.mv (kb true))]) .ret)))
def ztu : List RV := [.tmp [2] 2, .tmp [0] 3]
def yco : List Nat := [0, 1, 2, 3, 7, 9, 4, 6, 8, 5]
def ztv : IC := .seq (.reg [oV 2 (.box (.V 0)), oV 3 (.box (.V 1)), oV 4 (.alloc [iv 0, iv 0]), oV 5 (.mv (kb false))]) (.seq (.reg [oE 11 (.faddr 0 (.V 2)), oE 12 (.load false 1 (.E 11)), oE 13 (.faddr 0 (.V 3)), oE 14 (.load false 1 (.E 13)), oE 15 (.call zkk [([0], (.E 12)), ([0], (.E 14))]), oE 10 (.mv (.E 15)), xE 16 0 10, xE 17 1 10, vE 6 16, vE 7 17]) (.seq (.reg [oE 19 (.faddr 1 (.V 2)), oE 20 (.load false 1 (.E 19)), oE 21 (.faddr 1 (.V 3)), oE 22 (.load false 1 (.E 21)), oE 23 (.call zkk [([0], (.E 20)), ([0], (.E 22))]), oE 18 (.mv (.E 23)), xE 24 0 18, xE 25 1 18, vE 8 24, vE 9 25]) (.seq (.seq (.reg [mV 26 7, oE 27 (.un .not (.E 26)), oE 28 (.mv (.E 27)), ⟨(some (.E 29)), .mv (.V 9), some ((.E 28), false)⟩, ⟨(some (.E 30)), .un .not (.E 29), some ((.E 28), false)⟩, oE 31 (.pick (.E 28) (kb true) (.E 30))]) (.cond (.E 31) (.seq (.reg [oE 32 (.build [iv 0, iv 0] []), oN (.store [0, 0] (.V 4) (.E 32)), oV 5 (.mv (kb false))]) .ret) .skip)) (.seq (.reg [mV 33 6, mV 34 8, oE 35 (.build [iv 0, iv 0] [(0, 1, (.E 33)), (1, 1, (.E 34))]), oN (.store [0, 0] (.V 4) (.E 35)), oV 5 (.mv (kb true))]) .ret))))
def ztw : List RV := [.cell [0, 0] 4 true, .tmp [0] 5]
def ycp : List Nat := [0, 2]
def ztx : IC := .seq (.reg [oV 2 (.mv (kb false))]) (.seq (.reg [mV 3 0, oE 4 (.call znb [([0], (.E 3))]), oE 5 (.un .not (.E 4)), vE 2 5]) .ret)
def zty : List RV := [.tmp [0] 2]
def ycq : List Nat := [0, 2]
def ztz : IC := .seq (.reg [oV 2 (.mv (kb false))]) (.seq (.reg [mV 3 0, oE 4 (.call zbx [([0], (.E 3)), ([0], (ki (-1))), ([0], (ki 1))]), vE 2 4]) .ret)
def zt0 : List RV := [.tmp [0] 2]
def ycr : List Nat := [0, 1, 2, 7, 9, 4, 6, 8, 5]
def zt1 : IC := .seq (.reg [oV 2 (.box (.V 0)), oV 4 (.alloc [(.v (.bool false)), (.v (.int .u64 0)), (.v (.int .u64 0)), iv 0]), oV 5 (.mv (kb false))]) (.seq (.reg [oE 11 (.faddr 2 (.V 2)), oE 12 (.load true 2 (.E 11)), mV 13 1, oE 14 (.call zi9 [([0, 0], (.E 12)), ([0], (.E 13))]), oE 10 (.mv (.E 14)), xE 15 0 10, xE 16 1 10, oV 6 (.alloc [(.v (.bool false)), (.v (.int .u64 0)), (.v (.int .u64 0)), iv 0]), oN (.store [0, 0, 0, 0] (.V 6) (.E 15)), vE 7 16]) (.seq (.reg [oE 18 (.faddr 4 (.V 2)), oE 19 (.load true 2 (.E 18)), mV 20 1, oE 21 (.call zi9 [([0, 0], (.E 19)), ([0], (.E 20))]), oE 17 (.mv (.E 21)), xE 22 0 17, xE 23 1 17, oV 8 (.alloc [(.v (.bool false)), (.v (.int .u64 0)), (.v (.int .u64 0)), iv 0]), oN (.store [0, 0, 0, 0] (.V 8) (.E 22)), vE 9 23]) (.seq (.seq (.reg [mV 24 7, oE 25 (.un .not (.E 24)), oE 26 (.mv (.E 25)), ⟨(some (.E 27)), .mv (.V 9), some ((.E 26), false)⟩, ⟨(some (.E 28)), .un .not (.E 27), some ((.E 26), false)⟩, oE 29 (.pick (.E 26) (kb true) (.E 28))]) (.cond (.E 29) (.seq (.reg [oE 30 (.build [(.v (.bool false)), (.v (.int .u64 0)), (.v (.int .u64 0)), iv 0] []), oN (.store [0, 0, 0, 0] (.V 4) (.E 30)), oV 5 (.mv (kb false))]) .ret) .skip)) (.seq (.reg [oE 31 (.load true 4 (.V 6)), oE 32 (.load true 4 (.V 8)), oE 33 (.call znn [([0, 0, 0, 0], (.E 31)), ([0, 0, 0, 0], (.E 32))]), xE 34 0 33, xE 35 1 33, oN (.store [0, 0, 0, 0] (.V 4) (.E 34)), vE 5 35]) .ret))))
def zt2 : List RV := [.cell [0, 0, 0, 0] 4 true, .tmp [0] 5]
def ycs : List Nat := [0, 1, 2, 3]
def zt3 : IC := .seq (.reg [oV 1 (.box (.V 0)), oV 2 (.alloc [iv 0, iv 0]), oV 3 (.mv (kb false))]) (.seq (.reg [oE 4 (.faddr 2 (.V 1)), oE 5 (.load true 2 (.E 4)), oE 6 (.faddr 4 (.V 1)), oE 7 (.load true 2 (.E 6)), oE 8 (.call zjb [([0, 0], (.E 5)), ([0, 0], (.E 7))]), xE 9 0 8, xE 10 1 8, oN (.store [0, 0] (.V 2) (.E 9)), vE 3 10]) .ret)
def zt4 : List RV := [.cell [0, 0] 2 true, .tmp [0] 3]
def yct : List Nat := [0, 1, 2, 4, 5]
def zp7 : IC := .seq (.reg [oV 2 (.box (.V 0)), oV 4 (.alloc [(.v (.bool false)), (.v (.int .u64 0)), (.v (.int .u64 0)), iv 0]), oV 5 (.mv (kb false))]) (.seq (.seq (.reg [oE 6 (.faddr 0 (.V 2)), oE 7 (.load false 1 (.E 6)), mV 8 1, oE 9 (.call zkg [([0], (.E 7)), ([0], (.E 8))]), oE 10 (.un .not (.E 9))]) (.cond (.E 10) (.seq (.reg [oE 11 (.build [(.v (.bool false)), (.v (.int .u64 0)), (.v (.int .u64 0)), iv 0] []), oN (.store [0, 0, 0, 0] (.V 4) (.E 11)), oV 5 (.mv (kb false))]) .ret) .skip)) (.seq (.reg [oE 12 (.faddr 1 (.V 2)), oE 13 (.load false 1 (.E 12)), oE 14 (.faddr 0 (.V 2)), oE 15 (.load false 1 (.E 14)), mV 16 1, oE 17 (.bin .add (.E 15) (.E 16)), oE 18 (.call zno [([0], (.E 13)), ([0], (.E 17))]), xE 19 0 18, xE 20 1 18, oN (.store [0, 0, 0, 0] (.V 4) (.E 19)), vE 5 20]) .ret))
def zp8 : List RV := [.cell [0, 0, 0, 0] 4 true, .tmp [0] 5]
def ycu : List Nat := [0, 1, 2, 3, 8, 6, 7, 4, 5]
def zt5 : IC := .seq (.reg [oV 2 (.box (.V 0)), oV 3 (.box (.V 1)), oV 4 (.mv (ki 0)), oV 5 (.mv (kb false))]) (.seq (.reg [oE 10 (.load true 4 (.V 2)), oE 11 (.load true 4 (.V 3)), oE 12 (.call zkl [([0, 0, 0, 0], (.E 10)), ([0, 0, 0, 0], (.E 11))]), oE 9 (.mv (.E 12)), xE 13 0 9, xE 14 1 9, xE 15 2 9, oV 6 (.alloc [(.v (.bool false)), (.v (.int .u64 0)), (.v (.int .u64 0))]), oV 7 (.alloc [(.v (.bool false)), (.v (.int .u64 0)), (.v (.int .u64 0))]), oN (.store [0, 0, 0] (.V 6) (.E 13)), oN (.store [0, 0, 0] (.V 7) (.E 14)), vE 8 15]) (.seq (.seq (.reg [mV 16 8, oE 17 (.un .not (.E 16))]) (.cond (.E 17) (.seq (.reg [oV 4 (.mv (ki 0)), oV 5 (.mv (kb false))]) .ret) .skip)) (.seq (.reg [oE 18 (.load true 3 (.V 6)), oE 19 (.load true 3 (.V 7)), oE 20 (.call znp [([0, 0, 0], (.E 18)), ([0, 0, 0], (.E 19))]), vE 4 20, oV 5 (.mv (kb true))]) .ret)))
def zt6 : List RV := [.tmp [0] 4, .tmp [0] 5]
def ycv : List Nat := [0, 3, 2]
def z0z : IC := .seq (.seq (.reg [mV 4 3, mV 5 0, oE 6 (.len (.E 5)), oE 7 (.bin .lss (.E 4) (.E 6))]) (.cond (.E 7) .skip (.exit 0))) (.seq (.block 1 (.seq (.regD [(mV 10 0, 0, 0), (mV 11 3, 0, 0), (oE 12 (.iaddr 1 (.E 10) (.E 11)), 0, 0), (oE 13 (.load false 1 (.E 12)), 0, 0), (oE 14 (.call zjc [([0], (.E 13))]), 0, 0), (oE 15 (.un .not (.E 14)), 0, 0), (oE 16 (.mv (.E 15)), 0, 0), (⟨(some (.E 17)), .mv (.V 3), some ((.E 16), false)⟩, 0, 0), (⟨(some (.E 18)), .bin .gtr (.E 17) (ki 0), some ((.E 16), false)⟩, 0, 0), (⟨(some (.E 19)), .mv (.E 18), some ((.E 16), false)⟩, 0, 0), (⟨(some (.E 20)), .mv (.V 0), some ((.E 19), true)⟩, 0, 0), (⟨(some (.E 21)), .mv (.V 3), some ((.E 19), true)⟩, 0, 0), (⟨(some (.E 22)), .bin .sub (.E 21) (ki 1), some ((.E 19), true)⟩, 0, 0), (⟨(some (.E 23)), .iaddr 1 (.E 20) (.E 22), some ((.E 19), true)⟩, 0, 0), (⟨(some (.E 24)), .load false 1 (.E 23), some ((.E 19), true)⟩, 0, 0), (⟨(some (.E 25)), .mv (.V 0), some ((.E 19), true)⟩, 0, 0), (⟨(some (.E 26)), .mv (.V 3), some ((.E 19), true)⟩, 0, 0), (⟨(some (.E 27)), .iaddr 1 (.E 25) (.E 26), some ((.E 19), true)⟩, 0, 0), (⟨(some (.E 28)), .load false 1 (.E 27), some ((.E 19), true)⟩, 0, 0), (⟨(some (.E 29)), .bin .geq (.E 24) (.E 28), some ((.E 19), true)⟩, 0, 0), (⟨(some (.E 30)), .pick (.E 19) (.E 29) (kb false), some ((.E 16), false)⟩, 0, 0), (oE 31 (.pick (.E 16) (kb true) (.E 30)), 0, 0)]) (.cond (.E 31) (.seq (.reg [oV 2 (.mv (kb false))]) .ret) .skip))) (.reg [mV 8 3, oE 9 (.bin .add (.E 8) (ki 1)), vE 3 9]))
def zt7 : IC := .seq (.reg [oV 2 (.mv (kb false))]) (.seq (.seq (.reg [oV 3 (.mv (ki 0))]) (.block 0 (.loop z0z))) (.seq (.reg [mV 32 0, oE 33 (.len (.E 32)), oE 34 (.bin .leq (.E 33) (ki 7)), vE 2 34]) .ret))
def zt8 : List RV := [.tmp [0] 2]
def ycw : List Nat := [0, 1, 2]
def zt9 : IC := .seq (.reg [oV 1 (.box (.V 0)), oV 2 (.mv (.C .e0))]) (.seq (.reg [oE 3 (.faddr 0 (.V 1)), oE 4 (.load false 1 (.E 3)), oE 5 (.faddr 1 (.V 1)), oE 6 (.load false 1 (.E 5)), oE 7 (.faddr 2 (.V 1)), oE 8 (.load false 1 (.E 7)), oE 9 (.faddr 3 (.V 1)), oE 10 (.load false 1 (.E 9)), oE 11 (.faddr 4 (.V 1)), oE 12 (.load false 1 (.E 11)), oE 13 (.bslice 5 1 [iv 0] [(0, (.E 4)), (1, (.E 6)), (2, (.E 8)), (3, (.E 10)), (4, (.E 12))]), vE 2 13]) .ret)
def zua : List RV := [.tmp [1] 2]
def ycx : List Nat := [0]
def zub : IC := .seq (.reg [oV 0 (.mv (.C .e0))]) (.seq (.reg [oE 1 (.bslice 5 1 [iv 0] [(0, (ki 1)), (1, (ki 0)), (2, (ki 2)), (3, (ki 1)), (4, (ki 1))]), vE 0 1]) .ret)
def zuc : List RV := [.tmp [1] 0]
def ycy : List Nat := [0]
def zud : IC := .seq (.reg [oV 0 (.mv (.C .e0))]) (.seq (.reg [oE 1 (.bslice 5 1 [iv 0] [(0, (ki 8)), (1, (ki 4)), (2, (ki 8)), (3, (ki 100)), (4, (ki 20))]), vE 0 1]) .ret)
def zue : List RV := [.tmp [1] 0]
def ycz : List Nat := [0, 3, 2]
def z00 : IC := .seq (.seq (.reg [mV 4 3, mV 5 0, oE 6 (.len (.E 5)), oE 7 (.bin .lss (.E 4) (.E 6))]) (.cond (.E 7) .skip (.exit 0))) (.seq (.block 1 (.seq (.regD [(mV 10 0, 0, 0), (mV 11 3, 0, 0), (oE 12 (.bin .sub (.E 11) (ki 1)), 0, 0), (oE 13 (.iaddr 1 (.E 10) (.E 12)), 0, 0), (oE 14 (.load false 1 (.E 13)), 0, 0), (mV 15 0, 0, 0), (mV 16 3, 0, 0), (oE 17 (.iaddr 1 (.E 15) (.E 16)), 0, 0), (oE 18 (.load false 1 (.E 17)), 0, 0), (oE 19 (.bin .geq (.E 14) (.E 18)), 0, 0)]) (.cond (.E 19) (.seq (.reg [oV 2 (.mv (kb false))]) .ret) .skip))) (.reg [mV 8 3, oE 9 (.bin .add (.E 8) (ki 1)), vE 3 9]))
def zuf : IC := .seq (.reg [oV 2 (.mv (kb false))]) (.seq (.seq (.reg [oV 3 (.mv (ki 1))]) (.block 0 (.loop z00))) (.seq (.reg [mV 20 0, oE 21 (.len (.E 20)), oE 22 (.bin .leq (.E 21) (ki 7)), oE 23 (.mv (.E 22)), ⟨(some (.E 24)), .mv (.V 0), some ((.E 23), true)⟩, ⟨(some (.E 25)), .call znq [([1], (.E 24))], some ((.E 23), true)⟩, oE 26 (.pick (.E 23) (.E 25) (kb false)), vE 2 26]) .ret))
def zug : List RV := [.tmp [0] 2]
def yc0 : List Nat := [0, 1, 3]
def zuh : IC := .seq (.reg [oV 3 (.mv (kb false))]) (.seq (.reg [mV 4 0, oE 5 (.load false 1 (.V 1)), oE 6 (.len (.E 5)), oE 7 (.call zbx [([0], (.E 4)), ([0], (ki 0)), ([0], (.E 6))]), oE 8 (.un .not (.E 7)), vE 3 8]) .ret)
def zui : List RV := [.tmp [0] 3]
def yc1 : List Nat := [0, 1, 8, 7, 5, 4]
def zxq : IC := .seq (.reg [oE 9 (.bin .lss (.V 8) (.V 7))]) (.seq (.cond (.E 9) .skip (.exit 0)) (.seq (.block 1 (.seq (.reg [mV 10 8, vE 5 10]) (.seq (.reg [mV 11 1, mV 12 0, mV 13 5, oE 14 (.iaddr 1 (.E 12) (.E 13)), oE 15 (.load false 1 (.E 14)), oE 16 (.callv (.E 11) [([0], (.E 15))])]) (.cond (.E 16) (.seq (.reg [mV 17 5, vE 4 17]) .ret) .skip)))) (.reg [oE 18 (.bin .add (.V 8) (ki 1)), vE 8 18])))
def zp9 : IC := .seq (.reg [oV 4 (.mv (ki 0))]) (.seq (.seq (.reg [mV 6 0, oV 7 (.len (.E 6)), oV 8 (.mv (ki 0))]) (.block 0 (.loop zxq))) (.seq (.reg [oV 4 (.mv (ki (-1)))]) .ret))
def zqa : List RV := [.tmp [0] 4]
def yc2 : List Nat := [0, 1, 4]
def zuj : IC := .seq (.reg [oV 4 (.mv (kb false))]) (.seq (.reg [mV 5 0, oE 6 (.call zbx [([0], (.E 5)), ([0], (ki 0)), ([0], (ki 40))]), oE 7 (.mv (.E 6)), ⟨(some (.E 8)), .mv (.V 1), some ((.E 7), true)⟩, ⟨(some (.E 9)), .call zbx [([0], (.E 8)), ([0], (ki 1)), ([0], (ki 100))], some ((.E 7), true)⟩, oE 10 (.pick (.E 7) (.E 9) (kb false)), vE 4 10]) .ret)
def zuk : List RV := [.tmp [0] 4]
def yc3 : List Nat := [0, 1, 2]
def zul : IC := .seq (.reg [oV 1 (.box (.V 0)), oV 2 (.mv (kb false))]) (.seq (.reg [oE 3 (.faddr 0 (.V 1)), oE 4 (.load false 1 (.E 3)), oE 5 (.faddr 1 (.V 1)), oE 6 (.load false 1 (.E 5)), oE 7 (.bin .leq (.E 4) (.E 6)), oE 8 (.mv (.E 7)), ⟨(some (.E 9)), .faddr 0 (.V 1), some ((.E 8), true)⟩, ⟨(some (.E 10)), .load false 1 (.E 9), some ((.E 8), true)⟩, ⟨(some (.E 11)), .call zkm [([0], (.E 10))], some ((.E 8), true)⟩, oE 12 (.pick (.E 8) (.E 11) (kb false)), oE 13 (.mv (.E 12)), ⟨(some (.E 14)), .faddr 1 (.V 1), some ((.E 13), true)⟩, ⟨(some (.E 15)), .load false 1 (.E 14), some ((.E 13), true)⟩, ⟨(some (.E 16)), .call zkm [([0], (.E 15))], some ((.E 13), true)⟩, oE 17 (.pick (.E 13) (.E 16) (kb false)), vE 2 17]) .ret)
def zum : List RV := [.tmp [0] 2]
def yc4 : List Nat := [0, 1, 6, 4, 5]
def zun : IC := .seq (.reg [oV 4 (.mv (ki 0)), oV 5 (.mv (kb false))]) (.seq (.seq (.reg [mV 7 1, oE 8 (.bin .eql (.E 7) (ki 0)), oE 9 (.mv (.E 8)), ⟨(some (.E 10)), .mv (.V 0), some ((.E 9), false)⟩, ⟨(some (.E 11)), .bin .eql (.E 10) (ki (-9223372036854775808)), some ((.E 9), false)⟩, ⟨(some (.E 12)), .mv (.E 11), some ((.E 9), false)⟩, ⟨(some (.E 13)), .mv (.V 1), some ((.E 12), true)⟩, ⟨(some (.E 14)), .bin .eql (.E 13) (ki (-1)), some ((.E 12), true)⟩, ⟨(some (.E 15)), .pick (.E 12) (.E 14) (kb false), some ((.E 9), false)⟩, oE 16 (.pick (.E 9) (kb true) (.E 15))]) (.cond (.E 16) (.seq (.reg [oV 4 (.mv (ki 0)), oV 5 (.mv (kb false))]) .ret) .skip)) (.seq (.reg [mV 17 0, mV 18 1, oE 19 (.bin .quo (.E 17) (.E 18)), vE 6 19]) (.seq (.seq (.reg [mV 20 0, mV 21 1, oE 22 (.bin .rem (.E 20) (.E 21)), oE 23 (.bin .neq (.E 22) (ki 0)), oE 24 (.mv (.E 23)), ⟨(some (.E 25)), .mv (.V 0), some ((.E 24), true)⟩, ⟨(some (.E 26)), .bin .lss (.E 25) (ki 0), some ((.E 24), true)⟩, ⟨(some (.E 27)), .mv (.V 1), some ((.E 24), true)⟩, ⟨(some (.E 28)), .bin .lss (.E 27) (ki 0), some ((.E 24), true)⟩, ⟨(some (.E 29)), .eqb true [.b] (.E 26) (.E 28), some ((.E 24), true)⟩, oE 30 (.pick (.E 24) (.E 29) (kb false))]) (.cond (.E 30) (.reg [mV 31 6, oE 32 (.bin .sub (.E 31) (ki 1)), vE 6 32]) .skip)) (.seq (.reg [mV 33 6, vE 4 33, oV 5 (.mv (kb true))]) .ret))))
def zuo : List RV := [.tmp [0] 4, .tmp [0] 5]
def yc5 : List Nat := [0, 1, 2, 6]
def zqb : IC := .seq (.reg [oV 6 (.mv (ki 0))]) (.seq (.block 0 (.seq (.reg [mV 8 0, mV 9 1, oE 10 (.bin .lss (.E 8) (.E 9)), oE 7 (.mv (.E 10))]) (.cond (.E 7) (.seq (.reg [mV 11 1, vE 6 11]) .ret) (.seq (.reg [mV 13 0, mV 14 2, oE 15 (.bin .gtr (.E 13) (.E 14)), oE 12 (.mv (.E 15))]) (.cond (.E 12) (.seq (.reg [mV 16 2, vE 6 16]) .ret) .skip))))) (.seq (.reg [mV 17 0, vE 6 17]) .ret))
def zqc : List RV := [.tmp [0] 6]
def yc6 : List Nat := [0, 1, 4]
def zup : IC := .seq (.reg [oV 4 (.mv (ki 0))]) (.seq (.reg [mV 5 0, oE 6 (.bin .shr (.E 5) (.C (.v (.int .u64 1)))), mV 7 1, oE 8 (.bin .shr (.E 7) (.C (.v (.int .u64 1)))), oE 9 (.bin .add (.E 6) (.E 8)), mV 10 0, mV 11 1, oE 12 (.bin .and (.E 10) (.E 11)), oE 13 (.bin .and (.E 12) (ki 1)), oE 14 (.bin .add (.E 9) (.E 13)), vE 4 14]) .ret)
def zuq : List RV := [.tmp [0] 4]
def yc7 : List Nat := [0, 2]
def zur : IC := .seq (.reg [oV 2 (.mv (kb false))]) (.seq (.reg [mV 3 0, oE 4 (.call zb7 [([0], (.E 3)), ([0], (ki (-1099511627776))), ([0], (ki 1099511627776))]), vE 2 4]) .ret)
def zus : List RV := [.tmp [0] 2]
def yc8 : List Nat := [0, 1, 2, 5, 4, 6, 7, 10, 9, 8]
def zut : IC := .seq (.seq (.reg [mV 35 10, mV 36 7, oE 37 (.len (.E 36)), oE 38 (.bin .lss (.E 35) (.E 37))]) (.cond (.E 38) .skip (.exit 2))) (.seq (.block 3 (.reg [mV 41 9, mV 42 8, mV 43 7, mV 44 10, oE 45 (.iaddr 1 (.E 43) (.E 44)), oE 46 (.load false 1 (.E 45)), oE 47 (.call znu [([1], (.E 42)), ([0], (.E 46))]), oE 48 (.bslice 1 1 [iv 0] [(0, (.E 47))]), oE 49 (.app 8 1 (.E 41) (.E 48)), vE 9 49])) (.reg [mV 39 10, oE 40 (.bin .add (.E 39) (ki 1)), vE 10 40]))
def zxr : IC := .seq (.seq (.reg [mV 21 6, oE 22 (.faddr 0 (.V 2)), oE 23 (.load false 1 (.E 22)), oE 24 (.len (.E 23)), oE 25 (.bin .lss (.E 21) (.E 24))]) (.cond (.E 25) .skip (.exit 0))) (.seq (.block 1 (.seq (.reg [oE 28 (.load true 4 (.V 2)), mV 29 6, oE 30 (.call zns [([1, 0, 1, 1], (.E 28)), ([0], (.E 29))]), vE 7 30]) (.seq (.reg [mV 31 7, mV 32 1, oE 33 (.call znt [([1], (.E 31)), ([0], (.E 32))]), vE 8 33]) (.seq (.reg [oE 34 (.bslice 0 1 [iv 0] []), vE 9 34]) (.seq (.seq (.reg [oV 10 (.mv (ki 0))]) (.block 2 (.loop zut))) (.seq (.reg [oE 50 (.faddr 0 (.V 5)), oE 51 (.load false 1 (.E 50)), mV 52 8, oE 53 (.bslice 1 1 [(.own 1 [])] [(0, (.E 52))]), oE 54 (.app 24 1 (.E 51) (.E 53)), oE 55 (.faddr 0 (.V 5)), oN (.store [1] (.E 55) (.E 54))]) (.reg [oE 56 (.faddr 1 (.V 5)), oE 57 (.load false 1 (.E 56)), mV 58 9, oE 59 (.bslice 1 1 [(.own 1 [])] [(0, (.E 58))]), oE 60 (.app 24 1 (.E 57) (.E 59)), oE 61 (.faddr 1 (.V 5)), oN (.store [1] (.E 61) (.E 60))]))))))) (.reg [mV 26 6, oE 27 (.bin .add (.E 26) (ki 1)), vE 6 27]))
def zuu : IC := .seq (.reg [oV 2 (.box (.V 0)), oV 4 (.alloc [.e0, .e0])]) (.seq (.reg [oE 11 (.build [.e0, .e0] []), oV 5 (.alloc [.e0, .e0]), oN (.store [1, 1] (.V 5) (.E 11))]) (.seq (.seq (.reg [oE 12 (.load true 4 (.V 2)), oE 13 (.call znr [([1, 0, 1, 1], (.E 12))]), oE 14 (.un .not (.E 13)), oE 15 (.mv (.E 14)), ⟨(some (.E 16)), .mv (.V 1), some ((.E 15), false)⟩, ⟨(some (.E 17)), .call zb7 [([0], (.E 16)), ([0], (ki 2)), ([0], (ki 8))], some ((.E 15), false)⟩, ⟨(some (.E 18)), .un .not (.E 17), some ((.E 15), false)⟩, oE 19 (.pick (.E 15) (kb true) (.E 18))]) (.cond (.E 19) (.seq (.reg [oE 20 (.load true 2 (.V 5)), oN (.store [1, 1] (.V 4) (.E 20))]) .ret) .skip)) (.seq (.seq (.reg [oV 6 (.mv (ki 0))]) (.block 0 (.loop zxr))) (.seq (.reg [oE 62 (.load true 2 (.V 5)), oN (.store [1, 1] (.V 4) (.E 62))]) .ret))))
def zuv : List RV := [.cell [1, 1] 4 true]
def yc9 : List Nat := [0, 3, 7, 5, 9, 6, 8, 10, 4, 11, 2]
def zqd : IC := .seq (.seq (.reg [mV 37 9, mV 38 3, oE 39 (.bin .lss (.E 37) (.E 38))]) (.cond (.E 39) .skip (.exit 2))) (.seq (.block 3 (.seq (.reg [mV 42 0, oE 43 (.call zja [([0], (.E 42))]), vE 10 43]) (.seq (.seq (.reg [mV 44 6, oE 45 (.un .not (.E 44))]) (.cond (.E 45) (.reg [mV 46 0, oE 47 (.call zbc [([0], (.E 46)), ([0], (ki 7))]), oE 48 (.bin .sub (.E 47) (ki 3)), oE 49 (.bin .mul (ki 500) (.E 48)), vE 10 49]) .skip)) (.reg [mV 50 8, mV 51 10, oE 52 (.bslice 1 1 [iv 0] [(0, (.E 51))]), oE 53 (.app 8 1 (.E 50) (.E 52)), vE 8 53])))) (.reg [mV 40 9, oE 41 (.bin .add (.E 40) (ki 1)), vE 9 41]))
def zuw : IC := .seq (.seq (.reg [mV 31 7, mV 32 5, oE 33 (.bin .lss (.E 31) (.E 32))]) (.cond (.E 33) .skip (.exit 0))) (.seq (.block 1 (.seq (.reg [oE 36 (.bslice 0 1 [iv 0] []), vE 8 36]) (.seq (.seq (.reg [oV 9 (.mv (ki 0))]) (.block 2 (.loop zqd))) (.seq (.reg [oE 54 (.faddr 2 (.V 4)), oE 55 (.load false 1 (.E 54)), mV 56 8, oE 57 (.bslice 1 1 [(.own 1 [])] [(0, (.E 56))]), oE 58 (.app 24 1 (.E 55) (.E 57)), oE 59 (.faddr 2 (.V 4)), oN (.store [1] (.E 59) (.E 58))]) (.seq (.reg [mV 60 0, oE 61 (.call zja [([0], (.E 60))]), vE 11 61]) (.seq (.seq (.reg [mV 62 6, oE 63 (.un .not (.E 62)), oE 64 (.mv (.E 63)), ⟨(some (.E 65)), .mv (.V 0), some ((.E 64), true)⟩, ⟨(some (.E 66)), .call zdn [([0], (.E 65)), ([0], (ki 4))], some ((.E 64), true)⟩, ⟨(some (.E 67)), .un .not (.E 66), some ((.E 64), true)⟩, oE 68 (.pick (.E 64) (.E 67) (kb false))]) (.cond (.E 68) (.regD [(mV 69 8, 0, 0), (oE 70 (.iaddr 1 (.E 69) (ki 0)), 0, 1), (oE 71 (.load false 1 (.E 70)), 0, 1), (oE 72 (.bin .mul (.E 71) (ki 2)), 0, 0), (mV 73 0, 0, 0), (oE 74 (.call zbc [([0], (.E 73)), ([0], (ki 5))]), 0, 0), (oE 75 (.bin .mul (ki 100) (.E 74)), 0, 0), (oE 76 (.bin .add (.E 72) (.E 75)), 0, 0), (vE 11 76, 0, 0)]) .skip)) (.reg [oE 77 (.faddr 3 (.V 4)), oE 78 (.load false 1 (.E 77)), mV 79 11, oE 80 (.bslice 1 1 [iv 0] [(0, (.E 79))]), oE 81 (.app 8 1 (.E 78) (.E 80)), oE 82 (.faddr 3 (.V 4)), oN (.store [1] (.E 82) (.E 81))]))))))) (.reg [mV 34 7, oE 35 (.bin .add (.E 34) (ki 1)), vE 7 35]))
def zqe : IC := .seq (.reg [oV 2 (.alloc [.e0, (.v (.string (bs []))), .e0, .e0])]) (.seq (.reg [mV 12 0, oE 13 (.call zbc [([0], (.E 12)), ([0], (ki 3))]), oE 14 (.bin .add (ki 1) (.E 13)), vE 3 14]) (.seq (.reg [oE 15 (.bslice 0 1 [(.v (.string (bs [])))] []), oE 16 (.bslice 4 1 [(.v (.string (bs [])))] [(0, (.C (.v (.string (bs [97]))))), (1, (.C (.v (.string (bs [98]))))), (2, (.C (.v (.string (bs [99, 50]))))), (3, (.C (.v (.string (bs [100])))))]), mV 17 3, oE 18 (.slice 1 (.E 16) none (some (.E 17)) none), oE 19 (.app 16 1 (.E 15) (.E 18)), oE 20 (.build [.e0, (.v (.string (bs []))), .e0, .e0] [(0, 1, (.E 19)), (1, 1, (.C (.v (.string (bs [121])))))]), oV 4 (.alloc [.e0, (.v (.string (bs []))), .e0, .e0]), oN (.store [1, 0, 1, 1] (.V 4) (.E 20))]) (.seq (.reg [mV 21 0, oE 22 (.call zbc [([0], (.E 21)), ([0], (ki 9))]), oE 23 (.bin .add (ki 1) (.E 22)), vE 5 23]) (.seq (.seq (.reg [mV 24 0, oE 25 (.call zdn [([0], (.E 24)), ([0], (ki 10))])]) (.cond (.E 25) (.reg [mV 26 0, oE 27 (.call zbc [([0], (.E 26)), ([0], (ki 40))]), oE 28 (.bin .add (ki 1) (.E 27)), vE 5 28]) .skip)) (.seq (.reg [mV 29 0, oE 30 (.call zdn [([0], (.E 29)), ([0], (ki 12))]), vE 6 30]) (.seq (.seq (.reg [oV 7 (.mv (ki 0))]) (.block 0 (.loop zuw))) (.seq (.reg [oE 83 (.load true 4 (.V 4)), oN (.store [1, 0, 1, 1] (.V 2) (.E 83))]) .ret)))))))
def zji : List RV := [.cell [1, 0, 1, 1] 2 true]
def yda : List Nat := [0, 3, 2]
def zqf : IC := .seq (.reg [oV 2 (.mv (ki 0))]) (.seq (.reg [mV 4 0, mV 5 0, oE 6 (.nilc (.E 5)), oE 7 (.faddr 2 (.E 6)), oE 8 (.load false 1 (.E 7)), oE 9 (.bin .mul (.E 8) (ki 6364136223846793005)), oE 10 (.bin .add (.E 9) (ki 1442695040888963407)), oE 11 (.nilc (.E 4)), oE 12 (.faddr 2 (.E 11)), oN (.store [0] (.E 12) (.E 10))]) (.seq (.regD [(mV 13 0, 0, 0), (oE 14 (.nilc (.E 13)), 0, 0), (oE 15 (.faddr 2 (.E 14)), 0, 0), (oE 16 (.load false 1 (.E 15)), 0, 0), (oE 17 (.bin .shr (.E 16) (.C (.v (.int .u64 33)))), 0, 0), (mV 18 0, 0, 0), (oE 19 (.nilc (.E 18)), 0, 0), (oE 20 (.faddr 2 (.E 19)), 0, 0), (oE 21 (.load false 1 (.E 20)), 0, 0), (oE 22 (.bin .shr (.E 21) (.C (.v (.int .u64 45)))), 0, 0), (oE 23 (.bin .xor (.E 17) (.E 22)), 0, 0), (oE 24 (.bin .and (.E 23) (ki 255)), 0, 0), (vE 3 24, 0, 0)]) (.seq (.seq (.regD [(mV 25 0, 0, 0), (oE 26 (.nilc (.E 25)), 0, 0), (oE 27 (.faddr 1 (.E 26)), 0, 0), (oE 28 (.load false 1 (.E 27)), 0, 0), (mV 29 0, 0, 0), (oE 30 (.nilc (.E 29)), 0, 0), (oE 31 (.faddr 0 (.E 30)), 0, 0), (oE 32 (.load false 1 (.E 31)), 0, 0), (oE 33 (.len (.E 32)), 0, 0), (oE 34 (.bin .lss (.E 28) (.E 33)), 0, 0)]) (.cond (.E 34) (.seq (.regD [(mV 35 3, 0, 0), (mV 36 0, 0, 0), (oE 37 (.nilc (.E 36)), 0, 0), (oE 38 (.faddr 0 (.E 37)), 0, 0), (oE 39 (.load false 1 (.E 38)), 0, 0), (mV 40 0, 0, 0), (oE 41 (.nilc (.E 40)), 0, 0), (oE 42 (.faddr 1 (.E 41)), 0, 0), (oE 43 (.load false 1 (.E 42)), 0, 0), (oE 44 (.iaddr 1 (.E 39) (.E 43)), 0, 0), (oE 45 (.load false 1 (.E 44)), 0, 0), (oE 46 (.convI .i64 (.E 45)), 0, 0), (oE 47 (.bin .add (.E 35) (.E 46)), 0, 0), (oE 48 (.bin .and (.E 47) (ki 255)), 0, 0), (vE 3 48, 0, 0)]) (.reg [mV 49 0, mV 50 0, oE 51 (.nilc (.E 50)), oE 52 (.faddr 1 (.E 51)), oE 53 (.load false 1 (.E 52)), oE 54 (.bin .add (.E 53) (ki 1)), oE 55 (.nilc (.E 49)), oE 56 (.faddr 1 (.E 55)), oN (.store [0] (.E 56) (.E 54))])) .skip)) (.seq (.reg [mV 57 3, vE 2 57]) .ret))))
def zqg : List RV := [.tmp [0] 2]
def ydb : List Nat := [0, 2]
def zoa : IC := .seq (.reg [oV 2 (.mv (ki 0))]) (.seq (.seq (.reg [mV 3 0, oE 4 (.call zdn [([0], (.E 3)), ([0], (ki 20))])]) (.cond (.E 4) (.seq (.reg [mV 5 0, oE 6 (.bslice 5 1 [iv 0] [(0, (ki 2147483647)), (1, (ki (-2147483647))), (2, (ki 1)), (3, (ki (-1))), (4, (ki 1000000000))]), oE 7 (.call zd3 [([0], (.E 5)), ([1], (.E 6))]), vE 2 7]) .ret) .skip)) (.seq (.seq (.reg [mV 8 0, oE 9 (.call zdn [([0], (.E 8)), ([0], (ki 2))])]) (.cond (.E 9) (.seq (.reg [mV 10 0, oE 11 (.call zbc [([0], (.E 10)), ([0], (ki 9))]), oE 12 (.bin .sub (.E 11) (ki 4)), oE 13 (.bin .mul (ki 1000) (.E 12)), vE 2 13]) .ret) .skip)) (.seq (.reg [mV 14 0, oE 15 (.call zbc [([0], (.E 14)), ([0], (ki 41))]), oE 16 (.bin .sub (.E 15) (ki 20)), oE 17 (.bin .mul (ki 250) (.E 16)), vE 2 17]) .ret)))
def zob : List RV := [.tmp [0] 2]
def ydc : List Nat := [0, 1, 2, 3, 7, 9, 4, 6, 8, 5]
def zux : IC := .seq (.reg [oV 2 (.box (.V 0)), oV 3 (.box (.V 1)), oV 4 (.alloc [iv 0, iv 0]), oV 5 (.mv (kb false))]) (.seq (.reg [oE 11 (.faddr 0 (.V 2)), oE 12 (.load false 1 (.E 11)), oE 13 (.faddr 0 (.V 3)), oE 14 (.load false 1 (.E 13)), oE 15 (.call zkn [([0], (.E 12)), ([0], (.E 14))]), oE 10 (.mv (.E 15)), xE 16 0 10, xE 17 1 10, vE 6 16, vE 7 17]) (.seq (.reg [oE 19 (.faddr 1 (.V 2)), oE 20 (.load false 1 (.E 19)), oE 21 (.faddr 1 (.V 3)), oE 22 (.load false 1 (.E 21)), oE 23 (.call zkn [([0], (.E 20)), ([0], (.E 22))]), oE 18 (.mv (.E 23)), xE 24 0 18, xE 25 1 18, vE 8 24, vE 9 25]) (.seq (.seq (.reg [mV 26 7, oE 27 (.un .not (.E 26)), oE 28 (.mv (.E 27)), ⟨(some (.E 29)), .mv (.V 9), some ((.E 28), false)⟩, ⟨(some (.E 30)), .un .not (.E 29), some ((.E 28), false)⟩, oE 31 (.pick (.E 28) (kb true) (.E 30))]) (.cond (.E 31) (.seq (.reg [oE 32 (.build [iv 0, iv 0] []), oN (.store [0, 0] (.V 4) (.E 32)), oV 5 (.mv (kb false))]) .ret) .skip)) (.seq (.reg [mV 33 6, mV 34 8, oE 35 (.build [iv 0, iv 0] [(0, 1, (.E 33)), (1, 1, (.E 34))]), oN (.store [0, 0] (.V 4) (.E 35)), oV 5 (.mv (kb true))]) .ret))))
def zuy : List RV := [.cell [0, 0] 4 true, .tmp [0] 5]
def ydd : List Nat := [0, 1, 2, 3, 4]
def zuz : IC := .seq (.reg [oV 2 (.box (.V 0)), oV 3 (.box (.V 1)), oV 4 (.mv (kb false))]) (.seq (.regD [(oE 5 (.faddr 0 (.V 2)), 0, 0), (oE 6 (.load false 1 (.E 5)), 0, 0), (oE 7 (.faddr 0 (.V 3)), 0, 0), (oE 8 (.load false 1 (.E 7)), 0, 0), (oE 9 (.call zkp [([0], (.E 6)), ([0], (.E 8))]), 0, 0), (oE 10 (.faddr 1 (.V 2)), 1, 0), (oE 11 (.load false 1 (.E 10)), 1, 0), (oE 12 (.faddr 1 (.V 3)), 1, 0), (oE 13 (.load false 1 (.E 12)), 1, 0), (oE 14 (.call zkp [([0], (.E 11)), ([0], (.E 13))]), 0, 0), (oE 15 (.bslice 2 1 [iv 0] [(0, (.E 9)), (1, (.E 14))]), 0, 0), (oE 16 (.call zko [([1], (.E 15))]), 0, 0), (oE 17 (.bin .lss (.E 16) (ki 0)), 0, 0), (vE 4 17, 0, 0)]) .ret)
def zu0 : List RV := [.tmp [0] 4]
def yde : List Nat := [0, 1, 6, 4, 5]
def zh8 : IC := .seq (.reg [oV 4 (.mv (ki 0)), oV 5 (.mv (kb false))]) (.seq (.reg [mV 7 0, mV 8 1, oE 9 (.bin .sub (.E 7) (.E 8)), vE 6 9]) (.seq (.seq (.reg [mV 10 0, oE 11 (.bin .lss (.E 10) (ki 0)), mV 12 1, oE 13 (.bin .lss (.E 12) (ki 0)), oE 14 (.eqb true [.b] (.E 11) (.E 13)), oE 15 (.mv (.E 14)), ⟨(some (.E 16)), .mv (.V 6), some ((.E 15), true)⟩, ⟨(some (.E 17)), .bin .lss (.E 16) (ki 0), some ((.E 15), true)⟩, ⟨(some (.E 18)), .mv (.V 0), some ((.E 15), true)⟩, ⟨(some (.E 19)), .bin .lss (.E 18) (ki 0), some ((.E 15), true)⟩, ⟨(some (.E 20)), .eqb true [.b] (.E 17) (.E 19), some ((.E 15), true)⟩, oE 21 (.pick (.E 15) (.E 20) (kb false))]) (.cond (.E 21) (.seq (.reg [oV 4 (.mv (ki 0)), oV 5 (.mv (kb false))]) .ret) .skip)) (.seq (.reg [mV 22 6, vE 4 22, oV 5 (.mv (kb true))]) .ret)))
def zh9 : List RV := [.tmp [0] 4, .tmp [0] 5]
def ydf : List Nat := [0, 1, 2, 3, 8, 4, 6, 7, 9, 5]
def zqh : IC := .seq (.reg [oV 2 (.box (.V 0)), oV 3 (.box (.V 1)), oV 4 (.alloc [(.v (.bool false)), (.v (.int .u64 0)), (.v (.int .u64 0)), iv 0]), oV 5 (.mv (kb false))]) (.seq (.reg [oE 11 (.load true 4 (.V 2)), oE 12 (.load true 4 (.V 3)), oE 13 (.call zkl [([0, 0, 0, 0], (.E 11)), ([0, 0, 0, 0], (.E 12))]), oE 10 (.mv (.E 13)), xE 14 0 10, xE 15 1 10, xE 16 2 10, oV 6 (.alloc [(.v (.bool false)), (.v (.int .u64 0)), (.v (.int .u64 0))]), oV 7 (.alloc [(.v (.bool false)), (.v (.int .u64 0)), (.v (.int .u64 0))]), oN (.store [0, 0, 0] (.V 6) (.E 14)), oN (.store [0, 0, 0] (.V 7) (.E 15)), vE 8 16]) (.seq (.seq (.reg [mV 17 8, oE 18 (.un .not (.E 17))]) (.cond (.E 18) (.seq (.reg [oE 19 (.build [(.v (.bool false)), (.v (.int .u64 0)), (.v (.int .u64 0)), iv 0] []), oN (.store [0, 0, 0, 0] (.V 4) (.E 19)), oV 5 (.mv (kb false))]) .ret) .skip)) (.seq (.reg [oE 21 (.load true 3 (.V 6)), oE 22 (.load true 3 (.V 7)), oE 23 (.call znv [([0, 0, 0], (.E 21)), ([0, 0, 0], (.E 22))]), oE 20 (.mv (.E 23)), xE 24 0 20, xE 25 1 20, oV 9 (.alloc [(.v (.bool false)), (.v (.int .u64 0)), (.v (.int .u64 0))]), oN (.store [0, 0, 0] (.V 9) (.E 24)), vE 8 25]) (.seq (.seq (.reg [mV 26 8, oE 27 (.un .not (.E 26))]) (.cond (.E 27) (.seq (.reg [oE 28 (.build [(.v (.bool false)), (.v (.int .u64 0)), (.v (.int .u64 0)), iv 0] []), oN (.store [0, 0, 0, 0] (.V 4) (.E 28)), oV 5 (.mv (kb false))]) .ret) .skip)) (.seq (.reg [oE 29 (.load true 3 (.V 9)), oE 30 (.faddr 3 (.V 2)), oE 31 (.load false 1 (.E 30)), oE 32 (.faddr 3 (.V 3)), oE 33 (.load false 1 (.E 32)), oE 34 (.bin .mul (.E 31) (.E 33)), oE 35 (.call zkq [([0, 0, 0], (.E 29)), ([0], (.E 34))]), xE 36 0 35, xE 37 1 35, oN (.store [0, 0, 0, 0] (.V 4) (.E 36)), vE 5 37]) .ret)))))
def zqi : List RV := [.cell [0, 0, 0, 0] 4 true, .tmp [0] 5]
def ydg : List Nat := [0, 1, 4, 5]
def zu1 : IC := .seq (.reg [oV 4 (.alloc [(.v (.bool false)), (.v (.int .u64 0)), (.v (.int .u64 0)), iv 0]), oV 5 (.mv (kb false))]) (.seq (.reg [mV 6 0, mV 7 0, oE 8 (.call znw [([0], (.E 6)), ([0], (.E 7))]), mV 9 1, oE 10 (.call zkq [([0, 0, 0], (.E 8)), ([0], (.E 9))]), xE 11 0 10, xE 12 1 10, oN (.store [0, 0, 0, 0] (.V 4) (.E 11)), vE 5 12]) .ret)
def zu2 : List RV := [.cell [0, 0, 0, 0] 4 true, .tmp [0] 5]
def ydh : List Nat := [0, 1, 2, 3, 4, 5, 7, 9, 8, 10, 6]
def zu3 : IC := .seq (.reg [oV 2 (.box (.V 0)), oV 3 (.box (.V 1)), oV 4 (.alloc [(.v (.bool false)), (.v (.int .u64 0)), (.v (.int .u64 0))]), oV 5 (.alloc [(.v (.bool false)), (.v (.int .u64 0)), (.v (.int .u64 0))]), oV 6 (.mv (kb false))]) (.seq (.seq (.reg [oE 11 (.load true 4 (.V 2)), oE 12 (.call zjd [([0, 0, 0, 0], (.E 11))]), oE 13 (.un .not (.E 12)), oE 14 (.mv (.E 13)), ⟨(some (.E 15)), .load true 4 (.V 3), some ((.E 14), false)⟩, ⟨(some (.E 16)), .call zjd [([0, 0, 0, 0], (.E 15))], some ((.E 14), false)⟩, ⟨(some (.E 17)), .un .not (.E 16), some ((.E 14), false)⟩, oE 18 (.pick (.E 14) (kb true) (.E 17))]) (.cond (.E 18) (.seq (.reg [oE 19 (.build [(.v (.bool false)), (.v (.int .u64 0)), (.v (.int .u64 0))] []), oE 20 (.build [(.v (.bool false)), (.v (.int .u64 0)), (.v (.int .u64 0))] []), oN (.store [0, 0, 0] (.V 4) (.E 19)), oN (.store [0, 0, 0] (.V 5) (.E 20)), oV 6 (.mv (kb false))]) .ret) .skip)) (.seq (.reg [oE 22 (.faddr 0 (.V 2)), oE 23 (.load true 3 (.E 22)), oE 24 (.faddr 3 (.V 3)), oE 25 (.load false 1 (.E 24)), oE 26 (.call zkr [([0, 0, 0], (.E 23)), ([0], (.E 25))]), oE 21 (.mv (.E 26)), xE 27 0 21, xE 28 1 21, oV 7 (.alloc [(.v (.bool false)), (.v (.int .u64 0)), (.v (.int .u64 0))]), oN (.store [0, 0, 0] (.V 7) (.E 27)), vE 8 28]) (.seq (.reg [oE 30 (.faddr 0 (.V 3)), oE 31 (.load true 3 (.E 30)), oE 32 (.faddr 3 (.V 2)), oE 33 (.load false 1 (.E 32)), oE 34 (.call zkr [([0, 0, 0], (.E 31)), ([0], (.E 33))]), oE 29 (.mv (.E 34)), xE 35 0 29, xE 36 1 29, oV 9 (.alloc [(.v (.bool false)), (.v (.int .u64 0)), (.v (.int .u64 0))]), oN (.store [0, 0, 0] (.V 9) (.E 35)), vE 10 36]) (.seq (.regD [(oE 37 (.load true 3 (.V 7)), 0, 0), (oE 38 (.load true 3 (.V 9)), 0, 1), (mV 39 8, 0, 0), (oE 40 (.mv (.E 39)), 0, 0), (⟨(some (.E 41)), .mv (.V 10), some ((.E 40), true)⟩, 0, 0), (oE 42 (.pick (.E 40) (.E 41) (kb false)), 0, 0), (oN (.store [0, 0, 0] (.V 4) (.E 37)), 0, 0), (oN (.store [0, 0, 0] (.V 5) (.E 38)), 0, 0), (vE 6 42, 0, 0)]) .ret))))
def zu4 : List RV := [.cell [0, 0, 0] 4 true, .cell [0, 0, 0] 5 true, .tmp [0] 6]
def ydi : List Nat := [0, 1, 2, 3, 4]
def zu5 : IC := .seq (.reg [oV 2 (.box (.V 0)), oV 3 (.box (.V 1)), oV 4 (.mv (ki 0))]) (.seq (.regD [(oE 5 (.faddr 0 (.V 2)), 0, 0), (oE 6 (.load false 1 (.E 5)), 0, 0), (oE 7 (.faddr 1 (.V 2)), 0, 0), (oE 8 (.load false 1 (.E 7)), 0, 0), (oE 9 (.faddr 2 (.V 2)), 0, 0), (oE 10 (.load false 1 (.E 9)), 0, 0), (oE 11 (.call zfx [([0], (.E 6)), ([0], (.E 8)), ([0], (.E 10))]), 0, 0), (oE 12 (.faddr 0 (.V 3)), 1, 0), (oE 13 (.load false 1 (.E 12)), 1, 0), (oE 14 (.faddr 1 (.V 3)), 1, 0), (oE 15 (.load false 1 (.E 14)), 1, 0), (oE 16 (.faddr 2 (.V 3)), 1, 0), (oE 17 (.load false 1 (.E 16)), 1, 0), (oE 18 (.call zfx [([0], (.E 13)), ([0], (.E 15)), ([0], (.E 17))]), 0, 0), (oN (.store [0, 0, 0] (.V 2) (.E 11)), 0, 0), (oN (.store [0, 0, 0] (.V 3) (.E 18)), 0, 0)]) (.seq (.block 0 (.seq (.reg [oE 20 (.faddr 0 (.V 2)), oE 21 (.load false 1 (.E 20)), oE 22 (.mv (.E 21)), ⟨(some (.E 23)), .faddr 0 (.V 3), some ((.E 22), true)⟩, ⟨(some (.E 24)), .load false 1 (.E 23), some ((.E 22), true)⟩, ⟨(some (.E 25)), .un .not (.E 24), some ((.E 22), true)⟩, oE 26 (.pick (.E 22) (.E 25) (kb false)), oE 19 (.mv (.E 26))]) (.cond (.E 19) (.seq (.reg [oV 4 (.mv (ki (-1)))]) .ret) (.seq (.reg [oE 28 (.faddr 0 (.V 3)), oE 29 (.load false 1 (.E 28)), oE 30 (.mv (.E 29)), ⟨(some (.E 31)), .faddr 0 (.V 2), some ((.E 30), true)⟩, ⟨(some (.E 32)), .load false 1 (.E 31), some ((.E 30), true)⟩, ⟨(some (.E 33)), .un .not (.E 32), some ((.E 30), true)⟩, oE 34 (.pick (.E 30) (.E 33) (kb false)), oE 27 (.mv (.E 34))]) (.cond (.E 27) (.seq (.reg [oV 4 (.mv (ki 1))]) .ret) (.seq (.reg [oE 36 (.faddr 0 (.V 2)), oE 37 (.load false 1 (.E 36)), oE 35 (.mv (.E 37))]) (.cond (.E 35) (.seq (.reg [oE 38 (.load true 3 (.V 3)), oE 39 (.load true 3 (.V 2)), oE 40 (.call zje [([0, 0, 0], (.E 38)), ([0, 0, 0], (.E 39))]), vE 4 40]) .ret) .skip))))))) (.seq (.reg [oE 41 (.load true 3 (.V 2)), oE 42 (.load true 3 (.V 3)), oE 43 (.call zje [([0, 0, 0], (.E 41)), ([0, 0, 0], (.E 42))]), vE 4 43]) .ret)))
def zu6 : List RV := [.tmp [0] 4]
def ydj : List Nat := [0, 2]
def zu7 : IC := .seq (.reg [oV 2 (.mv (kb false))]) (.seq (.reg [mV 3 0, oE 4 (.call zb7 [([0], (.E 3)), ([0], (ki (-2147483647))), ([0], (ki 2147483647))]), vE 2 4]) .ret)
def zu8 : List RV := [.tmp [0] 2]
def ydk : List Nat := [0, 2]
def zu9 : IC := .seq (.reg [oV 2 (.mv (kb false))]) (.seq (.reg [mV 3 0, oE 4 (.call zhi [([1], (.E 3)), ([0], (.C (.fn zks [])))]), oE 5 (.un .not (.E 4)), vE 2 5]) .ret)
def zva : List RV := [.tmp [0] 2]
def ydl : List Nat := [0, 2]
def zvb : IC := .seq (.reg [oV 2 (.mv (kb false))]) (.seq (.reg [mV 3 0, oE 4 (.call zbx [([0], (.E 3)), ([0], (ki (-1099511627776))), ([0], (ki 1099511627776))]), vE 2 4]) .ret)
def zvc : List RV := [.tmp [0] 2]
def ydm : List Nat := [0, 1, 3, 4, 5, 6, 2]
def zoc : IC := .seq (.seq (.reg [mV 42 4, mV 43 3, oE 44 (.bin .lss (.E 42) (.E 43))]) (.cond (.E 44) .skip (.exit 0))) (.seq (.block 1 (.seq (.regD [(oE 47 (.faddr 0 (.V 1)), 0, 0), (oE 48 (.load false 1 (.E 47)), 0, 0), (mV 49 4, 0, 0), (oE 50 (.iaddr 1 (.E 48) (.E 49)), 0, 0), (oE 51 (.load false 1 (.E 50)), 0, 0), (oE 52 (.call zkt [([0], (.E 51))]), 0, 0), (oE 53 (.un .not (.E 52)), 0, 0), (oE 54 (.mv (.E 53)), 0, 0), (⟨(some (.E 55)), .faddr 0 (.V 1), some ((.E 54), false)⟩, 0, 0), (⟨(some (.E 56)), .load false 1 (.E 55), some ((.E 54), false)⟩, 0, 0), (⟨(some (.E 57)), .mv (.V 4), some ((.E 54), false)⟩, 0, 0), (⟨(some (.E 58)), .slice 1 (.E 56) none (some (.E 57)) none, some ((.E 54), false)⟩, 0, 0), (⟨(some (.E 59)), .faddr 0 (.V 1), some ((.E 54), false)⟩, 0, 0), (⟨(some (.E 60)), .load false 1 (.E 59), some ((.E 54), false)⟩, 0, 0), (⟨(some (.E 61)), .mv (.V 4), some ((.E 54), false)⟩, 0, 0), (⟨(some (.E 62)), .iaddr 1 (.E 60) (.E 61), some ((.E 54), false)⟩, 0, 0), (⟨(some (.E 63)), .load false 1 (.E 62), some ((.E 54), false)⟩, 0, 0), (⟨(some (.E 64)), .call zku [([1], (.E 58)), ([0], (.E 63))], some ((.E 54), false)⟩, 0, 0), (oE 65 (.pick (.E 54) (kb true) (.E 64)), 0, 0)]) (.cond (.E 65) (.seq (.reg [oV 2 (.mv (kb false))]) .ret) .skip))) (.reg [mV 45 4, oE 46 (.bin .add (.E 45) (ki 1)), vE 4 46]))
def zqj : IC := .seq (.seq (.reg [mV 90 6, mV 91 3, oE 92 (.bin .lss (.E 90) (.E 91))]) (.cond (.E 92) .skip (.exit 4))) (.seq (.block 5 (.seq (.reg [oE 95 (.faddr 2 (.V 1)), oE 96 (.load false 1 (.E 95)), mV 97 5, oE 98 (.iaddr 1 (.E 96) (.E 97)), oE 99 (.load false 1 (.E 98)), mV 100 6, oE 101 (.iaddr 1 (.E 99) (.E 100)), oE 102 (.load false 1 (.E 101)), oE 103 (.call zjc [([0], (.E 102))]), oE 104 (.un .not (.E 103))]) (.cond (.E 104) (.seq (.reg [oV 2 (.mv (kb false))]) .ret) .skip))) (.reg [mV 93 6, oE 94 (.bin .add (.E 93) (ki 1)), vE 6 94]))
def zod : IC := .seq (.seq (.reg [mV 66 5, oE 67 (.faddr 2 (.V 1)), oE 68 (.load false 1 (.E 67)), oE 69 (.len (.E 68)), oE 70 (.bin .lss (.E 66) (.E 69))]) (.cond (.E 70) .skip (.exit 2))) (.seq (.block 3 (.seq (.seq (.reg [oE 73 (.faddr 2 (.V 1)), oE 74 (.load false 1 (.E 73)), mV 75 5, oE 76 (.iaddr 1 (.E 74) (.E 75)), oE 77 (.load false 1 (.E 76)), oE 78 (.len (.E 77)), mV 79 3, oE 80 (.bin .neq (.E 78) (.E 79)), oE 81 (.mv (.E 80)), ⟨(some (.E 82)), .faddr 3 (.V 1), some ((.E 81), false)⟩, ⟨(some (.E 83)), .load false 1 (.E 82), some ((.E 81), false)⟩, ⟨(some (.E 84)), .mv (.V 5), some ((.E 81), false)⟩, ⟨(some (.E 85)), .iaddr 1 (.E 83) (.E 84), some ((.E 81), false)⟩, ⟨(some (.E 86)), .load false 1 (.E 85), some ((.E 81), false)⟩, ⟨(some (.E 87)), .call zjc [([0], (.E 86))], some ((.E 81), false)⟩, ⟨(some (.E 88)), .un .not (.E 87), some ((.E 81), false)⟩, oE 89 (.pick (.E 81) (kb true) (.E 88))]) (.cond (.E 89) (.seq (.reg [oV 2 (.mv (kb false))]) .ret) .skip)) (.seq (.reg [oV 6 (.mv (ki 0))]) (.block 4 (.loop zqj))))) (.reg [mV 71 5, oE 72 (.bin .add (.E 71) (ki 1)), vE 5 72]))
def zia : IC := .seq (.reg [oV 1 (.box (.V 0)), oV 2 (.mv (kb false))]) (.seq (.reg [oE 7 (.faddr 0 (.V 1)), oE 8 (.load false 1 (.E 7)), oE 9 (.len (.E 8)), vE 3 9]) (.seq (.seq (.reg [mV 10 3, oE 11 (.call zb7 [([0], (.E 10)), ([0], (ki 1)), ([0], (ki 4))]), oE 12 (.un .not (.E 11)), oE 13 (.mv (.E 12)), ⟨(some (.E 14)), .faddr 1 (.V 1), some ((.E 13), false)⟩, ⟨(some (.E 15)), .load false 1 (.E 14), some ((.E 13), false)⟩, ⟨(some (.E 16)), .call zkt [([0], (.E 15))], some ((.E 13), false)⟩, ⟨(some (.E 17)), .un .not (.E 16), some ((.E 13), false)⟩, oE 18 (.pick (.E 13) (kb true) (.E 17)), oE 19 (.mv (.E 18)), ⟨(some (.E 20)), .faddr 0 (.V 1), some ((.E 19), false)⟩, ⟨(some (.E 21)), .load false 1 (.E 20), some ((.E 19), false)⟩, ⟨(some (.E 22)), .faddr 1 (.V 1), some ((.E 19), false)⟩, ⟨(some (.E 23)), .load false 1 (.E 22), some ((.E 19), false)⟩, ⟨(some (.E 24)), .call zku [([1], (.E 21)), ([0], (.E 23))], some ((.E 19), false)⟩, oE 25 (.pick (.E 19) (kb true) (.E 24)), oE 26 (.mv (.E 25)), ⟨(some (.E 27)), .faddr 2 (.V 1), some ((.E 26), false)⟩, ⟨(some (.E 28)), .load false 1 (.E 27), some ((.E 26), false)⟩, ⟨(some (.E 29)), .len (.E 28), some ((.E 26), false)⟩, ⟨(some (.E 30)), .call zb7 [([0], (.E 29)), ([0], (ki 1)), ([0], (ki 40))], some ((.E 26), false)⟩, ⟨(some (.E 31)), .un .not (.E 30), some ((.E 26), false)⟩, oE 32 (.pick (.E 26) (kb true) (.E 31)), oE 33 (.mv (.E 32)), ⟨(some (.E 34)), .faddr 3 (.V 1), some ((.E 33), false)⟩, ⟨(some (.E 35)), .load false 1 (.E 34), some ((.E 33), false)⟩, ⟨(some (.E 36)), .len (.E 35), some ((.E 33), false)⟩, ⟨(some (.E 37)), .faddr 2 (.V 1), some ((.E 33), false)⟩, ⟨(some (.E 38)), .load false 1 (.E 37), some ((.E 33), false)⟩, ⟨(some (.E 39)), .len (.E 38), some ((.E 33), false)⟩, ⟨(some (.E 40)), .bin .neq (.E 36) (.E 39), some ((.E 33), false)⟩, oE 41 (.pick (.E 33) (kb true) (.E 40))]) (.cond (.E 41) (.seq (.reg [oV 2 (.mv (kb false))]) .ret) .skip)) (.seq (.seq (.reg [oV 4 (.mv (ki 0))]) (.block 0 (.loop zoc))) (.seq (.seq (.reg [oV 5 (.mv (ki 0))]) (.block 2 (.loop zod))) (.seq (.reg [oV 2 (.mv (kb true))]) .ret)))))
def zib : List RV := [.tmp [0] 2]
def ydn : List Nat := [0, 1, 6, 2, 5, 4]
def zxs : IC := .seq (.seq (.reg [mV 8 6, oE 9 (.faddr 2 (.V 2)), oE 10 (.load false 1 (.E 9)), oE 11 (.len (.E 10)), oE 12 (.bin .lss (.E 8) (.E 11)), oE 13 (.mv (.E 12)), ⟨(some (.E 14)), .mv (.V 1), some ((.E 13), true)⟩, ⟨(some (.E 15)), .faddr 0 (.V 2), some ((.E 13), true)⟩, ⟨(some (.E 16)), .load false 1 (.E 15), some ((.E 13), true)⟩, ⟨(some (.E 17)), .len (.E 16), some ((.E 13), true)⟩, ⟨(some (.E 18)), .bin .sub (.E 17) (ki 1), some ((.E 13), true)⟩, ⟨(some (.E 19)), .call zb7 [([0], (.E 14)), ([0], (ki 0)), ([0], (.E 18))], some ((.E 13), true)⟩, oE 20 (.pick (.E 13) (.E 19) (kb false))]) (.cond (.E 20) .skip (.exit 0))) (.seq (.block 1 (.seq (.reg [mV 23 1, oE 24 (.faddr 2 (.V 2)), oE 25 (.load false 1 (.E 24)), mV 26 6, oE 27 (.iaddr 1 (.E 25) (.E 26)), oE 28 (.load false 1 (.E 27)), oE 29 (.len (.E 28)), oE 30 (.bin .lss (.E 23) (.E 29))]) (.cond (.E 30) (.reg [mV 31 5, oE 32 (.faddr 2 (.V 2)), oE 33 (.load false 1 (.E 32)), mV 34 6, oE 35 (.iaddr 1 (.E 33) (.E 34)), oE 36 (.load false 1 (.E 35)), mV 37 1, oE 38 (.iaddr 1 (.E 36) (.E 37)), oE 39 (.load false 1 (.E 38)), oE 40 (.bslice 1 1 [iv 0] [(0, (.E 39))]), oE 41 (.app 8 1 (.E 31) (.E 40)), vE 5 41]) (.reg [mV 42 5, oE 43 (.bslice 1 1 [iv 0] [(0, (ki 0))]), oE 44 (.app 8 1 (.E 42) (.E 43)), vE 5 44])))) (.reg [mV 21 6, oE 22 (.bin .add (.E 21) (ki 1)), vE 6 22]))
def zvd : IC := .seq (.reg [oV 2 (.box (.V 0)), oV 4 (.mv (.C .e0))]) (.seq (.reg [oE 7 (.bslice 0 1 [iv 0] []), vE 5 7]) (.seq (.seq (.reg [oV 6 (.mv (ki 0))]) (.block 0 (.loop zxs))) (.seq (.reg [mV 45 5, vE 4 45]) .ret)))
def zve : List RV := [.tmp [1] 4]
def ydo : List Nat := [0, 1, 5, 8, 9, 6, 7, 4]
def zqk : IC := .seq (.seq (.reg [mV 24 8, mV 25 1, oE 26 (.bin .lss (.E 24) (.E 25))]) (.cond (.E 26) .skip (.exit 0))) (.seq (.block 1 (.seq (.reg [mV 29 5, mV 30 8, oE 31 (.bin .mul (.E 29) (.E 30)), mV 32 1, oE 33 (.bin .quo (.E 31) (.E 32)), vE 9 33]) (.seq (.regD [(mV 34 9, 0, 0), (oE 35 (.bin .geq (.E 34) (ki 1)), 0, 0), (oE 36 (.mv (.E 35)), 0, 0), (⟨(some (.E 37)), .mv (.V 6), some ((.E 36), true)⟩, 0, 0), (⟨(some (.E 38)), .mv (.V 9), some ((.E 36), true)⟩, 0, 0), (⟨(some (.E 39)), .bin .sub (.E 38) (ki 1), some ((.E 36), true)⟩, 0, 0), (⟨(some (.E 40)), .iaddr 1 (.E 37) (.E 39), some ((.E 36), true)⟩, 0, 0), (⟨(some (.E 41)), .load false 1 (.E 40), some ((.E 36), true)⟩, 0, 0), (⟨(some (.E 42)), .mv (.V 6), some ((.E 36), true)⟩, 0, 0), (⟨(some (.E 43)), .mv (.V 5), some ((.E 36), true)⟩, 0, 0), (⟨(some (.E 44)), .bin .sub (.E 43) (ki 1), some ((.E 36), true)⟩, 0, 0), (⟨(some (.E 45)), .iaddr 1 (.E 42) (.E 44), some ((.E 36), true)⟩, 0, 0), (⟨(some (.E 46)), .load false 1 (.E 45), some ((.E 36), true)⟩, 0, 0), (⟨(some (.E 47)), .bin .lss (.E 41) (.E 46), some ((.E 36), true)⟩, 0, 0), (oE 48 (.pick (.E 36) (.E 47) (kb false)), 0, 0)]) (.cond (.E 48) (.reg [mV 49 7, mV 50 6, mV 51 9, oE 52 (.bin .sub (.E 51) (ki 1)), oE 53 (.iaddr 1 (.E 50) (.E 52)), oE 54 (.load false 1 (.E 53)), oE 55 (.bslice 1 1 [iv 0] [(0, (.E 54))]), oE 56 (.app 8 1 (.E 49) (.E 55)), vE 7 56]) .skip)))) (.reg [mV 27 8, oE 28 (.bin .add (.E 27) (ki 1)), vE 8 28]))
def zvf : IC := .seq (.reg [oV 4 (.mv (.C .e0))]) (.seq (.reg [mV 10 0, oE 11 (.len (.E 10)), vE 5 11]) (.seq (.seq (.reg [mV 12 1, oE 13 (.call zb7 [([0], (.E 12)), ([0], (ki 2)), ([0], (ki 8))]), oE 14 (.un .not (.E 13)), oE 15 (.mv (.E 14)), ⟨(some (.E 16)), .mv (.V 5), some ((.E 15), false)⟩, ⟨(some (.E 17)), .call zb7 [([0], (.E 16)), ([0], (ki 1)), ([0], (ki 40))], some ((.E 15), false)⟩, ⟨(some (.E 18)), .un .not (.E 17), some ((.E 15), false)⟩, oE 19 (.pick (.E 15) (kb true) (.E 18))]) (.cond (.E 19) (.seq (.reg [oE 20 (.bslice 0 1 [iv 0] []), vE 4 20]) .ret) .skip)) (.seq (.reg [mV 21 0, oE 22 (.call zkv [([1], (.E 21))]), vE 6 22]) (.seq (.reg [oE 23 (.bslice 0 1 [iv 0] []), vE 7 23]) (.seq (.seq (.reg [oV 8 (.mv (ki 1))]) (.block 0 (.loop zqk))) (.seq (.reg [mV 57 7, oE 58 (.call zny [([1], (.E 57))]), vE 4 58]) .ret))))))
def zvg : List RV := [.tmp [1] 4]
def ydp : List Nat := [0, 1, 6, 5, 4]
def zvh : IC := .seq (.seq (.reg [mV 7 6, mV 8 0, oE 9 (.len (.E 8)), oE 10 (.bin .lss (.E 7) (.E 9))]) (.cond (.E 10) .skip (.exit 0))) (.seq (.block 1 (.seq (.reg [mV 13 0, mV 14 6, oE 15 (.iaddr 1 (.E 13) (.E 14)), oE 16 (.load false 1 (.E 15)), mV 17 1, oE 18 (.bin .lss (.E 16) (.E 17))]) (.cond (.E 18) (.reg [mV 19 5, oE 20 (.bin .add (.E 19) (ki 1)), vE 5 20]) .skip))) (.reg [mV 11 6, oE 12 (.bin .add (.E 11) (ki 1)), vE 6 12]))
def zvi : IC := .seq (.reg [oV 4 (.mv (ki 0))]) (.seq (.reg [oV 5 (.mv (ki 0))]) (.seq (.seq (.reg [oV 6 (.mv (ki 0))]) (.block 0 (.loop zvh))) (.seq (.reg [mV 21 5, vE 4 21]) .ret)))
def zvj : List RV := [.tmp [0] 4]
def ydq : List Nat := [0, 1, 6, 4, 5]
def zic : IC := .seq (.reg [oV 4 (.mv (ki 0)), oV 5 (.mv (kb false))]) (.seq (.reg [mV 7 0, mV 8 1, oE 9 (.bin .add (.E 7) (.E 8)), vE 6 9]) (.seq (.seq (.reg [mV 10 0, oE 11 (.bin .lss (.E 10) (ki 0)), mV 12 1, oE 13 (.bin .lss (.E 12) (ki 0)), oE 14 (.eqb false [.b] (.E 11) (.E 13)), oE 15 (.mv (.E 14)), ⟨(some (.E 16)), .mv (.V 6), some ((.E 15), true)⟩, ⟨(some (.E 17)), .bin .lss (.E 16) (ki 0), some ((.E 15), true)⟩, ⟨(some (.E 18)), .mv (.V 0), some ((.E 15), true)⟩, ⟨(some (.E 19)), .bin .lss (.E 18) (ki 0), some ((.E 15), true)⟩, ⟨(some (.E 20)), .eqb true [.b] (.E 17) (.E 19), some ((.E 15), true)⟩, oE 21 (.pick (.E 15) (.E 20) (kb false))]) (.cond (.E 21) (.seq (.reg [oV 4 (.mv (ki 0)), oV 5 (.mv (kb false))]) .ret) .skip)) (.seq (.reg [mV 22 6, vE 4 22, oV 5 (.mv (kb true))]) .ret)))
def zid : List RV := [.tmp [0] 4, .tmp [0] 5]
def ydr : List Nat := [0, 8, 7, 6, 5, 3, 2]
def z01 : IC := .seq (.reg [oE 9 (.bin .lss (.V 8) (.V 7))]) (.seq (.cond (.E 9) .skip (.exit 0)) (.seq (.block 1 (.seq (.reg [oE 10 (.iaddr 1 (.V 6) (.V 8)), oE 11 (.load false 1 (.E 10)), vE 5 11]) (.seq (.reg [mV 12 5, mV 13 3, oE 14 (.bin .neq (.E 12) (.E 13))]) (.cond (.E 14) (.seq (.reg [mV 15 5, vE 2 15]) .ret) .skip)))) (.reg [oE 16 (.bin .add (.V 8) (ki 1)), vE 8 16])))
def zvk : IC := .seq (.reg [oV 2 (.mv (ki 0))]) (.seq (.reg [oV 3 (.mv (ki 0))]) (.seq (.seq (.reg [oV 6 (.mv (.V 0)), oV 7 (.len (.V 6)), oV 8 (.mv (ki 0))]) (.block 0 (.loop z01))) (.seq (.reg [mV 17 3, vE 2 17]) .ret)))
def zvl : List RV := [.tmp [0] 2]
def yds : List Nat := [0, 1, 5, 6, 4]
def zoe : IC := .seq (.reg [oV 4 (.mv (ki 0))]) (.seq (.reg [mV 7 0, oE 8 (.call zkw [([0], (.E 7))]), vE 5 8]) (.seq (.reg [mV 9 1, oE 10 (.call zkw [([0], (.E 9))]), vE 6 10]) (.seq (.seq (.reg [mV 11 5]) (.cond (.E 11) (.seq (.seq (.reg [mV 12 6]) (.cond (.E 12) (.seq (.reg [oV 4 (.mv (ki 0))]) .ret) .skip)) (.seq (.reg [oV 4 (.mv (ki (-1)))]) .ret)) .skip)) (.seq (.seq (.reg [mV 13 6]) (.cond (.E 13) (.seq (.reg [oV 4 (.mv (ki 1))]) .ret) .skip)) (.seq (.seq (.reg [mV 14 0, mV 15 1, oE 16 (.bin .lss (.E 14) (.E 15))]) (.cond (.E 16) (.seq (.reg [oV 4 (.mv (ki (-1)))]) .ret) .skip)) (.seq (.seq (.reg [mV 17 0, mV 18 1, oE 19 (.bin .gtr (.E 17) (.E 18))]) (.cond (.E 19) (.seq (.reg [oV 4 (.mv (ki 1))]) .ret) .skip)) (.seq (.reg [oV 4 (.mv (ki 0))]) .ret)))))))
def zof : List RV := [.tmp [0] 4]
def ydt : List Nat := [0, 1, 2, 3, 4, 7, 8, 6, 11, 12, 10, 14, 5]
def zie : IC := .seq (.reg [oV 2 (.box (.V 0)), oV 3 (.box (.V 1)), oV 4 (.alloc [(.v (.bool false)), (.v (.int .u64 0)), (.v (.int .u64 0))]), oV 5 (.mv (kb false))]) (.seq (.seq (.reg [oE 15 (.load true 3 (.V 2)), oE 16 (.call zgn [([0, 0, 0], (.E 15))]), oE 17 (.un .not (.E 16)), oE 18 (.mv (.E 17)), ⟨(some (.E 19)), .load true 3 (.V 3), some ((.E 18), false)⟩, ⟨(some (.E 20)), .call zgn [([0, 0, 0], (.E 19))], some ((.E 18), false)⟩, ⟨(some (.E 21)), .un .not (.E 20), some ((.E 18), false)⟩, oE 22 (.pick (.E 18) (kb true) (.E 21))]) (.cond (.E 22) (.seq (.reg [oE 23 (.build [(.v (.bool false)), (.v (.int .u64 0)), (.v (.int .u64 0))] []), oN (.store [0, 0, 0] (.V 4) (.E 23)), oV 5 (.mv (kb false))]) .ret) .skip)) (.seq (.seq (.reg [oE 24 (.faddr 0 (.V 2)), oE 25 (.load false 1 (.E 24)), oE 26 (.faddr 0 (.V 3)), oE 27 (.load false 1 (.E 26)), oE 28 (.eqb true [.b] (.E 25) (.E 27))]) (.cond (.E 28) (.seq (.seq (.reg [oE 29 (.load true 3 (.V 2)), oE 30 (.load true 3 (.V 3)), oE 31 (.call zje [([0, 0, 0], (.E 29)), ([0, 0, 0], (.E 30))]), oE 32 (.bin .lss (.E 31) (ki 0))]) (.cond (.E 32) (.reg [oE 33 (.load true 3 (.V 3)), oE 34 (.load true 3 (.V 2)), oN (.store [0, 0, 0] (.V 2) (.E 33)), oN (.store [0, 0, 0] (.V 3) (.E 34))]) .skip)) (.seq (.reg [oE 36 (.faddr 2 (.V 2)), oE 37 (.load false 1 (.E 36)), oE 38 (.faddr 2 (.V 3)), oE 39 (.load false 1 (.E 38)), oE 40 (.call zjf [([0], (.E 37)), ([0], (.E 39)), ([0], (.C (.v (.int .u64 0))))]), oE 35 (.mv (.E 40)), xE 41 0 35, xE 42 1 35, vE 6 41, vE 7 42]) (.seq (.reg [oE 44 (.faddr 1 (.V 2)), oE 45 (.load false 1 (.E 44)), oE 46 (.faddr 1 (.V 3)), oE 47 (.load false 1 (.E 46)), mV 48 7, oE 49 (.call zjf [([0], (.E 45)), ([0], (.E 47)), ([0], (.E 48))]), oE 43 (.mv (.E 49)), xE 50 0 43, xE 51 1 43, vE 8 50, oE 9 (.mv (.E 51))]) (.seq (.reg [oE 52 (.faddr 0 (.V 2)), oE 53 (.load false 1 (.E 52)), mV 54 8, mV 55 6, oE 56 (.call zfx [([0], (.E 53)), ([0], (.E 54)), ([0], (.E 55))]), oN (.store [0, 0, 0] (.V 4) (.E 56)), oV 5 (.mv (kb true))]) .ret)))) .skip)) (.seq (.reg [oE 58 (.faddr 2 (.V 2)), oE 59 (.load false 1 (.E 58)), oE 60 (.faddr 2 (.V 3)), oE 61 (.load false 1 (.E 60)), oE 62 (.call zh6 [([0], (.E 59)), ([0], (.E 61)), ([0], (.C (.v (.int .u64 0))))]), oE 57 (.mv (.E 62)), xE 63 0 57, xE 64 1 57, vE 10 63, vE 11 64]) (.seq (.reg [oE 66 (.faddr 1 (.V 2)), oE 67 (.load false 1 (.E 66)), oE 68 (.faddr 1 (.V 3)), oE 69 (.load false 1 (.E 68)), mV 70 11, oE 71 (.call zh6 [([0], (.E 67)), ([0], (.E 69)), ([0], (.E 70))]), oE 65 (.mv (.E 71)), xE 72 0 65, xE 73 1 65, vE 12 72, oE 13 (.mv (.E 73))]) (.seq (.reg [oE 74 (.faddr 0 (.V 2)), oE 75 (.load false 1 (.E 74)), mV 76 12, mV 77 10, oE 78 (.call zfx [([0], (.E 75)), ([0], (.E 76)), ([0], (.E 77))]), oV 14 (.alloc [(.v (.bool false)), (.v (.int .u64 0)), (.v (.int .u64 0))]), oN (.store [0, 0, 0] (.V 14) (.E 78))]) (.seq (.seq (.reg [oE 79 (.load true 3 (.V 14)), oE 80 (.call zgn [([0, 0, 0], (.E 79))]), oE 81 (.un .not (.E 80))]) (.cond (.E 81) (.seq (.reg [oE 82 (.build [(.v (.bool false)), (.v (.int .u64 0)), (.v (.int .u64 0))] []), oN (.store [0, 0, 0] (.V 4) (.E 82)), oV 5 (.mv (kb false))]) .ret) .skip)) (.seq (.reg [oE 83 (.load true 3 (.V 14)), oN (.store [0, 0, 0] (.V 4) (.E 83)), oV 5 (.mv (kb true))]) .ret)))))))
def zif : List RV := [.cell [0, 0, 0] 4 true, .tmp [0] 5]
def ydu : List Nat := [0, 1, 2, 6, 4, 5]
def zvm : IC := .seq (.reg [oV 2 (.box (.V 0)), oV 4 (.alloc [(.v (.bool false)), (.v (.int .u64 0)), (.v (.int .u64 0)), iv 0]), oV 5 (.mv (kb false))]) (.seq (.reg [oE 7 (.load true 3 (.V 2)), mV 8 1, oE 9 (.build [(.v (.bool false)), (.v (.int .u64 0)), (.v (.int .u64 0)), iv 0] [(0, 3, (.E 7)), (3, 1, (.E 8))]), oV 6 (.alloc [(.v (.bool false)), (.v (.int .u64 0)), (.v (.int .u64 0)), iv 0]), oN (.store [0, 0, 0, 0] (.V 6) (.E 9))]) (.seq (.seq (.reg [oE 10 (.load true 4 (.V 6)), oE 11 (.call zjd [([0, 0, 0, 0], (.E 10))]), oE 12 (.un .not (.E 11))]) (.cond (.E 12) (.seq (.reg [oE 13 (.build [(.v (.bool false)), (.v (.int .u64 0)), (.v (.int .u64 0)), iv 0] []), oN (.store [0, 0, 0, 0] (.V 4) (.E 13)), oV 5 (.mv (kb false))]) .ret) .skip)) (.seq (.reg [oE 14 (.load true 4 (.V 6)), oN (.store [0, 0, 0, 0] (.V 4) (.E 14)), oV 5 (.mv (kb true))]) .ret)))
def zvn : List RV := [.cell [0, 0, 0, 0] 4 true, .tmp [0] 5]
def ydv : List Nat := [0, 1, 5, 6, 4]
def zvo : IC := .seq (.reg [oV 4 (.alloc [(.v (.bool false)), (.v (.int .u64 0)), (.v (.int .u64 0))])]) (.seq (.reg [mV 8 0, oE 9 (.call zjh [([0], (.E 8))]), mV 10 1, oE 11 (.call zjh [([0], (.E 10))]), oE 12 (.call zjg [([0], (.E 9)), ([0], (.E 11))]), oE 7 (.mv (.E 12)), xE 13 0 7, xE 14 1 7, vE 5 13, vE 6 14]) (.seq (.reg [mV 15 0, oE 16 (.bin .lss (.E 15) (ki 0)), mV 17 1, oE 18 (.bin .lss (.E 17) (ki 0)), oE 19 (.eqb true [.b] (.E 16) (.E 18)), mV 20 5, mV 21 6, oE 22 (.call zfx [([0], (.E 19)), ([0], (.E 20)), ([0], (.E 21))]), oN (.store [0, 0, 0] (.V 4) (.E 22))]) .ret))
def zvp : List RV := [.cell [0, 0, 0] 4 true]
def ydw : List Nat := [0, 1, 2]
def zvq : IC := .seq (.reg [oV 1 (.box (.V 0)), oV 2 (.mv (kb false))]) (.seq (.reg [oE 3 (.faddr 0 (.V 1)), oE 4 (.load true 3 (.E 3)), oE 5 (.call zgn [([0, 0, 0], (.E 4))]), oE 6 (.mv (.E 5)), ⟨(some (.E 7)), .faddr 3 (.V 1), some ((.E 6), true)⟩, ⟨(some (.E 8)), .load false 1 (.E 7), some ((.E 6), true)⟩, ⟨(some (.E 9)), .call zbx [([0], (.E 8)), ([0], (ki 1)), ([0], (ki 1000000))], some ((.E 6), true)⟩, oE 10 (.pick (.E 6) (.E 9) (kb false)), vE 2 10]) .ret)
def zvr : List RV := [.tmp [0] 2]
def ydx : List Nat := [0, 1, 2, 4, 6, 8, 9, 10, 7, 11, 12, 5]
def zgq : IC := .seq (.reg [oV 2 (.box (.V 0)), oV 4 (.alloc [(.v (.bool false)), (.v (.int .u64 0)), (.v (.int .u64 0))]), oV 5 (.mv (kb false))]) (.seq (.seq (.reg [oE 13 (.load true 3 (.V 2)), oE 14 (.call zgn [([0, 0, 0], (.E 13))]), oE 15 (.un .not (.E 14))]) (.cond (.E 15) (.seq (.reg [oE 16 (.build [(.v (.bool false)), (.v (.int .u64 0)), (.v (.int .u64 0))] []), oN (.store [0, 0, 0] (.V 4) (.E 16)), oV 5 (.mv (kb false))]) .ret) .skip)) (.seq (.reg [mV 17 1, oE 18 (.call zjh [([0], (.E 17))]), vE 6 18]) (.seq (.reg [oE 20 (.faddr 1 (.V 2)), oE 21 (.load false 1 (.E 20)), mV 22 6, oE 23 (.call zjg [([0], (.E 21)), ([0], (.E 22))]), oE 19 (.mv (.E 23)), xE 24 0 19, xE 25 1 19, vE 7 24, vE 8 25]) (.seq (.reg [oE 27 (.faddr 2 (.V 2)), oE 28 (.load false 1 (.E 27)), mV 29 6, oE 30 (.call zjg [([0], (.E 28)), ([0], (.E 29))]), oE 26 (.mv (.E 30)), xE 31 0 26, xE 32 1 26, vE 9 31, vE 10 32]) (.seq (.reg [mV 34 8, mV 35 9, oE 36 (.call zh6 [([0], (.E 34)), ([0], (.E 35)), ([0], (.C (.v (.int .u64 0))))]), oE 33 (.mv (.E 36)), xE 37 0 33, xE 38 1 33, vE 8 37, vE 11 38]) (.seq (.reg [oE 39 (.faddr 0 (.V 2)), oE 40 (.load false 1 (.E 39)), mV 41 1, oE 42 (.bin .lss (.E 41) (ki 0)), oE 43 (.eqb true [.b] (.E 40) (.E 42)), mV 44 8, mV 45 10, oE 46 (.call zfx [([0], (.E 43)), ([0], (.E 44)), ([0], (.E 45))]), oV 12 (.alloc [(.v (.bool false)), (.v (.int .u64 0)), (.v (.int .u64 0))]), oN (.store [0, 0, 0] (.V 12) (.E 46))]) (.seq (.seq (.reg [mV 47 7, oE 48 (.bin .gtr (.E 47) (.C (.v (.int .u64 0)))), oE 49 (.mv (.E 48)), ⟨(some (.E 50)), .mv (.V 11), some ((.E 49), false)⟩, ⟨(some (.E 51)), .bin .gtr (.E 50) (.C (.v (.int .u64 0))), some ((.E 49), false)⟩, oE 52 (.pick (.E 49) (kb true) (.E 51)), oE 53 (.mv (.E 52)), ⟨(some (.E 54)), .load true 3 (.V 12), some ((.E 53), false)⟩, ⟨(some (.E 55)), .call zgn [([0, 0, 0], (.E 54))], some ((.E 53), false)⟩, ⟨(some (.E 56)), .un .not (.E 55), some ((.E 53), false)⟩, oE 57 (.pick (.E 53) (kb true) (.E 56))]) (.cond (.E 57) (.seq (.reg [oE 58 (.build [(.v (.bool false)), (.v (.int .u64 0)), (.v (.int .u64 0))] []), oN (.store [0, 0, 0] (.V 4) (.E 58)), oV 5 (.mv (kb false))]) .ret) .skip)) (.seq (.reg [oE 59 (.load true 3 (.V 12)), oN (.store [0, 0, 0] (.V 4) (.E 59)), oV 5 (.mv (kb true))]) .ret))))))))
def zgr : List RV := [.cell [0, 0, 0] 4 true, .tmp [0] 5]
def ydy : List Nat := [0, 1, 2, 6]
def zog : IC := .seq (.reg [oV 6 (.alloc [(.v (.bool false)), (.v (.int .u64 0)), (.v (.int .u64 0))])]) (.seq (.reg [mV 7 0, oE 8 (.mv (.E 7)), ⟨(some (.E 9)), .mv (.V 1), some ((.E 8), true)⟩, ⟨(some (.E 10)), .bin .gtr (.E 9) (.C (.v (.int .u64 0))), some ((.E 8), true)⟩, ⟨(some (.E 11)), .mv (.E 10), some ((.E 8), true)⟩, ⟨(some (.E 12)), .mv (.V 2), some ((.E 11), false)⟩, ⟨(some (.E 13)), .bin .gtr (.E 12) (.C (.v (.int .u64 0))), some ((.E 11), false)⟩, ⟨(some (.E 14)), .pick (.E 11) (kb true) (.E 13), some ((.E 8), true)⟩, oE 15 (.pick (.E 8) (.E 14) (kb false)), mV 16 1, mV 17 2, oE 18 (.build [(.v (.bool false)), (.v (.int .u64 0)), (.v (.int .u64 0))] [(0, 1, (.E 15)), (1, 1, (.E 16)), (2, 1, (.E 17))]), oN (.store [0, 0, 0] (.V 6) (.E 18))]) .ret)
def zoh : List RV := [.cell [0, 0, 0] 6 true]
def ydz : List Nat := [0, 1, 2, 3, 4]
def zvs : IC := .seq (.reg [oV 2 (.box (.V 0)), oV 3 (.box (.V 1)), oV 4 (.mv (ki 0))]) (.seq (.regD [(oE 5 (.faddr 1 (.V 2)), 0, 0), (oE 6 (.load false 1 (.E 5)), 0, 0), (oE 7 (.faddr 1 (.V 3)), 0, 0), (oE 8 (.load false 1 (.E 7)), 0, 0), (oE 9 (.call zkx [([0], (.E 6)), ([0], (.E 8))]), 0, 0), (oE 10 (.faddr 2 (.V 2)), 1, 0), (oE 11 (.load false 1 (.E 10)), 1, 0), (oE 12 (.faddr 2 (.V 3)), 1, 0), (oE 13 (.load false 1 (.E 12)), 1, 0), (oE 14 (.call zkx [([0], (.E 11)), ([0], (.E 13))]), 0, 0), (oE 15 (.bslice 2 1 [iv 0] [(0, (.E 9)), (1, (.E 14))]), 0, 0), (oE 16 (.call zko [([1], (.E 15))]), 0, 0), (vE 4 16, 0, 0)]) .ret)
def zvt : List RV := [.tmp [0] 4]
def yd0 : List Nat := [0, 2]
def zvu : IC := .seq (.reg [oV 2 (.mv (kb false))]) (.seq (.reg [mV 3 0, oE 4 (.call znx [([0], (.E 3))]), oE 5 (.un .not (.E 4)), vE 2 5]) .ret)
def zvv : List RV := [.tmp [0] 2]
def yd1 : List Nat := [0, 2]
def zvw : IC := .seq (.reg [oV 2 (.mv (kb false))]) (.seq (.reg [mV 3 0, oE 4 (.call zbx [([0], (.E 3)), ([0], (ki (-2147483647))), ([0], (ki 2147483647))]), vE 2 4]) .ret)
def zvx : List RV := [.tmp [0] 2]
def yd2 : List Nat := [0, 3, 2]
def z02 : IC := .seq (.seq (.reg [mV 13 3, mV 14 0, oE 15 (.lenS (.E 14)), oE 16 (.bin .lss (.E 13) (.E 15))]) (.cond (.E 16) .skip (.exit 0))) (.seq (.block 1 (.seq (.reg [mV 19 0, mV 20 3, oE 21 (.idx (.E 19) (.E 20)), oE 22 (.convI .i64 (.E 21)), oE 23 (.call zb7 [([0], (.E 22)), ([0], (ki 97)), ([0], (ki 122))]), oE 24 (.un .not (.E 23)), oE 25 (.mv (.E 24)), ⟨(some (.E 26)), .mv (.V 0), some ((.E 25), true)⟩, ⟨(some (.E 27)), .mv (.V 3), some ((.E 25), true)⟩, ⟨(some (.E 28)), .idx (.E 26) (.E 27), some ((.E 25), true)⟩, ⟨(some (.E 29)), .convI .i64 (.E 28), some ((.E 25), true)⟩, ⟨(some (.E 30)), .call zb7 [([0], (.E 29)), ([0], (ki 48)), ([0], (ki 57))], some ((.E 25), true)⟩, ⟨(some (.E 31)), .un .not (.E 30), some ((.E 25), true)⟩, oE 32 (.pick (.E 25) (.E 31) (kb false))]) (.cond (.E 32) (.seq (.reg [oV 2 (.mv (kb false))]) .ret) .skip))) (.reg [mV 17 3, oE 18 (.bin .add (.E 17) (ki 1)), vE 3 18]))
def zoi : IC := .seq (.reg [oV 2 (.mv (kb false))]) (.seq (.seq (.reg [mV 4 0, oE 5 (.lenS (.E 4)), oE 6 (.call zb7 [([0], (.E 5)), ([0], (ki 1)), ([0], (ki 12))]), oE 7 (.un .not (.E 6)), oE 8 (.mv (.E 7)), ⟨(some (.E 9)), .mv (.V 0), some ((.E 8), false)⟩, ⟨(some (.E 10)), .idx (.E 9) (ki 0), some ((.E 8), false)⟩, ⟨(some (.E 11)), .bin .lss (.E 10) (.C (.v (.int .u8 97))), some ((.E 8), false)⟩, oE 12 (.pick (.E 8) (kb true) (.E 11))]) (.cond (.E 12) (.seq (.reg [oV 2 (.mv (kb false))]) .ret) .skip)) (.seq (.seq (.reg [oV 3 (.mv (ki 0))]) (.block 0 (.loop z02))) (.seq (.reg [oV 2 (.mv (kb true))]) .ret)))
def zoj : List RV := [.tmp [0] 2]
def yd3 : List Nat := [0, 1, 5, 4]
def z03 : IC := .seq (.seq (.reg [mV 6 5, mV 7 0, oE 8 (.len (.E 7)), oE 9 (.bin .lss (.E 6) (.E 8))]) (.cond (.E 9) .skip (.exit 0))) (.seq (.block 1 (.seq (.reg [mV 12 0, mV 13 5, oE 14 (.iaddr 1 (.E 12) (.E 13)), oE 15 (.load false 1 (.E 14)), mV 16 1, oE 17 (.bin .eql (.E 15) (.E 16))]) (.cond (.E 17) (.seq (.reg [oV 4 (.mv (kb true))]) .ret) .skip))) (.reg [mV 10 5, oE 11 (.bin .add (.E 10) (ki 1)), vE 5 11]))
def zvy : IC := .seq (.reg [oV 4 (.mv (kb false))]) (.seq (.seq (.reg [oV 5 (.mv (ki 0))]) (.block 0 (.loop z03))) (.seq (.reg [oV 4 (.mv (kb false))]) .ret))
def zvz : List RV := [.tmp [0] 4]
def yd4 : List Nat := [0, 4, 3, 5, 6, 2]
def zv0 : IC := .seq (.seq (.regD [(mV 16 5, 0, 0), (oE 17 (.bin .gtr (.E 16) (ki 0)), 0, 0), (oE 18 (.mv (.E 17)), 0, 0), (⟨(some (.E 19)), .mv (.V 3), some ((.E 18), true)⟩, 0, 0), (⟨(some (.E 20)), .mv (.V 5), some ((.E 18), true)⟩, 0, 0), (⟨(some (.E 21)), .bin .sub (.E 20) (ki 1), some ((.E 18), true)⟩, 0, 0), (⟨(some (.E 22)), .iaddr 1 (.E 19) (.E 21), some ((.E 18), true)⟩, 0, 0), (⟨(some (.E 23)), .load false 1 (.E 22), some ((.E 18), true)⟩, 0, 0), (⟨(some (.E 24)), .mv (.V 0), some ((.E 18), true)⟩, 0, 0), (⟨(some (.E 25)), .mv (.V 4), some ((.E 18), true)⟩, 0, 0), (⟨(some (.E 26)), .iaddr 1 (.E 24) (.E 25), some ((.E 18), true)⟩, 0, 0), (⟨(some (.E 27)), .load false 1 (.E 26), some ((.E 18), true)⟩, 0, 0), (⟨(some (.E 28)), .bin .gtr (.E 23) (.E 27), some ((.E 18), true)⟩, 0, 0), (oE 29 (.pick (.E 18) (.E 28) (kb false)), 0, 0)]) (.cond (.E 29) .skip (.exit 2))) (.block 3 (.reg [mV 30 5, oE 31 (.bin .sub (.E 30) (ki 1)), vE 5 31]))
def z04 : IC := .seq (.seq (.reg [mV 8 4, mV 9 0, oE 10 (.len (.E 9)), oE 11 (.bin .lss (.E 8) (.E 10))]) (.cond (.E 11) .skip (.exit 0))) (.seq (.block 1 (.seq (.reg [mV 14 3, oE 15 (.len (.E 14)), vE 5 15]) (.seq (.block 2 (.loop zv0)) (.seq (.regD [(oE 32 (.bslice 0 1 [iv 0] []), 0, 0), (mV 33 3, 0, 0), (mV 34 5, 0, 0), (oE 35 (.slice 1 (.E 33) none (some (.E 34)) none), 1, 0), (oE 36 (.app 8 1 (.E 32) (.E 35)), 0, 0), (mV 37 0, 0, 0), (mV 38 4, 0, 0), (oE 39 (.iaddr 1 (.E 37) (.E 38)), 2, 0), (oE 40 (.load false 1 (.E 39)), 2, 0), (oE 41 (.bsliceL 1 1 [iv 0] [(0, (.E 40))]), 0, 0), (oE 42 (.app 8 1 (.E 36) (.E 41)), 0, 0), (vE 6 42, 0, 0)]) (.reg [mV 43 6, mV 44 3, mV 45 5, oE 46 (.slice 1 (.E 44) (some (.E 45)) none none), oE 47 (.app 8 1 (.E 43) (.E 46)), vE 3 47]))))) (.reg [mV 12 4, oE 13 (.bin .add (.E 12) (ki 1)), vE 4 13]))
def zv1 : IC := .seq (.reg [oV 2 (.mv (.C .e0))]) (.seq (.reg [oE 7 (.bslice 0 1 [iv 0] []), vE 3 7]) (.seq (.seq (.reg [oV 4 (.mv (ki 0))]) (.block 0 (.loop z04))) (.seq (.reg [mV 48 3, vE 2 48]) .ret)))
def zv2 : List RV := [.tmp [1] 2]
def yd5 : List Nat := [0, 5, 4, 3, 2]
def zql : IC := .seq (.seq (.reg [mV 9 5, mV 10 4, oE 11 (.len (.E 10)), oE 12 (.bin .lss (.E 9) (.E 11))]) (.cond (.E 12) .skip (.exit 0))) (.seq (.block 1 (.seq (.regD [(mV 15 5, 0, 0), (oE 16 (.bin .eql (.E 15) (ki 0)), 0, 0), (oE 17 (.mv (.E 16)), 0, 0), (⟨(some (.E 18)), .mv (.V 4), some ((.E 17), false)⟩, 0, 0), (⟨(some (.E 19)), .mv (.V 5), some ((.E 17), false)⟩, 0, 0), (⟨(some (.E 20)), .iaddr 1 (.E 18) (.E 19), some ((.E 17), false)⟩, 0, 0), (⟨(some (.E 21)), .load false 1 (.E 20), some ((.E 17), false)⟩, 0, 0), (⟨(some (.E 22)), .mv (.V 4), some ((.E 17), false)⟩, 0, 0), (⟨(some (.E 23)), .mv (.V 5), some ((.E 17), false)⟩, 0, 0), (⟨(some (.E 24)), .bin .sub (.E 23) (ki 1), some ((.E 17), false)⟩, 0, 0), (⟨(some (.E 25)), .iaddr 1 (.E 22) (.E 24), some ((.E 17), false)⟩, 0, 0), (⟨(some (.E 26)), .load false 1 (.E 25), some ((.E 17), false)⟩, 0, 0), (⟨(some (.E 27)), .bin .neq (.E 21) (.E 26), some ((.E 17), false)⟩, 0, 0), (oE 28 (.pick (.E 17) (kb true) (.E 27)), 0, 0)]) (.cond (.E 28) (.reg [mV 29 3, mV 30 4, mV 31 5, oE 32 (.iaddr 1 (.E 30) (.E 31)), oE 33 (.load false 1 (.E 32)), oE 34 (.bslice 1 1 [iv 0] [(0, (.E 33))]), oE 35 (.app 8 1 (.E 29) (.E 34)), vE 3 35]) .skip))) (.reg [mV 13 5, oE 14 (.bin .add (.E 13) (ki 1)), vE 5 14]))
def zv3 : IC := .seq (.reg [oV 2 (.mv (.C .e0))]) (.seq (.reg [oE 6 (.bslice 0 1 [iv 0] []), vE 3 6]) (.seq (.reg [mV 7 0, oE 8 (.call zkv [([1], (.E 7))]), vE 4 8]) (.seq (.seq (.reg [oV 5 (.mv (ki 0))]) (.block 0 (.loop zql))) (.seq (.reg [mV 36 3, vE 2 36]) .ret))))
def zv4 : List RV := [.tmp [1] 2]
def yd6 : List Nat := [0, 2]
def zv5 : IC := .seq (.reg [oV 2 (.mv (kb false))]) (.seq (.reg [mV 3 0, mV 4 0, oE 5 (.bin .neq (.E 3) (.E 4)), vE 2 5]) .ret)
def zv6 : List RV := [.tmp [0] 2]
def yd7 : List Nat := [0, 1, 2]
def zle : IC := .seq (.reg [oV 1 (.box (.V 0)), oV 2 (.mv (kb false))]) (.seq (.reg [oE 3 (.faddr 1 (.V 1)), oE 4 (.load false 1 (.E 3)), oE 5 (.bin .lss (.E 4) (.C (.v (.int .u64 9223372036854775808)))), oE 6 (.mv (.E 5)), ⟨(some (.E 7)), .faddr 0 (.V 1), some ((.E 6), true)⟩, ⟨(some (.E 8)), .load false 1 (.E 7), some ((.E 6), true)⟩, ⟨(some (.E 9)), .un .not (.E 8), some ((.E 6), true)⟩, ⟨(some (.E 10)), .mv (.E 9), some ((.E 6), true)⟩, ⟨(some (.E 11)), .faddr 1 (.V 1), some ((.E 10), false)⟩, ⟨(some (.E 12)), .load false 1 (.E 11), some ((.E 10), false)⟩, ⟨(some (.E 13)), .bin .gtr (.E 12) (.C (.v (.int .u64 0))), some ((.E 10), false)⟩, ⟨(some (.E 14)), .pick (.E 10) (kb true) (.E 13), some ((.E 6), true)⟩, ⟨(some (.E 15)), .mv (.E 14), some ((.E 6), true)⟩, ⟨(some (.E 16)), .faddr 2 (.V 1), some ((.E 15), false)⟩, ⟨(some (.E 17)), .load false 1 (.E 16), some ((.E 15), false)⟩, ⟨(some (.E 18)), .bin .gtr (.E 17) (.C (.v (.int .u64 0))), some ((.E 15), false)⟩, ⟨(some (.E 19)), .pick (.E 15) (kb true) (.E 18), some ((.E 6), true)⟩, oE 20 (.pick (.E 6) (.E 19) (kb false)), vE 2 20]) .ret)
def zlf : List RV := [.tmp [0] 2]
def yd8 : List Nat := [0, 1, 6, 8, 7, 10, 11, 12, 9, 13, 4, 5]
def zv7 : IC := .seq (.reg [oV 4 (.mv (.C (.v (.int .u64 0)))), oV 5 (.mv (.C (.v (.int .u64 0))))]) (.seq (.reg [mV 14 0, oE 15 (.bin .and (.E 14) (.C (.v (.int .u64 4294967295)))), vE 6 15]) (.seq (.reg [mV 16 0, oE 17 (.bin .shr (.E 16) (.C (.v (.int .u64 32)))), vE 7 17]) (.seq (.reg [mV 18 1, oE 19 (.bin .and (.E 18) (.C (.v (.int .u64 4294967295)))), vE 8 19]) (.seq (.reg [mV 20 1, oE 21 (.bin .shr (.E 20) (.C (.v (.int .u64 32)))), vE 9 21]) (.seq (.reg [mV 22 6, mV 23 8, oE 24 (.bin .mul (.E 22) (.E 23)), vE 10 24]) (.seq (.reg [mV 25 7, mV 26 8, oE 27 (.bin .mul (.E 25) (.E 26)), mV 28 10, oE 29 (.bin .shr (.E 28) (.C (.v (.int .u64 32)))), oE 30 (.bin .add (.E 27) (.E 29)), vE 11 30]) (.seq (.reg [mV 31 11, oE 32 (.bin .and (.E 31) (.C (.v (.int .u64 4294967295)))), vE 12 32]) (.seq (.reg [mV 33 11, oE 34 (.bin .shr (.E 33) (.C (.v (.int .u64 32)))), vE 13 34]) (.seq (.reg [mV 35 12, mV 36 6, mV 37 9, oE 38 (.bin .mul (.E 36) (.E 37)), oE 39 (.bin .add (.E 35) (.E 38)), vE 12 39]) (.seq (.reg [mV 40 7, mV 41 9, oE 42 (.bin .mul (.E 40) (.E 41)), mV 43 13, oE 44 (.bin .add (.E 42) (.E 43)), mV 45 12, oE 46 (.bin .shr (.E 45) (.C (.v (.int .u64 32)))), oE 47 (.bin .add (.E 44) (.E 46)), vE 4 47]) (.seq (.reg [mV 48 0, mV 49 1, oE 50 (.bin .mul (.E 48) (.E 49)), vE 5 50]) .ret)))))))))))
def zv8 : List RV := [.tmp [0] 4, .tmp [0] 5]
def yd9 : List Nat := [0, 2]
def zv9 : IC := .seq (.reg [oV 2 (.mv (.C (.v (.int .u64 0))))]) (.seq (.seq (.reg [mV 3 0, oE 4 (.bin .lss (.E 3) (ki 0))]) (.cond (.E 4) (.seq (.reg [mV 5 0, oE 6 (.convI .u64 (.E 5)), oE 7 (.un .neg (.E 6)), vE 2 7]) .ret) .skip)) (.seq (.reg [mV 8 0, oE 9 (.convI .u64 (.E 8)), vE 2 9]) .ret))
def zwa : List RV := [.tmp [0] 2]
def yea : List Nat := [0, 1, 5, 6, 4]
def zok : IC := .seq (.reg [oV 4 (.mv (ki 0))]) (.seq (.reg [mV 7 0, oE 8 (.call zky [([0], (.E 7))]), vE 5 8]) (.seq (.reg [mV 9 1, oE 10 (.call zky [([0], (.E 9))]), vE 6 10]) (.seq (.seq (.reg [mV 11 5]) (.cond (.E 11) (.seq (.seq (.reg [mV 12 6]) (.cond (.E 12) (.seq (.reg [oV 4 (.mv (ki 0))]) .ret) .skip)) (.seq (.reg [oV 4 (.mv (ki (-1)))]) .ret)) .skip)) (.seq (.seq (.reg [mV 13 6]) (.cond (.E 13) (.seq (.reg [oV 4 (.mv (ki 1))]) .ret) .skip)) (.seq (.seq (.reg [mV 14 0, mV 15 1, oE 16 (.bin .lss (.E 14) (.E 15))]) (.cond (.E 16) (.seq (.reg [oV 4 (.mv (ki (-1)))]) .ret) .skip)) (.seq (.seq (.reg [mV 17 0, mV 18 1, oE 19 (.bin .gtr (.E 17) (.E 18))]) (.cond (.E 19) (.seq (.reg [oV 4 (.mv (ki 1))]) .ret) .skip)) (.seq (.reg [oV 4 (.mv (ki 0))]) .ret)))))))
def zol : List RV := [.tmp [0] 4]
def yeb : List Nat := [0, 2]
def zwb : IC := .seq (.reg [oV 2 (.mv (kb false))]) (.seq (.reg [mV 3 0, mV 4 0, oE 5 (.bin .neq (.E 3) (.E 4)), vE 2 5]) .ret)
def zwc : List RV := [.tmp [0] 2]
def tbl : List (Nat × Fun) := [
 (zpj, zaa znz zn0 []),
 (zme, zaa zr0 zr1 []),
 (zmf, zaa zn1 zn2 []),
 (zj2, zaa zr2 zr3 []),
 (zmg, zaa zr4 zr5 []),
 (zmh, zaa zr6 zr7 []),
 (zmi, zaa zkz zk0 []),
 (zi5, zaa zk1 zk2 []),
 (zi6, zaa zpk zpl []),
 (zmj, zaa zn3 zn4 []),
 (zmk, zaa zr8 zr9 []),
 (zml, zaa zsa zsb []),
 (zj3, zaa zpm zpn []),
 (zmm, zaa zsc zsd []),
 (zmn, zaa zsf zsg []),
 (zdn, zaa zsh zsi [true]),
 (zmo, zaa zpo zpp []),
 (zmp, zaa zsl zsm []),
 (zmq, zaa zso zsp []),
 (zb7, zaa zsq zsr []),
 (zj4, zaa zss zst []),
 (zj5, zaa zsu zsv []),
 (zmr, zaa zpq zpr []),
 (zj6, zaa zps zpt []),
 (zms, zaa zsw zsx []),
 (zmt, zaa zk4 zk5 []),
 (zmu, zaa zsy zsz []),
 (zh4, zaa zpu zpv []),
 (zj7, zaa zk7 zk8 []),
 (zh5, zaa zpw zpx []),
 (zhi, zaa zpy zpz []),
 (zj8, zaa zs0 zs1 []),
 (zbx, zaa zs2 zs3 []),
 (zmv, zaa zs4 zs5 []),
 (zmw, zaa zs6 zs7 []),
 (zi7, zaa zp0 zp1 []),
 (zmx, zaa zs8 zs9 []),
 (zmy, zaa zn6 zn7 []),
 (zmz, zaa zta ztb []),
 (zm0, zaa ztc ztd []),
 (zm1, zaa zte ztf []),
 (zm2, zaa zp3 zp4 []),
 (zm3, zaa zth zti []),
 (zj9, zaa ztj ztk [true]),
 (zbc, zaa zn8 zn9 [true]),
 (zm4, zaa ztm ztn [true]),
 (zd3, zaa zto ztp [true, true, true]),
 (zka, zaa zk9 zla [true]),
 (zm5, zaa zfy zfz [true]),
 (zm6, zaa zgo zgp [true]),
 (zm7, zaa zlb zlc [true]),
 (zm8, zaa zp5 zp6 []),
 (zkb, zaa ztq ztr []),
 (zm9, zaa ztt ztu []),
 (zna, zaa ztv ztw []),
 (zkc, zaa ztx zty []),
 (znb, zaa ztz zt0 []),
 (zi8, zaa zt1 zt2 []),
 (znc, zaa zt3 zt4 []),
 (zi9, zaa zp7 zp8 []),
 (zkd, zaa zt5 zt6 []),
 (znd, zaa zt7 zt8 []),
 (zne, zaa zt9 zua []),
 (znf, zaa zub zuc []),
 (zng, zaa zud zue []),
 (znh, zaa zuf zug []),
 (zke, zaa zuh zui []),
 (zkf, zaa zp9 zqa []),
 (zkg, zaa zuj zuk []),
 (zkh, zaa zul zum []),
 (zni, zaa zun zuo []),
 (zki, zaa zqb zqc []),
 (znj, zaa zup zuq []),
 (zkj, zaa zur zus []),
 (znk, zaa zuu zuv []),
 (znl, zaa zqe zji [true]),
 (zgm, zaa zqf zqg [true]),
 (zja, zaa zoa zob [true]),
 (zjb, zaa zux zuy []),
 (znm, zaa zuz zu0 []),
 (zkk, zaa zh8 zh9 []),
 (znn, zaa zqh zqi []),
 (zno, zaa zu1 zu2 []),
 (zkl, zaa zu3 zu4 []),
 (znp, zaa zu5 zu6 []),
 (zjc, zaa zu7 zu8 []),
 (znq, zaa zu9 zva []),
 (zkm, zaa zvb zvc []),
 (znr, zaa zia zib []),
 (zns, zaa zvd zve []),
 (znt, zaa zvf zvg []),
 (znu, zaa zvi zvj []),
 (zkn, zaa zic zid []),
 (zko, zaa zvk zvl []),
 (zkp, zaa zoe zof []),
 (znv, zaa zie zif []),
 (zkq, zaa zvm zvn []),
 (znw, zaa zvo zvp []),
 (zjd, zaa zvq zvr []),
 (zkr, zaa zgq zgr []),
 (zfx, zaa zog zoh []),
 (zje, zaa zvs zvt []),
 (zks, zaa zvu zvv []),
 (znx, zaa zvw zvx []),
 (zkt, zaa zoi zoj []),
 (zku, zaa zvy zvz []),
 (zkv, zaa zv1 zv2 []),
 (zny, zaa zv3 zv4 []),
 (zkw, zaa zv5 zv6 []),
 (zgn, zaa zle zlf []),
 (zjf, .ext zon),
 (zh6, .ext zo6),
 (zjg, zaa zv7 zv8 []),
 (zjh, zaa zv9 zwa []),
 (zkx, zaa zok zol []),
 (zky, zaa zwb zwc [])]
def T : zbu := fun f => (tbl.find? fun q => q.1 == f).map fun q => q.2
theorem zqm : T zpj = some (zaa znz zn0 []) := rfl
@[simp] theorem yq0 : zae T zpj = [] := zah zqm
theorem z05 : T zme = some (zaa zr0 zr1 []) := rfl
@[simp] theorem yq1 : zae T zme = [] := zah z05
theorem z06 : T zmf = some (zaa zn1 zn2 []) := rfl
@[simp] theorem yq2 : zae T zmf = [] := zah z06
theorem z07 : T zj2 = some (zaa zr2 zr3 []) := rfl
@[simp] theorem yq3 : zae T zj2 = [] := zah z07
theorem z08 : T zmg = some (zaa zr4 zr5 []) := rfl
@[simp] theorem yq4 : zae T zmg = [] := zah z08
theorem z09 : T zmh = some (zaa zr6 zr7 []) := rfl
@[simp] theorem yq5 : zae T zmh = [] := zah z09
theorem z1a : T zmi = some (zaa zkz zk0 []) := rfl
@[simp] theorem yq6 : zae T zmi = [] := zah z1a
theorem z1b : T zi5 = some (zaa zk1 zk2 []) := rfl
@[simp] theorem yq7 : zae T zi5 = [] := zah z1b
theorem zxt : T zi6 = some (zaa zpk zpl []) := rfl
@[simp] theorem yq8 : zae T zi6 = [] := zah zxt
theorem z1c : T zmj = some (zaa zn3 zn4 []) := rfl
@[simp] theorem yq9 : zae T zmj = [] := zah z1c
theorem z1d : T zmk = some (zaa zr8 zr9 []) := rfl
@[simp] theorem yra : zae T zmk = [] := zah z1d
theorem z1e : T zml = some (zaa zsa zsb []) := rfl
@[simp] theorem yrb : zae T zml = [] := zah z1e
theorem z1f : T zj3 = some (zaa zpm zpn []) := rfl
@[simp] theorem yrc : zae T zj3 = [] := zah z1f
theorem z1g : T zmm = some (zaa zsc zsd []) := rfl
@[simp] theorem yrd : zae T zmm = [] := zah z1g
theorem z1h : T zmn = some (zaa zsf zsg []) := rfl
@[simp] theorem yre : zae T zmn = [] := zah z1h
theorem z1i : T zdn = some (zaa zsh zsi [true]) := rfl
@[simp] theorem yrf : zae T zdn = [true] := zah z1i
theorem z1j : T zmo = some (zaa zpo zpp []) := rfl
@[simp] theorem yrg : zae T zmo = [] := zah z1j
theorem z1k : T zmp = some (zaa zsl zsm []) := rfl
@[simp] theorem yrh : zae T zmp = [] := zah z1k
theorem z1l : T zmq = some (zaa zso zsp []) := rfl
@[simp] theorem yri : zae T zmq = [] := zah z1l
theorem z1m : T zb7 = some (zaa zsq zsr []) := rfl
@[simp] theorem yrj : zae T zb7 = [] := zah z1m
theorem z1n : T zj4 = some (zaa zss zst []) := rfl
@[simp] theorem yrk : zae T zj4 = [] := zah z1n
theorem z1o : T zj5 = some (zaa zsu zsv []) := rfl
@[simp] theorem yrl : zae T zj5 = [] := zah z1o
theorem z1p : T zmr = some (zaa zpq zpr []) := rfl
@[simp] theorem yrm : zae T zmr = [] := zah z1p
theorem z1q : T zj6 = some (zaa zps zpt []) := rfl
@[simp] theorem yrn : zae T zj6 = [] := zah z1q
theorem z1r : T zms = some (zaa zsw zsx []) := rfl
@[simp] theorem yro : zae T zms = [] := zah z1r
theorem z1s : T zmt = some (zaa zk4 zk5 []) := rfl
@[simp] theorem yrp : zae T zmt = [] := zah z1s
theorem z1t : T zmu = some (zaa zsy zsz []) := rfl
@[simp] theorem yrq : zae T zmu = [] := zah z1t
theorem z1u : T zh4 = some (zaa zpu zpv []) := rfl
@[simp] theorem yrr : zae T zh4 = [] := zah z1u
theorem z1v : T zj7 = some (zaa zk7 zk8 []) := rfl
@[simp] theorem yrs : zae T zj7 = [] := zah z1v
theorem z1w : T zh5 = some (zaa zpw zpx []) := rfl
@[simp] theorem yrt : zae T zh5 = [] := zah z1w
theorem zxu : T zhi = some (zaa zpy zpz []) := rfl
@[simp] theorem yru : zae T zhi = [] := zah zxu
theorem z1x : T zj8 = some (zaa zs0 zs1 []) := rfl
@[simp] theorem yrv : zae T zj8 = [] := zah z1x
theorem z1y : T zbx = some (zaa zs2 zs3 []) := rfl
@[simp] theorem yrw : zae T zbx = [] := zah z1y
theorem z1z : T zmv = some (zaa zs4 zs5 []) := rfl
@[simp] theorem yrx : zae T zmv = [] := zah z1z
theorem z10 : T zmw = some (zaa zs6 zs7 []) := rfl
@[simp] theorem yry : zae T zmw = [] := zah z10
theorem z11 : T zi7 = some (zaa zp0 zp1 []) := rfl
@[simp] theorem yrz : zae T zi7 = [] := zah z11
theorem z12 : T zmx = some (zaa zs8 zs9 []) := rfl
@[simp] theorem yr0 : zae T zmx = [] := zah z12
theorem z13 : T zmy = some (zaa zn6 zn7 []) := rfl
@[simp] theorem yr1 : zae T zmy = [] := zah z13
theorem z14 : T zmz = some (zaa zta ztb []) := rfl
@[simp] theorem yr2 : zae T zmz = [] := zah z14
theorem z15 : T zm0 = some (zaa ztc ztd []) := rfl
@[simp] theorem yr3 : zae T zm0 = [] := zah z15
theorem z16 : T zm1 = some (zaa zte ztf []) := rfl
@[simp] theorem yr4 : zae T zm1 = [] := zah z16
theorem z17 : T zm2 = some (zaa zp3 zp4 []) := rfl
@[simp] theorem yr5 : zae T zm2 = [] := zah z17
theorem z18 : T zm3 = some (zaa zth zti []) := rfl
@[simp] theorem yr6 : zae T zm3 = [] := zah z18
theorem z19 : T zj9 = some (zaa ztj ztk [true]) := rfl
@[simp] theorem yr7 : zae T zj9 = [true] := zah z19
theorem z2a : T zbc = some (zaa zn8 zn9 [true]) := rfl
@[simp] theorem yr8 : zae T zbc = [true] := zah z2a
theorem z2b : T zm4 = some (zaa ztm ztn [true]) := rfl
@[simp] theorem yr9 : zae T zm4 = [true] := zah z2b
theorem z2c : T zd3 = some (zaa zto ztp [true, true, true]) := rfl
@[simp] theorem ysa : zae T zd3 = [true, true, true] := zah z2c
theorem z2d : T zka = some (zaa zk9 zla [true]) := rfl
@[simp] theorem ysb : zae T zka = [true] := zah z2d
theorem z2e : T zm5 = some (zaa zfy zfz [true]) := rfl
@[simp] theorem ysc : zae T zm5 = [true] := zah z2e
theorem z2f : T zm6 = some (zaa zgo zgp [true]) := rfl
@[simp] theorem ysd : zae T zm6 = [true] := zah z2f
theorem z2g : T zm7 = some (zaa zlb zlc [true]) := rfl
@[simp] theorem yse : zae T zm7 = [true] := zah z2g
theorem z2h : T zm8 = some (zaa zp5 zp6 []) := rfl
@[simp] theorem ysf : zae T zm8 = [] := zah z2h
theorem z2i : T zkb = some (zaa ztq ztr []) := rfl
@[simp] theorem ysg : zae T zkb = [] := zah z2i
theorem z2j : T zm9 = some (zaa ztt ztu []) := rfl
@[simp] theorem ysh : zae T zm9 = [] := zah z2j
theorem z2k : T zna = some (zaa ztv ztw []) := rfl
@[simp] theorem ysi : zae T zna = [] := zah z2k
theorem z2l : T zkc = some (zaa ztx zty []) := rfl
@[simp] theorem ysj : zae T zkc = [] := zah z2l
theorem z2m : T znb = some (zaa ztz zt0 []) := rfl
@[simp] theorem ysk : zae T znb = [] := zah z2m
theorem z2n : T zi8 = some (zaa zt1 zt2 []) := rfl
@[simp] theorem ysl : zae T zi8 = [] := zah z2n
theorem z2o : T znc = some (zaa zt3 zt4 []) := rfl
@[simp] theorem ysm : zae T znc = [] := zah z2o
theorem z2p : T zi9 = some (zaa zp7 zp8 []) := rfl
@[simp] theorem ysn : zae T zi9 = [] := zah z2p
theorem z2q : T zkd = some (zaa zt5 zt6 []) := rfl
@[simp] theorem yso : zae T zkd = [] := zah z2q
theorem z2r : T znd = some (zaa zt7 zt8 []) := rfl
@[simp] theorem ysp : zae T znd = [] := zah z2r
theorem z2s : T zne = some (zaa zt9 zua []) := rfl
@[simp] theorem ysq : zae T zne = [] := zah z2s
theorem z2t : T znf = some (zaa zub zuc []) := rfl
@[simp] theorem ysr : zae T znf = [] := zah z2t
theorem z2u : T zng = some (zaa zud zue []) := rfl
@[simp] theorem yss : zae T zng = [] := zah z2u
theorem z2v : T znh = some (zaa zuf zug []) := rfl
@[simp] theorem yst : zae T znh = [] := zah z2v
theorem z2w : T zke = some (zaa zuh zui []) := rfl
@[simp] theorem ysu : zae T zke = [] := zah z2w
theorem zxv : T zkf = some (zaa zp9 zqa []) := rfl
@[simp] theorem ysv : zae T zkf = [] := zah zxv
theorem z2x : T zkg = some (zaa zuj zuk []) := rfl
@[simp] theorem ysw : zae T zkg = [] := zah z2x
theorem z2y : T zkh = some (zaa zul zum []) := rfl
@[simp] theorem ysx : zae T zkh = [] := zah z2y
theorem z2z : T zni = some (zaa zun zuo []) := rfl
@[simp] theorem ysy : zae T zni = [] := zah z2z
theorem z20 : T zki = some (zaa zqb zqc []) := rfl
@[simp] theorem ysz : zae T zki = [] := zah z20
theorem z21 : T znj = some (zaa zup zuq []) := rfl
@[simp] theorem ys0 : zae T znj = [] := zah z21
theorem z22 : T zkj = some (zaa zur zus []) := rfl
@[simp] theorem ys1 : zae T zkj = [] := zah z22
theorem z23 : T znk = some (zaa zuu zuv []) := rfl
@[simp] theorem ys2 : zae T znk = [] := zah z23
theorem z24 : T znl = some (zaa zqe zji [true]) := rfl
@[simp] theorem ys3 : zae T znl = [true] := zah z24
theorem z25 : T zgm = some (zaa zqf zqg [true]) := rfl
@[simp] theorem ys4 : zae T zgm = [true] := zah z25
theorem z26 : T zja = some (zaa zoa zob [true]) := rfl
@[simp] theorem ys5 : zae T zja = [true] := zah z26
theorem z27 : T zjb = some (zaa zux zuy []) := rfl
@[simp] theorem ys6 : zae T zjb = [] := zah z27
theorem z28 : T znm = some (zaa zuz zu0 []) := rfl
@[simp] theorem ys7 : zae T znm = [] := zah z28
theorem z29 : T zkk = some (zaa zh8 zh9 []) := rfl
@[simp] theorem ys8 : zae T zkk = [] := zah z29
theorem z3a : T znn = some (zaa zqh zqi []) := rfl
@[simp] theorem ys9 : zae T znn = [] := zah z3a
theorem z3b : T zno = some (zaa zu1 zu2 []) := rfl
@[simp] theorem yta : zae T zno = [] := zah z3b
theorem z3c : T zkl = some (zaa zu3 zu4 []) := rfl
@[simp] theorem ytb : zae T zkl = [] := zah z3c
theorem z3d : T znp = some (zaa zu5 zu6 []) := rfl
@[simp] theorem ytc : zae T znp = [] := zah z3d
theorem z3e : T zjc = some (zaa zu7 zu8 []) := rfl
@[simp] theorem ytd : zae T zjc = [] := zah z3e
theorem z3f : T znq = some (zaa zu9 zva []) := rfl
@[simp] theorem yte : zae T znq = [] := zah z3f
theorem z3g : T zkm = some (zaa zvb zvc []) := rfl
@[simp] theorem ytf : zae T zkm = [] := zah z3g
theorem z3h : T znr = some (zaa zia zib []) := rfl
@[simp] theorem ytg : zae T znr = [] := zah z3h
theorem z3i : T zns = some (zaa zvd zve []) := rfl
@[simp] theorem yth : zae T zns = [] := zah z3i
theorem z3j : T znt = some (zaa zvf zvg []) := rfl
@[simp] theorem yti : zae T znt = [] := zah z3j
theorem z3k : T znu = some (zaa zvi zvj []) := rfl
@[simp] theorem ytj : zae T znu = [] := zah z3k
theorem z3l : T zkn = some (zaa zic zid []) := rfl
@[simp] theorem ytk : zae T zkn = [] := zah z3l
theorem z3m : T zko = some (zaa zvk zvl []) := rfl
@[simp] theorem ytl : zae T zko = [] := zah z3m
theorem z3n : T zkp = some (zaa zoe zof []) := rfl
@[simp] theorem ytm : zae T zkp = [] := zah z3n
theorem z3o : T znv = some (zaa zie zif []) := rfl
@[simp] theorem ytn : zae T znv = [] := zah z3o
theorem z3p : T zkq = some (zaa zvm zvn []) := rfl
@[simp] theorem yto : zae T zkq = [] := zah z3p
theorem z3q : T znw = some (zaa zvo zvp []) := rfl
@[simp] theorem ytp : zae T znw = [] := zah z3q
theorem z3r : T zjd = some (zaa zvq zvr []) := rfl
@[simp] theorem ytq : zae T zjd = [] := zah z3r
theorem z3s : T zkr = some (zaa zgq zgr []) := rfl
@[simp] theorem ytr : zae T zkr = [] := zah z3s
theorem z3t : T zfx = some (zaa zog zoh []) := rfl
@[simp] theorem yts : zae T zfx = [] := zah z3t
theorem z3u : T zje = some (zaa zvs zvt []) := rfl
@[simp] theorem ytt : zae T zje = [] := zah z3u
theorem z3v : T zks = some (zaa zvu zvv []) := rfl
@[simp] theorem ytu : zae T zks = [] := zah z3v
theorem z3w : T znx = some (zaa zvw zvx []) := rfl
@[simp] theorem ytv : zae T znx = [] := zah z3w
theorem z3x : T zkt = some (zaa zoi zoj []) := rfl
@[simp] theorem ytw : zae T zkt = [] := zah z3x
theorem z3y : T zku = some (zaa zvy zvz []) := rfl
@[simp] theorem ytx : zae T zku = [] := zah z3y
theorem z3z : T zkv = some (zaa zv1 zv2 []) := rfl
@[simp] theorem yty : zae T zkv = [] := zah z3z
theorem z30 : T zny = some (zaa zv3 zv4 []) := rfl
@[simp] theorem ytz : zae T zny = [] := zah z30
theorem z31 : T zkw = some (zaa zv5 zv6 []) := rfl
@[simp] theorem yt0 : zae T zkw = [] := zah z31
theorem z32 : T zgn = some (zaa zle zlf []) := rfl
@[simp] theorem yt1 : zae T zgn = [] := zah z32
theorem z33 : T zjf = some (.ext zon) := rfl
@[simp] theorem yt2 : zae T zjf = [] := rfl
theorem zxw : T zh6 = some (.ext zo6) := rfl
@[simp] theorem yt3 : zae T zh6 = [] := rfl
theorem z34 : T zjg = some (zaa zv7 zv8 []) := rfl
@[simp] theorem yt4 : zae T zjg = [] := zah z34
theorem z35 : T zjh = some (zaa zv9 zwa []) := rfl
@[simp] theorem yt5 : zae T zjh = [] := zah z35
theorem z36 : T zkx = some (zaa zok zol []) := rfl
@[simp] theorem yt6 : zae T zkx = [] := zah z36
theorem z37 : T zky = some (zaa zwb zwc []) := rfl
@[simp] theorem yt7 : zae T zky = [] := zah z37
end Go.Pe
