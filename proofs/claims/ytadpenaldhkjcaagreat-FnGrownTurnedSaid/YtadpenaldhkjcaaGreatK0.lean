/- The compact texts of the functions that the law reaches; no condition. -/
import Derived.Test.YtadpenaldhkjcaaGreatEvA0
set_option linter.all false
namespace Go.Pe
open Go
abbrev gE (n g:Nat) (b:Bool) (o:IOp):zab:=⟨some (.E n),o,some (.E g,b)⟩
abbrev gV (n g:Nat) (b:Bool) (o:IOp):zab:=⟨some (.V n),o,some (.E g,b)⟩
abbrev fV (n i k:Nat):zab:=⟨some (.E n),.faddr i (.V k),none⟩
abbrev fE (n i k:Nat):zab:=⟨some (.E n),.faddr i (.E k),none⟩
abbrev lE (n k:Nat):zab:=⟨some (.E n),.load false 1 (.E k),none⟩
abbrev tV (n i k:Nat):zab:=⟨some (.E n),.load true i (.V k),none⟩
abbrev tE (n i k:Nat):zab:=⟨some (.E n),.load true i (.E k),none⟩
abbrev iE (n i a b:Nat):zab:=⟨some (.E n),.iaddr i (.E a) (.E b),none⟩
abbrev nE (n k:Nat):zab:=⟨some (.E n),.len (.E k),none⟩
abbrev bE (n:Nat) (o:BinOp) (a b:Nat):zab:=⟨some (.E n),.bin o (.E a) (.E b),none⟩
abbrev wE (n k:Nat):zab:=⟨some (.E n),.mv (.E k),none⟩
def bs (l:List UInt8):ByteArray:=⟨l.toArray⟩
def zrq:Nat:=5
def zn2:Nat:=8
def zn3:Nat:=10
def zn4:Nat:=11
def zn5:Nat:=13
def zk9:Nat:=14
def zn6:Nat:=16
def zla:Nat:=17
def zlb:Nat:=18
def zlc:Nat:=19
def zj1:Nat:=20
def zn7:Nat:=21
def zn8:Nat:=22
def zn9:Nat:=25
def zoa:Nat:=46
def zee:Nat:=47
def zob:Nat:=50
def zoc:Nat:=51
def zod:Nat:=52
def zoe:Nat:=53
def zof:Nat:=54
def zog:Nat:=55
def zbt:Nat:=56
def zld:Nat:=57
def zle:Nat:=58
def zoh:Nat:=59
def zlf:Nat:=60
def zoi:Nat:=61
def zlg:Nat:=62
def zlh:Nat:=63
def zit:Nat:=64
def zli:Nat:=65
def ziu:Nat:=66
def zh7:Nat:=67
def zlj:Nat:=68
def zcd:Nat:=69
def zoj:Nat:=70
def zok:Nat:=71
def zj2:Nat:=72
def zol:Nat:=73
def zom:Nat:=74
def zon:Nat:=75
def zlk:Nat:=76
def zoo:Nat:=77
def zll:Nat:=78
def zop:Nat:=79
def zlm:Nat:=80
def zoq:Nat:=81
def zln:Nat:=82
def zor:Nat:=95
def zlo:Nat:=96
def zbm:Nat:=97
def zos:Nat:=98
def zeu:Nat:=99
def zlp:Nat:=100
def zot:Nat:=101
def zou:Nat:=102
def zov:Nat:=103
def zow:Nat:=104
def zlq:Nat:=105
def zox:Nat:=106
def zoy:Nat:=107
def zoz:Nat:=108
def ziv:Nat:=109
def zj3:Nat:=110
def zo0:Nat:=111
def zlr:Nat:=112
def zls:Nat:=113
def zo1:Nat:=114
def zj4:Nat:=115
def zo2:Nat:=116
def zj5:Nat:=117
def zlu:Nat:=118
def zo3:Nat:=119
def zo4:Nat:=120
def zo5:Nat:=121
def zo6:Nat:=122
def zo7:Nat:=123
def zlv:Nat:=124
def zlw:Nat:=125
def zlx:Nat:=126
def zly:Nat:=127
def zo8:Nat:=128
def zlz:Nat:=129
def zo9:Nat:=130
def zl0:Nat:=131
def zpa:Nat:=132
def zl1:Nat:=134
def zpb:Nat:=136
def zpc:Nat:=137
def zha:Nat:=138
def zj6:Nat:=139
def zj7:Nat:=140
def zpd:Nat:=141
def zl2:Nat:=142
def zj8:Nat:=143
def zpe:Nat:=144
def zpf:Nat:=145
def zj9:Nat:=146
def zpg:Nat:=147
def zph:Nat:=148
def zpi:Nat:=149
def zl3:Nat:=150
def zpj:Nat:=151
def zka:Nat:=152
def zpk:Nat:=153
def zl4:Nat:=154
def zpl:Nat:=155
def zl5:Nat:=157
def zpm:Nat:=158
def zpn:Nat:=159
def zpo:Nat:=160
def zpp:Nat:=161
def zpq:Nat:=162
def zl6:Nat:=163
def zl7:Nat:=164
def zl8:Nat:=165
def zl9:Nat:=166
def zpr:Nat:=167
def zkb:Nat:=168
def zps:Nat:=169
def zma:Nat:=170
def zpt:Nat:=171
def zkc:Nat:=172
def zmb:Nat:=173
def zgi:Nat:=174
def zkd:Nat:=175
def zmc:Nat:=176
def zpu:Nat:=177
def zpv:Nat:=178
def ziw:Nat:=179
def zpw:Nat:=180
def zmd:Nat:=181
def zix:Nat:=182
def zke:Nat:=183
def zme:Nat:=184
def zmf:Nat:=185
def zmg:Nat:=186
def zpx:Nat:=187
def zmh:Nat:=188
def zhb:Nat:=189
def zkf:Nat:=190
def ziy:Nat:=191
def zkg:Nat:=192
def zkh:Nat:=193
def zmi:Nat:=194
def zhc:Nat:=195
def zpy:Nat:=196
def zki:Nat:=197
def zkj:Nat:=198
def zmj:Nat:=199
def yhk:List Nat:=[0,3,4,5,7,9,11,10,13,6,12,14,15,16,2]
def z1g:IC := .seq (.seq (.reg [mV 54 11,mV 55 4,nE 56 55,bE 57 .lss 54 56]) (.cond (.E 57) .skip (.exit 0))) (.seq (.block 1 (.reg [mV 60 10,mV 61 4,mV 62 11,iE 63 1 61 62,lE 64 63,oE 65 (.un .neg (.E 64)),oE 66 (.bslice 1 1 [iv 0] [(0,(.E 65))]),oE 67 (.app 8 1 (.E 60) (.E 66)),vE 10 67])) (.reg [mV 58 11,oE 59 (.bin .add (.E 58) (ki 1)),vE 11 59]))
def zuk:IC := .seq (.seq (.reg [mV 86 14,fV 87 0 6,lE 88 87,nE 89 88,bE 90 .lss 86 89]) (.cond (.E 90) .skip (.exit 2))) (.seq (.block 3 (.seq (.reg [fV 93 0 6,lE 94 93,mV 95 14,iE 96 5 94 95,tE 97 5 96,oV 15 (.alloc [iv 0,iv 0,iv 0,iv 0,iv 0]),oN (.store [0,0,0,0,0] (.V 15) (.E 97))]) (.seq (.reg [fV 98 0 12,lE 99 98,mV 100 14,iE 101 5 99 100,tE 102 5 101,oV 16 (.alloc [iv 0,iv 0,iv 0,iv 0,iv 0]),oN (.store [0,0,0,0,0] (.V 16) (.E 102))]) (.seq (.reg [fV 103 0 15,lE 104 103,fV 105 0 16,lE 106 105,bE 107 .neq 104 106,wE 108 107,gE 109 108 .false (.faddr 1 (.V 15)),gE 110 108 .false (.load false 1 (.E 109)),gE 111 108 .false (.faddr 1 (.V 16)),gE 112 108 .false (.load false 1 (.E 111)),gE 113 108 .false (.bin .neq (.E 110) (.E 112)),oE 114 (.pick (.E 108) (kb true) (.E 113)),wE 115 114,gE 116 115 .false (.faddr 2 (.V 15)),gE 117 115 .false (.load false 1 (.E 116)),gE 118 115 .false (.faddr 2 (.V 16)),gE 119 115 .false (.load false 1 (.E 118)),gE 120 115 .false (.bin .neq (.E 117) (.E 119)),oE 121 (.pick (.E 115) (kb true) (.E 120)),wE 122 121,gE 123 122 .false (.faddr 0 (.V 15)),gE 124 122 .false (.load false 1 (.E 123)),gE 125 122 .false (.bin .lss (.E 124) (ki 0)),gE 126 122 .false (.mv (.E 125)),gE 127 126 .true (.faddr 4 (.V 15)),gE 128 126 .true (.load false 1 (.E 127)),gE 129 126 .true (.faddr 4 (.V 16)),gE 130 126 .true (.load false 1 (.E 129)),gE 131 126 .true (.bin .add (.E 128) (.E 130)),gE 132 126 .true (.bin .gtr (.E 131) (ki 0)),gE 133 126 .true (.mv (.E 132)),gE 134 133 .false (.faddr 4 (.V 15)),gE 135 133 .false (.load false 1 (.E 134)),gE 136 133 .false (.faddr 4 (.V 16)),gE 137 133 .false (.load false 1 (.E 136)),gE 138 133 .false (.bin .add (.E 135) (.E 137)),gE 139 133 .false (.bin .lss (.E 138) (ki (-1))),gE 140 126 .true (.pick (.E 133) (kb true) (.E 139)),gE 141 122 .false (.pick (.E 126) (.E 140) (kb false)),oE 142 (.pick (.E 122) (kb true) (.E 141))]) (.cond (.E 142) (.seq (.reg [oV 2 (.mv (kb false))]) .ret) .skip))))) (.reg [mV 91 14,oE 92 (.bin .add (.E 91) (ki 1)),vE 14 92]))
def zmk:IC := .seq (.reg [oV 2 (.mv (kb false))]) (.seq (.seq (.reg [mV 17 0,oE 18 (.call zn2 [([1],(.E 17))])]) (.cond (.E 18) (.seq (.reg [oV 2 (.mv (kb true))]) .ret) .skip)) (.seq (.reg [mV 20 0,oE 21 (.call zn6 [([1],(.E 20))]),wE 19 21,xE 22 0 19,xE 23 1 19,xE 24 2 19,oV 3 (.alloc [.e0,.e0]),oV 5 (.alloc [iv 0,iv 0,iv 0,iv 0,iv 0,iv 0,iv 0,.e0]),oN (.store [1,1] (.V 3) (.E 22)),vE 4 23,oN (.store [0,0,0,0,0,0,0,1] (.V 5) (.E 24))]) (.seq (.reg [tV 26 2 3,mV 27 4,tV 28 8 5,oE 29 (.call zlc [([1,1],(.E 26)),([1],(.E 27)),([0,0,0,0,0,0,0,1],(.E 28))]),wE 25 29,xE 30 0 25,xE 31 1 25,oV 6 (.alloc [.e0]),oN (.store [5] (.V 6) (.E 30)),vE 7 31]) (.seq (.reg [tV 33 2 3,mV 34 4,tV 35 8 5,oE 36 (.call zn9 [([1,1],(.E 33)),([1],(.E 34)),([0,0,0,0,0,0,0,1],(.E 35))]),wE 32 36,xE 37 0 32,xE 38 1 32,oE 8 (.alloc [.e0]),oN (.store [5] (.E 8) (.E 37)),vE 9 38]) (.seq (.seq (.reg [mV 39 7,mV 40 9,oE 41 (.eqb true [.b] (.E 39) (.E 40)),wE 42 41,gE 43 42 .false (.mv (.V 7)),gE 44 42 .false (.un .not (.E 43)),oE 45 (.pick (.E 42) (kb true) (.E 44))]) (.cond (.E 45) (.seq (.reg [mV 46 7,mV 47 9,oE 48 (.eqb false [.b] (.E 46) (.E 47)),vE 2 48]) .ret) .skip)) (.seq (.seq (.reg [fV 49 7 5,lE 50 49,nE 51 50,oE 52 (.bin .gtr (.E 51) (ki 0))]) (.cond (.E 52) (.seq (.reg [oV 2 (.mv (kb true))]) .ret) .skip)) (.seq (.reg [oE 53 (.bslice 0 1 [iv 0] []),vE 10 53]) (.seq (.seq (.reg [oV 11 (.mv (ki 0))]) (.block 0 (.loop z1g))) (.seq (.reg [tV 69 2 3,mV 70 10,tV 71 8 5,oE 72 (.call zlc [([1,1],(.E 69)),([1],(.E 70)),([0,0,0,0,0,0,0,1],(.E 71))]),wE 68 72,xE 73 0 68,xE 74 1 68,oV 12 (.alloc [.e0]),oN (.store [5] (.V 12) (.E 73)),vE 13 74]) (.seq (.seq (.reg [mV 75 13,oE 76 (.un .not (.E 75)),wE 77 76,gE 78 77 .false (.faddr 0 (.V 6)),gE 79 77 .false (.load false 1 (.E 78)),gE 80 77 .false (.len (.E 79)),gE 81 77 .false (.faddr 0 (.V 12)),gE 82 77 .false (.load false 1 (.E 81)),gE 83 77 .false (.len (.E 82)),gE 84 77 .false (.bin .neq (.E 80) (.E 83)),oE 85 (.pick (.E 77) (kb true) (.E 84))]) (.cond (.E 85) (.seq (.reg [oV 2 (.mv (kb false))]) .ret) .skip)) (.seq (.seq (.reg [oV 14 (.mv (ki 0))]) (.block 2 (.loop zuk))) (.seq (.reg [oV 2 (.mv (kb true))]) .ret))))))))))))
def zml:List RV:=[.tmp [0] 2]
def yhl:List Nat:=[0,2]
def zul:IC := .seq (.reg [oV 2 (.mv (kb false))]) (.seq (.reg [mV 3 0,nE 4 3,oE 5 (.bin .gtr (.E 4) (ki 1048576)),vE 2 5]) .ret)
def zum:List RV:=[.tmp [0] 2]
def yhm:List Nat:=[0,1,2,3,4,5,7,10,13,9,12,11]
def zpz:IC := .seq (.reg [oV 5 (.box (.V 0)),oV 7 (.box (.V 2)),oV 9 (.box (.V 4)),oV 10 (.alloc [iv 0,iv 0,iv 0,iv 0,iv 0,iv 0]),oV 11 (.mv (kb false))]) (.seq (.seq (.reg [tV 14 2 5,mV 15 1,tV 16 8 7,oE 17 (.call zlb [([1,1],(.E 14)),([1],(.E 15)),([0,0,0,0,0,0,0,1],(.E 16))]),oE 18 (.un .not (.E 17))]) (.cond (.E 18) (.seq (.reg [oE 19 (.build [iv 0,iv 0,iv 0,iv 0,iv 0,iv 0] []),oN (.store [0,0,0,0,0,0] (.V 10) (.E 19)),oV 11 (.mv (kb false))]) .ret) .skip)) (.seq (.reg [tV 21 2 5,mV 22 1,mV 23 3,oE 24 (.call zob [([1,1],(.E 21)),([1],(.E 22)),([1],(.E 23))]),wE 20 24,xE 25 0 20,xE 26 1 20,vE 12 25,vE 13 26]) (.seq (.seq (.reg [mV 27 13,oE 28 (.un .not (.E 27))]) (.cond (.E 28) (.seq (.reg [oE 29 (.build [iv 0,iv 0,iv 0,iv 0,iv 0,iv 0] []),oN (.store [0,0,0,0,0,0] (.V 10) (.E 29)),oV 11 (.mv (kb false))]) .ret) .skip)) (.seq (.regD [(tV 30 8 7,0,1),(tV 31 2 9,0,1),(mV 32 12,0,0),(fV 33 4 7,0,0),(lE 34 33,0,0),(oE 35 (.call zod [([1],(.E 32)),([0],(.E 34))]),0,0),(oE 36 (.call zoc [([0,0,0,0,0,0,0,1],(.E 30)),([0,0],(.E 31)),([6],(.E 35))]),0,0),(xE 37 0 36,0,0),(xE 38 1 36,0,0),(oN (.store [0,0,0,0,0,0] (.V 10) (.E 37)),0,0),(vE 11 38,0,0)]) .ret))))
def zp0:List RV:=[.cell [0,0,0,0,0,0] 10 true,.tmp [0] 11]
def yhn:List Nat:=[0,1,2,3,4,5,7,10,13,9,12,11]
def zp1:IC := .seq (.reg [oV 5 (.box (.V 0)),oV 7 (.box (.V 2)),oV 9 (.box (.V 4)),oV 10 (.alloc [iv 0,iv 0,iv 0,iv 0,iv 0,iv 0]),oV 11 (.mv (kb false))]) (.seq (.seq (.reg [tV 14 2 5,mV 15 1,tV 16 8 7,oE 17 (.call zla [([1,1],(.E 14)),([1],(.E 15)),([0,0,0,0,0,0,0,1],(.E 16))]),oE 18 (.un .not (.E 17))]) (.cond (.E 18) (.seq (.reg [oE 19 (.build [iv 0,iv 0,iv 0,iv 0,iv 0,iv 0] []),oN (.store [0,0,0,0,0,0] (.V 10) (.E 19)),oV 11 (.mv (kb false))]) .ret) .skip)) (.seq (.reg [tV 21 2 5,mV 22 1,mV 23 3,oE 24 (.call zoe [([1,1],(.E 21)),([1],(.E 22)),([1],(.E 23))]),wE 20 24,xE 25 0 20,xE 26 1 20,vE 12 25,vE 13 26]) (.seq (.seq (.reg [mV 27 13,oE 28 (.un .not (.E 27))]) (.cond (.E 28) (.seq (.reg [oE 29 (.build [iv 0,iv 0,iv 0,iv 0,iv 0,iv 0] []),oN (.store [0,0,0,0,0,0] (.V 10) (.E 29)),oV 11 (.mv (kb false))]) .ret) .skip)) (.seq (.regD [(tV 30 8 7,0,1),(tV 31 2 9,0,1),(mV 32 12,0,0),(fV 33 4 7,0,0),(lE 34 33,0,0),(oE 35 (.call zog [([1],(.E 32)),([0],(.E 34))]),0,0),(oE 36 (.call zof [([0,0,0,0,0,0,0,1],(.E 30)),([0,0],(.E 31)),([6],(.E 35))]),0,0),(xE 37 0 36,0,0),(xE 38 1 36,0,0),(oN (.store [0,0,0,0,0,0] (.V 10) (.E 37)),0,0),(vE 11 38,0,0)]) .ret))))
def zp2:List RV:=[.cell [0,0,0,0,0,0] 10 true,.tmp [0] 11]
def yho:List Nat:=[0,1,2,10,8,9,6,7]
def zrr:IC := .seq (.seq (.reg [mV 13 10,mV 14 1,nE 15 14,bE 16 .lss 13 15]) (.cond (.E 16) .skip (.exit 0))) (.seq (.block 1 (.block 2 (.seq (.reg [mV 27 1,mV 28 10,iE 29 1 27 28,lE 30 29,mV 31 0,nE 32 31,oE 33 (.bin .sub (.E 32) (ki 1)),oE 34 (.call zbt [([0],(.E 30)),([0],(ki 0)),([0],(.E 33))]),oE 35 (.un .not (.E 34)),wE 26 35]) (.cond (.E 26) .skip (.seq (.reg [mV 37 0,mV 38 1,mV 39 10,iE 40 1 38 39,lE 41 40,iE 42 1 37 41,lE 43 42,mV 44 2,bE 45 .leq 43 44,wE 36 45]) (.cond (.E 36) (.reg [mV 46 8,mV 47 1,mV 48 10,iE 49 1 47 48,lE 50 49,oE 51 (.bslice 1 1 [iv 0] [(0,(.E 50))]),oE 52 (.app 8 1 (.E 46) (.E 51)),vE 8 52]) (.reg [mV 19 9,mV 20 1,mV 21 10,iE 22 1 20 21,lE 23 22,oE 24 (.bslice 1 1 [iv 0] [(0,(.E 23))]),oE 25 (.app 8 1 (.E 19) (.E 24)),vE 9 25]))))))) (.reg [mV 17 10,oE 18 (.bin .add (.E 17) (ki 1)),vE 10 18]))
def zun:IC := .seq (.reg [oV 6 (.mv (.C .e0)),oV 7 (.mv (.C .e0))]) (.seq (.reg [oE 11 (.bslice 0 1 [iv 0] []),vE 8 11]) (.seq (.reg [oE 12 (.bslice 0 1 [iv 0] []),vE 9 12]) (.seq (.seq (.reg [oV 10 (.mv (ki 0))]) (.block 0 (.loop zrr))) (.seq (.reg [mV 53 8,mV 54 9,vE 6 53,vE 7 54]) .ret))))
def zuo:List RV:=[.tmp [1] 6,.tmp [1] 7]
def yhp:List Nat:=[0,1,2,3,4,5,9,7,8,6]
def zup:IC := .seq (.reg [oV 3 (.box (.V 0)),oV 4 (.box (.V 1)),oV 5 (.box (.V 2)),oV 6 (.mv (kb false))]) (.seq (.reg [tV 11 8 3,tV 12 2 4,tV 13 6 5,oE 14 (.call zld [([0,0,0,0,0,0,0,1],(.E 11)),([0,0],(.E 12)),([0,0,0,0,0,0],(.E 13))]),wE 10 14,xE 15 0 10,xE 16 1 10,xE 17 2 10,vE 7 15,vE 8 16,vE 9 17]) (.seq (.reg [tV 18 8 3,oE 19 (.call zle [([0,0,0,0,0,0,0,1],(.E 18))]),wE 20 19,gE 21 20 .true (.mv (.V 9)),oE 22 (.pick (.E 20) (.E 21) (kb false)),wE 23 22,gE 24 23 .true (.faddr 2 (.V 5)),gE 25 23 .true (.faddr 0 (.E 24)),gE 26 23 .true (.load false 1 (.E 25)),gE 27 23 .true (.faddr 4 (.V 3)),gE 28 23 .true (.load false 1 (.E 27)),gE 29 23 .true (.bin .geq (.E 26) (.E 28)),oE 30 (.pick (.E 23) (.E 29) (kb false)),wE 31 30,gE 32 31 .true (.faddr 4 (.V 5)),gE 33 31 .true (.faddr 0 (.E 32)),gE 34 31 .true (.load false 1 (.E 33)),gE 35 31 .true (.faddr 4 (.V 3)),gE 36 31 .true (.load false 1 (.E 35)),gE 37 31 .true (.bin .geq (.E 34) (.E 36)),oE 38 (.pick (.E 31) (.E 37) (kb false)),wE 39 38,gE 40 39 .true (.load true 8 (.V 3)),gE 41 39 .true (.faddr 0 (.V 5)),gE 42 39 .true (.load false 1 (.E 41)),gE 43 39 .true (.call zlf [([0,0,0,0,0,0,0,1],(.E 40)),([0],(.E 42))]),gE 44 39 .true (.mv (.V 7)),gE 45 39 .true (.mv (.V 8)),gE 46 39 .true (.call zoh [([0],(.E 43)),([0],(.E 44)),([0],(.E 45))]),oE 47 (.pick (.E 39) (.E 46) (kb false)),wE 48 47,gE 49 48 .true (.load true 6 (.V 5)),gE 50 48 .true (.faddr 3 (.V 3)),gE 51 48 .true (.load false 1 (.E 50)),gE 52 48 .true (.call zoi [([0,0,0,0,0,0],(.E 49)),([0],(.E 51))]),oE 53 (.pick (.E 48) (.E 52) (kb false)),vE 6 53]) .ret))
def zuq:List RV:=[.tmp [0] 6]
def yhq:List Nat:=[0,6,7,8,2,4,3]
def zur:IC := .seq (.reg [oV 2 (.alloc [.e0,.e0]),oV 3 (.mv (.C .e0)),oV 4 (.alloc [iv 0,iv 0,iv 0,iv 0,iv 0,iv 0,iv 0,.e0])]) (.seq (.reg [mV 10 0,oE 11 (.call zoa [([1],(.E 10))]),wE 9 11,xE 12 0 9,xE 13 1 9,xE 14 2 9,xE 15 3 9,oV 6 (.alloc [.e0,.e0]),oV 8 (.alloc [iv 0,iv 0,iv 0,iv 0,iv 0,iv 0,iv 0,.e0]),wE 5 12,oN (.store [1,1] (.V 6) (.E 13)),vE 7 14,oN (.store [0,0,0,0,0,0,0,1] (.V 8) (.E 15))]) (.seq (.regD [(tV 16 2 6,0,0),(mV 17 7,0,0),(tV 18 8 8,0,1),(oN (.store [1,1] (.V 2) (.E 16)),0,0),(vE 3 17,0,0),(oN (.store [0,0,0,0,0,0,0,1] (.V 4) (.E 18)),0,0)]) .ret))
def zus:List RV:=[.cell [1,1] 2 true,.tmp [1] 3,.cell [0,0,0,0,0,0,0,1] 4 true]
def yhr:List Nat:=[0,1,2,3,5,7,6]
def z42:IC := .seq (.seq (.reg [mV 23 7,mV 24 1,nE 25 24,bE 26 .lss 23 25]) (.cond (.E 26) .skip (.exit 0))) (.seq (.block 1 (.seq (.reg [mV 29 1,mV 30 7,iE 31 1 29 30,lE 32 31,oE 33 (.call zbt [([0],(.E 32)),([0],(ki (-2199023255552))),([0],(ki 2199023255552))]),oE 34 (.un .not (.E 33))]) (.cond (.E 34) (.seq (.reg [oV 6 (.mv (kb false))]) .ret) .skip))) (.reg [mV 27 7,oE 28 (.bin .add (.E 27) (ki 1)),vE 7 28]))
def zmm:IC := .seq (.reg [oV 3 (.box (.V 0)),oV 5 (.box (.V 2)),oV 6 (.mv (kb false))]) (.seq (.seq (.reg [tV 8 2 3,oE 9 (.call zlg [([1,1],(.E 8))]),oE 10 (.un .not (.E 9)),wE 11 10,gE 12 11 .false (.load true 8 (.V 5)),gE 13 11 .false (.call zlh [([0,0,0,0,0,0,0,1],(.E 12))]),gE 14 11 .false (.un .not (.E 13)),oE 15 (.pick (.E 11) (kb true) (.E 14)),wE 16 15,gE 17 16 .false (.mv (.V 1)),gE 18 16 .false (.len (.E 17)),gE 19 16 .false (.load true 2 (.V 3)),gE 20 16 .false (.call zit [([1,1],(.E 19))]),gE 21 16 .false (.bin .neq (.E 18) (.E 20)),oE 22 (.pick (.E 16) (kb true) (.E 21))]) (.cond (.E 22) (.seq (.reg [oV 6 (.mv (kb false))]) .ret) .skip)) (.seq (.seq (.reg [oV 7 (.mv (ki 0))]) (.block 0 (.loop z42))) (.seq (.reg [oV 6 (.mv (kb true))]) .ret)))
def zmn:List RV:=[.tmp [0] 6]
def yhs:List Nat:=[0,1,2,3,5,6]
def zmo:IC := .seq (.reg [oV 3 (.box (.V 0)),oV 5 (.box (.V 2)),oV 6 (.mv (kb false))]) (.seq (.reg [tV 7 2 3,oE 8 (.call zli [([1,1],(.E 7))]),wE 9 8,gE 10 9 .true (.load true 8 (.V 5)),gE 11 9 .true (.call zle [([0,0,0,0,0,0,0,1],(.E 10))]),oE 12 (.pick (.E 9) (.E 11) (kb false)),wE 13 12,gE 14 13 .true (.mv (.V 1)),gE 15 13 .true (.len (.E 14)),gE 16 13 .true (.load true 2 (.V 3)),gE 17 13 .true (.call ziu [([1,1],(.E 16))]),gE 18 13 .true (.bin .eql (.E 15) (.E 17)),oE 19 (.pick (.E 13) (.E 18) (kb false)),wE 20 19,gE 21 20 .true (.mv (.V 1)),gE 22 20 .true (.call zh7 [([1],(.E 21)),([0],(.C (.fn zlj [])))]),gE 23 20 .true (.un .not (.E 22)),oE 24 (.pick (.E 20) (.E 23) (kb false)),vE 6 24]) .ret)
def zmp:List RV:=[.tmp [0] 6]
def yht:List Nat:=[0,1,2,3,5,6,10,8,11,12,13,9,14,16,17,21,19,22,20,7]
def ziz:IC := .seq (.seq (.reg [mV 36 10,mV 37 8,nE 38 37,bE 39 .lss 36 38]) (.cond (.E 39) .skip (.exit 0))) (.seq (.block 1 (.seq (.reg [mV 42 8,mV 43 10,iE 44 4 42 43,tE 45 4 44,oV 11 (.alloc [.e0,iv 0,iv 0,iv 0]),oN (.store [1,0,0,0] (.V 11) (.E 45))]) (.seq (.reg [oE 46 (.build [iv 0,iv 0,iv 0,iv 0,iv 0,iv 0] []),oV 12 (.alloc [iv 0,iv 0,iv 0,iv 0,iv 0,iv 0]),oN (.store [0,0,0,0,0,0] (.V 12) (.E 46)),oV 13 (.mv (kb false))]) (.seq (.seq (.reg [fV 47 3 11,lE 48 47,fV 49 1 5,lE 50 49,bE 51 .lss 48 50]) (.cond (.E 51) (.reg [tV 53 2 3,mV 54 1,tV 55 8 5,fV 56 0 11,lE 57 56,fV 58 1 11,tE 59 2 58,oE 60 (.call zn3 [([1,1],(.E 53)),([1],(.E 54)),([0,0,0,0,0,0,0,1],(.E 55)),([1],(.E 57)),([0,0],(.E 59))]),wE 52 60,xE 61 0 52,xE 62 1 52,oN (.store [0,0,0,0,0,0] (.V 12) (.E 61)),vE 13 62]) .skip)) (.seq (.seq (.reg [mV 63 13,oE 64 (.un .not (.E 63))]) (.cond (.E 64) (.seq (.regD [(mV 66 1,0,0),(fV 67 0 11,0,0),(lE 68 67,0,0),(oE 69 (.call zol [([1],(.E 66)),([1],(.E 68))]),0,0),(fV 70 3 5,1,0),(lE 71 70,1,0),(fV 72 1 11,1,0),(tE 73 2 72,1,0),(oE 74 (.call zj2 [([0,0],(.E 69)),([0],(.E 71)),([0,0],(.E 73))]),0,0),(wE 65 74,0,0),(xE 75 0 65,0,0),(xE 76 1 65,0,0),(vE 14 75,0,0),(wE 15 76,0,0)]) (.seq (.reg [fV 77 0 9,lE 78 77,mV 79 14,oE 80 (.build [iv 0,iv 0,iv 0,iv 0,iv 0] [(0,1,(ki (-1))),(4,1,(.E 79))]),oE 81 (.bslice 1 5 [iv 0,iv 0,iv 0,iv 0,iv 0] [(0,(.E 80))]),oE 82 (.app 40 5 (.E 78) (.E 81)),fV 83 0 9,oN (.store [5] (.E 83) (.E 82))]) (.exit 1))) .skip)) (.seq (.reg [tV 85 8 5,fV 86 1 11,tE 87 2 86,tV 88 6 12,oE 89 (.call zld [([0,0,0,0,0,0,0,1],(.E 85)),([0,0],(.E 87)),([0,0,0,0,0,0],(.E 88))]),wE 84 89,xE 90 0 84,xE 91 1 84,xE 92 2 84,vE 16 90,vE 17 91,wE 18 92]) (.seq (.regD [(tV 94 8 5,0,0),(fV 95 0 12,0,0),(lE 96 95,0,0),(oE 97 (.call zlf [([0,0,0,0,0,0,0,1],(.E 94)),([0],(.E 96))]),0,0),(fV 98 1 11,1,0),(tE 99 2 98,1,0),(mV 100 16,0,0),(mV 101 17,0,0),(oE 102 (.call zom [([0],(.E 97)),([0,0],(.E 99)),([0],(.E 100)),([0],(.E 101))]),0,0),(wE 93 102,0,0),(xE 103 0 93,0,0),(xE 104 1 93,0,0),(oV 19 (.allocL [iv 0,iv 0]),0,0),(oV 20 (.allocL [iv 0,iv 0]),0,0),(oN (.store [0,0] (.V 19) (.E 103)),0,0),(oN (.store [0,0] (.V 20) (.E 104)),0,0)]) (.seq (.regD [(fV 106 1 3,0,0),(lE 107 106,0,0),(fV 108 0 12,0,0),(lE 109 108,0,0),(iE 110 1 107 109,0,0),(lE 111 110,0,0),(fV 112 0 11,0,0),(lE 113 112,0,0),(fV 114 1 12,0,0),(lE 115 114,0,0),(oE 116 (.call zon [([1],(.E 111)),([1],(.E 113)),([0],(.E 115))]),0,0),(wE 105 116,0,0),(xE 117 0 105,0,0),(xE 118 1 105,0,0),(vE 21 117,0,0),(vE 22 118,0,0)]) (.seq (.regD [(fV 119 0 9,0,1),(lE 120 119,0,1),(fV 121 0 12,0,0),(lE 122 121,0,0),(fV 123 0 3,0,0),(lE 124 123,0,0),(fV 125 0 12,0,0),(lE 126 125,0,0),(iE 127 1 124 126,0,0),(lE 128 127,0,0),(fV 129 1 12,0,0),(lE 130 129,0,0),(iE 131 1 128 130,0,0),(lE 132 131,0,0),(mV 133 8,0,0),(nE 134 133,0,0),(mV 135 8,0,0),(nE 136 135,0,0),(oE 137 (.bin .add (.E 136) (ki 1)),0,0),(oE 138 (.build [iv 0,iv 0,iv 0,iv 0,iv 0] [(0,1,(.E 122)),(1,1,(.E 132)),(2,1,(.E 134)),(3,1,(.E 137))]),0,0),(oE 139 (.bslice 1 5 [iv 0,iv 0,iv 0,iv 0,iv 0] [(0,(.E 138))]),0,0),(oE 140 (.app 40 5 (.E 120) (.E 139)),0,0),(fV 141 0 9,0,0),(oN (.store [5] (.E 141) (.E 140)),0,0)]) (.reg [mV 142 8,mV 143 21,tV 144 2 19,fV 145 3 11,lE 146 145,oE 147 (.bin .add (.E 146) (ki 1)),oE 148 (.build [.e0,iv 0,iv 0,iv 0] [(0,1,(.E 143)),(1,2,(.E 144)),(3,1,(.E 147))]),mV 149 22,tV 150 2 20,fV 151 3 11,lE 152 151,oE 153 (.bin .add (.E 152) (ki 1)),oE 154 (.build [.e0,iv 0,iv 0,iv 0] [(0,1,(.E 149)),(1,2,(.E 150)),(3,1,(.E 153))]),oE 155 (.bslice 2 4 [(.own 1 []),iv 0,iv 0,iv 0] [(0,(.E 148)),(1,(.E 154))]),oE 156 (.app 48 4 (.E 142) (.E 155)),vE 8 156])))))))))) (.reg [mV 40 10,oE 41 (.bin .add (.E 40) (ki 1)),vE 10 41]))
def zrs:IC := .seq (.reg [oV 3 (.box (.V 0)),oV 5 (.box (.V 2)),oV 6 (.alloc [.e0]),oV 7 (.mv (kb false))]) (.seq (.seq (.reg [tV 23 2 3,mV 24 1,tV 25 8 5,oE 26 (.call zlb [([1,1],(.E 23)),([1],(.E 24)),([0,0,0,0,0,0,0,1],(.E 25))]),oE 27 (.un .not (.E 26))]) (.cond (.E 27) (.seq (.reg [oE 28 (.build [.e0] []),oN (.store [5] (.V 6) (.E 28)),oV 7 (.mv (kb false))]) .ret) .skip)) (.seq (.reg [tV 29 2 3,oE 30 (.call ziu [([1,1],(.E 29))]),oE 31 (.call zoj [([0],(.E 30))]),oE 32 (.call zok []),oE 33 (.build [.e0,iv 0,iv 0,iv 0] [(0,1,(.E 31)),(1,2,(.E 32))]),oE 34 (.bslice 1 4 [(.own 1 []),iv 0,iv 0,iv 0] [(0,(.E 33))]),oE 35 (.build [.e0] []),oV 9 (.alloc [.e0]),vE 8 34,oN (.store [5] (.V 9) (.E 35))]) (.seq (.seq (.reg [oV 10 (.mv (ki 0))]) (.block 0 (.loop ziz))) (.seq (.reg [tV 157 1 9,oN (.store [5] (.V 6) (.E 157)),oV 7 (.mv (kb true))]) .ret))))
def zrt:List RV:=[.cell [5] 6 true,.tmp [0] 7]
def yhu:List Nat:=[0,1,2,3,5,8,6,7]
def zp3:IC := .seq (.reg [oV 3 (.box (.V 0)),oV 5 (.box (.V 2)),oV 6 (.mv (ki 0)),oV 7 (.mv (kb false))]) (.seq (.seq (.reg [fV 10 0 3,lE 11 10,oE 12 (.call zbt [([0],(.E 11)),([0],(ki 0)),([0],(ki 40))]),oE 13 (.un .not (.E 12)),wE 14 13,gE 15 14 .false (.mv (.V 1)),gE 16 14 .false (.call zbt [([0],(.E 15)),([0],(ki 1)),([0],(ki 100))]),gE 17 14 .false (.un .not (.E 16)),oE 18 (.pick (.E 14) (kb true) (.E 17)),wE 19 18,gE 20 19 .false (.load true 2 (.V 5)),gE 21 19 .false (.call zlk [([0,0],(.E 20))]),gE 22 19 .false (.un .not (.E 21)),oE 23 (.pick (.E 19) (kb true) (.E 22))]) (.cond (.E 23) (.seq (.reg [oV 6 (.mv (ki 0)),oV 7 (.mv (kb false))]) .ret) .skip)) (.seq (.reg [fV 25 1 3,lE 26 25,fV 27 0 3,lE 28 27,mV 29 1,bE 30 .add 28 29,oE 31 (.call zoo [([0],(.E 26)),([0],(.E 30))]),wE 24 31,xE 32 0 24,xE 33 1 24,vE 8 32,wE 9 33]) (.seq (.reg [mV 34 8,fV 35 0 5,lE 36 35,fV 37 1 5,lE 38 37,oE 39 (.call zll [([0],(.E 34)),([0],(.E 36)),([0],(.E 38))]),vE 6 39,oV 7 (.mv (kb true))]) .ret)))
def zp4:List RV:=[.tmp [0] 6,.tmp [0] 7]
def yhv:List Nat:=[0,4,3,2]
def z1h:IC := .seq (.seq (.reg [mV 6 4,mV 7 0,bE 8 .lss 6 7,wE 9 8,gE 10 9 .true (.mv (.V 0)),gE 11 9 .true (.bin .leq (.E 10) (ki 40)),oE 12 (.pick (.E 9) (.E 11) (kb false))]) (.cond (.E 12) .skip (.exit 0))) (.seq (.block 1 (.reg [mV 15 3,mV 16 4,oE 17 (.bslice 1 1 [iv 0] [(0,(.E 16))]),oE 18 (.app 8 1 (.E 15) (.E 17)),vE 3 18])) (.reg [mV 13 4,oE 14 (.bin .add (.E 13) (ki 1)),vE 4 14]))
def zut:IC := .seq (.reg [oV 2 (.mv (.C .e0))]) (.seq (.reg [oE 5 (.bslice 0 1 [iv 0] []),vE 3 5]) (.seq (.seq (.reg [oV 4 (.mv (ki 0))]) (.block 0 (.loop z1h))) (.seq (.reg [mV 19 3,vE 2 19]) .ret)))
def zuu:List RV:=[.tmp [1] 2]
def yhw:List Nat:=[0]
def zuv:IC := .seq (.reg [oV 0 (.alloc [iv 0,iv 0])]) (.seq (.reg [oE 1 (.build [iv 0,iv 0] [(0,1,(ki (-1099511627776))),(1,1,(ki 1099511627776))]),oN (.store [0,0] (.V 0) (.E 1))]) .ret)
def zuw:List RV:=[.cell [0,0] 0 true]
def yhx:List Nat:=[0,1,2,3,5,8,6,10,9,11,13,14,12,18,19,16,21,17,22,7]
def zi0:IC := .seq (.seq (.reg [mV 36 10,mV 37 9,nE 38 37,bE 39 .lss 36 38]) (.cond (.E 39) .skip (.exit 0))) (.seq (.block 1 (.seq (.reg [mV 42 9,mV 43 10,iE 44 4 42 43,tE 45 4 44,oV 11 (.alloc [.e0,iv 0,iv 0,iv 0]),oN (.store [1,0,0,0] (.V 11) (.E 45))]) (.seq (.reg [tV 47 2 3,mV 48 1,tV 49 8 5,fV 50 0 11,lE 51 50,fV 52 1 11,tE 53 2 52,oE 54 (.call zn4 [([1,1],(.E 47)),([1],(.E 48)),([0,0,0,0,0,0,0,1],(.E 49)),([1],(.E 51)),([0,0],(.E 53))]),wE 46 54,xE 55 0 46,xE 56 1 46,oV 12 (.alloc [iv 0,iv 0,iv 0,iv 0,iv 0,iv 0]),oN (.store [0,0,0,0,0,0] (.V 12) (.E 55)),vE 13 56]) (.seq (.seq (.reg [fV 57 3 11,lE 58 57,fV 59 1 5,lE 60 59,bE 61 .geq 58 60,wE 62 61,gE 63 62 .false (.mv (.V 13)),gE 64 62 .false (.un .not (.E 63)),oE 65 (.pick (.E 62) (kb true) (.E 64))]) (.cond (.E 65) (.seq (.regD [(mV 67 1,0,0),(fV 68 0 11,0,0),(lE 69 68,0,0),(oE 70 (.call zop [([1],(.E 67)),([1],(.E 69))]),0,0),(fV 71 3 5,1,0),(lE 72 71,1,0),(fV 73 1 11,1,0),(tE 74 2 73,1,0),(oE 75 (.call zj1 [([0,0],(.E 70)),([0],(.E 72)),([0,0],(.E 74))]),0,0),(wE 66 75,0,0),(xE 76 0 66,0,0),(xE 77 1 66,0,0),(vE 14 76,0,0),(wE 15 77,0,0)]) (.seq (.reg [fV 78 0 8,lE 79 78,mV 80 14,oE 81 (.build [iv 0,iv 0,iv 0,iv 0,iv 0] [(0,1,(ki (-1))),(4,1,(.E 80))]),oE 82 (.bslice 1 5 [iv 0,iv 0,iv 0,iv 0,iv 0] [(0,(.E 81))]),oE 83 (.app 40 5 (.E 79) (.E 82)),fV 84 0 8,oN (.store [5] (.E 84) (.E 83))]) (.exit 1))) .skip)) (.seq (.regD [(fV 86 1 3,0,0),(lE 87 86,0,0),(fV 88 0 12,0,0),(lE 89 88,0,0),(iE 90 1 87 89,0,0),(lE 91 90,0,0),(fV 92 0 11,0,0),(lE 93 92,0,0),(fV 94 1 12,0,0),(lE 95 94,0,0),(oE 96 (.call zn5 [([1],(.E 91)),([1],(.E 93)),([0],(.E 95))]),0,0),(wE 85 96,0,0),(xE 97 0 85,0,0),(xE 98 1 85,0,0),(vE 16 97,0,0),(vE 17 98,0,0)]) (.seq (.reg [tV 100 8 5,fV 101 1 11,tE 102 2 101,tV 103 6 12,oE 104 (.call zlm [([0,0,0,0,0,0,0,1],(.E 100)),([0,0],(.E 102)),([0,0,0,0,0,0],(.E 103))]),wE 99 104,xE 105 0 99,xE 106 1 99,xE 107 2 99,vE 18 105,vE 19 106,wE 20 107]) (.seq (.regD [(tV 109 8 5,0,0),(fV 110 0 12,0,0),(lE 111 110,0,0),(oE 112 (.call zln [([0,0,0,0,0,0,0,1],(.E 109)),([0],(.E 111))]),0,0),(fV 113 1 11,1,0),(tE 114 2 113,1,0),(mV 115 18,0,0),(mV 116 19,0,0),(oE 117 (.call zoq [([0],(.E 112)),([0,0],(.E 114)),([0],(.E 115)),([0],(.E 116))]),0,0),(wE 108 117,0,0),(xE 118 0 108,0,0),(xE 119 1 108,0,0),(oV 21 (.allocL [iv 0,iv 0]),0,0),(oV 22 (.allocL [iv 0,iv 0]),0,0),(oN (.store [0,0] (.V 21) (.E 118)),0,0),(oN (.store [0,0] (.V 22) (.E 119)),0,0)]) (.seq (.regD [(fV 120 0 8,0,1),(lE 121 120,0,1),(fV 122 0 12,0,0),(lE 123 122,0,0),(fV 124 0 3,0,0),(lE 125 124,0,0),(fV 126 0 12,0,0),(lE 127 126,0,0),(iE 128 1 125 127,0,0),(lE 129 128,0,0),(fV 130 1 12,0,0),(lE 131 130,0,0),(iE 132 1 129 131,0,0),(lE 133 132,0,0),(mV 134 9,0,0),(nE 135 134,0,0),(mV 136 9,0,0),(nE 137 136,0,0),(oE 138 (.bin .add (.E 137) (ki 1)),0,0),(oE 139 (.build [iv 0,iv 0,iv 0,iv 0,iv 0] [(0,1,(.E 123)),(1,1,(.E 133)),(2,1,(.E 135)),(3,1,(.E 138))]),0,0),(oE 140 (.bslice 1 5 [iv 0,iv 0,iv 0,iv 0,iv 0] [(0,(.E 139))]),0,0),(oE 141 (.app 40 5 (.E 121) (.E 140)),0,0),(fV 142 0 8,0,0),(oN (.store [5] (.E 142) (.E 141)),0,0)]) (.reg [mV 143 9,mV 144 16,tV 145 2 21,fV 146 3 11,lE 147 146,oE 148 (.bin .add (.E 147) (ki 1)),oE 149 (.build [.e0,iv 0,iv 0,iv 0] [(0,1,(.E 144)),(1,2,(.E 145)),(3,1,(.E 148))]),mV 150 17,tV 151 2 22,fV 152 3 11,lE 153 152,oE 154 (.bin .add (.E 153) (ki 1)),oE 155 (.build [.e0,iv 0,iv 0,iv 0] [(0,1,(.E 150)),(1,2,(.E 151)),(3,1,(.E 154))]),oE 156 (.bslice 2 4 [(.own 1 []),iv 0,iv 0,iv 0] [(0,(.E 149)),(1,(.E 155))]),oE 157 (.app 48 4 (.E 143) (.E 156)),vE 9 157]))))))))) (.reg [mV 40 10,oE 41 (.bin .add (.E 40) (ki 1)),vE 10 41]))
def zru:IC := .seq (.reg [oV 3 (.box (.V 0)),oV 5 (.box (.V 2)),oV 6 (.alloc [.e0]),oV 7 (.mv (kb false))]) (.seq (.reg [oE 23 (.build [.e0] []),oV 8 (.alloc [.e0]),oN (.store [5] (.V 8) (.E 23))]) (.seq (.seq (.reg [tV 24 2 3,mV 25 1,tV 26 8 5,oE 27 (.call zla [([1,1],(.E 24)),([1],(.E 25)),([0,0,0,0,0,0,0,1],(.E 26))]),oE 28 (.un .not (.E 27))]) (.cond (.E 28) (.seq (.reg [tV 29 1 8,oN (.store [5] (.V 6) (.E 29)),oV 7 (.mv (kb false))]) .ret) .skip)) (.seq (.reg [mV 30 1,nE 31 30,oE 32 (.call zn7 [([0],(.E 31))]),oE 33 (.call zn8 []),oE 34 (.build [.e0,iv 0,iv 0,iv 0] [(0,1,(.E 32)),(1,2,(.E 33))]),oE 35 (.bslice 1 4 [(.own 1 []),iv 0,iv 0,iv 0] [(0,(.E 34))]),vE 9 35]) (.seq (.seq (.reg [oV 10 (.mv (ki 0))]) (.block 0 (.loop zi0))) (.seq (.reg [tV 158 1 8,oN (.store [5] (.V 6) (.E 158)),oV 7 (.mv (kb true))]) .ret)))))
def zrv:List RV:=[.cell [5] 6 true,.tmp [0] 7]
def yhy:List Nat:=[0,6,7,10,8,9,11,12,3,5,2,4]
def zux:IC := .seq (.seq (.reg [mV 20 10,mV 21 8,bE 22 .lss 20 21]) (.cond (.E 22) .skip (.exit 0))) (.seq (.block 1 (.seq (.reg [mV 25 6,oE 26 (.call zbm [([0],(.E 25)),([0],(ki 41))]),oE 27 (.bin .sub (.E 26) (ki 20)),oE 28 (.bin .mul (ki 100) (.E 27)),mV 29 6,oE 30 (.call zbm [([0],(.E 29)),([0],(ki 3))]),bE 31 .add 28 30,vE 11 31]) (.seq (.seq (.reg [fV 32 1 7,lE 33 32,oE 34 (.iaddr 1 (.E 33) (ki 0)),lE 35 34,nE 36 35,mV 37 10,bE 38 .gtr 36 37,wE 39 38,gE 40 39 .true (.mv (.V 6)),gE 41 39 .true (.call zee [([0],(.E 40)),([0],(ki 4))]),gE 42 39 .true (.un .not (.E 41)),oE 43 (.pick (.E 39) (.E 42) (kb false))]) (.cond (.E 43) (.regD [(fV 44 1 7,0,1),(lE 45 44,0,1),(oE 46 (.iaddr 1 (.E 45) (ki 0)),0,1),(lE 47 46,0,1),(mV 48 10,0,0),(iE 49 1 47 48,0,1),(lE 50 49,0,1),(oE 51 (.bin .mul (ki 300) (.E 50)),0,0),(oE 52 (.bin .sub (.E 51) (ki 400)),0,0),(mV 53 6,0,0),(oE 54 (.call zbm [([0],(.E 53)),([0],(ki 4))]),0,0),(oE 55 (.bin .mul (ki 50) (.E 54)),0,0),(bE 56 .add 52 55,0,0),(vE 11 56,0,0)]) .skip)) (.reg [mV 57 9,mV 58 11,oE 59 (.bslice 1 1 [iv 0] [(0,(.E 58))]),oE 60 (.app 8 1 (.E 57) (.E 59)),vE 9 60])))) (.reg [mV 23 10,oE 24 (.bin .add (.E 23) (ki 1)),vE 10 24]))
def zuy:IC := .seq (.reg [oV 2 (.mv (.C (.v (.pointer none)))),oV 3 (.alloc [.e0,.e0]),oV 4 (.mv (.C .e0)),oV 5 (.alloc [iv 0,iv 0,iv 0,iv 0,iv 0,iv 0,iv 0,.e0])]) (.seq (.reg [mV 13 0,oE 14 (.call zor [([1],(.E 13))]),vE 6 14]) (.seq (.reg [mV 15 6,oE 16 (.call zlo [([0],(.E 15))]),oV 7 (.alloc [.e0,.e0]),oN (.store [1,1] (.V 7) (.E 16))]) (.seq (.reg [tV 17 2 7,oE 18 (.call zit [([1,1],(.E 17))]),vE 8 18]) (.seq (.reg [oE 19 (.bslice 0 1 [iv 0] []),vE 9 19]) (.seq (.seq (.reg [oV 10 (.mv (ki 0))]) (.block 0 (.loop zux))) (.seq (.seq (.reg [mV 61 6,oE 62 (.call zee [([0],(.E 61)),([0],(ki 12))])]) (.cond (.E 62) (.reg [mV 63 6,mV 64 8,oE 65 (.call zos [([0],(.E 63)),([0],(.E 64))]),vE 9 65]) .skip)) (.seq (.seq (.reg [mV 66 6,oE 67 (.call zee [([0],(.E 66)),([0],(ki 20))])]) (.cond (.E 67) (.reg [mV 68 9,mV 69 6,oE 70 (.bslice 3 1 [iv 0] [(0,(ki 0)),(1,(ki 2199023255552)),(2,(ki 2199023255553))]),oE 71 (.call zeu [([0],(.E 69)),([1],(.E 70))]),oE 72 (.bslice 1 1 [iv 0] [(0,(.E 71))]),oE 73 (.app 8 1 (.E 68) (.E 72)),vE 9 73]) .skip)) (.seq (.seq (.reg [mV 74 8,oE 75 (.bin .gtr (.E 74) (ki 0)),wE 76 75,gE 77 76 .true (.mv (.V 6)),gE 78 76 .true (.call zee [([0],(.E 77)),([0],(ki 20))]),oE 79 (.pick (.E 76) (.E 78) (kb false))]) (.cond (.E 79) (.reg [mV 80 9,mV 81 6,oE 82 (.bslice 4 1 [iv 0] [(0,(ki 2199023255552)),(1,(ki 2199023255553)),(2,(ki (-2199023255552))),(3,(ki (-2199023255553)))]),oE 83 (.call zeu [([0],(.E 81)),([1],(.E 82))]),oE 84 (.iaddr 1 (.E 80) (ki 0)),oN (.store [0] (.E 84) (.E 83))]) .skip)) (.seq (.reg [mV 85 6,oE 86 (.call zlp [([0],(.E 85))]),oV 12 (.alloc [iv 0,iv 0,iv 0,iv 0,iv 0,iv 0,iv 0,.e0]),oN (.store [0,0,0,0,0,0,0,1] (.V 12) (.E 86))]) (.seq (.seq (.reg [mV 87 6,oE 88 (.call zee [([0],(.E 87)),([0],(ki 20))])]) (.cond (.E 88) (.reg [mV 89 6,oE 90 (.call zot [([0],(.E 89))]),oN (.store [0,0,0,0,0,0,0,1] (.V 12) (.E 90))]) .skip)) (.seq (.seq (.reg [mV 91 6,oE 92 (.call zee [([0],(.E 91)),([0],(ki 20))])]) (.cond (.E 92) (.reg [mV 93 6,oE 94 (.call zou [([0],(.E 93))]),oN (.store [1,1] (.V 7) (.E 94))]) .skip)) (.seq (.regD [(mV 95 6,0,0),(tV 96 2 7,0,0),(mV 97 9,0,0),(tV 98 8 12,0,1),(vE 2 95,0,0),(oN (.store [1,1] (.V 3) (.E 96)),0,0),(vE 4 97,0,0),(oN (.store [0,0,0,0,0,0,0,1] (.V 5) (.E 98)),0,0)]) .ret))))))))))))
def zuz:List RV:=[.tmp [0] 2,.cell [1,1] 3 true,.tmp [1] 4,.cell [0,0,0,0,0,0,0,1] 5 true]
def yhz:List Nat:=[0,1,4]
def zu0:IC := .seq (.reg [oV 4 (.mv (kb false))]) (.seq (.reg [mV 5 0,mV 6 1,oE 7 (.call zbm [([0],(.E 5)),([0],(.E 6))]),oE 8 (.bin .eql (.E 7) (ki 0)),vE 4 8]) .ret)
def zu1:List RV:=[.tmp [0] 4]
def yh0:List Nat:=[0,1,2,3,20,19,18,9,10,12,8,11,6,7]
def zu2:IC := .seq (.reg [oE 21 (.bin .lss (.V 20) (.V 19))]) (.seq (.cond (.E 21) .skip (.exit 0)) (.seq (.block 1 (.seq (.reg [mV 22 20,oE 23 (.iaddr 1 (.V 18) (.V 20)),lE 24 23,vE 9 22,vE 10 24]) (.seq (.reg [fV 26 1 3,lE 27 26,mV 28 9,iE 29 1 27 28,lE 30 29,mV 31 1,mV 32 2,mV 33 10,nE 34 33,oE 35 (.bin .add (.E 34) (ki 1)),oE 36 (.call zow [([1],(.E 30)),([1],(.E 31)),([1],(.E 32)),([0],(.E 35))]),wE 25 36,xE 37 0 25,xE 38 1 25,vE 11 37,vE 12 38]) (.seq (.seq (.reg [mV 39 12,oE 40 (.un .not (.E 39))]) (.cond (.E 40) (.seq (.reg [oV 6 (.mv (.C .e0)),oV 7 (.mv (kb false))]) .ret) .skip)) (.reg [mV 41 8,mV 42 11,oE 43 (.bslice 1 1 [(.own 2 [])] [(0,(.E 42))]),oE 44 (.app 24 1 (.E 41) (.E 43)),vE 8 44]))))) (.reg [oE 45 (.bin .add (.V 20) (ki 1)),vE 20 45])))
def zrw:IC := .seq (.reg [oV 3 (.box (.V 0)),oV 6 (.mv (.C .e0)),oV 7 (.mv (kb false))]) (.seq (.seq (.reg [tV 13 2 3,oE 14 (.call zli [([1,1],(.E 13))]),oE 15 (.un .not (.E 14))]) (.cond (.E 15) (.seq (.reg [oV 6 (.mv (.C .e0)),oV 7 (.mv (kb false))]) .ret) .skip)) (.seq (.reg [oE 16 (.bslice 0 1 [(.own 2 [])] []),vE 8 16]) (.seq (.seq (.reg [fV 17 0 3,oV 18 (.load false 1 (.E 17)),oV 19 (.len (.V 18)),oV 20 (.mv (ki 0))]) (.block 0 (.loop zu2))) (.seq (.reg [mV 46 8,vE 6 46,oV 7 (.mv (kb true))]) .ret))))
def zrx:List RV:=[.tmp [1] 6,.tmp [0] 7]
def yh1:List Nat:=[0,1,2,19,18,17,3,4,10,8,34,33,32,41,40,39,13,14,11,15,12,6,7]
def zu3:IC := .seq (.reg [oE 20 (.bin .lss (.V 19) (.V 18))]) (.seq (.cond (.E 20) .skip (.exit 0)) (.seq (.block 1 (.seq (.reg [oE 21 (.iaddr 6 (.V 17) (.V 19)),tE 22 6 21,oV 10 (.alloc [iv 0,iv 0,iv 0,iv 0,iv 0,iv 0]),oN (.store [0,0,0,0,0,0] (.V 10) (.E 22))]) (.seq (.reg [tV 23 8 3,tV 24 2 4,tV 25 6 10,oE 26 (.call zk9 [([0,0,0,0,0,0,0,1],(.E 23)),([0,0],(.E 24)),([0,0,0,0,0,0],(.E 25))])]) (.cond (.E 26) (.reg [mV 27 8,tV 28 6 10,oE 29 (.bslice 1 6 [iv 0,iv 0,iv 0,iv 0,iv 0,iv 0] [(0,(.E 28))]),oE 30 (.app 48 6 (.E 27) (.E 29)),vE 8 30]) .skip)))) (.reg [oE 31 (.bin .add (.V 19) (ki 1)),vE 19 31])))
def zmq:IC := .seq (.reg [oE 42 (.bin .lss (.V 41) (.V 40))]) (.seq (.cond (.E 42) .skip (.exit 4)) (.seq (.block 5 (.seq (.reg [mV 43 41,oE 44 (.iaddr 6 (.V 39) (.V 41)),tE 45 6 44,oV 15 (.alloc [iv 0,iv 0,iv 0,iv 0,iv 0,iv 0]),vE 14 43,oN (.store [0,0,0,0,0,0] (.V 15) (.E 45))]) (.reg [mV 46 13,wE 47 46,gE 48 47 .true (.mv (.V 14)),gE 49 47 .true (.mv (.V 11)),gE 50 47 .true (.bin .eql (.E 48) (.E 49)),gE 51 47 .true (.mv (.E 50)),gE 52 51 .false (.load true 6 (.V 15)),gE 53 51 .false (.load true 6 (.V 12)),gE 54 51 .false (.faddr 3 (.V 3)),gE 55 51 .false (.load false 1 (.E 54)),gE 56 51 .false (.call zlq [([0,0,0,0,0,0],(.E 52)),([0,0,0,0,0,0],(.E 53)),([0],(.E 55))]),gE 57 51 .false (.un .not (.E 56)),gE 58 47 .true (.pick (.E 51) (kb true) (.E 57)),oE 59 (.pick (.E 47) (.E 58) (kb false)),vE 13 59]))) (.reg [oE 60 (.bin .add (.V 41) (ki 1)),vE 41 60])))
def z1i:IC := .seq (.reg [oE 35 (.bin .lss (.V 34) (.V 33))]) (.seq (.cond (.E 35) .skip (.exit 2)) (.seq (.block 3 (.seq (.reg [mV 36 34,oE 37 (.iaddr 6 (.V 32) (.V 34)),tE 38 6 37,oV 12 (.alloc [iv 0,iv 0,iv 0,iv 0,iv 0,iv 0]),vE 11 36,oN (.store [0,0,0,0,0,0] (.V 12) (.E 38))]) (.seq (.reg [oV 13 (.mv (kb true))]) (.seq (.seq (.reg [oV 39 (.mv (.V 8)),oV 40 (.len (.V 39)),oV 41 (.mv (ki 0))]) (.block 4 (.loop zmq))) (.seq (.reg [mV 61 13]) (.cond (.E 61) (.seq (.reg [tV 62 6 12,oN (.store [0,0,0,0,0,0] (.V 6) (.E 62)),oV 7 (.mv (kb true))]) .ret) .skip)))))) (.reg [oE 63 (.bin .add (.V 34) (ki 1)),vE 34 63])))
def zu4:IC := .seq (.reg [oV 3 (.box (.V 0)),oV 4 (.box (.V 1)),oV 6 (.alloc [iv 0,iv 0,iv 0,iv 0,iv 0,iv 0]),oV 7 (.mv (kb false))]) (.seq (.reg [oE 16 (.bslice 0 6 [iv 0,iv 0,iv 0,iv 0,iv 0,iv 0] []),vE 8 16]) (.seq (.seq (.reg [oV 17 (.mv (.V 2)),oV 18 (.len (.V 17)),oV 19 (.mv (ki 0))]) (.block 0 (.loop zu3))) (.seq (.seq (.reg [oV 32 (.mv (.V 8)),oV 33 (.len (.V 32)),oV 34 (.mv (ki 0))]) (.block 2 (.loop z1i))) (.seq (.reg [oE 64 (.build [iv 0,iv 0,iv 0,iv 0,iv 0,iv 0] []),oN (.store [0,0,0,0,0,0] (.V 6) (.E 64)),oV 7 (.mv (kb false))]) .ret))))
def zu5:List RV:=[.cell [0,0,0,0,0,0] 6 true,.tmp [0] 7]
def yh2:List Nat:=[0,1,16,15,14,7,9,10,8,12,11,5,6,4]
def zp5:IC := .seq (.seq (.reg [mV 28 10,mV 29 8,nE 30 29,oE 31 (.bin .sub (.E 30) (ki 1)),bE 32 .lss 28 31]) (.cond (.E 32) .skip (.exit 2))) (.seq (.block 3 (.seq (.regD [(mV 36 8,0,0),(mV 37 8,0,0),(nE 38 37,0,0),(oE 39 (.bin .sub (.E 38) (ki 1)),0,0),(iE 40 2 36 39,0,0),(tE 41 2 40,0,0),(mV 42 8,0,0),(mV 43 10,0,0),(iE 44 2 42 43,0,0),(tE 45 2 44,0,0),(oE 46 (.call zoy [([0,0],(.E 41)),([0,0],(.E 45))]),0,0),(wE 35 46,0,0),(xE 47 0 35,0,0),(xE 48 1 35,0,0),(oV 11 (.allocL [iv 0,iv 0]),0,0),(oN (.store [0,0] (.V 11) (.E 47)),0,0),(vE 12 48,0,0)]) (.seq (.seq (.reg [mV 49 12,oE 50 (.un .not (.E 49))]) (.cond (.E 50) (.seq (.reg [oV 4 (.mv (.C .e0))]) .ret) .skip)) (.seq (.reg [mV 51 8,mV 52 10,iE 53 2 51 52,fE 54 0 53,lE 55 54,mV 56 1,bE 57 .geq 55 56,wE 58 57,gE 59 58 .true (.faddr 0 (.V 11)),gE 60 58 .true (.load false 1 (.E 59)),gE 61 58 .true (.mv (.V 1)),gE 62 58 .true (.bin .geq (.E 60) (.E 61)),oE 63 (.pick (.E 58) (.E 62) (kb false))]) (.cond (.E 63) (.regD [(mV 64 5,0,0),(mV 65 6,0,0),(mV 66 10,0,0),(mV 67 8,0,0),(mV 68 10,0,0),(iE 69 2 67 68,0,0),(tE 70 2 69,0,0),(tV 71 2 11,0,0),(oE 72 (.build [iv 0,iv 0,iv 0,iv 0,iv 0,iv 0] [(0,1,(.E 65)),(1,1,(.E 66)),(2,2,(.E 70)),(4,2,(.E 71))]),0,0),(oE 73 (.bslice 1 6 [iv 0,iv 0,iv 0,iv 0,iv 0,iv 0] [(0,(.E 72))]),0,0),(oE 74 (.app 48 6 (.E 64) (.E 73)),0,0),(vE 5 74,0,0)]) .skip))))) (.reg [mV 33 10,oE 34 (.bin .add (.E 33) (ki 1)),vE 10 34]))
def zu6:IC := .seq (.reg [oE 17 (.bin .lss (.V 16) (.V 15))]) (.seq (.cond (.E 17) .skip (.exit 0)) (.seq (.block 1 (.seq (.reg [mV 18 16,oE 19 (.iaddr 1 (.V 14) (.V 16)),lE 20 19,vE 6 18,vE 7 20]) (.seq (.reg [mV 22 7,oE 23 (.call zox [([2],(.E 22))]),wE 21 23,xE 24 0 21,xE 25 1 21,vE 8 24,vE 9 25]) (.seq (.seq (.reg [mV 26 9,oE 27 (.un .not (.E 26))]) (.cond (.E 27) (.seq (.reg [oV 4 (.mv (.C .e0))]) .ret) .skip)) (.seq (.reg [oV 10 (.mv (ki 0))]) (.block 2 (.loop zp5))))))) (.reg [oE 75 (.bin .add (.V 16) (ki 1)),vE 16 75])))
def zu7:IC := .seq (.reg [oV 4 (.mv (.C .e0))]) (.seq (.reg [oE 13 (.bslice 0 6 [iv 0,iv 0,iv 0,iv 0,iv 0,iv 0] []),vE 5 13]) (.seq (.seq (.reg [oV 14 (.mv (.V 0)),oV 15 (.len (.V 14)),oV 16 (.mv (ki 0))]) (.block 0 (.loop zu6))) (.seq (.reg [mV 76 5,vE 4 76]) .ret)))
def zu8:List RV:=[.tmp [6] 4]
def yh3:List Nat:=[0,1,2,3,8,9,11,10,6,7]
def zu9:IC := .seq (.seq (.reg [mV 17 9,fV 18 0 3,lE 19 18,nE 20 19,bE 21 .lss 17 20]) (.cond (.E 21) .skip (.exit 0))) (.seq (.block 1 (.seq (.regD [(fV 25 1 3,0,0),(lE 26 25,0,0),(mV 27 9,0,0),(iE 28 1 26 27,0,0),(lE 29 28,0,0),(mV 30 1,0,0),(mV 31 2,0,0),(fV 32 0 3,0,0),(lE 33 32,0,0),(mV 34 9,0,0),(iE 35 1 33 34,0,0),(lE 36 35,0,0),(nE 37 36,0,0),(oE 38 (.bin .add (.E 37) (ki 1)),0,0),(oE 39 (.call zoz [([1],(.E 29)),([1],(.E 30)),([1],(.E 31)),([0],(.E 38))]),0,0),(wE 24 39,0,0),(xE 40 0 24,0,0),(xE 41 1 24,0,0),(vE 10 40,0,0),(vE 11 41,0,0)]) (.seq (.seq (.reg [mV 42 11,oE 43 (.un .not (.E 42))]) (.cond (.E 43) (.seq (.reg [oE 44 (.bslice 0 1 [(.own 2 [])] []),vE 6 44,oV 7 (.mv (kb false))]) .ret) .skip)) (.reg [mV 45 8,mV 46 10,oE 47 (.bslice 1 1 [(.own 2 [])] [(0,(.E 46))]),oE 48 (.app 24 1 (.E 45) (.E 47)),vE 8 48])))) (.reg [mV 22 9,oE 23 (.bin .add (.E 22) (ki 1)),vE 9 23]))
def zry:IC := .seq (.reg [oV 3 (.box (.V 0)),oV 6 (.mv (.C .e0)),oV 7 (.mv (kb false))]) (.seq (.reg [oE 12 (.bslice 0 1 [(.own 2 [])] []),vE 8 12]) (.seq (.seq (.reg [tV 13 2 3,oE 14 (.call zlg [([1,1],(.E 13))]),oE 15 (.un .not (.E 14))]) (.cond (.E 15) (.seq (.reg [mV 16 8,vE 6 16,oV 7 (.mv (kb false))]) .ret) .skip)) (.seq (.seq (.reg [oV 9 (.mv (ki 0))]) (.block 0 (.loop zu9))) (.seq (.reg [mV 49 8,vE 6 49,oV 7 (.mv (kb true))]) .ret))))
def zrz:List RV:=[.tmp [1] 6,.tmp [0] 7]
def yh4:List Nat:=[0,1,2,8,3,4,10,9,6,7]
def zr0:IC := .seq (.seq (.reg [mV 24 10,mV 25 2,nE 26 25,bE 27 .lss 24 26,wE 28 27,gE 29 28 .true (.mv (.V 9)),oE 30 (.pick (.E 28) (.E 29) (kb false))]) (.cond (.E 30) .skip (.exit 2))) (.seq (.block 3 (.regD [(tV 33 8 3,0,0),(tV 34 2 4,0,0),(mV 35 2,0,0),(mV 36 10,0,0),(iE 37 6 35 36,0,0),(tE 38 6 37,0,0),(oE 39 (.call ziv [([0,0,0,0,0,0,0,1],(.E 33)),([0,0],(.E 34)),([0,0,0,0,0,0],(.E 38))]),0,0),(oE 40 (.un .not (.E 39)),0,0),(wE 41 40,0,0),(gE 42 41 .false (.mv (.V 2)),0,0),(gE 43 41 .false (.mv (.V 10)),0,0),(gE 44 41 .false (.iaddr 6 (.E 42) (.E 43)),0,0),(gE 45 41 .false (.load true 6 (.E 44)),0,0),(gE 46 41 .false (.mv (.V 2)),0,0),(gE 47 41 .false (.mv (.V 8)),0,0),(gE 48 41 .false (.iaddr 6 (.E 46) (.E 47)),0,0),(gE 49 41 .false (.load true 6 (.E 48)),0,0),(gE 50 41 .false (.faddr 3 (.V 3)),0,0),(gE 51 41 .false (.load false 1 (.E 50)),0,0),(gE 52 41 .false (.call zj3 [([0,0,0,0,0,0],(.E 45)),([0,0,0,0,0,0],(.E 49)),([0],(.E 51))]),0,0),(gE 53 41 .false (.un .not (.E 52)),0,0),(oE 54 (.pick (.E 41) (kb true) (.E 53)),0,0),(vE 9 54,0,0)])) (.reg [mV 31 10,oE 32 (.bin .add (.E 31) (ki 1)),vE 10 32]))
def z1j:IC := .seq (.seq (.reg [mV 11 8,mV 12 2,nE 13 12,bE 14 .lss 11 13]) (.cond (.E 14) .skip (.exit 0))) (.seq (.block 1 (.seq (.regD [(tV 17 8 3,0,0),(tV 18 2 4,0,0),(mV 19 2,0,0),(mV 20 8,0,0),(iE 21 6 19 20,0,0),(tE 22 6 21,0,0),(oE 23 (.call ziv [([0,0,0,0,0,0,0,1],(.E 17)),([0,0],(.E 18)),([0,0,0,0,0,0],(.E 22))]),0,0),(vE 9 23,0,0)]) (.seq (.seq (.reg [oV 10 (.mv (ki 0))]) (.block 2 (.loop zr0))) (.seq (.reg [mV 55 9]) (.cond (.E 55) (.seq (.reg [mV 56 2,mV 57 8,iE 58 6 56 57,tE 59 6 58,oN (.store [0,0,0,0,0,0] (.V 6) (.E 59)),oV 7 (.mv (kb true))]) .ret) .skip))))) (.reg [mV 15 8,oE 16 (.bin .add (.E 15) (ki 1)),vE 8 16]))
def zva:IC := .seq (.reg [oV 3 (.box (.V 0)),oV 4 (.box (.V 1)),oV 6 (.alloc [iv 0,iv 0,iv 0,iv 0,iv 0,iv 0]),oV 7 (.mv (kb false))]) (.seq (.seq (.reg [oV 8 (.mv (ki 0))]) (.block 0 (.loop z1j))) (.seq (.reg [oE 60 (.build [iv 0,iv 0,iv 0,iv 0,iv 0,iv 0] []),oN (.store [0,0,0,0,0,0] (.V 6) (.E 60)),oV 7 (.mv (kb false))]) .ret))
def zvb:List RV:=[.cell [0,0,0,0,0,0] 6 true,.tmp [0] 7]
def yh5:List Nat:=[0,1,6,8,9,7,10,12,14,11,5,13,4]
def zmr:IC := .seq (.seq (.reg [mV 33 9,oE 34 (.bin .add (.E 33) (ki 1)),mV 35 7,nE 36 35,bE 37 .lss 34 36]) (.cond (.E 37) .skip (.exit 2))) (.seq (.block 3 (.seq (.reg [mV 40 7,mV 41 7,nE 42 41,oE 43 (.bin .sub (.E 42) (ki 1)),iE 44 2 40 43,tE 45 2 44,oV 10 (.alloc [iv 0,iv 0]),oN (.store [0,0] (.V 10) (.E 45))]) (.seq (.regD [(fV 47 0 10,0,0),(lE 48 47,0,0),(mV 49 7,0,0),(mV 50 9,0,0),(iE 51 2 49 50,0,0),(fE 52 0 51,0,0),(lE 53 52,0,0),(oE 54 (.call zlr [([0],(.E 48)),([0],(.E 53))]),0,0),(wE 46 54,0,0),(xE 55 0 46,0,0),(xE 56 1 46,0,0),(vE 11 55,0,0),(vE 12 56,0,0)]) (.seq (.regD [(fV 58 1 10,0,0),(lE 59 58,0,0),(mV 60 7,0,0),(mV 61 9,0,0),(iE 62 2 60 61,0,0),(fE 63 1 62,0,0),(lE 64 63,0,0),(oE 65 (.call zlr [([0],(.E 59)),([0],(.E 64))]),0,0),(wE 57 65,0,0),(xE 66 0 57,0,0),(xE 67 1 57,0,0),(vE 13 66,0,0),(vE 14 67,0,0)]) (.seq (.seq (.reg [mV 68 12,oE 69 (.un .not (.E 68)),wE 70 69,gE 71 70 .false (.mv (.V 14)),gE 72 70 .false (.un .not (.E 71)),oE 73 (.pick (.E 70) (kb true) (.E 72))]) (.cond (.E 73) (.seq (.reg [oE 74 (.bslice 0 6 [iv 0,iv 0,iv 0,iv 0,iv 0,iv 0] []),vE 4 74]) .ret) .skip)) (.seq (.reg [mV 75 7,mV 76 9,iE 77 2 75 76,fE 78 0 77,lE 79 78,mV 80 1,bE 81 .geq 79 80,wE 82 81,gE 83 82 .true (.mv (.V 11)),gE 84 82 .true (.mv (.V 1)),gE 85 82 .true (.bin .geq (.E 83) (.E 84)),oE 86 (.pick (.E 82) (.E 85) (kb false))]) (.cond (.E 86) (.reg [mV 87 5,mV 88 6,mV 89 9,mV 90 7,mV 91 9,iE 92 2 90 91,tE 93 2 92,mV 94 11,mV 95 13,oE 96 (.build [iv 0,iv 0] [(0,1,(.E 94)),(1,1,(.E 95))]),oE 97 (.build [iv 0,iv 0,iv 0,iv 0,iv 0,iv 0] [(0,1,(.E 88)),(1,1,(.E 89)),(2,2,(.E 93)),(4,2,(.E 96))]),oE 98 (.bslice 1 6 [iv 0,iv 0,iv 0,iv 0,iv 0,iv 0] [(0,(.E 97))]),oE 99 (.app 48 6 (.E 87) (.E 98)),vE 5 99]) .skip))))))) (.reg [mV 38 9,oE 39 (.bin .add (.E 38) (ki 1)),vE 9 39]))
def zvc:IC := .seq (.seq (.reg [mV 16 6,mV 17 0,nE 18 17,bE 19 .lss 16 18]) (.cond (.E 19) .skip (.exit 0))) (.seq (.block 1 (.seq (.reg [mV 23 0,mV 24 6,iE 25 1 23 24,lE 26 25,oE 27 (.call zo0 [([2],(.E 26))]),wE 22 27,xE 28 0 22,xE 29 1 22,vE 7 28,vE 8 29]) (.seq (.seq (.reg [mV 30 8,oE 31 (.un .not (.E 30))]) (.cond (.E 31) (.seq (.reg [oE 32 (.bslice 0 6 [iv 0,iv 0,iv 0,iv 0,iv 0,iv 0] []),vE 4 32]) .ret) .skip)) (.seq (.reg [oV 9 (.mv (ki 0))]) (.block 2 (.loop zmr)))))) (.reg [mV 20 6,oE 21 (.bin .add (.E 20) (ki 1)),vE 6 21]))
def zvd:IC := .seq (.reg [oV 4 (.mv (.C .e0))]) (.seq (.reg [oE 15 (.bslice 0 6 [iv 0,iv 0,iv 0,iv 0,iv 0,iv 0] []),vE 5 15]) (.seq (.seq (.reg [oV 6 (.mv (ki 0))]) (.block 0 (.loop zvc))) (.seq (.reg [mV 100 5,vE 4 100]) .ret)))
def zve:List RV:=[.tmp [6] 4]
def yh6:List Nat:=[0,1,2,6]
def zvf:IC := .seq (.reg [oV 6 (.mv (kb false))]) (.seq (.reg [mV 7 0,mV 8 1,bE 9 .geq 7 8,wE 10 9,gE 11 10 .true (.mv (.V 0)),gE 12 10 .true (.mv (.V 2)),gE 13 10 .true (.bin .leq (.E 11) (.E 12)),oE 14 (.pick (.E 10) (.E 13) (kb false)),vE 6 14]) .ret)
def zvg:List RV:=[.tmp [0] 6]
def yh7:List Nat:=[0,1,2,5,3,4,10,12,9,11,6,7,8]
def zvh:IC := .seq (.reg [oV 3 (.box (.V 0)),oV 4 (.box (.V 1)),oV 5 (.box (.V 2)),oV 6 (.mv (ki 0)),oV 7 (.mv (ki 0)),oV 8 (.mv (kb false))]) (.seq (.reg [fV 14 2 5,tE 15 2 14,fV 16 3 3,lE 17 16,tV 18 2 4,oE 19 (.call zj2 [([0,0],(.E 15)),([0],(.E 17)),([0,0],(.E 18))]),wE 13 19,xE 20 0 13,xE 21 1 13,vE 9 20,vE 10 21]) (.seq (.reg [fV 23 4 5,tE 24 2 23,fV 25 3 3,lE 26 25,tV 27 2 4,oE 28 (.call zj2 [([0,0],(.E 24)),([0],(.E 26)),([0,0],(.E 27))]),wE 22 28,xE 29 0 22,xE 30 1 22,vE 11 29,vE 12 30]) (.seq (.seq (.reg [mV 31 10,oE 32 (.un .not (.E 31)),wE 33 32,gE 34 33 .false (.mv (.V 12)),gE 35 33 .false (.un .not (.E 34)),oE 36 (.pick (.E 33) (kb true) (.E 35))]) (.cond (.E 36) (.seq (.reg [oV 6 (.mv (ki 0)),oV 7 (.mv (ki 0)),oV 8 (.mv (kb false))]) .ret) .skip)) (.seq (.reg [mV 37 9,mV 38 11,vE 6 37,vE 7 38,oV 8 (.mv (kb true))]) .ret))))
def zvi:List RV:=[.tmp [0] 6,.tmp [0] 7,.tmp [0] 8]
def yh8:List Nat:=[0,1,2]
def zvj:IC := .seq (.reg [oV 1 (.box (.V 0)),oV 2 (.mv (kb false))]) (.seq (.reg [fV 3 0 1,lE 4 3,oE 5 (.call zcd [([0],(.E 4)),([0],(ki 1)),([0],(ki 8))]),wE 6 5,gE 7 6 .true (.faddr 1 (.V 1)),gE 8 6 .true (.load false 1 (.E 7)),gE 9 6 .true (.call zcd [([0],(.E 8)),([0],(ki 0)),([0],(ki 4))]),oE 10 (.pick (.E 6) (.E 9) (kb false)),wE 11 10,gE 12 11 .true (.faddr 2 (.V 1)),gE 13 11 .true (.load false 1 (.E 12)),gE 14 11 .true (.call zcd [([0],(.E 13)),([0],(ki 2)),([0],(ki 8))]),oE 15 (.pick (.E 11) (.E 14) (kb false)),wE 16 15,gE 17 16 .true (.faddr 3 (.V 1)),gE 18 16 .true (.load false 1 (.E 17)),gE 19 16 .true (.call zcd [([0],(.E 18)),([0],(ki 1)),([0],(ki 100))]),oE 20 (.pick (.E 16) (.E 19) (kb false)),wE 21 20,gE 22 21 .true (.faddr 4 (.V 1)),gE 23 21 .true (.load false 1 (.E 22)),gE 24 21 .true (.call zcd [([0],(.E 23)),([0],(ki 1)),([0],(ki 20))]),oE 25 (.pick (.E 21) (.E 24) (kb false)),wE 26 25,gE 27 26 .true (.faddr 6 (.V 1)),gE 28 26 .true (.load false 1 (.E 27)),gE 29 26 .true (.call zcd [([0],(.E 28)),([0],(ki 1)),([0],(ki 1000))]),oE 30 (.pick (.E 26) (.E 29) (kb false)),wE 31 30,gE 32 31 .true (.faddr 5 (.V 1)),gE 33 31 .true (.load false 1 (.E 32)),gE 34 31 .true (.faddr 6 (.V 1)),gE 35 31 .true (.load false 1 (.E 34)),gE 36 31 .true (.call zcd [([0],(.E 33)),([0],(ki 1)),([0],(.E 35))]),oE 37 (.pick (.E 31) (.E 36) (kb false)),wE 38 37,gE 39 38 .true (.faddr 7 (.V 1)),gE 40 38 .true (.load false 1 (.E 39)),gE 41 38 .true (.len (.E 40)),gE 42 38 .true (.bin .leq (.E 41) (ki 4)),oE 43 (.pick (.E 38) (.E 42) (kb false)),wE 44 43,gE 45 44 .true (.faddr 7 (.V 1)),gE 46 44 .true (.load false 1 (.E 45)),gE 47 44 .true (.call zh7 [([1],(.E 46)),([0],(.C (.fn zls [])))]),gE 48 44 .true (.un .not (.E 47)),oE 49 (.pick (.E 44) (.E 48) (kb false)),vE 2 49]) .ret)
def zvk:List RV:=[.tmp [0] 2]
def yh9:List Nat:=[0,1,2,7,6]
def zr1:IC := .seq (.reg [oV 6 (.mv (kb false))]) (.seq (.seq (.reg [oV 7 (.mv (.V 0))]) (.block 0 (.seq (.reg [oE 9 (.bin .eql (.V 7) (ki 1)),wE 8 9]) (.cond (.E 8) (.seq (.reg [mV 10 1,mV 11 2,bE 12 .leq 10 11,vE 6 12]) .ret) (.seq (.reg [oE 14 (.bin .eql (.V 7) (ki (-1))),wE 13 14]) (.cond (.E 13) (.seq (.reg [mV 15 1,mV 16 2,bE 17 .geq 15 16,vE 6 17]) .ret) .skip)))))) (.seq (.reg [oV 6 (.mv (kb true))]) .ret))
def zr2:List RV:=[.tmp [0] 6]
def yia:List Nat:=[0,1,2,4]
def zr3:IC := .seq (.reg [oV 2 (.box (.V 0)),oV 4 (.mv (ki 0))]) (.seq (.seq (.reg [mV 5 1,fV 6 7 2,lE 7 6,nE 8 7,oE 9 (.bin .sub (.E 8) (ki 1)),oE 10 (.call zcd [([0],(.E 5)),([0],(ki 0)),([0],(.E 9))]),oE 11 (.un .not (.E 10))]) (.cond (.E 11) (.seq (.reg [oV 4 (.mv (ki 0))]) .ret) .skip)) (.seq (.reg [fV 12 7 2,lE 13 12,mV 14 1,iE 15 1 13 14,lE 16 15,vE 4 16]) .ret))
def zr4:List RV:=[.tmp [0] 4]
def yib:List Nat:=[0,1,2,7,5,9,6,8,10,12,11,4]
def zvl:IC := .seq (.reg [oV 2 (.box (.V 0)),oV 4 (.mv (kb false))]) (.seq (.reg [tV 14 6 2,mV 15 1,oE 16 (.call zj4 [([0,0,0,0,0,0],(.E 14)),([0],(.E 15))]),wE 13 16,xE 17 0 13,xE 18 1 13,oV 5 (.alloc [(.v (.bool false)),(.v (.int .u64 0)),(.v (.int .u64 0)),iv 0]),oN (.store [0,0,0,0] (.V 5) (.E 17)),vE 6 18]) (.seq (.reg [tV 20 6 2,oE 21 (.call zo2 [([0,0,0,0,0,0],(.E 20))]),wE 19 21,xE 22 0 19,xE 23 1 19,oV 7 (.alloc [iv 0,iv 0]),oN (.store [0,0] (.V 7) (.E 22)),vE 8 23]) (.seq (.reg [tV 25 2 7,mV 26 1,oE 27 (.call zj5 [([0,0],(.E 25)),([0],(.E 26))]),wE 24 27,xE 28 0 24,xE 29 1 24,oV 9 (.alloc [(.v (.bool false)),(.v (.int .u64 0)),(.v (.int .u64 0)),iv 0]),oN (.store [0,0,0,0] (.V 9) (.E 28)),vE 10 29]) (.seq (.reg [tV 31 4 5,tV 32 4 9,oE 33 (.call zlu [([0,0,0,0],(.E 31)),([0,0,0,0],(.E 32))]),wE 30 33,xE 34 0 30,xE 35 1 30,vE 11 34,vE 12 35]) (.seq (.reg [mV 36 6,wE 37 36,gE 38 37 .true (.mv (.V 8)),oE 39 (.pick (.E 37) (.E 38) (kb false)),wE 40 39,gE 41 40 .true (.mv (.V 10)),oE 42 (.pick (.E 40) (.E 41) (kb false)),wE 43 42,gE 44 43 .true (.mv (.V 12)),oE 45 (.pick (.E 43) (.E 44) (kb false)),wE 46 45,gE 47 46 .true (.mv (.V 11)),gE 48 46 .true (.bin .gtr (.E 47) (ki 0)),oE 49 (.pick (.E 46) (.E 48) (kb false)),vE 4 49]) .ret)))))
def zvm:List RV:=[.tmp [0] 4]
def yic:List Nat:=[0,1,3,4,2]
def z43:IC := .seq (.seq (.reg [mV 50 4,fV 51 1 1,lE 52 51,mV 53 3,iE 54 1 52 53,lE 55 54,nE 56 55,bE 57 .lss 50 56]) (.cond (.E 57) .skip (.exit 2))) (.seq (.block 3 (.seq (.regD [(fV 60 1 1,0,0),(lE 61 60,0,0),(mV 62 3,0,0),(iE 63 1 61 62,0,0),(lE 64 63,0,0),(mV 65 4,0,0),(iE 66 1 64 65,0,0),(lE 67 66,0,0),(fV 68 0 1,0,0),(lE 69 68,0,0),(mV 70 3,0,0),(iE 71 1 69 70,0,0),(lE 72 71,0,0),(nE 73 72,0,0),(oE 74 (.call zbt [([0],(.E 67)),([0],(ki 0)),([0],(.E 73))]),0,0),(oE 75 (.un .not (.E 74)),0,0)]) (.cond (.E 75) (.seq (.reg [oV 2 (.mv (kb false))]) .ret) .skip))) (.reg [mV 58 4,oE 59 (.bin .add (.E 58) (ki 1)),vE 4 59]))
def z44:IC := .seq (.seq (.reg [mV 25 3,fV 26 0 1,lE 27 26,nE 28 27,bE 29 .lss 25 28]) (.cond (.E 29) .skip (.exit 0))) (.seq (.block 1 (.seq (.seq (.regD [(fV 32 0 1,0,0),(lE 33 32,0,0),(mV 34 3,0,0),(iE 35 1 33 34,0,0),(lE 36 35,0,0),(oE 37 (.call zo3 [([1],(.E 36))]),0,0),(oE 38 (.un .not (.E 37)),0,0),(wE 39 38,0,0),(gE 40 39 .false (.faddr 1 (.V 1)),0,1),(gE 41 39 .false (.load false 1 (.E 40)),0,1),(gE 42 39 .false (.mv (.V 3)),0,0),(gE 43 39 .false (.iaddr 1 (.E 41) (.E 42)),0,1),(gE 44 39 .false (.load false 1 (.E 43)),0,1),(gE 45 39 .false (.len (.E 44)),0,1),(gE 46 39 .false (.load true 2 (.V 1)),0,0),(gE 47 39 .false (.call zit [([1,1],(.E 46))]),0,0),(gE 48 39 .false (.bin .neq (.E 45) (.E 47)),0,0),(oE 49 (.pick (.E 39) (kb true) (.E 48)),0,0)]) (.cond (.E 49) (.seq (.reg [oV 2 (.mv (kb false))]) .ret) .skip)) (.seq (.reg [oV 4 (.mv (ki 0))]) (.block 2 (.loop z43))))) (.reg [mV 30 3,oE 31 (.bin .add (.E 30) (ki 1)),vE 3 31]))
def zms:IC := .seq (.reg [oV 1 (.box (.V 0)),oV 2 (.mv (kb false))]) (.seq (.seq (.reg [fV 5 0 1,lE 6 5,nE 7 6,oE 8 (.call zbt [([0],(.E 7)),([0],(ki 1)),([0],(ki 4))]),oE 9 (.un .not (.E 8)),wE 10 9,gE 11 10 .false (.faddr 1 (.V 1)),gE 12 10 .false (.load false 1 (.E 11)),gE 13 10 .false (.len (.E 12)),gE 14 10 .false (.faddr 0 (.V 1)),gE 15 10 .false (.load false 1 (.E 14)),gE 16 10 .false (.len (.E 15)),gE 17 10 .false (.bin .neq (.E 13) (.E 16)),oE 18 (.pick (.E 10) (kb true) (.E 17)),wE 19 18,gE 20 19 .false (.load true 2 (.V 1)),gE 21 19 .false (.call zit [([1,1],(.E 20))]),gE 22 19 .false (.call zbt [([0],(.E 21)),([0],(ki 1)),([0],(ki 40))]),gE 23 19 .false (.un .not (.E 22)),oE 24 (.pick (.E 19) (kb true) (.E 23))]) (.cond (.E 24) (.seq (.reg [oV 2 (.mv (kb false))]) .ret) .skip)) (.seq (.seq (.reg [oV 3 (.mv (ki 0))]) (.block 0 (.loop z44))) (.seq (.reg [oV 2 (.mv (kb true))]) .ret)))
def zmt:List RV:=[.tmp [0] 2]
def yid:List Nat:=[0,1,4,3,5,2]
def zmu:IC := .seq (.seq (.reg [mV 8 4,oE 9 (.bin .lss (.E 8) (ki 5))]) (.cond (.E 9) .skip (.exit 0))) (.seq (.block 1 (.seq (.regD [(mV 12 3,0,0),(mV 13 4,0,0),(iE 14 1 12 13,0,2),(lE 15 14,0,2),(oE 16 (.call zo5 []),0,0),(mV 17 4,0,0),(iE 18 1 16 17,0,1),(lE 19 18,0,1),(oE 20 (.call zo6 []),0,0),(mV 21 4,0,0),(iE 22 1 20 21,0,0),(lE 23 22,0,0),(oE 24 (.call zbt [([0],(.E 15)),([0],(.E 19)),([0],(.E 23))]),0,0),(oE 25 (.un .not (.E 24)),0,0)]) (.cond (.E 25) (.seq (.reg [oV 2 (.mv (kb false))]) .ret) .skip))) (.reg [mV 10 4,oE 11 (.bin .add (.E 10) (ki 1)),vE 4 11]))
def z45:IC := .seq (.seq (.reg [mV 26 5,fV 27 7 1,lE 28 27,nE 29 28,bE 30 .lss 26 29]) (.cond (.E 30) .skip (.exit 2))) (.seq (.block 3 (.seq (.reg [fV 33 7 1,lE 34 33,mV 35 5,iE 36 1 34 35,lE 37 36,oE 38 (.call zbt [([0],(.E 37)),([0],(ki (-1))),([0],(ki 1))]),oE 39 (.un .not (.E 38))]) (.cond (.E 39) (.seq (.reg [oV 2 (.mv (kb false))]) .ret) .skip))) (.reg [mV 31 5,oE 32 (.bin .add (.E 31) (ki 1)),vE 5 32]))
def zvn:IC := .seq (.reg [oV 1 (.box (.V 0)),oV 2 (.mv (kb false))]) (.seq (.reg [tV 6 8 1,oE 7 (.call zo4 [([0,0,0,0,0,0,0,1],(.E 6))]),vE 3 7]) (.seq (.seq (.reg [oV 4 (.mv (ki 0))]) (.block 0 (.loop zmu))) (.seq (.seq (.reg [oV 5 (.mv (ki 0))]) (.block 2 (.loop z45))) (.seq (.reg [fV 40 6 1,lE 41 40,oE 42 (.call zbt [([0],(.E 41)),([0],(ki 1)),([0],(ki 1000))]),wE 43 42,gE 44 43 .true (.faddr 5 (.V 1)),gE 45 43 .true (.load false 1 (.E 44)),gE 46 43 .true (.faddr 6 (.V 1)),gE 47 43 .true (.load false 1 (.E 46)),gE 48 43 .true (.call zbt [([0],(.E 45)),([0],(ki 1)),([0],(.E 47))]),oE 49 (.pick (.E 43) (.E 48) (kb false)),wE 50 49,gE 51 50 .true (.faddr 7 (.V 1)),gE 52 50 .true (.load false 1 (.E 51)),gE 53 50 .true (.len (.E 52)),gE 54 50 .true (.bin .leq (.E 53) (ki 4)),oE 55 (.pick (.E 50) (.E 54) (kb false)),vE 2 55]) .ret))))
def zvo:List RV:=[.tmp [0] 2]
def yie:List Nat:=[0,1,2]
def zr5:IC := .seq (.reg [oV 1 (.box (.V 0)),oV 2 (.mv (ki 0))]) (.seq (.seq (.reg [fV 3 1 1,lE 4 3,nE 5 4,oE 6 (.bin .eql (.E 5) (ki 0))]) (.cond (.E 6) (.seq (.reg [oV 2 (.mv (ki 0))]) .ret) .skip)) (.seq (.reg [fV 7 1 1,lE 8 7,oE 9 (.iaddr 1 (.E 8) (ki 0)),lE 10 9,nE 11 10,vE 2 11]) .ret))
def zr6:List RV:=[.tmp [0] 2]
def yif:List Nat:=[0,1,28,27,26,4,3,2]
def z46:IC := .seq (.reg [oE 29 (.bin .lss (.V 28) (.V 27))]) (.seq (.cond (.E 29) .skip (.exit 0)) (.seq (.block 1 (.seq (.reg [mV 30 28,oE 31 (.iaddr 1 (.V 26) (.V 28)),lE 32 31,oV 4 (.alloc [.e0]),vE 3 30,oN (.store [1] (.V 4) (.E 32))]) (.seq (.regD [(oE 33 (.load false 1 (.V 4)),0,0),(oE 34 (.call zo7 [([1],(.E 33))]),0,0),(oE 35 (.un .not (.E 34)),0,0),(wE 36 35,0,0),(gE 37 36 .false (.faddr 1 (.V 1)),0,1),(gE 38 36 .false (.load false 1 (.E 37)),0,1),(gE 39 36 .false (.mv (.V 3)),0,0),(gE 40 36 .false (.iaddr 1 (.E 38) (.E 39)),0,1),(gE 41 36 .false (.load false 1 (.E 40)),0,1),(gE 42 36 .false (.len (.E 41)),0,1),(gE 43 36 .false (.load true 2 (.V 1)),0,0),(gE 44 36 .false (.call ziu [([1,1],(.E 43))]),0,0),(gE 45 36 .false (.bin .neq (.E 42) (.E 44)),0,0),(oE 46 (.pick (.E 36) (kb true) (.E 45)),0,0),(wE 47 46,0,0),(gE 48 47 .false (.faddr 1 (.V 1)),0,0),(gE 49 47 .false (.load false 1 (.E 48)),0,0),(gE 50 47 .false (.mv (.V 3)),0,0),(gE 51 47 .false (.iaddr 1 (.E 49) (.E 50)),0,0),(gE 52 47 .false (.load false 1 (.E 51)),0,0),(gE 53 47 .false (.mkfn zlv [(.V 4)]),0,0),(gE 54 47 .false (.call zh7 [([1],(.E 52)),([0],(.E 53))]),0,0),(oE 55 (.pick (.E 47) (kb true) (.E 54)),0,0)]) (.cond (.E 55) (.seq (.reg [oV 2 (.mv (kb false))]) .ret) .skip)))) (.reg [oE 56 (.bin .add (.V 28) (ki 1)),vE 28 56])))
def zmv:IC := .seq (.reg [oV 1 (.box (.V 0)),oV 2 (.mv (kb false))]) (.seq (.seq (.reg [fV 5 0 1,lE 6 5,nE 7 6,oE 8 (.call zcd [([0],(.E 7)),([0],(ki 1)),([0],(ki 4))]),oE 9 (.un .not (.E 8)),wE 10 9,gE 11 10 .false (.faddr 1 (.V 1)),gE 12 10 .false (.load false 1 (.E 11)),gE 13 10 .false (.len (.E 12)),gE 14 10 .false (.faddr 0 (.V 1)),gE 15 10 .false (.load false 1 (.E 14)),gE 16 10 .false (.len (.E 15)),gE 17 10 .false (.bin .neq (.E 13) (.E 16)),oE 18 (.pick (.E 10) (kb true) (.E 17)),wE 19 18,gE 20 19 .false (.load true 2 (.V 1)),gE 21 19 .false (.call ziu [([1,1],(.E 20))]),gE 22 19 .false (.call zcd [([0],(.E 21)),([0],(ki 1)),([0],(ki 40))]),gE 23 19 .false (.un .not (.E 22)),oE 24 (.pick (.E 19) (kb true) (.E 23))]) (.cond (.E 24) (.seq (.reg [oV 2 (.mv (kb false))]) .ret) .skip)) (.seq (.seq (.reg [fV 25 0 1,oV 26 (.load false 1 (.E 25)),oV 27 (.len (.V 26)),oV 28 (.mv (ki 0))]) (.block 0 (.loop z46))) (.seq (.reg [oV 2 (.mv (kb true))]) .ret)))
def zmw:List RV:=[.tmp [0] 2]
def yig:List Nat:=[0,1,2]
def zr7:IC := .seq (.reg [oV 1 (.box (.V 0)),oV 2 (.mv (ki 0))]) (.seq (.seq (.reg [fV 3 1 1,lE 4 3,nE 5 4,oE 6 (.bin .eql (.E 5) (ki 0))]) (.cond (.E 6) (.seq (.reg [oV 2 (.mv (ki 0))]) .ret) .skip)) (.seq (.reg [fV 7 1 1,lE 8 7,oE 9 (.iaddr 1 (.E 8) (ki 0)),lE 10 9,nE 11 10,vE 2 11]) .ret))
def zr8:List RV:=[.tmp [0] 2]
def yih:List Nat:=[0,1,4]
def zr9:IC := .seq (.reg [oV 4 (.mv (kb false))]) (.seq (.reg [mV 5 0,mV 6 1,oE 7 (.call zlw [([1],(.E 5)),([0],(.E 6))]),oE 8 (.bin .geq (.E 7) (ki 0)),vE 4 8]) .ret)
def zsa:List RV:=[.tmp [0] 4]
def yii:List Nat:=[0,2]
def zvp:IC := .seq (.reg [oV 2 (.mv (kb false))]) (.seq (.reg [mV 3 0,oE 4 (.call zcd [([0],(.E 3)),([0],(ki (-2199023255552))),([0],(ki 2199023255552))]),oE 5 (.un .not (.E 4)),vE 2 5]) .ret)
def zvq:List RV:=[.tmp [0] 2]
def yij:List Nat:=[0,1,2,6]
def zvr:IC := .seq (.reg [oV 6 (.mv (kb false))]) (.seq (.reg [mV 7 0,mV 8 1,bE 9 .geq 7 8,wE 10 9,gE 11 10 .true (.mv (.V 0)),gE 12 10 .true (.mv (.V 2)),gE 13 10 .true (.bin .leq (.E 11) (.E 12)),oE 14 (.pick (.E 10) (.E 13) (kb false)),vE 6 14]) .ret)
def zvs:List RV:=[.tmp [0] 6]
def yik:List Nat:=[0,3,11,10,4,2]
def z1k:IC := .seq (.reg [oE 12 (.bin .lss (.V 11) (.V 10))]) (.seq (.cond (.E 12) .skip (.exit 0)) (.seq (.block 1 (.seq (.reg [mV 13 11,vE 4 13]) (.reg [mV 14 3,mV 15 4,oE 16 (.bslice 1 1 [iv 0] [(0,(.E 15))]),oE 17 (.app 8 1 (.E 14) (.E 16)),vE 3 17]))) (.reg [oE 18 (.bin .add (.V 11) (ki 1)),vE 11 18])))
def zvt:IC := .seq (.reg [oV 2 (.mv (.C .e0))]) (.seq (.reg [oE 5 (.bslice 0 1 [iv 0] []),vE 3 5]) (.seq (.seq (.reg [mV 6 0,oE 7 (.call zcd [([0],(.E 6)),([0],(ki 1)),([0],(ki 40))]),oE 8 (.un .not (.E 7))]) (.cond (.E 8) (.seq (.reg [mV 9 3,vE 2 9]) .ret) .skip)) (.seq (.seq (.reg [oV 10 (.mv (.V 0)),oV 11 (.mv (ki 0))]) (.block 0 (.loop z1k))) (.seq (.reg [mV 19 3,vE 2 19]) .ret))))
def zvu:List RV:=[.tmp [1] 2]
def yil:List Nat:=[0]
def zvv:IC := .seq (.reg [oV 0 (.alloc [iv 0,iv 0])]) (.seq (.reg [oE 1 (.build [iv 0,iv 0] [(0,1,(ki (-1099511627776))),(1,1,(ki 1099511627776))]),oN (.store [0,0] (.V 0) (.E 1))]) .ret)
def zvw:List RV:=[.cell [0,0] 0 true]
def yim:List Nat:=[0,1,2,3,5,8,6,7]
def zsb:IC := .seq (.reg [oV 3 (.box (.V 0)),oV 5 (.box (.V 2)),oV 6 (.mv (ki 0)),oV 7 (.mv (kb false))]) (.seq (.seq (.reg [fV 10 0 3,lE 11 10,mV 12 1,oE 13 (.call zlx [([0],(.E 11)),([0],(.E 12))]),oE 14 (.un .not (.E 13)),wE 15 14,gE 16 15 .false (.load true 2 (.V 5)),gE 17 15 .false (.call zly [([0,0],(.E 16))]),gE 18 15 .false (.un .not (.E 17)),oE 19 (.pick (.E 15) (kb true) (.E 18))]) (.cond (.E 19) (.seq (.reg [oV 6 (.mv (ki 0)),oV 7 (.mv (kb false))]) .ret) .skip)) (.seq (.reg [fV 21 1 3,lE 22 21,fV 23 0 3,lE 24 23,mV 25 1,bE 26 .add 24 25,oE 27 (.call zo8 [([0],(.E 22)),([0],(.E 26))]),wE 20 27,xE 28 0 20,xE 29 1 20,vE 8 28,wE 9 29]) (.seq (.reg [mV 30 8,fV 31 0 5,lE 32 31,fV 33 1 5,lE 34 33,oE 35 (.call zlz [([0],(.E 30)),([0],(.E 32)),([0],(.E 34))]),vE 6 35,oV 7 (.mv (kb true))]) .ret)))
def zsc:List RV:=[.tmp [0] 6,.tmp [0] 7]
def yin:List Nat:=[0,1,13,12,11,5,7,4]
def z1l:IC := .seq (.reg [oE 14 (.bin .lss (.V 13) (.V 12))]) (.seq (.cond (.E 14) .skip (.exit 0)) (.seq (.block 1 (.seq (.reg [oE 15 (.iaddr 1 (.V 11) (.V 13)),lE 16 15,vE 7 16]) (.regD [(fV 17 1 5,0,0),(lE 18 17,0,0),(mV 19 0,0,0),(mV 20 7,0,0),(iE 21 1 19 20,0,0),(lE 22 21,0,0),(bE 23 .add 18 22,0,0),(fV 24 1 5,0,0),(oN (.store [0] (.E 24) (.E 23)),0,0)]))) (.reg [oE 25 (.bin .add (.V 13) (ki 1)),vE 13 25])))
def zvx:IC := .seq (.reg [oV 4 (.alloc [iv 0,iv 0])]) (.seq (.reg [mV 8 1,nE 9 8,oE 10 (.build [iv 0,iv 0] [(0,1,(.E 9))]),oV 5 (.alloc [iv 0,iv 0]),oN (.store [0,0] (.V 5) (.E 10))]) (.seq (.seq (.reg [oV 11 (.mv (.V 1)),oV 12 (.len (.V 11)),oV 13 (.mv (ki 0))]) (.block 0 (.loop z1l))) (.seq (.reg [tV 26 2 5,oN (.store [0,0] (.V 4) (.E 26))]) .ret)))
def zvy:List RV:=[.cell [0,0] 4 true]
def yio:List Nat:=[0,1,2,3,5,10,8,9,11,12]
def zp6:IC := .seq (.reg [oV 5 (.box (.V 1)),oV 8 (.alloc [iv 0,iv 0]),oV 9 (.alloc [iv 0,iv 0])]) (.seq (.regD [(mV 13 2,0,0),(mV 14 3,0,0),(oE 15 (.call zo9 [([0],(.E 13)),([0],(.E 14))]),0,0),(fV 16 0 5,1,0),(lE 17 16,1,0),(fV 18 1 5,1,0),(lE 19 18,1,0),(oE 20 (.call zlz [([0],(.E 15)),([0],(.E 17)),([0],(.E 19))]),0,0),(vE 10 20,0,0)]) (.seq (.regD [(fV 21 0 5,0,1),(lE 22 21,0,1),(mV 23 10,0,0),(oE 24 (.build [iv 0,iv 0] [(0,1,(.E 22)),(1,1,(.E 23))]),0,0),(mV 25 10,0,0),(fV 26 1 5,0,3),(lE 27 26,0,3),(oE 28 (.build [iv 0,iv 0] [(0,1,(.E 25)),(1,1,(.E 27))]),0,0),(oV 11 (.alloc [iv 0,iv 0]),0,0),(oV 12 (.allocL [iv 0,iv 0]),0,0),(oN (.store [0,0] (.V 11) (.E 24)),0,0),(oN (.store [0,0] (.V 12) (.E 28)),0,0)]) (.seq (.block 0 (.seq (.reg [tV 30 2 5,oE 31 (.call zly [([0,0],(.E 30))]),oE 32 (.un .not (.E 31)),wE 29 32]) (.cond (.E 29) (.seq (.regD [(tV 33 2 5,0,0),(tV 34 2 5,0,1),(oN (.store [0,0] (.V 8) (.E 33)),0,0),(oN (.store [0,0] (.V 9) (.E 34)),0,0)]) .ret) (.seq (.reg [mV 36 0,oE 37 (.bin .eql (.E 36) (ki 1)),wE 35 37]) (.cond (.E 35) (.seq (.regD [(tV 38 2 11,0,0),(tV 39 2 12,0,1),(oN (.store [0,0] (.V 8) (.E 38)),0,0),(oN (.store [0,0] (.V 9) (.E 39)),0,0)]) .ret) (.seq (.reg [mV 41 0,oE 42 (.bin .eql (.E 41) (ki (-1))),wE 40 42]) (.cond (.E 40) (.seq (.regD [(tV 43 2 12,0,0),(tV 44 2 11,0,1),(oN (.store [0,0] (.V 8) (.E 43)),0,0),(oN (.store [0,0] (.V 9) (.E 44)),0,0)]) .ret) .skip))))))) (.seq (.regD [(tV 45 2 5,0,0),(tV 46 2 5,0,1),(oN (.store [0,0] (.V 8) (.E 45)),0,0),(oN (.store [0,0] (.V 9) (.E 46)),0,0)]) .ret))))
def zp7:List RV:=[.cell [0,0] 8 true,.cell [0,0] 9 true]
def yip:List Nat:=[0,1,2,16,15,14,11,8,9,6,7]
def zsd:IC := .seq (.reg [oE 17 (.bin .lss (.V 16) (.V 15))]) (.seq (.cond (.E 17) .skip (.exit 0)) (.seq (.block 1 (.seq (.reg [oE 18 (.iaddr 1 (.V 14) (.V 16)),lE 19 18,vE 11 19]) (.block 2 (.seq (.reg [mV 25 11,mV 26 0,nE 27 26,oE 28 (.bin .sub (.E 27) (ki 1)),oE 29 (.call zcd [([0],(.E 25)),([0],(ki 0)),([0],(.E 28))]),oE 30 (.un .not (.E 29)),wE 24 30]) (.cond (.E 24) .skip (.seq (.reg [mV 32 0,mV 33 11,iE 34 1 32 33,lE 35 34,mV 36 2,bE 37 .leq 35 36,wE 31 37]) (.cond (.E 31) (.reg [mV 38 8,mV 39 11,oE 40 (.bslice 1 1 [iv 0] [(0,(.E 39))]),oE 41 (.app 8 1 (.E 38) (.E 40)),vE 8 41]) (.reg [mV 20 9,mV 21 11,oE 22 (.bslice 1 1 [iv 0] [(0,(.E 21))]),oE 23 (.app 8 1 (.E 20) (.E 22)),vE 9 23])))))))) (.reg [oE 42 (.bin .add (.V 16) (ki 1)),vE 16 42])))
def zvz:IC := .seq (.reg [oV 6 (.mv (.C .e0)),oV 7 (.mv (.C .e0))]) (.seq (.reg [oE 12 (.bslice 0 1 [iv 0] []),oE 13 (.bslice 0 1 [iv 0] []),vE 8 12,vE 9 13]) (.seq (.seq (.reg [oV 14 (.mv (.V 1)),oV 15 (.len (.V 14)),oV 16 (.mv (ki 0))]) (.block 0 (.loop zsd))) (.seq (.reg [mV 43 8,mV 44 9,vE 6 43,vE 7 44]) .ret)))
def zv0:List RV:=[.tmp [1] 6,.tmp [1] 7]
def yiq:List Nat:=[0,1,2]
def zv1:IC := .seq (.reg [oV 1 (.box (.V 0)),oV 2 (.mv (kb false))]) (.seq (.reg [fV 3 0 1,lE 4 3,fV 5 1 1,lE 6 5,bE 7 .leq 4 6,wE 8 7,gE 9 8 .true (.faddr 0 (.V 1)),gE 10 8 .true (.load false 1 (.E 9)),gE 11 8 .true (.call zl0 [([0],(.E 10))]),oE 12 (.pick (.E 8) (.E 11) (kb false)),wE 13 12,gE 14 13 .true (.faddr 1 (.V 1)),gE 15 13 .true (.load false 1 (.E 14)),gE 16 13 .true (.call zl0 [([0],(.E 15))]),oE 17 (.pick (.E 13) (.E 16) (kb false)),vE 2 17]) .ret)
def zv2:List RV:=[.tmp [0] 2]
def yir:List Nat:=[0,1,6,4,5]
def zv3:IC := .seq (.reg [oV 4 (.mv (ki 0)),oV 5 (.mv (kb false))]) (.seq (.seq (.reg [mV 7 1,oE 8 (.bin .eql (.E 7) (ki 0)),wE 9 8,gE 10 9 .false (.mv (.V 1)),gE 11 9 .false (.bin .eql (.E 10) (ki (-1))),gE 12 9 .false (.mv (.E 11)),gE 13 12 .true (.mv (.V 0)),gE 14 12 .true (.bin .eql (.E 13) (ki (-9223372036854775808))),gE 15 9 .false (.pick (.E 12) (.E 14) (kb false)),oE 16 (.pick (.E 9) (kb true) (.E 15))]) (.cond (.E 16) (.seq (.reg [oV 4 (.mv (ki 0)),oV 5 (.mv (kb false))]) .ret) .skip)) (.seq (.reg [mV 17 0,mV 18 1,bE 19 .quo 17 18,vE 6 19]) (.seq (.seq (.reg [mV 20 0,mV 21 1,bE 22 .rem 20 21,oE 23 (.bin .neq (.E 22) (ki 0)),wE 24 23,gE 25 24 .true (.mv (.V 0)),gE 26 24 .true (.bin .lss (.E 25) (ki 0)),gE 27 24 .true (.mv (.V 1)),gE 28 24 .true (.bin .lss (.E 27) (ki 0)),gE 29 24 .true (.eqb true [.b] (.E 26) (.E 28)),oE 30 (.pick (.E 24) (.E 29) (kb false))]) (.cond (.E 30) (.reg [mV 31 6,oE 32 (.bin .sub (.E 31) (ki 1)),vE 6 32]) .skip)) (.seq (.reg [mV 33 6,vE 4 33,oV 5 (.mv (kb true))]) .ret))))
def zv4:List RV:=[.tmp [0] 4,.tmp [0] 5]
def yis:List Nat:=[0,1,2,6]
def zse:IC := .seq (.reg [oV 6 (.mv (ki 0))]) (.seq (.seq (.reg [mV 7 0,mV 8 1,bE 9 .lss 7 8]) (.cond (.E 9) (.seq (.reg [mV 10 1,vE 6 10]) .ret) .skip)) (.seq (.seq (.reg [mV 11 0,mV 12 2,bE 13 .gtr 11 12]) (.cond (.E 13) (.seq (.reg [mV 14 2,vE 6 14]) .ret) .skip)) (.seq (.reg [mV 15 0,vE 6 15]) .ret)))
def zsf:List RV:=[.tmp [0] 6]
def yit:List Nat:=[0,1,6,5,4]
def z1m:IC := .seq (.seq (.reg [mV 8 6,mV 9 1,nE 10 9,bE 11 .lss 8 10]) (.cond (.E 11) .skip (.exit 0))) (.seq (.block 1 (.regD [(fV 14 0 5,0,0),(lE 15 14,0,0),(oE 16 (.bin .add (.E 15) (ki 1)),0,0),(fV 17 1 5,0,0),(lE 18 17,0,0),(mV 19 0,0,0),(mV 20 1,0,0),(mV 21 6,0,0),(iE 22 1 20 21,0,0),(lE 23 22,0,0),(iE 24 1 19 23,0,0),(lE 25 24,0,0),(bE 26 .add 18 25,0,0),(oE 27 (.build [iv 0,iv 0] [(0,1,(.E 16)),(1,1,(.E 26))]),0,0),(oN (.store [0,0] (.V 5) (.E 27)),0,0)])) (.reg [mV 12 6,oE 13 (.bin .add (.E 12) (ki 1)),vE 6 13]))
def zv5:IC := .seq (.reg [oV 4 (.alloc [iv 0,iv 0])]) (.seq (.reg [oE 7 (.build [iv 0,iv 0] []),oV 5 (.alloc [iv 0,iv 0]),oN (.store [0,0] (.V 5) (.E 7))]) (.seq (.seq (.reg [oV 6 (.mv (ki 0))]) (.block 0 (.loop z1m))) (.seq (.reg [tV 28 2 5,oN (.store [0,0] (.V 4) (.E 28))]) .ret)))
def zv6:List RV:=[.cell [0,0] 4 true]
def yiu:List Nat:=[0,1,2,5,3,4,10,12,9,11,6,7,8]
def zv7:IC := .seq (.reg [oV 3 (.box (.V 0)),oV 4 (.box (.V 1)),oV 5 (.box (.V 2)),oV 6 (.mv (ki 0)),oV 7 (.mv (ki 0)),oV 8 (.mv (kb false))]) (.seq (.reg [fV 14 2 5,tE 15 2 14,fV 16 3 3,lE 17 16,tV 18 2 4,oE 19 (.call zj1 [([0,0],(.E 15)),([0],(.E 17)),([0,0],(.E 18))]),wE 13 19,xE 20 0 13,xE 21 1 13,vE 9 20,vE 10 21]) (.seq (.reg [fV 23 4 5,tE 24 2 23,fV 25 3 3,lE 26 25,tV 27 2 4,oE 28 (.call zj1 [([0,0],(.E 24)),([0],(.E 26)),([0,0],(.E 27))]),wE 22 28,xE 29 0 22,xE 30 1 22,vE 11 29,vE 12 30]) (.seq (.seq (.reg [mV 31 10,oE 32 (.un .not (.E 31)),wE 33 32,gE 34 33 .false (.mv (.V 12)),gE 35 33 .false (.un .not (.E 34)),oE 36 (.pick (.E 33) (kb true) (.E 35))]) (.cond (.E 36) (.seq (.reg [oV 6 (.mv (ki 0)),oV 7 (.mv (ki 0)),oV 8 (.mv (kb false))]) .ret) .skip)) (.seq (.reg [mV 37 9,mV 38 11,vE 6 37,vE 7 38,oV 8 (.mv (kb true))]) .ret))))
def zv8:List RV:=[.tmp [0] 6,.tmp [0] 7,.tmp [0] 8]
def yiv:List Nat:=[0,1,2,3,5,8,9,24,10]
def zp8:IC := .seq (.reg [oV 5 (.box (.V 1)),oV 8 (.alloc [iv 0,iv 0]),oV 9 (.alloc [iv 0,iv 0])]) (.seq (.seq (.reg [tV 11 2 5,oE 12 (.call zlk [([0,0],(.E 11))]),oE 13 (.un .not (.E 12))]) (.cond (.E 13) (.seq (.regD [(tV 14 2 5,0,0),(tV 15 2 5,0,1),(oN (.store [0,0] (.V 8) (.E 14)),0,0),(oN (.store [0,0] (.V 9) (.E 15)),0,0)]) .ret) .skip)) (.seq (.regD [(mV 16 2,0,0),(mV 17 3,0,0),(oE 18 (.call zpa [([0],(.E 16)),([0],(.E 17))]),0,0),(fV 19 0 5,1,0),(lE 20 19,1,0),(fV 21 1 5,1,0),(lE 22 21,1,0),(oE 23 (.call zll [([0],(.E 18)),([0],(.E 20)),([0],(.E 22))]),0,0),(vE 10 23,0,0)]) (.seq (.seq (.reg [oV 24 (.mv (.V 0))]) (.block 0 (.seq (.reg [oE 26 (.bin .eql (.V 24) (ki 1)),wE 25 26]) (.cond (.E 25) (.seq (.regD [(fV 27 0 5,0,0),(lE 28 27,0,0),(mV 29 10,0,0),(oE 30 (.build [iv 0,iv 0] [(0,1,(.E 28)),(1,1,(.E 29))]),0,0),(mV 31 10,0,0),(fV 32 1 5,0,1),(lE 33 32,0,1),(oE 34 (.build [iv 0,iv 0] [(0,1,(.E 31)),(1,1,(.E 33))]),0,0),(oN (.store [0,0] (.V 8) (.E 30)),0,0),(oN (.store [0,0] (.V 9) (.E 34)),0,0)]) .ret) (.seq (.reg [oE 36 (.bin .eql (.V 24) (ki (-1))),wE 35 36]) (.cond (.E 35) (.seq (.regD [(mV 37 10,0,0),(fV 38 1 5,0,0),(lE 39 38,0,0),(oE 40 (.build [iv 0,iv 0] [(0,1,(.E 37)),(1,1,(.E 39))]),0,0),(fV 41 0 5,0,1),(lE 42 41,0,1),(mV 43 10,0,0),(oE 44 (.build [iv 0,iv 0] [(0,1,(.E 42)),(1,1,(.E 43))]),0,0),(oN (.store [0,0] (.V 8) (.E 40)),0,0),(oN (.store [0,0] (.V 9) (.E 44)),0,0)]) .ret) .skip)))))) (.seq (.regD [(tV 45 2 5,0,0),(tV 46 2 5,0,1),(oN (.store [0,0] (.V 8) (.E 45)),0,0),(oN (.store [0,0] (.V 9) (.E 46)),0,0)]) .ret))))
def zp9:List RV:=[.cell [0,0] 8 true,.cell [0,0] 9 true]
def yiw:List Nat:=[0,1,2,4]
def zsg:IC := .seq (.reg [oV 2 (.box (.V 0)),oV 4 (.mv (ki 0))]) (.seq (.seq (.reg [mV 5 1,fV 6 7 2,lE 7 6,nE 8 7,oE 9 (.bin .sub (.E 8) (ki 1)),oE 10 (.call zbt [([0],(.E 5)),([0],(ki 0)),([0],(.E 9))]),oE 11 (.un .not (.E 10))]) (.cond (.E 11) (.seq (.reg [oV 4 (.mv (ki 0))]) .ret) .skip)) (.seq (.reg [fV 12 7 2,lE 13 12,mV 14 1,iE 15 1 13 14,lE 16 15,vE 4 16]) .ret))
def zsh:List RV:=[.tmp [0] 4]
def yix:List Nat:=[0,4,3,2]
def zv9:IC := .seq (.seq (.reg [mV 8 4,mV 9 0,nE 10 9,bE 11 .lss 8 10,wE 12 11,gE 13 12 .true (.mv (.V 4)),gE 14 12 .true (.bin .lss (.E 13) (ki 4000)),oE 15 (.pick (.E 12) (.E 14) (kb false))]) (.cond (.E 15) .skip (.exit 0))) (.seq (.block 1 (.reg [mV 18 3,oE 19 (.bin .mul (.E 18) (ki 131)),mV 20 0,mV 21 4,iE 22 1 20 21,lE 23 22,oE 24 (.convI .i64 (.E 23)),bE 25 .add 19 24,oE 26 (.bin .add (.E 25) (ki 7)),oE 27 (.bin .and (.E 26) (ki 1073741823)),vE 3 27])) (.reg [mV 16 4,oE 17 (.bin .add (.E 16) (ki 1)),vE 4 17]))
def zwa:IC := .seq (.reg [oV 2 (.mv (.C (.v (.pointer none))))]) (.seq (.reg [mV 5 0,nE 6 5,oE 7 (.bin .add (ki 28507) (.E 6)),vE 3 7]) (.seq (.seq (.reg [oV 4 (.mv (ki 0))]) (.block 0 (.loop zv9))) (.seq (.reg [mV 28 0,mV 29 3,oE 30 (.build [.e0,iv 0,iv 0] [(0,1,(.E 28)),(2,1,(.E 29))]),oE 31 (.box (.E 30)),vE 2 31]) .ret)))
def zwb:List RV:=[.tmp [0] 2]
def yiy:List Nat:=[0,2]
def zwc:IC := .seq (.reg [oV 2 (.alloc [.e0,.e0])]) (.seq (.reg [mV 3 0,oE 4 (.call zpc [([0],(.E 3))]),mV 5 0,oE 6 (.call zbm [([0],(.E 5)),([0],(ki 5))]),oE 7 (.bin .add (ki 2) (.E 6)),oE 8 (.call zpb [([1,0,1,1],(.E 4)),([0],(.E 7))]),oN (.store [1,1] (.V 2) (.E 8))]) .ret)
def zwd:List RV:=[.cell [1,1] 2 true]
def yiz:List Nat:=[0,1,5,6,7,8,4]
def zqa:IC := .seq (.reg [oV 4 (.mv (ki 0))]) (.seq (.seq (.reg [mV 9 1,oE 10 (.bin .leq (.E 9) (ki 0))]) (.cond (.E 10) (.seq (.reg [oV 4 (.mv (ki 0))]) .ret) .skip)) (.seq (.seq (.reg [mV 11 1,oE 12 (.bin .leq (.E 11) (ki 256))]) (.cond (.E 12) (.seq (.reg [mV 13 0,oE 14 (.call zha [([0],(.E 13))]),mV 15 1,bE 16 .rem 14 15,vE 4 16]) .ret) .skip)) (.seq (.reg [mV 17 0,oE 18 (.call zha [([0],(.E 17))]),vE 5 18]) (.seq (.reg [mV 19 0,oE 20 (.call zha [([0],(.E 19))]),vE 6 20]) (.seq (.reg [mV 21 0,oE 22 (.call zha [([0],(.E 21))]),vE 7 22]) (.seq (.reg [mV 23 0,oE 24 (.call zha [([0],(.E 23))]),vE 8 24]) (.seq (.reg [mV 25 5,oE 26 (.bin .mul (.E 25) (ki 16777216)),mV 27 6,oE 28 (.bin .mul (.E 27) (ki 65536)),bE 29 .add 26 28,mV 30 7,oE 31 (.bin .mul (.E 30) (ki 256)),bE 32 .add 29 31,mV 33 8,bE 34 .add 32 33,mV 35 1,bE 36 .rem 34 35,vE 4 36]) .ret)))))))
def zqb:List RV:=[.tmp [0] 4]
def yi0:List Nat:=[0,1,7,6,5,4]
def zwe:IC := .seq (.seq (.reg [mV 11 7,mV 12 1,bE 13 .lss 11 12]) (.cond (.E 13) .skip (.exit 0))) (.seq (.block 1 (.seq (.reg [mV 16 6]) (.cond (.E 16) (.reg [mV 17 5,mV 18 0,oE 19 (.call zov [([0],(.E 18))]),oE 20 (.bslice 1 1 [iv 0] [(0,(.E 19))]),oE 21 (.app 8 1 (.E 17) (.E 20)),vE 5 21]) (.reg [mV 22 5,mV 23 0,oE 24 (.call zbm [([0],(.E 23)),([0],(ki 41))]),oE 25 (.bin .sub (.E 24) (ki 20)),oE 26 (.bin .mul (ki 100) (.E 25)),mV 27 0,oE 28 (.call zbm [([0],(.E 27)),([0],(ki 3))]),bE 29 .add 26 28,oE 30 (.bslice 1 1 [iv 0] [(0,(.E 29))]),oE 31 (.app 8 1 (.E 22) (.E 30)),vE 5 31])))) (.reg [mV 14 7,oE 15 (.bin .add (.E 14) (ki 1)),vE 7 15]))
def zwf:IC := .seq (.reg [oV 4 (.mv (.C .e0))]) (.seq (.reg [oE 8 (.bslice 0 1 [iv 0] []),vE 5 8]) (.seq (.reg [mV 9 0,oE 10 (.call zee [([0],(.E 9)),([0],(ki 20))]),vE 6 10]) (.seq (.seq (.reg [oV 7 (.mv (ki 0))]) (.block 0 (.loop zwe))) (.seq (.reg [mV 32 5,vE 4 32]) .ret))))
def zwg:List RV:=[.tmp [1] 4]
def yi1:List Nat:=[0,1,4]
def zwh:IC := .seq (.reg [oV 4 (.mv (ki 0))]) (.seq (.reg [mV 5 1,mV 6 0,mV 7 1,nE 8 7,oE 9 (.call zbm [([0],(.E 6)),([0],(.E 8))]),iE 10 1 5 9,lE 11 10,vE 4 11]) .ret)
def zwi:List RV:=[.tmp [0] 4]
def yi2:List Nat:=[0,3,5,4,2]
def z1n:IC := .seq (.seq (.reg [mV 40 5,mV 41 4,bE 42 .lss 40 41]) (.cond (.E 42) .skip (.exit 0))) (.seq (.block 1 (.regD [(fV 45 7 3,0,2),(lE 46 45,0,2),(mV 47 0,0,0),(oE 48 (.call zbm [([0],(.E 47)),([0],(ki 3))]),0,0),(oE 49 (.bin .sub (.E 48) (ki 1)),0,0),(oE 50 (.bslice 1 1 [iv 0] [(0,(.E 49))]),0,0),(oE 51 (.app 8 1 (.E 46) (.E 50)),0,0),(fV 52 7 3,0,0),(oN (.store [1] (.E 52) (.E 51)),0,0)])) (.reg [mV 43 5,oE 44 (.bin .add (.E 43) (ki 1)),vE 5 44]))
def zmx:IC := .seq (.reg [oV 2 (.alloc [iv 0,iv 0,iv 0,iv 0,iv 0,iv 0,iv 0,.e0])]) (.seq (.reg [mV 6 0,oE 7 (.call zbm [([0],(.E 6)),([0],(ki 4))]),oE 8 (.bin .add (ki 1) (.E 7)),mV 9 0,oE 10 (.call zbm [([0],(.E 9)),([0],(ki 4))]),mV 11 0,oE 12 (.call zbm [([0],(.E 11)),([0],(ki 5))]),oE 13 (.bin .add (ki 2) (.E 12)),mV 14 0,oE 15 (.call zbm [([0],(.E 14)),([0],(ki 3))]),oE 16 (.bin .add (ki 1) (.E 15)),mV 17 0,oE 18 (.call zbm [([0],(.E 17)),([0],(ki 3))]),oE 19 (.bin .add (ki 1) (.E 18)),mV 20 0,oE 21 (.call zbm [([0],(.E 20)),([0],(ki 3))]),oE 22 (.bin .add (ki 1) (.E 21)),oE 23 (.build [iv 0,iv 0,iv 0,iv 0,iv 0,iv 0,iv 0,.e0] [(0,1,(.E 8)),(1,1,(.E 10)),(2,1,(.E 13)),(3,1,(.E 16)),(4,1,(.E 19)),(5,1,(ki 1)),(6,1,(.E 22))]),oV 3 (.alloc [iv 0,iv 0,iv 0,iv 0,iv 0,iv 0,iv 0,.e0]),oN (.store [0,0,0,0,0,0,0,1] (.V 3) (.E 23))]) (.seq (.seq (.reg [mV 24 0,oE 25 (.call zee [([0],(.E 24)),([0],(ki 8))])]) (.cond (.E 25) (.reg [mV 26 0,oE 27 (.call zbm [([0],(.E 26)),([0],(ki 100))]),oE 28 (.bin .add (ki 1) (.E 27)),fV 29 3 3,oN (.store [0] (.E 29) (.E 28))]) .skip)) (.seq (.seq (.reg [mV 30 0,oE 31 (.call zee [([0],(.E 30)),([0],(ki 4))])]) (.cond (.E 31) (.reg [mV 32 0,fV 33 6 3,lE 34 33,oE 35 (.call zbm [([0],(.E 32)),([0],(.E 34))]),oE 36 (.bin .add (ki 1) (.E 35)),fV 37 5 3,oN (.store [0] (.E 37) (.E 36))]) .skip)) (.seq (.reg [mV 38 0,oE 39 (.call zbm [([0],(.E 38)),([0],(ki 5))]),vE 4 39]) (.seq (.seq (.reg [oV 5 (.mv (ki 0))]) (.block 0 (.loop z1n))) (.seq (.reg [tV 53 8 3,oN (.store [0,0,0,0,0,0,0,1] (.V 2) (.E 53))]) .ret))))))
def zmy:List RV:=[.cell [0,0,0,0,0,0,0,1] 2 true]
def yi3:List Nat:=[0,7,3,2]
def zgj:IC := .seq (.reg [oV 2 (.alloc [iv 0,iv 0,iv 0,iv 0,iv 0,iv 0,iv 0,.e0])]) (.seq (.reg [mV 4 0,oE 5 (.call zlp [([0],(.E 4))]),oV 3 (.alloc [iv 0,iv 0,iv 0,iv 0,iv 0,iv 0,iv 0,.e0]),oN (.store [0,0,0,0,0,0,0,1] (.V 3) (.E 5))]) (.seq (.seq (.reg [mV 6 0,oV 7 (.call zbm [([0],(.E 6)),([0],(ki 12))])]) (.block 0 (.seq (.reg [oE 9 (.bin .eql (.V 7) (ki 0)),wE 8 9]) (.cond (.E 8) (.reg [mV 10 0,oE 11 (.bslice 5 1 [iv 0] [(0,(ki 0)),(1,(ki 1)),(2,(ki 8)),(3,(ki 9)),(4,(ki (-1)))]),oE 12 (.call zeu [([0],(.E 10)),([1],(.E 11))]),fV 13 0 3,oN (.store [0] (.E 13) (.E 12))]) (.seq (.reg [oE 15 (.bin .eql (.V 7) (ki 1)),wE 14 15]) (.cond (.E 14) (.reg [mV 16 0,oE 17 (.bslice 4 1 [iv 0] [(0,(ki (-1))),(1,(ki 0)),(2,(ki 4)),(3,(ki 5))]),oE 18 (.call zeu [([0],(.E 16)),([1],(.E 17))]),fV 19 1 3,oN (.store [0] (.E 19) (.E 18))]) (.seq (.reg [oE 21 (.bin .eql (.V 7) (ki 2)),wE 20 21]) (.cond (.E 20) (.reg [mV 22 0,oE 23 (.bslice 4 1 [iv 0] [(0,(ki 1)),(1,(ki 2)),(2,(ki 8)),(3,(ki 9))]),oE 24 (.call zeu [([0],(.E 22)),([1],(.E 23))]),fV 25 2 3,oN (.store [0] (.E 25) (.E 24))]) (.seq (.reg [oE 27 (.bin .eql (.V 7) (ki 3)),wE 26 27]) (.cond (.E 26) (.reg [mV 28 0,oE 29 (.bslice 5 1 [iv 0] [(0,(ki 0)),(1,(ki 1)),(2,(ki 100)),(3,(ki 101)),(4,(ki 9223372036854775807))]),oE 30 (.call zeu [([0],(.E 28)),([1],(.E 29))]),fV 31 3 3,oN (.store [0] (.E 31) (.E 30))]) (.seq (.reg [oE 33 (.bin .eql (.V 7) (ki 4)),wE 32 33]) (.cond (.E 32) (.reg [mV 34 0,oE 35 (.bslice 4 1 [iv 0] [(0,(ki 0)),(1,(ki 1)),(2,(ki 20)),(3,(ki 21))]),oE 36 (.call zeu [([0],(.E 34)),([1],(.E 35))]),fV 37 4 3,oN (.store [0] (.E 37) (.E 36))]) (.seq (.reg [oE 39 (.bin .eql (.V 7) (ki 5)),wE 38 39]) (.cond (.E 38) (.reg [mV 40 0,fV 41 6 3,lE 42 41,fV 43 6 3,lE 44 43,oE 45 (.bin .add (.E 44) (ki 1)),oE 46 (.bslice 5 1 [iv 0] [(0,(ki 0)),(1,(ki 1)),(2,(.E 42)),(3,(.E 45)),(4,(ki (-1)))]),oE 47 (.call zeu [([0],(.E 40)),([1],(.E 46))]),fV 48 5 3,oN (.store [0] (.E 48) (.E 47))]) (.seq (.reg [oE 50 (.bin .eql (.V 7) (ki 6)),wE 49 50]) (.cond (.E 49) (.reg [mV 51 0,oE 52 (.bslice 5 1 [iv 0] [(0,(ki 0)),(1,(ki 1)),(2,(ki 1000)),(3,(ki 1001)),(4,(ki 9223372036854775807))]),oE 53 (.call zeu [([0],(.E 51)),([1],(.E 52))]),fV 54 6 3,oN (.store [0] (.E 54) (.E 53))]) (.seq (.reg [oE 56 (.bin .eql (.V 7) (ki 7)),wE 55 56]) (.cond (.E 55) (.regD [(fV 57 7 3,0,2),(lE 58 57,0,2),(mV 59 0,0,0),(oE 60 (.call zbm [([0],(.E 59)),([0],(ki 5))]),0,0),(oE 61 (.bin .sub (.E 60) (ki 2)),0,0),(oE 62 (.bslice 1 1 [iv 0] [(0,(.E 61))]),0,0),(oE 63 (.app 8 1 (.E 58) (.E 62)),0,0),(fV 64 7 3,0,0),(oN (.store [1] (.E 64) (.E 63)),0,0)]) .skip)))))))))))))))))) (.seq (.reg [tV 65 8 3,oN (.store [0,0,0,0,0,0,0,1] (.V 2) (.E 65))]) .ret)))
def zgk:List RV:=[.cell [0,0,0,0,0,0,0,1] 2 true]
def yi4:List Nat:=[0,3,13,4,2]
def zhd:IC := .seq (.reg [oV 2 (.alloc [.e0,.e0])]) (.seq (.reg [mV 5 0,oE 6 (.call zlo [([0],(.E 5))]),oV 3 (.alloc [.e0,.e0]),oN (.store [1,1] (.V 3) (.E 6))]) (.seq (.reg [mV 7 0,fV 8 0 3,lE 9 8,nE 10 9,oE 11 (.call zbm [([0],(.E 7)),([0],(.E 10))]),vE 4 11]) (.seq (.seq (.reg [mV 12 0,oV 13 (.call zbm [([0],(.E 12)),([0],(ki 14))])]) (.block 0 (.seq (.reg [oE 15 (.bin .eql (.V 13) (ki 0)),wE 14 15]) (.cond (.E 14) (.regD [(fV 16 0 3,0,3),(lE 17 16,0,3),(mV 18 4,0,0),(fV 19 0 3,0,2),(lE 20 19,0,2),(mV 21 4,0,0),(iE 22 1 20 21,0,2),(lE 23 22,0,2),(mV 24 0,0,0),(oE 25 (.call zj6 [([0],(.E 24))]),0,0),(oE 26 (.bslice 1 1 [iv 0] [(0,(.E 25))]),0,0),(oE 27 (.app 8 1 (.E 23) (.E 26)),0,0),(iE 28 1 17 18,0,0),(oN (.store [1] (.E 28) (.E 27)),0,0)]) (.seq (.reg [oE 30 (.bin .eql (.V 13) (ki 1)),wE 29 30]) (.cond (.E 29) (.regD [(fV 31 1 3,0,2),(lE 32 31,0,2),(mV 33 4,0,0),(iE 34 1 32 33,0,2),(lE 35 34,0,2),(mV 36 0,0,0),(oE 37 (.bslice 5 1 [iv 0] [(0,(ki 0)),(1,(ki 1)),(2,(ki (-1))),(3,(ki 8)),(4,(ki 9223372036854775807))]),0,0),(oE 38 (.call zeu [([0],(.E 36)),([1],(.E 37))]),0,0),(oE 39 (.iaddr 1 (.E 35) (ki 0)),0,0),(oN (.store [0] (.E 39) (.E 38)),0,0)]) (.seq (.reg [oE 41 (.bin .eql (.V 13) (ki 2)),wE 40 41]) (.cond (.E 40) (.regD [(fV 42 1 3,0,2),(lE 43 42,0,2),(mV 44 4,0,0),(fV 45 1 3,0,1),(lE 46 45,0,1),(mV 47 4,0,0),(iE 48 1 46 47,0,1),(lE 49 48,0,1),(oE 50 (.bslice 1 1 [iv 0] [(0,(ki 0))]),0,0),(oE 51 (.app 8 1 (.E 49) (.E 50)),0,0),(iE 52 1 43 44,0,0),(oN (.store [1] (.E 52) (.E 51)),0,0)]) (.seq (.reg [oE 54 (.bin .eql (.V 13) (ki 3)),wE 53 54]) (.cond (.E 53) (.reg [fV 55 1 3,lE 56 55,oE 57 (.bslice 1 1 [iv 0] [(0,(ki 0))]),oE 58 (.bslice 1 1 [(.own 1 [])] [(0,(.E 57))]),oE 59 (.app 24 1 (.E 56) (.E 58)),fV 60 1 3,oN (.store [1] (.E 60) (.E 59))]) (.seq (.reg [oE 62 (.bin .eql (.V 13) (ki 4)),wE 61 62]) (.cond (.E 61) (.reg [fV 63 0 3,lE 64 63,oE 65 (.bslice 0 1 [iv 0] []),oE 66 (.bslice 1 1 [(.own 1 [])] [(0,(.E 65))]),oE 67 (.app 24 1 (.E 64) (.E 66)),fV 68 0 3,oN (.store [1] (.E 68) (.E 67))]) (.seq (.reg [oE 70 (.bin .eql (.V 13) (ki 5)),wE 69 70]) (.cond (.E 69) (.reg [oE 71 (.bslice 0 1 [(.own 1 [])] []),fV 72 1 3,oN (.store [1] (.E 72) (.E 71))]) (.seq (.reg [oE 74 (.bin .eql (.V 13) (ki 6)),wE 73 74]) (.cond (.E 73) (.regD [(fV 75 0 3,0,1),(lE 76 75,0,1),(mV 77 4,0,0),(fV 78 0 3,0,1),(lE 79 78,0,1),(mV 80 4,0,0),(iE 81 1 79 80,0,1),(lE 82 81,0,1),(mV 83 0,0,0),(fV 84 0 3,0,0),(lE 85 84,0,0),(mV 86 4,0,0),(iE 87 1 85 86,0,0),(lE 88 87,0,0),(nE 89 88,0,0),(oE 90 (.bin .add (.E 89) (ki 1)),0,0),(oE 91 (.call zbm [([0],(.E 83)),([0],(.E 90))]),0,0),(oE 92 (.slice 1 (.E 82) none (some (.E 91)) none),0,0),(iE 93 1 76 77,0,0),(oN (.store [1] (.E 93) (.E 92)),0,0)]) .skip)))))))))))))))) (.seq (.reg [tV 94 2 3,oN (.store [1,1] (.V 2) (.E 94))]) .ret))))
def zhe:List RV:=[.cell [1,1] 2 true]
def yi5:List Nat:=[0,6,4,3,2]
def z47:IC := .seq (.seq (.reg [mV 14 4,oE 15 (.bin .lss (.E 14) (ki 8))]) (.cond (.E 15) .skip (.exit 1))) (.seq (.block 2 (.reg [mV 18 3,oE 19 (.bin .mul (.E 18) (ki 256)),mV 20 0,oE 21 (.call zha [([0],(.E 20))]),bE 22 .add 19 21,vE 3 22])) (.reg [mV 16 4,oE 17 (.bin .add (.E 16) (ki 1)),vE 4 17]))
def zmz:IC := .seq (.reg [oV 2 (.mv (ki 0))]) (.seq (.seq (.reg [mV 5 0,oV 6 (.call zbm [([0],(.E 5)),([0],(ki 4))])]) (.block 0 (.seq (.reg [oE 8 (.bin .eql (.V 6) (ki 0)),wE 7 8]) (.cond (.E 7) (.seq (.reg [mV 9 0,oE 10 (.bslice 14 1 [iv 0] [(0,(ki 0)),(1,(ki 1)),(2,(ki (-1))),(3,(ki 9)),(4,(ki 10)),(5,(ki 999)),(6,(ki 1000)),(7,(ki 2147483647)),(8,(ki (-2147483648))),(9,(ki 3037000499)),(10,(ki 3037000500)),(11,(ki 9223372036854775807)),(12,(ki (-9223372036854775807))),(13,(ki (-9223372036854775808)))]),oE 11 (.call zeu [([0],(.E 9)),([1],(.E 10))]),vE 2 11]) .ret) (.seq (.reg [oE 13 (.bin .eql (.V 6) (ki 1)),wE 12 13]) (.cond (.E 12) (.seq (.reg [oV 3 (.mv (ki 0))]) (.seq (.seq (.reg [oV 4 (.mv (ki 0))]) (.block 1 (.loop z47))) (.seq (.reg [mV 23 3,vE 2 23]) .ret))) (.seq (.reg [oE 25 (.bin .eql (.V 6) (ki 2)),wE 24 25]) (.cond (.E 24) (.seq (.reg [mV 26 0,oE 27 (.call zbm [([0],(.E 26)),([0],(ki 1000000))]),oE 28 (.bin .sub (.E 27) (ki 500000)),vE 2 28]) .ret) .skip)))))))) (.seq (.reg [mV 29 0,oE 30 (.call zbm [([0],(.E 29)),([0],(ki 41))]),oE 31 (.bin .sub (.E 30) (ki 20)),vE 2 31]) .ret))
def zm0:List RV:=[.tmp [0] 2]
def yi6:List Nat:=[0,1,2,3,22,21,20,12,10,14,13,8,9]
def zm1:IC := .seq (.reg [oE 23 (.bin .lss (.V 22) (.V 21))]) (.seq (.cond (.E 23) .skip (.exit 0)) (.seq (.block 1 (.seq (.reg [oE 24 (.iaddr 1 (.V 20) (.V 22)),lE 25 24,vE 12 25]) (.seq (.seq (.reg [mV 26 12,mV 27 0,nE 28 27,mV 29 1,nE 30 29,oE 31 (.mx false (.E 28) (.E 30)),oE 32 (.bin .sub (.E 31) (ki 1)),oE 33 (.call zcd [([0],(.E 26)),([0],(ki 0)),([0],(.E 32))]),oE 34 (.un .not (.E 33)),wE 35 34,gE 36 35 .false (.mv (.V 0)),gE 37 35 .false (.mv (.V 12)),gE 38 35 .false (.iaddr 1 (.E 36) (.E 37)),gE 39 35 .false (.load false 1 (.E 38)),gE 40 35 .false (.mv (.V 3)),gE 41 35 .false (.bin .sub (.E 40) (ki 1)),gE 42 35 .false (.call zcd [([0],(.E 39)),([0],(ki 0)),([0],(.E 41))]),gE 43 35 .false (.un .not (.E 42)),oE 44 (.pick (.E 35) (kb true) (.E 43))]) (.cond (.E 44) (.seq (.reg [oV 8 (.mv (.C .e0)),oV 9 (.mv (kb false))]) .ret) .skip)) (.seq (.regD [(mV 46 10,0,0),(mV 47 0,0,0),(mV 48 12,0,0),(iE 49 1 47 48,0,0),(lE 50 49,0,0),(iE 51 2 46 50,0,0),(tE 52 2 51,0,0),(mV 53 1,0,0),(mV 54 12,0,0),(iE 55 1 53 54,0,0),(lE 56 55,0,0),(oE 57 (.build [iv 0,iv 0] [(0,1,(ki 1)),(1,1,(.E 56))]),0,0),(oE 58 (.call zj7 [([0,0],(.E 52)),([0,0],(.E 57))]),0,0),(wE 45 58,0,0),(xE 59 0 45,0,0),(xE 60 1 45,0,0),(oV 13 (.allocL [iv 0,iv 0]),0,0),(oN (.store [0,0] (.V 13) (.E 59)),0,0),(vE 14 60,0,0)]) (.seq (.seq (.reg [mV 61 14,oE 62 (.un .not (.E 61))]) (.cond (.E 62) (.seq (.reg [oV 8 (.mv (.C .e0)),oV 9 (.mv (kb false))]) .ret) .skip)) (.regD [(mV 63 10,0,0),(mV 64 0,0,0),(mV 65 12,0,0),(iE 66 1 64 65,0,0),(lE 67 66,0,0),(tV 68 2 13,0,0),(iE 69 2 63 67,0,0),(oN (.store [0,0] (.E 69) (.E 68)),0,0)])))))) (.reg [oE 70 (.bin .add (.V 22) (ki 1)),vE 22 70])))
def zsi:IC := .seq (.reg [oV 8 (.mv (.C .e0)),oV 9 (.mv (kb false))]) (.seq (.seq (.reg [mV 15 3,oE 16 (.call zcd [([0],(.E 15)),([0],(ki 1)),([0],(ki 8))]),oE 17 (.un .not (.E 16))]) (.cond (.E 17) (.seq (.reg [oV 8 (.mv (.C .e0)),oV 9 (.mv (kb false))]) .ret) .skip)) (.seq (.reg [mV 18 3,oE 19 (.mksl 16 2 [iv 0,iv 0] (.E 18) (.E 18)),vE 10 19]) (.seq (.seq (.reg [oV 20 (.mv (.V 2)),oV 21 (.len (.V 20)),oV 22 (.mv (ki 0))]) (.block 0 (.loop zm1))) (.seq (.reg [mV 71 10,vE 8 71,oV 9 (.mv (kb true))]) .ret))))
def zsj:List RV:=[.tmp [2] 8,.tmp [0] 9]
def yi7:List Nat:=[0,1,2,3,4,7,9,8,10,12,11,6]
def zwj:IC := .seq (.reg [oV 3 (.box (.V 0)),oV 4 (.box (.V 1)),oV 6 (.mv (kb false))]) (.seq (.reg [tV 14 6 3,mV 15 2,oE 16 (.call zj4 [([0,0,0,0,0,0],(.E 14)),([0],(.E 15))]),wE 13 16,xE 17 0 13,xE 18 1 13,oV 7 (.alloc [(.v (.bool false)),(.v (.int .u64 0)),(.v (.int .u64 0)),iv 0]),oN (.store [0,0,0,0] (.V 7) (.E 17)),vE 8 18]) (.seq (.reg [tV 20 6 4,mV 21 2,oE 22 (.call zj4 [([0,0,0,0,0,0],(.E 20)),([0],(.E 21))]),wE 19 22,xE 23 0 19,xE 24 1 19,oV 9 (.alloc [(.v (.bool false)),(.v (.int .u64 0)),(.v (.int .u64 0)),iv 0]),oN (.store [0,0,0,0] (.V 9) (.E 23)),vE 10 24]) (.seq (.reg [tV 26 4 7,tV 27 4 9,oE 28 (.call zlu [([0,0,0,0],(.E 26)),([0,0,0,0],(.E 27))]),wE 25 28,xE 29 0 25,xE 30 1 25,vE 11 29,vE 12 30]) (.seq (.reg [mV 31 8,wE 32 31,gE 33 32 .true (.mv (.V 10)),oE 34 (.pick (.E 32) (.E 33) (kb false)),wE 35 34,gE 36 35 .true (.mv (.V 12)),oE 37 (.pick (.E 35) (.E 36) (kb false)),wE 38 37,gE 39 38 .true (.mv (.V 11)),gE 40 38 .true (.bin .gtr (.E 39) (ki 0)),gE 41 38 .true (.mv (.E 40)),gE 42 41 .false (.mv (.V 11)),gE 43 41 .false (.bin .eql (.E 42) (ki 0)),gE 44 41 .false (.mv (.E 43)),gE 45 44 .true (.load true 6 (.V 3)),gE 46 44 .true (.load true 6 (.V 4)),gE 47 44 .true (.call zpd [([0,0,0,0,0,0],(.E 45)),([0,0,0,0,0,0],(.E 46))]),gE 48 41 .false (.pick (.E 44) (.E 47) (kb false)),gE 49 38 .true (.pick (.E 41) (kb true) (.E 48)),oE 50 (.pick (.E 38) (.E 49) (kb false)),vE 6 50]) .ret))))
def zwk:List RV:=[.tmp [0] 6]
def yi8:List Nat:=[0,14,13,12,5,7,9,8,4,2,3]
def zwl:IC := .seq (.reg [oE 15 (.bin .lss (.V 14) (.V 13))]) (.seq (.cond (.E 15) .skip (.exit 0)) (.seq (.block 1 (.seq (.reg [oE 16 (.iaddr 2 (.V 12) (.V 14)),tE 17 2 16,oV 7 (.alloc [iv 0,iv 0]),oN (.store [0,0] (.V 7) (.E 17))]) (.seq (.reg [tV 19 2 5,tV 20 2 7,oE 21 (.call zj7 [([0,0],(.E 19)),([0,0],(.E 20))]),wE 18 21,xE 22 0 18,xE 23 1 18,oV 8 (.alloc [iv 0,iv 0]),oN (.store [0,0] (.V 8) (.E 22)),vE 9 23]) (.seq (.seq (.reg [mV 24 9,oE 25 (.un .not (.E 24))]) (.cond (.E 25) (.seq (.reg [oV 2 (.mv (.C .e0)),oV 3 (.mv (kb false))]) .ret) .skip)) (.regD [(tV 26 2 8,0,2),(mV 27 4,0,0),(tV 28 2 8,0,0),(oE 29 (.bslice 1 2 [iv 0,iv 0] [(0,(.E 28))]),0,0),(oE 30 (.app 16 2 (.E 27) (.E 29)),0,0),(oN (.store [0,0] (.V 5) (.E 26)),0,0),(vE 4 30,0,0)]))))) (.reg [oE 31 (.bin .add (.V 14) (ki 1)),vE 14 31])))
def zwm:IC := .seq (.reg [oV 2 (.mv (.C .e0)),oV 3 (.mv (kb false))]) (.seq (.reg [oE 10 (.bslice 0 2 [iv 0,iv 0] []),oE 11 (.build [iv 0,iv 0] []),oV 5 (.alloc [iv 0,iv 0]),vE 4 10,oN (.store [0,0] (.V 5) (.E 11))]) (.seq (.seq (.reg [oV 12 (.mv (.V 0)),oV 13 (.len (.V 12)),oV 14 (.mv (ki 0))]) (.block 0 (.loop zwl))) (.seq (.reg [mV 32 4,vE 2 32,oV 3 (.mv (kb true))]) .ret)))
def zwn:List RV:=[.tmp [2] 2,.tmp [0] 3]
def yi9:List Nat:=[0,1,2,3,7,9,4,6,8,5]
def zwo:IC := .seq (.reg [oV 2 (.box (.V 0)),oV 3 (.box (.V 1)),oV 4 (.alloc [iv 0,iv 0]),oV 5 (.mv (kb false))]) (.seq (.reg [fV 11 0 2,lE 12 11,fV 13 0 3,lE 14 13,oE 15 (.call zl2 [([0],(.E 12)),([0],(.E 14))]),wE 10 15,xE 16 0 10,xE 17 1 10,vE 6 16,vE 7 17]) (.seq (.reg [fV 19 1 2,lE 20 19,fV 21 1 3,lE 22 21,oE 23 (.call zl2 [([0],(.E 20)),([0],(.E 22))]),wE 18 23,xE 24 0 18,xE 25 1 18,vE 8 24,vE 9 25]) (.seq (.seq (.reg [mV 26 7,oE 27 (.un .not (.E 26)),wE 28 27,gE 29 28 .false (.mv (.V 9)),gE 30 28 .false (.un .not (.E 29)),oE 31 (.pick (.E 28) (kb true) (.E 30))]) (.cond (.E 31) (.seq (.reg [oE 32 (.build [iv 0,iv 0] []),oN (.store [0,0] (.V 4) (.E 32)),oV 5 (.mv (kb false))]) .ret) .skip)) (.seq (.reg [mV 33 6,mV 34 8,oE 35 (.build [iv 0,iv 0] [(0,1,(.E 33)),(1,1,(.E 34))]),oN (.store [0,0] (.V 4) (.E 35)),oV 5 (.mv (kb true))]) .ret))))
def zwp:List RV:=[.cell [0,0] 4 true,.tmp [0] 5]
def yja:List Nat:=[0,1,2,3,10,12,13,11,15,14,8,9]
def zm2:IC := .seq (.seq (.reg [mV 23 12,mV 24 2,nE 25 24,bE 26 .lss 23 25]) (.cond (.E 26) .skip (.exit 0))) (.seq (.block 1 (.seq (.reg [mV 29 2,mV 30 12,iE 31 1 29 30,lE 32 31,vE 13 32]) (.seq (.seq (.reg [mV 33 13,mV 34 0,nE 35 34,oE 36 (.bin .sub (.E 35) (ki 1)),oE 37 (.call zbt [([0],(.E 33)),([0],(ki 0)),([0],(.E 36))]),oE 38 (.un .not (.E 37)),wE 39 38,gE 40 39 .false (.mv (.V 13)),gE 41 39 .false (.mv (.V 1)),gE 42 39 .false (.len (.E 41)),gE 43 39 .false (.bin .sub (.E 42) (ki 1)),gE 44 39 .false (.call zbt [([0],(.E 40)),([0],(ki 0)),([0],(.E 43))]),gE 45 39 .false (.un .not (.E 44)),oE 46 (.pick (.E 39) (kb true) (.E 45)),wE 47 46,gE 48 47 .false (.mv (.V 0)),gE 49 47 .false (.mv (.V 13)),gE 50 47 .false (.iaddr 1 (.E 48) (.E 49)),gE 51 47 .false (.load false 1 (.E 50)),gE 52 47 .false (.mv (.V 3)),gE 53 47 .false (.bin .sub (.E 52) (ki 1)),gE 54 47 .false (.call zbt [([0],(.E 51)),([0],(ki 0)),([0],(.E 53))]),gE 55 47 .false (.un .not (.E 54)),oE 56 (.pick (.E 47) (kb true) (.E 55))]) (.cond (.E 56) (.seq (.reg [mV 57 10,vE 8 57,oV 9 (.mv (kb false))]) .ret) .skip)) (.seq (.regD [(mV 59 11,0,0),(mV 60 0,0,0),(mV 61 13,0,0),(iE 62 1 60 61,0,0),(lE 63 62,0,0),(iE 64 2 59 63,0,0),(tE 65 2 64,0,0),(mV 66 1,0,0),(mV 67 13,0,0),(iE 68 1 66 67,0,0),(lE 69 68,0,0),(oE 70 (.build [iv 0,iv 0] [(0,1,(ki 1)),(1,1,(.E 69))]),0,0),(oE 71 (.call zj8 [([0,0],(.E 65)),([0,0],(.E 70))]),0,0),(wE 58 71,0,0),(xE 72 0 58,0,0),(xE 73 1 58,0,0),(oV 14 (.allocL [iv 0,iv 0]),0,0),(oN (.store [0,0] (.V 14) (.E 72)),0,0),(vE 15 73,0,0)]) (.seq (.seq (.reg [mV 74 15,oE 75 (.un .not (.E 74))]) (.cond (.E 75) (.seq (.reg [mV 76 10,vE 8 76,oV 9 (.mv (kb false))]) .ret) .skip)) (.regD [(mV 77 11,0,0),(mV 78 0,0,0),(mV 79 13,0,0),(iE 80 1 78 79,0,0),(lE 81 80,0,0),(tV 82 2 14,0,0),(iE 83 2 77 81,0,0),(oN (.store [0,0] (.E 83) (.E 82)),0,0)])))))) (.reg [mV 27 12,oE 28 (.bin .add (.E 27) (ki 1)),vE 12 28]))
def zsk:IC := .seq (.reg [oV 8 (.mv (.C .e0)),oV 9 (.mv (kb false))]) (.seq (.reg [oE 16 (.bslice 0 2 [iv 0,iv 0] []),vE 10 16]) (.seq (.seq (.reg [mV 17 3,oE 18 (.call zbt [([0],(.E 17)),([0],(ki 1)),([0],(ki 8))]),oE 19 (.un .not (.E 18))]) (.cond (.E 19) (.seq (.reg [mV 20 10,vE 8 20,oV 9 (.mv (kb false))]) .ret) .skip)) (.seq (.reg [mV 21 3,oE 22 (.mksl 16 2 [iv 0,iv 0] (.E 21) (.E 21)),vE 11 22]) (.seq (.seq (.reg [oV 12 (.mv (ki 0))]) (.block 0 (.loop zm2))) (.seq (.reg [mV 84 11,vE 8 84,oV 9 (.mv (kb true))]) .ret)))))
def zsl:List RV:=[.tmp [2] 8,.tmp [0] 9]
def yjb:List Nat:=[0,1,2,3,4,5,9,7,8,6]
def zwq:IC := .seq (.reg [oV 3 (.box (.V 0)),oV 4 (.box (.V 1)),oV 5 (.box (.V 2)),oV 6 (.mv (kb false))]) (.seq (.reg [tV 11 8 3,tV 12 2 4,tV 13 6 5,oE 14 (.call zlm [([0,0,0,0,0,0,0,1],(.E 11)),([0,0],(.E 12)),([0,0,0,0,0,0],(.E 13))]),wE 10 14,xE 15 0 10,xE 16 1 10,xE 17 2 10,vE 7 15,vE 8 16,vE 9 17]) (.seq (.reg [tV 18 8 3,oE 19 (.call zlh [([0,0,0,0,0,0,0,1],(.E 18))]),wE 20 19,gE 21 20 .true (.mv (.V 9)),oE 22 (.pick (.E 20) (.E 21) (kb false)),wE 23 22,gE 24 23 .true (.faddr 2 (.V 5)),gE 25 23 .true (.faddr 0 (.E 24)),gE 26 23 .true (.load false 1 (.E 25)),gE 27 23 .true (.faddr 4 (.V 3)),gE 28 23 .true (.load false 1 (.E 27)),gE 29 23 .true (.bin .geq (.E 26) (.E 28)),oE 30 (.pick (.E 23) (.E 29) (kb false)),wE 31 30,gE 32 31 .true (.faddr 4 (.V 5)),gE 33 31 .true (.faddr 0 (.E 32)),gE 34 31 .true (.load false 1 (.E 33)),gE 35 31 .true (.faddr 4 (.V 3)),gE 36 31 .true (.load false 1 (.E 35)),gE 37 31 .true (.bin .geq (.E 34) (.E 36)),oE 38 (.pick (.E 31) (.E 37) (kb false)),wE 39 38,gE 40 39 .true (.load true 8 (.V 3)),gE 41 39 .true (.faddr 0 (.V 5)),gE 42 39 .true (.load false 1 (.E 41)),gE 43 39 .true (.call zln [([0,0,0,0,0,0,0,1],(.E 40)),([0],(.E 42))]),gE 44 39 .true (.mv (.V 7)),gE 45 39 .true (.mv (.V 8)),gE 46 39 .true (.call zpe [([0],(.E 43)),([0],(.E 44)),([0],(.E 45))]),oE 47 (.pick (.E 39) (.E 46) (kb false)),wE 48 47,gE 49 48 .true (.load true 6 (.V 5)),gE 50 48 .true (.faddr 3 (.V 3)),gE 51 48 .true (.load false 1 (.E 50)),gE 52 48 .true (.call zpf [([0,0,0,0,0,0],(.E 49)),([0],(.E 51))]),oE 53 (.pick (.E 48) (.E 52) (kb false)),vE 6 53]) .ret))
def zwr:List RV:=[.tmp [0] 6]
def yjc:List Nat:=[0,1,2,3,4,8,10,7,9,12,11,6]
def zws:IC := .seq (.reg [oV 3 (.box (.V 0)),oV 4 (.box (.V 1)),oV 6 (.mv (kb false))]) (.seq (.reg [tV 14 6 3,mV 15 2,oE 16 (.call zj9 [([0,0,0,0,0,0],(.E 14)),([0],(.E 15))]),wE 13 16,xE 17 0 13,xE 18 1 13,oV 7 (.alloc [(.v (.bool false)),(.v (.int .u64 0)),(.v (.int .u64 0)),iv 0]),oN (.store [0,0,0,0] (.V 7) (.E 17)),vE 8 18]) (.seq (.reg [tV 20 6 4,mV 21 2,oE 22 (.call zj9 [([0,0,0,0,0,0],(.E 20)),([0],(.E 21))]),wE 19 22,xE 23 0 19,xE 24 1 19,oV 9 (.alloc [(.v (.bool false)),(.v (.int .u64 0)),(.v (.int .u64 0)),iv 0]),oN (.store [0,0,0,0] (.V 9) (.E 23)),vE 10 24]) (.seq (.seq (.reg [mV 25 8,oE 26 (.un .not (.E 25)),wE 27 26,gE 28 27 .false (.mv (.V 10)),gE 29 27 .false (.un .not (.E 28)),oE 30 (.pick (.E 27) (kb true) (.E 29))]) (.cond (.E 30) (.seq (.reg [oV 6 (.mv (kb false))]) .ret) .skip)) (.seq (.reg [tV 32 4 7,tV 33 4 9,oE 34 (.call zl1 [([0,0,0,0],(.E 32)),([0,0,0,0],(.E 33))]),wE 31 34,xE 35 0 31,xE 36 1 31,vE 11 35,vE 12 36]) (.seq (.reg [mV 37 12,wE 38 37,gE 39 38 .true (.mv (.V 11)),gE 40 38 .true (.bin .gtr (.E 39) (ki 0)),gE 41 38 .true (.mv (.E 40)),gE 42 41 .false (.mv (.V 11)),gE 43 41 .false (.bin .eql (.E 42) (ki 0)),gE 44 41 .false (.mv (.E 43)),gE 45 44 .true (.load true 6 (.V 3)),gE 46 44 .true (.load true 6 (.V 4)),gE 47 44 .true (.call zpg [([0,0,0,0,0,0],(.E 45)),([0,0,0,0,0,0],(.E 46))]),gE 48 41 .false (.pick (.E 44) (.E 47) (kb false)),gE 49 38 .true (.pick (.E 41) (kb true) (.E 48)),oE 50 (.pick (.E 38) (.E 49) (kb false)),vE 6 50]) .ret)))))
def zwt:List RV:=[.tmp [0] 6]
def yjd:List Nat:=[0,6,5,8,7,4,2,3]
def zwu:IC := .seq (.seq (.reg [mV 11 6,mV 12 0,nE 13 12,bE 14 .lss 11 13]) (.cond (.E 14) .skip (.exit 0))) (.seq (.block 1 (.seq (.regD [(tV 18 2 5,0,0),(mV 19 0,0,0),(mV 20 6,0,0),(iE 21 2 19 20,0,0),(tE 22 2 21,0,0),(oE 23 (.call zj8 [([0,0],(.E 18)),([0,0],(.E 22))]),0,0),(wE 17 23,0,0),(xE 24 0 17,0,0),(xE 25 1 17,0,0),(oV 7 (.allocL [iv 0,iv 0]),0,0),(oN (.store [0,0] (.V 7) (.E 24)),0,0),(vE 8 25,0,0)]) (.seq (.seq (.reg [mV 26 8,oE 27 (.un .not (.E 26))]) (.cond (.E 27) (.seq (.reg [oE 28 (.bslice 0 2 [iv 0,iv 0] []),vE 2 28,oV 3 (.mv (kb false))]) .ret) .skip)) (.seq (.reg [tV 29 2 7,oN (.store [0,0] (.V 5) (.E 29))]) (.reg [mV 30 4,tV 31 2 5,oE 32 (.bslice 1 2 [iv 0,iv 0] [(0,(.E 31))]),oE 33 (.app 16 2 (.E 30) (.E 32)),vE 4 33]))))) (.reg [mV 15 6,oE 16 (.bin .add (.E 15) (ki 1)),vE 6 16]))
def zwv:IC := .seq (.reg [oV 2 (.mv (.C .e0)),oV 3 (.mv (kb false))]) (.seq (.reg [oE 9 (.bslice 0 2 [iv 0,iv 0] []),vE 4 9]) (.seq (.reg [oE 10 (.build [iv 0,iv 0] []),oV 5 (.alloc [iv 0,iv 0]),oN (.store [0,0] (.V 5) (.E 10))]) (.seq (.seq (.reg [oV 6 (.mv (ki 0))]) (.block 0 (.loop zwu))) (.seq (.reg [mV 34 4,vE 2 34,oV 3 (.mv (kb true))]) .ret))))
def zww:List RV:=[.tmp [2] 2,.tmp [0] 3]
def yje:List Nat:=[0,1,4,5]
def zkk:IC := .seq (.reg [oV 4 (.mv (ki 0)),oV 5 (.mv (kb false))]) (.seq (.seq (.reg [mV 6 1,oE 7 (.bin .lss (.E 6) (ki 0)),wE 8 7,gE 9 8 .true (.mv (.V 0)),gE 10 8 .true (.mv (.V 1)),gE 11 8 .true (.bin .add (ki 9223372036854775807) (.E 10)),gE 12 8 .true (.bin .gtr (.E 9) (.E 11)),oE 13 (.pick (.E 8) (.E 12) (kb false)),wE 14 13,gE 15 14 .false (.mv (.V 1)),gE 16 14 .false (.bin .gtr (.E 15) (ki 0)),gE 17 14 .false (.mv (.E 16)),gE 18 17 .true (.mv (.V 0)),gE 19 17 .true (.mv (.V 1)),gE 20 17 .true (.bin .add (ki (-9223372036854775808)) (.E 19)),gE 21 17 .true (.bin .lss (.E 18) (.E 20)),gE 22 14 .false (.pick (.E 17) (.E 21) (kb false)),oE 23 (.pick (.E 14) (kb true) (.E 22))]) (.cond (.E 23) (.seq (.reg [oV 4 (.mv (ki 0)),oV 5 (.mv (kb false))]) .ret) .skip)) (.seq (.reg [mV 24 0,mV 25 1,bE 26 .sub 24 25,vE 4 26,oV 5 (.mv (kb true))]) .ret))
def zkl:List RV:=[.tmp [0] 4,.tmp [0] 5]
def yjf:List Nat:=[0,2]
def zwx:IC := .seq (.reg [oV 2 (.mv (kb false))]) (.seq (.reg [mV 3 0,oE 4 (.call zo1 [([0],(.E 3))]),oE 5 (.un .not (.E 4)),vE 2 5]) .ret)
def zwy:List RV:=[.tmp [0] 2]
def yjg:List Nat:=[0,2]
def zwz:IC := .seq (.reg [oV 2 (.mv (kb false))]) (.seq (.reg [mV 3 0,oE 4 (.call zcd [([0],(.E 3)),([0],(ki (-1))),([0],(ki 1))]),vE 2 4]) .ret)
def zw0:List RV:=[.tmp [0] 2]
def yjh:List Nat:=[0,1,2,7,9,4,6,8,5]
def zw1:IC := .seq (.reg [oV 2 (.box (.V 0)),oV 4 (.alloc [(.v (.bool false)),(.v (.int .u64 0)),(.v (.int .u64 0)),iv 0]),oV 5 (.mv (kb false))]) (.seq (.reg [fV 11 2 2,tE 12 2 11,mV 13 1,oE 14 (.call zj5 [([0,0],(.E 12)),([0],(.E 13))]),wE 10 14,xE 15 0 10,xE 16 1 10,oV 6 (.alloc [(.v (.bool false)),(.v (.int .u64 0)),(.v (.int .u64 0)),iv 0]),oN (.store [0,0,0,0] (.V 6) (.E 15)),vE 7 16]) (.seq (.reg [fV 18 4 2,tE 19 2 18,mV 20 1,oE 21 (.call zj5 [([0,0],(.E 19)),([0],(.E 20))]),wE 17 21,xE 22 0 17,xE 23 1 17,oV 8 (.alloc [(.v (.bool false)),(.v (.int .u64 0)),(.v (.int .u64 0)),iv 0]),oN (.store [0,0,0,0] (.V 8) (.E 22)),vE 9 23]) (.seq (.seq (.reg [mV 24 7,oE 25 (.un .not (.E 24)),wE 26 25,gE 27 26 .false (.mv (.V 9)),gE 28 26 .false (.un .not (.E 27)),oE 29 (.pick (.E 26) (kb true) (.E 28))]) (.cond (.E 29) (.seq (.reg [oE 30 (.build [(.v (.bool false)),(.v (.int .u64 0)),(.v (.int .u64 0)),iv 0] []),oN (.store [0,0,0,0] (.V 4) (.E 30)),oV 5 (.mv (kb false))]) .ret) .skip)) (.seq (.reg [tV 31 4 6,tV 32 4 8,oE 33 (.call zph [([0,0,0,0],(.E 31)),([0,0,0,0],(.E 32))]),xE 34 0 33,xE 35 1 33,oN (.store [0,0,0,0] (.V 4) (.E 34)),vE 5 35]) .ret))))
def zw2:List RV:=[.cell [0,0,0,0] 4 true,.tmp [0] 5]
def yji:List Nat:=[0,1,2,3]
def zw3:IC := .seq (.reg [oV 1 (.box (.V 0)),oV 2 (.alloc [iv 0,iv 0]),oV 3 (.mv (kb false))]) (.seq (.reg [fV 4 2 1,tE 5 2 4,fV 6 4 1,tE 7 2 6,oE 8 (.call zj7 [([0,0],(.E 5)),([0,0],(.E 7))]),xE 9 0 8,xE 10 1 8,oN (.store [0,0] (.V 2) (.E 9)),vE 3 10]) .ret)
def zw4:List RV:=[.cell [0,0] 2 true,.tmp [0] 3]
def yjj:List Nat:=[0,1,2,4,5]
def zsm:IC := .seq (.reg [oV 2 (.box (.V 0)),oV 4 (.alloc [(.v (.bool false)),(.v (.int .u64 0)),(.v (.int .u64 0)),iv 0]),oV 5 (.mv (kb false))]) (.seq (.seq (.reg [fV 6 0 2,lE 7 6,mV 8 1,oE 9 (.call zlx [([0],(.E 7)),([0],(.E 8))]),oE 10 (.un .not (.E 9))]) (.cond (.E 10) (.seq (.reg [oE 11 (.build [(.v (.bool false)),(.v (.int .u64 0)),(.v (.int .u64 0)),iv 0] []),oN (.store [0,0,0,0] (.V 4) (.E 11)),oV 5 (.mv (kb false))]) .ret) .skip)) (.seq (.reg [fV 12 1 2,lE 13 12,fV 14 0 2,lE 15 14,mV 16 1,bE 17 .add 15 16,oE 18 (.call zpi [([0],(.E 13)),([0],(.E 17))]),xE 19 0 18,xE 20 1 18,oN (.store [0,0,0,0] (.V 4) (.E 19)),vE 5 20]) .ret))
def zsn:List RV:=[.cell [0,0,0,0] 4 true,.tmp [0] 5]
def yjk:List Nat:=[0,1,2,3,8,6,7,4,5]
def zw5:IC := .seq (.reg [oV 2 (.box (.V 0)),oV 3 (.box (.V 1)),oV 4 (.mv (ki 0)),oV 5 (.mv (kb false))]) (.seq (.reg [tV 10 4 2,tV 11 4 3,oE 12 (.call zl3 [([0,0,0,0],(.E 10)),([0,0,0,0],(.E 11))]),wE 9 12,xE 13 0 9,xE 14 1 9,xE 15 2 9,oV 6 (.alloc [(.v (.bool false)),(.v (.int .u64 0)),(.v (.int .u64 0))]),oV 7 (.alloc [(.v (.bool false)),(.v (.int .u64 0)),(.v (.int .u64 0))]),oN (.store [0,0,0] (.V 6) (.E 13)),oN (.store [0,0,0] (.V 7) (.E 14)),vE 8 15]) (.seq (.seq (.reg [mV 16 8,oE 17 (.un .not (.E 16))]) (.cond (.E 17) (.seq (.reg [oV 4 (.mv (ki 0)),oV 5 (.mv (kb false))]) .ret) .skip)) (.seq (.reg [tV 18 3 6,tV 19 3 7,oE 20 (.call zpj [([0,0,0],(.E 18)),([0,0,0],(.E 19))]),vE 4 20,oV 5 (.mv (kb true))]) .ret)))
def zw6:List RV:=[.tmp [0] 4,.tmp [0] 5]
def yjl:List Nat:=[0,3,2]
def z48:IC := .seq (.seq (.reg [mV 4 3,mV 5 0,nE 6 5,bE 7 .lss 4 6]) (.cond (.E 7) .skip (.exit 0))) (.seq (.block 1 (.seq (.regD [(mV 10 0,0,0),(mV 11 3,0,0),(iE 12 1 10 11,0,0),(lE 13 12,0,0),(oE 14 (.call zka [([0],(.E 13))]),0,0),(oE 15 (.un .not (.E 14)),0,0),(wE 16 15,0,0),(gE 17 16 .false (.mv (.V 3)),0,0),(gE 18 16 .false (.bin .gtr (.E 17) (ki 0)),0,0),(gE 19 16 .false (.mv (.E 18)),0,0),(gE 20 19 .true (.mv (.V 0)),0,0),(gE 21 19 .true (.mv (.V 3)),0,0),(gE 22 19 .true (.bin .sub (.E 21) (ki 1)),0,0),(gE 23 19 .true (.iaddr 1 (.E 20) (.E 22)),0,0),(gE 24 19 .true (.load false 1 (.E 23)),0,0),(gE 25 19 .true (.mv (.V 0)),0,0),(gE 26 19 .true (.mv (.V 3)),0,0),(gE 27 19 .true (.iaddr 1 (.E 25) (.E 26)),0,0),(gE 28 19 .true (.load false 1 (.E 27)),0,0),(gE 29 19 .true (.bin .geq (.E 24) (.E 28)),0,0),(gE 30 16 .false (.pick (.E 19) (.E 29) (kb false)),0,0),(oE 31 (.pick (.E 16) (kb true) (.E 30)),0,0)]) (.cond (.E 31) (.seq (.reg [oV 2 (.mv (kb false))]) .ret) .skip))) (.reg [mV 8 3,oE 9 (.bin .add (.E 8) (ki 1)),vE 3 9]))
def zw7:IC := .seq (.reg [oV 2 (.mv (kb false))]) (.seq (.seq (.reg [oV 3 (.mv (ki 0))]) (.block 0 (.loop z48))) (.seq (.reg [mV 32 0,nE 33 32,oE 34 (.bin .leq (.E 33) (ki 7)),vE 2 34]) .ret))
def zw8:List RV:=[.tmp [0] 2]
def yjm:List Nat:=[0,1,2]
def zw9:IC := .seq (.reg [oV 1 (.box (.V 0)),oV 2 (.mv (.C .e0))]) (.seq (.reg [fV 3 0 1,lE 4 3,fV 5 1 1,lE 6 5,fV 7 2 1,lE 8 7,fV 9 3 1,lE 10 9,fV 11 4 1,lE 12 11,oE 13 (.bslice 5 1 [iv 0] [(0,(.E 4)),(1,(.E 6)),(2,(.E 8)),(3,(.E 10)),(4,(.E 12))]),vE 2 13]) .ret)
def zxa:List RV:=[.tmp [1] 2]
def yjn:List Nat:=[0]
def zxb:IC := .seq (.reg [oV 0 (.mv (.C .e0))]) (.seq (.reg [oE 1 (.bslice 5 1 [iv 0] [(0,(ki 1)),(1,(ki 0)),(2,(ki 2)),(3,(ki 1)),(4,(ki 1))]),vE 0 1]) .ret)
def zxc:List RV:=[.tmp [1] 0]
def yjo:List Nat:=[0]
def zxd:IC := .seq (.reg [oV 0 (.mv (.C .e0))]) (.seq (.reg [oE 1 (.bslice 5 1 [iv 0] [(0,(ki 8)),(1,(ki 4)),(2,(ki 8)),(3,(ki 100)),(4,(ki 20))]),vE 0 1]) .ret)
def zxe:List RV:=[.tmp [1] 0]
def yjp:List Nat:=[0,3,2]
def z49:IC := .seq (.seq (.reg [mV 4 3,mV 5 0,nE 6 5,bE 7 .lss 4 6]) (.cond (.E 7) .skip (.exit 0))) (.seq (.block 1 (.seq (.regD [(mV 10 0,0,0),(mV 11 3,0,0),(oE 12 (.bin .sub (.E 11) (ki 1)),0,0),(iE 13 1 10 12,0,0),(lE 14 13,0,0),(mV 15 0,0,0),(mV 16 3,0,0),(iE 17 1 15 16,0,0),(lE 18 17,0,0),(bE 19 .geq 14 18,0,0)]) (.cond (.E 19) (.seq (.reg [oV 2 (.mv (kb false))]) .ret) .skip))) (.reg [mV 8 3,oE 9 (.bin .add (.E 8) (ki 1)),vE 3 9]))
def zxf:IC := .seq (.reg [oV 2 (.mv (kb false))]) (.seq (.seq (.reg [oV 3 (.mv (ki 1))]) (.block 0 (.loop z49))) (.seq (.reg [mV 20 0,nE 21 20,oE 22 (.bin .leq (.E 21) (ki 7)),wE 23 22,gE 24 23 .true (.mv (.V 0)),gE 25 23 .true (.call zpk [([1],(.E 24))]),oE 26 (.pick (.E 23) (.E 25) (kb false)),vE 2 26]) .ret))
def zxg:List RV:=[.tmp [0] 2]
def yjq:List Nat:=[0,1,3]
def zxh:IC := .seq (.reg [oV 3 (.mv (kb false))]) (.seq (.reg [mV 4 0,oE 5 (.load false 1 (.V 1)),nE 6 5,oE 7 (.call zcd [([0],(.E 4)),([0],(ki 0)),([0],(.E 6))]),oE 8 (.un .not (.E 7)),vE 3 8]) .ret)
def zxi:List RV:=[.tmp [0] 3]
def yjr:List Nat:=[0,1,8,7,5,4]
def z1o:IC := .seq (.reg [oE 9 (.bin .lss (.V 8) (.V 7))]) (.seq (.cond (.E 9) .skip (.exit 0)) (.seq (.block 1 (.seq (.reg [mV 10 8,vE 5 10]) (.seq (.reg [mV 11 1,mV 12 0,mV 13 5,iE 14 1 12 13,lE 15 14,oE 16 (.callv (.E 11) [([0],(.E 15))])]) (.cond (.E 16) (.seq (.reg [mV 17 5,vE 4 17]) .ret) .skip)))) (.reg [oE 18 (.bin .add (.V 8) (ki 1)),vE 8 18])))
def zso:IC := .seq (.reg [oV 4 (.mv (ki 0))]) (.seq (.seq (.reg [mV 6 0,oV 7 (.len (.E 6)),oV 8 (.mv (ki 0))]) (.block 0 (.loop z1o))) (.seq (.reg [oV 4 (.mv (ki (-1)))]) .ret))
def zsp:List RV:=[.tmp [0] 4]
def yjs:List Nat:=[0,1,4]
def zxj:IC := .seq (.reg [oV 4 (.mv (kb false))]) (.seq (.reg [mV 5 0,oE 6 (.call zcd [([0],(.E 5)),([0],(ki 0)),([0],(ki 40))]),wE 7 6,gE 8 7 .true (.mv (.V 1)),gE 9 7 .true (.call zcd [([0],(.E 8)),([0],(ki 1)),([0],(ki 100))]),oE 10 (.pick (.E 7) (.E 9) (kb false)),vE 4 10]) .ret)
def zxk:List RV:=[.tmp [0] 4]
def yjt:List Nat:=[0,1,2]
def zxl:IC := .seq (.reg [oV 1 (.box (.V 0)),oV 2 (.mv (kb false))]) (.seq (.reg [fV 3 0 1,lE 4 3,fV 5 1 1,lE 6 5,bE 7 .leq 4 6,wE 8 7,gE 9 8 .true (.faddr 0 (.V 1)),gE 10 8 .true (.load false 1 (.E 9)),gE 11 8 .true (.call zl4 [([0],(.E 10))]),oE 12 (.pick (.E 8) (.E 11) (kb false)),wE 13 12,gE 14 13 .true (.faddr 1 (.V 1)),gE 15 13 .true (.load false 1 (.E 14)),gE 16 13 .true (.call zl4 [([0],(.E 15))]),oE 17 (.pick (.E 13) (.E 16) (kb false)),vE 2 17]) .ret)
def zxm:List RV:=[.tmp [0] 2]
def yju:List Nat:=[0,1,6,4,5]
def zxn:IC := .seq (.reg [oV 4 (.mv (ki 0)),oV 5 (.mv (kb false))]) (.seq (.seq (.reg [mV 7 1,oE 8 (.bin .eql (.E 7) (ki 0)),wE 9 8,gE 10 9 .false (.mv (.V 0)),gE 11 9 .false (.bin .eql (.E 10) (ki (-9223372036854775808))),gE 12 9 .false (.mv (.E 11)),gE 13 12 .true (.mv (.V 1)),gE 14 12 .true (.bin .eql (.E 13) (ki (-1))),gE 15 9 .false (.pick (.E 12) (.E 14) (kb false)),oE 16 (.pick (.E 9) (kb true) (.E 15))]) (.cond (.E 16) (.seq (.reg [oV 4 (.mv (ki 0)),oV 5 (.mv (kb false))]) .ret) .skip)) (.seq (.reg [mV 17 0,mV 18 1,bE 19 .quo 17 18,vE 6 19]) (.seq (.seq (.reg [mV 20 0,mV 21 1,bE 22 .rem 20 21,oE 23 (.bin .neq (.E 22) (ki 0)),wE 24 23,gE 25 24 .true (.mv (.V 0)),gE 26 24 .true (.bin .lss (.E 25) (ki 0)),gE 27 24 .true (.mv (.V 1)),gE 28 24 .true (.bin .lss (.E 27) (ki 0)),gE 29 24 .true (.eqb true [.b] (.E 26) (.E 28)),oE 30 (.pick (.E 24) (.E 29) (kb false))]) (.cond (.E 30) (.reg [mV 31 6,oE 32 (.bin .sub (.E 31) (ki 1)),vE 6 32]) .skip)) (.seq (.reg [mV 33 6,vE 4 33,oV 5 (.mv (kb true))]) .ret))))
def zxo:List RV:=[.tmp [0] 4,.tmp [0] 5]
def yjv:List Nat:=[0,1,2,6]
def zsq:IC := .seq (.reg [oV 6 (.mv (ki 0))]) (.seq (.block 0 (.seq (.reg [mV 8 0,mV 9 1,bE 10 .lss 8 9,wE 7 10]) (.cond (.E 7) (.seq (.reg [mV 11 1,vE 6 11]) .ret) (.seq (.reg [mV 13 0,mV 14 2,bE 15 .gtr 13 14,wE 12 15]) (.cond (.E 12) (.seq (.reg [mV 16 2,vE 6 16]) .ret) .skip))))) (.seq (.reg [mV 17 0,vE 6 17]) .ret))
def zsr:List RV:=[.tmp [0] 6]
def yjw:List Nat:=[0,1,4]
def zxp:IC := .seq (.reg [oV 4 (.mv (ki 0))]) (.seq (.reg [mV 5 0,oE 6 (.bin .shr (.E 5) (.C (.v (.int .u64 1)))),mV 7 1,oE 8 (.bin .shr (.E 7) (.C (.v (.int .u64 1)))),bE 9 .add 6 8,mV 10 0,mV 11 1,bE 12 .and 10 11,oE 13 (.bin .and (.E 12) (ki 1)),bE 14 .add 9 13,vE 4 14]) .ret)
def zxq:List RV:=[.tmp [0] 4]
def yjx:List Nat:=[0,2]
def zxr:IC := .seq (.reg [oV 2 (.mv (kb false))]) (.seq (.reg [mV 3 0,oE 4 (.call zbt [([0],(.E 3)),([0],(ki (-1099511627776))),([0],(ki 1099511627776))]),vE 2 4]) .ret)
def zxs:List RV:=[.tmp [0] 2]
def yjy:List Nat:=[0,1,4]
def zxt:IC := .seq (.reg [oV 4 (.mv (ki 0))]) (.seq (.reg [mV 5 0,mV 6 1,bE 7 .and 5 6,mV 8 0,mV 9 1,bE 10 .xor 8 9,oE 11 (.bin .shr (.E 10) (.C (.v (.int .u64 1)))),bE 12 .add 7 11,vE 4 12]) .ret)
def zxu:List RV:=[.tmp [0] 4]
def yjz:List Nat:=[0,1,2,3,8,6,7,4,5]
def zxv:IC := .seq (.reg [oV 2 (.box (.V 0)),oV 3 (.box (.V 1)),oV 4 (.mv (ki 0)),oV 5 (.mv (kb false))]) (.seq (.reg [tV 10 4 2,tV 11 4 3,oE 12 (.call zl5 [([0,0,0,0],(.E 10)),([0,0,0,0],(.E 11))]),wE 9 12,xE 13 0 9,xE 14 1 9,xE 15 2 9,oV 6 (.alloc [(.v (.bool false)),(.v (.int .u64 0)),(.v (.int .u64 0))]),oV 7 (.alloc [(.v (.bool false)),(.v (.int .u64 0)),(.v (.int .u64 0))]),oN (.store [0,0,0] (.V 6) (.E 13)),oN (.store [0,0,0] (.V 7) (.E 14)),vE 8 15]) (.seq (.seq (.reg [mV 16 8,oE 17 (.un .not (.E 16))]) (.cond (.E 17) (.seq (.reg [oV 4 (.mv (ki 0)),oV 5 (.mv (kb false))]) .ret) .skip)) (.seq (.reg [tV 18 3 6,tV 19 3 7,oE 20 (.call zpm [([0,0,0],(.E 18)),([0,0,0],(.E 19))]),vE 4 20,oV 5 (.mv (kb true))]) .ret)))
def zxw:List RV:=[.tmp [0] 4,.tmp [0] 5]
def yj0:List Nat:=[0,1,2,5,4,6,7,10,9,8]
def zxx:IC := .seq (.seq (.reg [mV 35 10,mV 36 7,nE 37 36,bE 38 .lss 35 37]) (.cond (.E 38) .skip (.exit 2))) (.seq (.block 3 (.reg [mV 41 9,mV 42 8,mV 43 7,mV 44 10,iE 45 1 43 44,lE 46 45,oE 47 (.call zpq [([1],(.E 42)),([0],(.E 46))]),oE 48 (.bslice 1 1 [iv 0] [(0,(.E 47))]),oE 49 (.app 8 1 (.E 41) (.E 48)),vE 9 49])) (.reg [mV 39 10,oE 40 (.bin .add (.E 39) (ki 1)),vE 10 40]))
def z1p:IC := .seq (.seq (.reg [mV 21 6,fV 22 0 2,lE 23 22,nE 24 23,bE 25 .lss 21 24]) (.cond (.E 25) .skip (.exit 0))) (.seq (.block 1 (.seq (.reg [tV 28 4 2,mV 29 6,oE 30 (.call zpo [([1,0,1,1],(.E 28)),([0],(.E 29))]),vE 7 30]) (.seq (.reg [mV 31 7,mV 32 1,oE 33 (.call zpp [([1],(.E 31)),([0],(.E 32))]),vE 8 33]) (.seq (.reg [oE 34 (.bslice 0 1 [iv 0] []),vE 9 34]) (.seq (.seq (.reg [oV 10 (.mv (ki 0))]) (.block 2 (.loop zxx))) (.seq (.reg [fV 50 0 5,lE 51 50,mV 52 8,oE 53 (.bslice 1 1 [(.own 1 [])] [(0,(.E 52))]),oE 54 (.app 24 1 (.E 51) (.E 53)),fV 55 0 5,oN (.store [1] (.E 55) (.E 54))]) (.reg [fV 56 1 5,lE 57 56,mV 58 9,oE 59 (.bslice 1 1 [(.own 1 [])] [(0,(.E 58))]),oE 60 (.app 24 1 (.E 57) (.E 59)),fV 61 1 5,oN (.store [1] (.E 61) (.E 60))]))))))) (.reg [mV 26 6,oE 27 (.bin .add (.E 26) (ki 1)),vE 6 27]))
def zxy:IC := .seq (.reg [oV 2 (.box (.V 0)),oV 4 (.alloc [.e0,.e0])]) (.seq (.reg [oE 11 (.build [.e0,.e0] []),oV 5 (.alloc [.e0,.e0]),oN (.store [1,1] (.V 5) (.E 11))]) (.seq (.seq (.reg [tV 12 4 2,oE 13 (.call zpn [([1,0,1,1],(.E 12))]),oE 14 (.un .not (.E 13)),wE 15 14,gE 16 15 .false (.mv (.V 1)),gE 17 15 .false (.call zbt [([0],(.E 16)),([0],(ki 2)),([0],(ki 8))]),gE 18 15 .false (.un .not (.E 17)),oE 19 (.pick (.E 15) (kb true) (.E 18))]) (.cond (.E 19) (.seq (.reg [tV 20 2 5,oN (.store [1,1] (.V 4) (.E 20))]) .ret) .skip)) (.seq (.seq (.reg [oV 6 (.mv (ki 0))]) (.block 0 (.loop z1p))) (.seq (.reg [tV 62 2 5,oN (.store [1,1] (.V 4) (.E 62))]) .ret))))
def zxz:List RV:=[.cell [1,1] 4 true]
def yj1:List Nat:=[0,3,7,5,9,6,8,10,4,11,2]
def zss:IC := .seq (.seq (.reg [mV 37 9,mV 38 3,bE 39 .lss 37 38]) (.cond (.E 39) .skip (.exit 2))) (.seq (.block 3 (.seq (.reg [mV 42 0,oE 43 (.call zj6 [([0],(.E 42))]),vE 10 43]) (.seq (.seq (.reg [mV 44 6,oE 45 (.un .not (.E 44))]) (.cond (.E 45) (.reg [mV 46 0,oE 47 (.call zbm [([0],(.E 46)),([0],(ki 7))]),oE 48 (.bin .sub (.E 47) (ki 3)),oE 49 (.bin .mul (ki 500) (.E 48)),vE 10 49]) .skip)) (.reg [mV 50 8,mV 51 10,oE 52 (.bslice 1 1 [iv 0] [(0,(.E 51))]),oE 53 (.app 8 1 (.E 50) (.E 52)),vE 8 53])))) (.reg [mV 40 9,oE 41 (.bin .add (.E 40) (ki 1)),vE 9 41]))
def zx0:IC := .seq (.seq (.reg [mV 31 7,mV 32 5,bE 33 .lss 31 32]) (.cond (.E 33) .skip (.exit 0))) (.seq (.block 1 (.seq (.reg [oE 36 (.bslice 0 1 [iv 0] []),vE 8 36]) (.seq (.seq (.reg [oV 9 (.mv (ki 0))]) (.block 2 (.loop zss))) (.seq (.reg [fV 54 2 4,lE 55 54,mV 56 8,oE 57 (.bslice 1 1 [(.own 1 [])] [(0,(.E 56))]),oE 58 (.app 24 1 (.E 55) (.E 57)),fV 59 2 4,oN (.store [1] (.E 59) (.E 58))]) (.seq (.reg [mV 60 0,oE 61 (.call zj6 [([0],(.E 60))]),vE 11 61]) (.seq (.seq (.reg [mV 62 6,oE 63 (.un .not (.E 62)),wE 64 63,gE 65 64 .true (.mv (.V 0)),gE 66 64 .true (.call zee [([0],(.E 65)),([0],(ki 4))]),gE 67 64 .true (.un .not (.E 66)),oE 68 (.pick (.E 64) (.E 67) (kb false))]) (.cond (.E 68) (.regD [(mV 69 8,0,0),(oE 70 (.iaddr 1 (.E 69) (ki 0)),0,1),(lE 71 70,0,1),(oE 72 (.bin .mul (.E 71) (ki 2)),0,0),(mV 73 0,0,0),(oE 74 (.call zbm [([0],(.E 73)),([0],(ki 5))]),0,0),(oE 75 (.bin .mul (ki 100) (.E 74)),0,0),(bE 76 .add 72 75,0,0),(vE 11 76,0,0)]) .skip)) (.reg [fV 77 3 4,lE 78 77,mV 79 11,oE 80 (.bslice 1 1 [iv 0] [(0,(.E 79))]),oE 81 (.app 8 1 (.E 78) (.E 80)),fV 82 3 4,oN (.store [1] (.E 82) (.E 81))]))))))) (.reg [mV 34 7,oE 35 (.bin .add (.E 34) (ki 1)),vE 7 35]))
def zst:IC := .seq (.reg [oV 2 (.alloc [.e0,(.v (.string (bs []))),.e0,.e0])]) (.seq (.reg [mV 12 0,oE 13 (.call zbm [([0],(.E 12)),([0],(ki 3))]),oE 14 (.bin .add (ki 1) (.E 13)),vE 3 14]) (.seq (.reg [oE 15 (.bslice 0 1 [(.v (.string (bs [])))] []),oE 16 (.bslice 4 1 [(.v (.string (bs [])))] [(0,(.C (.v (.string (bs [97]))))),(1,(.C (.v (.string (bs [98]))))),(2,(.C (.v (.string (bs [99,50]))))),(3,(.C (.v (.string (bs [100])))))]),mV 17 3,oE 18 (.slice 1 (.E 16) none (some (.E 17)) none),oE 19 (.app 16 1 (.E 15) (.E 18)),oE 20 (.build [.e0,(.v (.string (bs []))),.e0,.e0] [(0,1,(.E 19)),(1,1,(.C (.v (.string (bs [121])))))]),oV 4 (.alloc [.e0,(.v (.string (bs []))),.e0,.e0]),oN (.store [1,0,1,1] (.V 4) (.E 20))]) (.seq (.reg [mV 21 0,oE 22 (.call zbm [([0],(.E 21)),([0],(ki 9))]),oE 23 (.bin .add (ki 1) (.E 22)),vE 5 23]) (.seq (.seq (.reg [mV 24 0,oE 25 (.call zee [([0],(.E 24)),([0],(ki 10))])]) (.cond (.E 25) (.reg [mV 26 0,oE 27 (.call zbm [([0],(.E 26)),([0],(ki 40))]),oE 28 (.bin .add (ki 1) (.E 27)),vE 5 28]) .skip)) (.seq (.reg [mV 29 0,oE 30 (.call zee [([0],(.E 29)),([0],(ki 12))]),vE 6 30]) (.seq (.seq (.reg [oV 7 (.mv (ki 0))]) (.block 0 (.loop zx0))) (.seq (.reg [tV 83 4 4,oN (.store [1,0,1,1] (.V 2) (.E 83))]) .ret)))))))
def zkm:List RV:=[.cell [1,0,1,1] 2 true]
def yj2:List Nat:=[0,3,2]
def zsu:IC := .seq (.reg [oV 2 (.mv (ki 0))]) (.seq (.reg [mV 4 0,mV 5 0,oE 6 (.nilc (.E 5)),fE 7 2 6,lE 8 7,oE 9 (.bin .mul (.E 8) (ki 6364136223846793005)),oE 10 (.bin .add (.E 9) (ki 1442695040888963407)),oE 11 (.nilc (.E 4)),fE 12 2 11,oN (.store [0] (.E 12) (.E 10))]) (.seq (.regD [(mV 13 0,0,0),(oE 14 (.nilc (.E 13)),0,0),(fE 15 2 14,0,0),(lE 16 15,0,0),(oE 17 (.bin .shr (.E 16) (.C (.v (.int .u64 33)))),0,0),(mV 18 0,0,0),(oE 19 (.nilc (.E 18)),0,0),(fE 20 2 19,0,0),(lE 21 20,0,0),(oE 22 (.bin .shr (.E 21) (.C (.v (.int .u64 45)))),0,0),(bE 23 .xor 17 22,0,0),(oE 24 (.bin .and (.E 23) (ki 255)),0,0),(vE 3 24,0,0)]) (.seq (.seq (.regD [(mV 25 0,0,0),(oE 26 (.nilc (.E 25)),0,0),(fE 27 1 26,0,0),(lE 28 27,0,0),(mV 29 0,0,0),(oE 30 (.nilc (.E 29)),0,0),(fE 31 0 30,0,0),(lE 32 31,0,0),(nE 33 32,0,0),(bE 34 .lss 28 33,0,0)]) (.cond (.E 34) (.seq (.regD [(mV 35 3,0,0),(mV 36 0,0,0),(oE 37 (.nilc (.E 36)),0,0),(fE 38 0 37,0,0),(lE 39 38,0,0),(mV 40 0,0,0),(oE 41 (.nilc (.E 40)),0,0),(fE 42 1 41,0,0),(lE 43 42,0,0),(iE 44 1 39 43,0,0),(lE 45 44,0,0),(oE 46 (.convI .i64 (.E 45)),0,0),(bE 47 .add 35 46,0,0),(oE 48 (.bin .and (.E 47) (ki 255)),0,0),(vE 3 48,0,0)]) (.reg [mV 49 0,mV 50 0,oE 51 (.nilc (.E 50)),fE 52 1 51,lE 53 52,oE 54 (.bin .add (.E 53) (ki 1)),oE 55 (.nilc (.E 49)),fE 56 1 55,oN (.store [0] (.E 56) (.E 54))])) .skip)) (.seq (.reg [mV 57 3,vE 2 57]) .ret))))
def zsv:List RV:=[.tmp [0] 2]
def yj3:List Nat:=[0,2]
def zqc:IC := .seq (.reg [oV 2 (.mv (ki 0))]) (.seq (.seq (.reg [mV 3 0,oE 4 (.call zee [([0],(.E 3)),([0],(ki 20))])]) (.cond (.E 4) (.seq (.reg [mV 5 0,oE 6 (.bslice 5 1 [iv 0] [(0,(ki 2147483647)),(1,(ki (-2147483647))),(2,(ki 1)),(3,(ki (-1))),(4,(ki 1000000000))]),oE 7 (.call zeu [([0],(.E 5)),([1],(.E 6))]),vE 2 7]) .ret) .skip)) (.seq (.seq (.reg [mV 8 0,oE 9 (.call zee [([0],(.E 8)),([0],(ki 2))])]) (.cond (.E 9) (.seq (.reg [mV 10 0,oE 11 (.call zbm [([0],(.E 10)),([0],(ki 9))]),oE 12 (.bin .sub (.E 11) (ki 4)),oE 13 (.bin .mul (ki 1000) (.E 12)),vE 2 13]) .ret) .skip)) (.seq (.reg [mV 14 0,oE 15 (.call zbm [([0],(.E 14)),([0],(ki 41))]),oE 16 (.bin .sub (.E 15) (ki 20)),oE 17 (.bin .mul (ki 250) (.E 16)),vE 2 17]) .ret)))
def zqd:List RV:=[.tmp [0] 2]
def yj4:List Nat:=[0,1,2,3,7,9,4,6,8,5]
def zx1:IC := .seq (.reg [oV 2 (.box (.V 0)),oV 3 (.box (.V 1)),oV 4 (.alloc [iv 0,iv 0]),oV 5 (.mv (kb false))]) (.seq (.reg [fV 11 0 2,lE 12 11,fV 13 0 3,lE 14 13,oE 15 (.call zl6 [([0],(.E 12)),([0],(.E 14))]),wE 10 15,xE 16 0 10,xE 17 1 10,vE 6 16,vE 7 17]) (.seq (.reg [fV 19 1 2,lE 20 19,fV 21 1 3,lE 22 21,oE 23 (.call zl6 [([0],(.E 20)),([0],(.E 22))]),wE 18 23,xE 24 0 18,xE 25 1 18,vE 8 24,vE 9 25]) (.seq (.seq (.reg [mV 26 7,oE 27 (.un .not (.E 26)),wE 28 27,gE 29 28 .false (.mv (.V 9)),gE 30 28 .false (.un .not (.E 29)),oE 31 (.pick (.E 28) (kb true) (.E 30))]) (.cond (.E 31) (.seq (.reg [oE 32 (.build [iv 0,iv 0] []),oN (.store [0,0] (.V 4) (.E 32)),oV 5 (.mv (kb false))]) .ret) .skip)) (.seq (.reg [mV 33 6,mV 34 8,oE 35 (.build [iv 0,iv 0] [(0,1,(.E 33)),(1,1,(.E 34))]),oN (.store [0,0] (.V 4) (.E 35)),oV 5 (.mv (kb true))]) .ret))))
def zx2:List RV:=[.cell [0,0] 4 true,.tmp [0] 5]
def yj5:List Nat:=[0,1,2,3,4]
def zx3:IC := .seq (.reg [oV 2 (.box (.V 0)),oV 3 (.box (.V 1)),oV 4 (.mv (kb false))]) (.seq (.regD [(fV 5 0 2,0,0),(lE 6 5,0,0),(fV 7 0 3,0,0),(lE 8 7,0,0),(oE 9 (.call zl8 [([0],(.E 6)),([0],(.E 8))]),0,0),(fV 10 1 2,1,0),(lE 11 10,1,0),(fV 12 1 3,1,0),(lE 13 12,1,0),(oE 14 (.call zl8 [([0],(.E 11)),([0],(.E 13))]),0,0),(oE 15 (.bslice 2 1 [iv 0] [(0,(.E 9)),(1,(.E 14))]),0,0),(oE 16 (.call zl7 [([1],(.E 15))]),0,0),(oE 17 (.bin .lss (.E 16) (ki 0)),0,0),(vE 4 17,0,0)]) .ret)
def zx4:List RV:=[.tmp [0] 4]
def yj6:List Nat:=[0,1,6,4,5]
def zi1:IC := .seq (.reg [oV 4 (.mv (ki 0)),oV 5 (.mv (kb false))]) (.seq (.reg [mV 7 0,mV 8 1,bE 9 .sub 7 8,vE 6 9]) (.seq (.seq (.reg [mV 10 0,oE 11 (.bin .lss (.E 10) (ki 0)),mV 12 1,oE 13 (.bin .lss (.E 12) (ki 0)),oE 14 (.eqb true [.b] (.E 11) (.E 13)),wE 15 14,gE 16 15 .true (.mv (.V 6)),gE 17 15 .true (.bin .lss (.E 16) (ki 0)),gE 18 15 .true (.mv (.V 0)),gE 19 15 .true (.bin .lss (.E 18) (ki 0)),gE 20 15 .true (.eqb true [.b] (.E 17) (.E 19)),oE 21 (.pick (.E 15) (.E 20) (kb false))]) (.cond (.E 21) (.seq (.reg [oV 4 (.mv (ki 0)),oV 5 (.mv (kb false))]) .ret) .skip)) (.seq (.reg [mV 22 6,vE 4 22,oV 5 (.mv (kb true))]) .ret)))
def zi2:List RV:=[.tmp [0] 4,.tmp [0] 5]
def yj7:List Nat:=[0,1,2,3,7,9,4,6,8,5]
def zx5:IC := .seq (.reg [oV 2 (.box (.V 0)),oV 3 (.box (.V 1)),oV 4 (.alloc [iv 0,iv 0]),oV 5 (.mv (kb false))]) (.seq (.reg [fV 11 0 2,lE 12 11,fV 13 0 3,lE 14 13,oE 15 (.call zl9 [([0],(.E 12)),([0],(.E 14))]),wE 10 15,xE 16 0 10,xE 17 1 10,vE 6 16,vE 7 17]) (.seq (.reg [fV 19 1 2,lE 20 19,fV 21 1 3,lE 22 21,oE 23 (.call zl9 [([0],(.E 20)),([0],(.E 22))]),wE 18 23,xE 24 0 18,xE 25 1 18,vE 8 24,vE 9 25]) (.seq (.seq (.reg [mV 26 7,oE 27 (.un .not (.E 26)),wE 28 27,gE 29 28 .false (.mv (.V 9)),gE 30 28 .false (.un .not (.E 29)),oE 31 (.pick (.E 28) (kb true) (.E 30))]) (.cond (.E 31) (.seq (.reg [oE 32 (.build [iv 0,iv 0] []),oN (.store [0,0] (.V 4) (.E 32)),oV 5 (.mv (kb false))]) .ret) .skip)) (.seq (.reg [mV 33 6,mV 34 8,oE 35 (.build [iv 0,iv 0] [(0,1,(.E 33)),(1,1,(.E 34))]),oN (.store [0,0] (.V 4) (.E 35)),oV 5 (.mv (kb true))]) .ret))))
def zx6:List RV:=[.cell [0,0] 4 true,.tmp [0] 5]
def yj8:List Nat:=[0,1,2,6]
def zsw:IC := .seq (.reg [oV 6 (.mv (kb false))]) (.seq (.reg [mV 7 0,oE 8 (.bin .neq (.E 7) (ki 1)),wE 9 8,gE 10 9 .true (.mv (.V 0)),gE 11 9 .true (.bin .neq (.E 10) (ki (-1))),oE 12 (.pick (.E 9) (.E 11) (kb false)),wE 13 12,gE 14 13 .false (.mv (.V 0)),gE 15 13 .false (.bin .eql (.E 14) (ki 1)),gE 16 13 .false (.mv (.E 15)),gE 17 16 .true (.mv (.V 1)),gE 18 16 .true (.mv (.V 2)),gE 19 16 .true (.bin .leq (.E 17) (.E 18)),gE 20 13 .false (.pick (.E 16) (.E 19) (kb false)),oE 21 (.pick (.E 13) (kb true) (.E 20)),wE 22 21,gE 23 22 .false (.mv (.V 0)),gE 24 22 .false (.bin .eql (.E 23) (ki (-1))),gE 25 22 .false (.mv (.E 24)),gE 26 25 .true (.mv (.V 1)),gE 27 25 .true (.mv (.V 2)),gE 28 25 .true (.bin .geq (.E 26) (.E 27)),gE 29 22 .false (.pick (.E 25) (.E 28) (kb false)),oE 30 (.pick (.E 22) (kb true) (.E 29)),vE 6 30]) .ret)
def zsx:List RV:=[.tmp [0] 6]
def yj9:List Nat:=[0,1,2,5,6,8,10,7,9,12,11,4]
def zx7:IC := .seq (.reg [oV 2 (.box (.V 0)),oV 4 (.mv (kb false))]) (.seq (.reg [tV 14 6 2,oE 15 (.call zpr [([0,0,0,0,0,0],(.E 14))]),wE 13 15,xE 16 0 13,xE 17 1 13,oV 5 (.alloc [iv 0,iv 0]),oN (.store [0,0] (.V 5) (.E 16)),vE 6 17]) (.seq (.reg [tV 19 6 2,mV 20 1,oE 21 (.call zj9 [([0,0,0,0,0,0],(.E 19)),([0],(.E 20))]),wE 18 21,xE 22 0 18,xE 23 1 18,oV 7 (.alloc [(.v (.bool false)),(.v (.int .u64 0)),(.v (.int .u64 0)),iv 0]),oN (.store [0,0,0,0] (.V 7) (.E 22)),vE 8 23]) (.seq (.reg [tV 25 2 5,mV 26 1,oE 27 (.call zkb [([0,0],(.E 25)),([0],(.E 26))]),wE 24 27,xE 28 0 24,xE 29 1 24,oV 9 (.alloc [(.v (.bool false)),(.v (.int .u64 0)),(.v (.int .u64 0)),iv 0]),oN (.store [0,0,0,0] (.V 9) (.E 28)),vE 10 29]) (.seq (.seq (.reg [mV 30 6,oE 31 (.un .not (.E 30)),wE 32 31,gE 33 32 .false (.mv (.V 8)),gE 34 32 .false (.un .not (.E 33)),oE 35 (.pick (.E 32) (kb true) (.E 34)),wE 36 35,gE 37 36 .false (.mv (.V 10)),gE 38 36 .false (.un .not (.E 37)),oE 39 (.pick (.E 36) (kb true) (.E 38))]) (.cond (.E 39) (.seq (.reg [oV 4 (.mv (kb false))]) .ret) .skip)) (.seq (.reg [tV 41 4 7,tV 42 4 9,oE 43 (.call zl1 [([0,0,0,0],(.E 41)),([0,0,0,0],(.E 42))]),wE 40 43,xE 44 0 40,xE 45 1 40,vE 11 44,vE 12 45]) (.seq (.reg [mV 46 12,wE 47 46,gE 48 47 .true (.mv (.V 11)),gE 49 47 .true (.bin .gtr (.E 48) (ki 0)),oE 50 (.pick (.E 47) (.E 49) (kb false)),vE 4 50]) .ret))))))
def zx8:List RV:=[.tmp [0] 4]
def yka:List Nat:=[0,1,2,7,9,4,6,8,5]
def zx9:IC := .seq (.reg [oV 2 (.box (.V 0)),oV 4 (.alloc [(.v (.bool false)),(.v (.int .u64 0)),(.v (.int .u64 0)),iv 0]),oV 5 (.mv (kb false))]) (.seq (.reg [fV 11 2 2,tE 12 2 11,mV 13 1,oE 14 (.call zkb [([0,0],(.E 12)),([0],(.E 13))]),wE 10 14,xE 15 0 10,xE 16 1 10,oV 6 (.alloc [(.v (.bool false)),(.v (.int .u64 0)),(.v (.int .u64 0)),iv 0]),oN (.store [0,0,0,0] (.V 6) (.E 15)),vE 7 16]) (.seq (.reg [fV 18 4 2,tE 19 2 18,mV 20 1,oE 21 (.call zkb [([0,0],(.E 19)),([0],(.E 20))]),wE 17 21,xE 22 0 17,xE 23 1 17,oV 8 (.alloc [(.v (.bool false)),(.v (.int .u64 0)),(.v (.int .u64 0)),iv 0]),oN (.store [0,0,0,0] (.V 8) (.E 22)),vE 9 23]) (.seq (.seq (.reg [mV 24 7,oE 25 (.un .not (.E 24)),wE 26 25,gE 27 26 .false (.mv (.V 9)),gE 28 26 .false (.un .not (.E 27)),oE 29 (.pick (.E 26) (kb true) (.E 28))]) (.cond (.E 29) (.seq (.reg [oE 30 (.build [(.v (.bool false)),(.v (.int .u64 0)),(.v (.int .u64 0)),iv 0] []),oN (.store [0,0,0,0] (.V 4) (.E 30)),oV 5 (.mv (kb false))]) .ret) .skip)) (.seq (.reg [tV 31 4 6,tV 32 4 8,oE 33 (.call zpl [([0,0,0,0],(.E 31)),([0,0,0,0],(.E 32))]),xE 34 0 33,xE 35 1 33,oN (.store [0,0,0,0] (.V 4) (.E 34)),vE 5 35]) .ret))))
def zya:List RV:=[.cell [0,0,0,0] 4 true,.tmp [0] 5]
def ykb:List Nat:=[0,1,2,3,4]
def zsy:IC := .seq (.reg [oV 2 (.box (.V 0)),oV 3 (.box (.V 1)),oV 4 (.mv (kb false))]) (.seq (.reg [fV 5 0 2,lE 6 5,fV 7 0 3,lE 8 7,bE 9 .lss 6 8,wE 10 9,gE 11 10 .false (.faddr 0 (.V 2)),gE 12 10 .false (.load false 1 (.E 11)),gE 13 10 .false (.faddr 0 (.V 3)),gE 14 10 .false (.load false 1 (.E 13)),gE 15 10 .false (.bin .eql (.E 12) (.E 14)),gE 16 10 .false (.mv (.E 15)),gE 17 16 .true (.faddr 1 (.V 2)),gE 18 16 .true (.load false 1 (.E 17)),gE 19 16 .true (.faddr 1 (.V 3)),gE 20 16 .true (.load false 1 (.E 19)),gE 21 16 .true (.bin .lss (.E 18) (.E 20)),gE 22 10 .false (.pick (.E 16) (.E 21) (kb false)),oE 23 (.pick (.E 10) (kb true) (.E 22)),vE 4 23]) .ret)
def zsz:List RV:=[.tmp [0] 4]
def ykc:List Nat:=[0,1,2,3,8,4,6,7,9,5]
def zs0:IC := .seq (.reg [oV 2 (.box (.V 0)),oV 3 (.box (.V 1)),oV 4 (.alloc [(.v (.bool false)),(.v (.int .u64 0)),(.v (.int .u64 0)),iv 0]),oV 5 (.mv (kb false))]) (.seq (.reg [tV 11 4 2,tV 12 4 3,oE 13 (.call zl3 [([0,0,0,0],(.E 11)),([0,0,0,0],(.E 12))]),wE 10 13,xE 14 0 10,xE 15 1 10,xE 16 2 10,oV 6 (.alloc [(.v (.bool false)),(.v (.int .u64 0)),(.v (.int .u64 0))]),oV 7 (.alloc [(.v (.bool false)),(.v (.int .u64 0)),(.v (.int .u64 0))]),oN (.store [0,0,0] (.V 6) (.E 14)),oN (.store [0,0,0] (.V 7) (.E 15)),vE 8 16]) (.seq (.seq (.reg [mV 17 8,oE 18 (.un .not (.E 17))]) (.cond (.E 18) (.seq (.reg [oE 19 (.build [(.v (.bool false)),(.v (.int .u64 0)),(.v (.int .u64 0)),iv 0] []),oN (.store [0,0,0,0] (.V 4) (.E 19)),oV 5 (.mv (kb false))]) .ret) .skip)) (.seq (.reg [tV 21 3 6,tV 22 3 7,oE 23 (.call zps [([0,0,0],(.E 21)),([0,0,0],(.E 22))]),wE 20 23,xE 24 0 20,xE 25 1 20,oV 9 (.alloc [(.v (.bool false)),(.v (.int .u64 0)),(.v (.int .u64 0))]),oN (.store [0,0,0] (.V 9) (.E 24)),vE 8 25]) (.seq (.seq (.reg [mV 26 8,oE 27 (.un .not (.E 26))]) (.cond (.E 27) (.seq (.reg [oE 28 (.build [(.v (.bool false)),(.v (.int .u64 0)),(.v (.int .u64 0)),iv 0] []),oN (.store [0,0,0,0] (.V 4) (.E 28)),oV 5 (.mv (kb false))]) .ret) .skip)) (.seq (.reg [tV 29 3 9,fV 30 3 2,lE 31 30,fV 32 3 3,lE 33 32,bE 34 .mul 31 33,oE 35 (.call zma [([0,0,0],(.E 29)),([0],(.E 34))]),xE 36 0 35,xE 37 1 35,oN (.store [0,0,0,0] (.V 4) (.E 36)),vE 5 37]) .ret)))))
def zs1:List RV:=[.cell [0,0,0,0] 4 true,.tmp [0] 5]
def ykd:List Nat:=[0,1,4,5]
def zyb:IC := .seq (.reg [oV 4 (.alloc [(.v (.bool false)),(.v (.int .u64 0)),(.v (.int .u64 0)),iv 0]),oV 5 (.mv (kb false))]) (.seq (.reg [mV 6 0,mV 7 0,oE 8 (.call zpt [([0],(.E 6)),([0],(.E 7))]),mV 9 1,oE 10 (.call zma [([0,0,0],(.E 8)),([0],(.E 9))]),xE 11 0 10,xE 12 1 10,oN (.store [0,0,0,0] (.V 4) (.E 11)),vE 5 12]) .ret)
def zyc:List RV:=[.cell [0,0,0,0] 4 true,.tmp [0] 5]
def yke:List Nat:=[0,1,2,3,4,5,7,9,8,10,6]
def zyd:IC := .seq (.reg [oV 2 (.box (.V 0)),oV 3 (.box (.V 1)),oV 4 (.alloc [(.v (.bool false)),(.v (.int .u64 0)),(.v (.int .u64 0))]),oV 5 (.alloc [(.v (.bool false)),(.v (.int .u64 0)),(.v (.int .u64 0))]),oV 6 (.mv (kb false))]) (.seq (.seq (.reg [tV 11 4 2,oE 12 (.call zkc [([0,0,0,0],(.E 11))]),oE 13 (.un .not (.E 12)),wE 14 13,gE 15 14 .false (.load true 4 (.V 3)),gE 16 14 .false (.call zkc [([0,0,0,0],(.E 15))]),gE 17 14 .false (.un .not (.E 16)),oE 18 (.pick (.E 14) (kb true) (.E 17))]) (.cond (.E 18) (.seq (.reg [oE 19 (.build [(.v (.bool false)),(.v (.int .u64 0)),(.v (.int .u64 0))] []),oE 20 (.build [(.v (.bool false)),(.v (.int .u64 0)),(.v (.int .u64 0))] []),oN (.store [0,0,0] (.V 4) (.E 19)),oN (.store [0,0,0] (.V 5) (.E 20)),oV 6 (.mv (kb false))]) .ret) .skip)) (.seq (.reg [fV 22 0 2,tE 23 3 22,fV 24 3 3,lE 25 24,oE 26 (.call zmb [([0,0,0],(.E 23)),([0],(.E 25))]),wE 21 26,xE 27 0 21,xE 28 1 21,oV 7 (.alloc [(.v (.bool false)),(.v (.int .u64 0)),(.v (.int .u64 0))]),oN (.store [0,0,0] (.V 7) (.E 27)),vE 8 28]) (.seq (.reg [fV 30 0 3,tE 31 3 30,fV 32 3 2,lE 33 32,oE 34 (.call zmb [([0,0,0],(.E 31)),([0],(.E 33))]),wE 29 34,xE 35 0 29,xE 36 1 29,oV 9 (.alloc [(.v (.bool false)),(.v (.int .u64 0)),(.v (.int .u64 0))]),oN (.store [0,0,0] (.V 9) (.E 35)),vE 10 36]) (.seq (.regD [(tV 37 3 7,0,0),(tV 38 3 9,0,1),(mV 39 8,0,0),(wE 40 39,0,0),(gE 41 40 .true (.mv (.V 10)),0,0),(oE 42 (.pick (.E 40) (.E 41) (kb false)),0,0),(oN (.store [0,0,0] (.V 4) (.E 37)),0,0),(oN (.store [0,0,0] (.V 5) (.E 38)),0,0),(vE 6 42,0,0)]) .ret))))
def zye:List RV:=[.cell [0,0,0] 4 true,.cell [0,0,0] 5 true,.tmp [0] 6]
def ykf:List Nat:=[0,1,2,3,4]
def zyf:IC := .seq (.reg [oV 2 (.box (.V 0)),oV 3 (.box (.V 1)),oV 4 (.mv (ki 0))]) (.seq (.regD [(fV 5 0 2,0,0),(lE 6 5,0,0),(fV 7 1 2,0,0),(lE 8 7,0,0),(fV 9 2 2,0,0),(lE 10 9,0,0),(oE 11 (.call zgi [([0],(.E 6)),([0],(.E 8)),([0],(.E 10))]),0,0),(fV 12 0 3,1,0),(lE 13 12,1,0),(fV 14 1 3,1,0),(lE 15 14,1,0),(fV 16 2 3,1,0),(lE 17 16,1,0),(oE 18 (.call zgi [([0],(.E 13)),([0],(.E 15)),([0],(.E 17))]),0,0),(oN (.store [0,0,0] (.V 2) (.E 11)),0,0),(oN (.store [0,0,0] (.V 3) (.E 18)),0,0)]) (.seq (.block 0 (.seq (.reg [fV 20 0 2,lE 21 20,wE 22 21,gE 23 22 .true (.faddr 0 (.V 3)),gE 24 22 .true (.load false 1 (.E 23)),gE 25 22 .true (.un .not (.E 24)),oE 26 (.pick (.E 22) (.E 25) (kb false)),wE 19 26]) (.cond (.E 19) (.seq (.reg [oV 4 (.mv (ki (-1)))]) .ret) (.seq (.reg [fV 28 0 3,lE 29 28,wE 30 29,gE 31 30 .true (.faddr 0 (.V 2)),gE 32 30 .true (.load false 1 (.E 31)),gE 33 30 .true (.un .not (.E 32)),oE 34 (.pick (.E 30) (.E 33) (kb false)),wE 27 34]) (.cond (.E 27) (.seq (.reg [oV 4 (.mv (ki 1))]) .ret) (.seq (.reg [fV 36 0 2,lE 37 36,wE 35 37]) (.cond (.E 35) (.seq (.reg [tV 38 3 3,tV 39 3 2,oE 40 (.call zkd [([0,0,0],(.E 38)),([0,0,0],(.E 39))]),vE 4 40]) .ret) .skip))))))) (.seq (.reg [tV 41 3 2,tV 42 3 3,oE 43 (.call zkd [([0,0,0],(.E 41)),([0,0,0],(.E 42))]),vE 4 43]) .ret)))
def zyg:List RV:=[.tmp [0] 4]
def ykg:List Nat:=[0,2]
def zyh:IC := .seq (.reg [oV 2 (.mv (kb false))]) (.seq (.reg [mV 3 0,oE 4 (.call zbt [([0],(.E 3)),([0],(ki (-2147483647))),([0],(ki 2147483647))]),vE 2 4]) .ret)
def zyi:List RV:=[.tmp [0] 2]
def ykh:List Nat:=[0,2]
def zyj:IC := .seq (.reg [oV 2 (.mv (kb false))]) (.seq (.reg [mV 3 0,oE 4 (.call zh7 [([1],(.E 3)),([0],(.C (.fn zmc [])))]),oE 5 (.un .not (.E 4)),vE 2 5]) .ret)
def zyk:List RV:=[.tmp [0] 2]
def yki:List Nat:=[0,2]
def zyl:IC := .seq (.reg [oV 2 (.mv (kb false))]) (.seq (.reg [mV 3 0,oE 4 (.call zcd [([0],(.E 3)),([0],(ki (-1099511627776))),([0],(ki 1099511627776))]),vE 2 4]) .ret)
def zym:List RV:=[.tmp [0] 2]
def ykj:List Nat:=[0,1,2,3,8,4,6,7,9,10,11,5]
def zs2:IC := .seq (.reg [oV 2 (.box (.V 0)),oV 3 (.box (.V 1)),oV 4 (.alloc [(.v (.bool false)),(.v (.int .u64 0)),(.v (.int .u64 0)),iv 0]),oV 5 (.mv (kb false))]) (.seq (.reg [tV 13 4 2,tV 14 4 3,oE 15 (.call zl5 [([0,0,0,0],(.E 13)),([0,0,0,0],(.E 14))]),wE 12 15,xE 16 0 12,xE 17 1 12,xE 18 2 12,oV 6 (.alloc [(.v (.bool false)),(.v (.int .u64 0)),(.v (.int .u64 0))]),oV 7 (.alloc [(.v (.bool false)),(.v (.int .u64 0)),(.v (.int .u64 0))]),oN (.store [0,0,0] (.V 6) (.E 16)),oN (.store [0,0,0] (.V 7) (.E 17)),vE 8 18]) (.seq (.seq (.reg [mV 19 8,oE 20 (.un .not (.E 19))]) (.cond (.E 20) (.seq (.reg [oE 21 (.build [(.v (.bool false)),(.v (.int .u64 0)),(.v (.int .u64 0)),iv 0] []),oN (.store [0,0,0,0] (.V 4) (.E 21)),oV 5 (.mv (kb false))]) .ret) .skip)) (.seq (.reg [tV 23 3 6,tV 24 3 7,oE 25 (.call zpv [([0,0,0],(.E 23)),([0,0,0],(.E 24))]),wE 22 25,xE 26 0 22,xE 27 1 22,oV 9 (.alloc [(.v (.bool false)),(.v (.int .u64 0)),(.v (.int .u64 0))]),oN (.store [0,0,0] (.V 9) (.E 26)),vE 10 27]) (.seq (.reg [tV 28 3 9,fV 29 3 2,lE 30 29,fV 31 3 3,lE 32 31,bE 33 .mul 30 32,oE 34 (.build [(.v (.bool false)),(.v (.int .u64 0)),(.v (.int .u64 0)),iv 0] [(0,3,(.E 28)),(3,1,(.E 33))]),oV 11 (.alloc [(.v (.bool false)),(.v (.int .u64 0)),(.v (.int .u64 0)),iv 0]),oN (.store [0,0,0,0] (.V 11) (.E 34))]) (.seq (.seq (.reg [mV 35 10,oE 36 (.un .not (.E 35)),wE 37 36,gE 38 37 .false (.load true 4 (.V 11)),gE 39 37 .false (.call ziw [([0,0,0,0],(.E 38))]),gE 40 37 .false (.un .not (.E 39)),oE 41 (.pick (.E 37) (kb true) (.E 40))]) (.cond (.E 41) (.seq (.reg [oE 42 (.build [(.v (.bool false)),(.v (.int .u64 0)),(.v (.int .u64 0)),iv 0] []),oN (.store [0,0,0,0] (.V 4) (.E 42)),oV 5 (.mv (kb false))]) .ret) .skip)) (.seq (.reg [tV 43 4 11,oN (.store [0,0,0,0] (.V 4) (.E 43)),oV 5 (.mv (kb true))]) .ret))))))
def zs3:List RV:=[.cell [0,0,0,0] 4 true,.tmp [0] 5]
def ykk:List Nat:=[0,1,2,3,4,5,7,9,8,10,6]
def zyn:IC := .seq (.reg [oV 2 (.box (.V 0)),oV 3 (.box (.V 1)),oV 4 (.alloc [(.v (.bool false)),(.v (.int .u64 0)),(.v (.int .u64 0))]),oV 5 (.alloc [(.v (.bool false)),(.v (.int .u64 0)),(.v (.int .u64 0))]),oV 6 (.mv (kb false))]) (.seq (.seq (.reg [tV 11 4 2,oE 12 (.call ziw [([0,0,0,0],(.E 11))]),oE 13 (.un .not (.E 12)),wE 14 13,gE 15 14 .false (.load true 4 (.V 3)),gE 16 14 .false (.call ziw [([0,0,0,0],(.E 15))]),gE 17 14 .false (.un .not (.E 16)),oE 18 (.pick (.E 14) (kb true) (.E 17))]) (.cond (.E 18) (.seq (.reg [oE 19 (.build [(.v (.bool false)),(.v (.int .u64 0)),(.v (.int .u64 0))] []),oE 20 (.build [(.v (.bool false)),(.v (.int .u64 0)),(.v (.int .u64 0))] []),oN (.store [0,0,0] (.V 4) (.E 19)),oN (.store [0,0,0] (.V 5) (.E 20)),oV 6 (.mv (kb false))]) .ret) .skip)) (.seq (.reg [fV 22 0 2,tE 23 3 22,fV 24 3 3,lE 25 24,oE 26 (.call zmd [([0,0,0],(.E 23)),([0],(.E 25))]),wE 21 26,xE 27 0 21,xE 28 1 21,oV 7 (.alloc [(.v (.bool false)),(.v (.int .u64 0)),(.v (.int .u64 0))]),oN (.store [0,0,0] (.V 7) (.E 27)),vE 8 28]) (.seq (.reg [fV 30 0 3,tE 31 3 30,fV 32 3 2,lE 33 32,oE 34 (.call zmd [([0,0,0],(.E 31)),([0],(.E 33))]),wE 29 34,xE 35 0 29,xE 36 1 29,oV 9 (.alloc [(.v (.bool false)),(.v (.int .u64 0)),(.v (.int .u64 0))]),oN (.store [0,0,0] (.V 9) (.E 35)),vE 10 36]) (.seq (.regD [(tV 37 3 7,0,0),(tV 38 3 9,0,1),(mV 39 8,0,0),(wE 40 39,0,0),(gE 41 40 .true (.mv (.V 10)),0,0),(oE 42 (.pick (.E 40) (.E 41) (kb false)),0,0),(oN (.store [0,0,0] (.V 4) (.E 37)),0,0),(oN (.store [0,0,0] (.V 5) (.E 38)),0,0),(vE 6 42,0,0)]) .ret))))
def zyo:List RV:=[.cell [0,0,0] 4 true,.cell [0,0,0] 5 true,.tmp [0] 6]
def ykl:List Nat:=[0,1,2,3,5,6,4]
def zyp:IC := .seq (.reg [oV 2 (.box (.V 0)),oV 3 (.box (.V 1)),oV 4 (.mv (ki 0))]) (.seq (.reg [fV 7 0 2,lE 8 7,wE 9 8,gE 10 9 .true (.load true 3 (.V 2)),gE 11 9 .true (.call zix [([0,0,0],(.E 10))]),gE 12 9 .true (.un .not (.E 11)),oE 13 (.pick (.E 9) (.E 12) (kb false)),vE 5 13]) (.seq (.reg [fV 14 0 3,lE 15 14,wE 16 15,gE 17 16 .true (.load true 3 (.V 3)),gE 18 16 .true (.call zix [([0,0,0],(.E 17))]),gE 19 16 .true (.un .not (.E 18)),oE 20 (.pick (.E 16) (.E 19) (kb false)),vE 6 20]) (.seq (.block 0 (.seq (.reg [mV 22 5,wE 23 22,gE 24 23 .true (.mv (.V 6)),gE 25 23 .true (.un .not (.E 24)),oE 26 (.pick (.E 23) (.E 25) (kb false)),wE 21 26]) (.cond (.E 21) (.seq (.reg [oV 4 (.mv (ki (-1)))]) .ret) (.seq (.reg [mV 28 6,wE 29 28,gE 30 29 .true (.mv (.V 5)),gE 31 29 .true (.un .not (.E 30)),oE 32 (.pick (.E 29) (.E 31) (kb false)),wE 27 32]) (.cond (.E 27) (.seq (.reg [oV 4 (.mv (ki 1))]) .ret) (.seq (.reg [mV 34 5,wE 33 34]) (.cond (.E 33) (.seq (.reg [tV 35 3 3,tV 36 3 2,oE 37 (.call zke [([0,0,0],(.E 35)),([0,0,0],(.E 36))]),vE 4 37]) .ret) .skip))))))) (.seq (.reg [tV 38 3 2,tV 39 3 3,oE 40 (.call zke [([0,0,0],(.E 38)),([0,0,0],(.E 39))]),vE 4 40]) .ret))))
def zyq:List RV:=[.tmp [0] 4]
def ykm:List Nat:=[0,1,3,4,5,6,2]
def zqe:IC := .seq (.seq (.reg [mV 42 4,mV 43 3,bE 44 .lss 42 43]) (.cond (.E 44) .skip (.exit 0))) (.seq (.block 1 (.seq (.regD [(fV 47 0 1,0,0),(lE 48 47,0,0),(mV 49 4,0,0),(iE 50 1 48 49,0,0),(lE 51 50,0,0),(oE 52 (.call zme [([0],(.E 51))]),0,0),(oE 53 (.un .not (.E 52)),0,0),(wE 54 53,0,0),(gE 55 54 .false (.faddr 0 (.V 1)),0,0),(gE 56 54 .false (.load false 1 (.E 55)),0,0),(gE 57 54 .false (.mv (.V 4)),0,0),(gE 58 54 .false (.slice 1 (.E 56) none (some (.E 57)) none),0,0),(gE 59 54 .false (.faddr 0 (.V 1)),0,0),(gE 60 54 .false (.load false 1 (.E 59)),0,0),(gE 61 54 .false (.mv (.V 4)),0,0),(gE 62 54 .false (.iaddr 1 (.E 60) (.E 61)),0,0),(gE 63 54 .false (.load false 1 (.E 62)),0,0),(gE 64 54 .false (.call zmf [([1],(.E 58)),([0],(.E 63))]),0,0),(oE 65 (.pick (.E 54) (kb true) (.E 64)),0,0)]) (.cond (.E 65) (.seq (.reg [oV 2 (.mv (kb false))]) .ret) .skip))) (.reg [mV 45 4,oE 46 (.bin .add (.E 45) (ki 1)),vE 4 46]))
def zs4:IC := .seq (.seq (.reg [mV 90 6,mV 91 3,bE 92 .lss 90 91]) (.cond (.E 92) .skip (.exit 4))) (.seq (.block 5 (.seq (.reg [fV 95 2 1,lE 96 95,mV 97 5,iE 98 1 96 97,lE 99 98,mV 100 6,iE 101 1 99 100,lE 102 101,oE 103 (.call zka [([0],(.E 102))]),oE 104 (.un .not (.E 103))]) (.cond (.E 104) (.seq (.reg [oV 2 (.mv (kb false))]) .ret) .skip))) (.reg [mV 93 6,oE 94 (.bin .add (.E 93) (ki 1)),vE 6 94]))
def zqf:IC := .seq (.seq (.reg [mV 66 5,fV 67 2 1,lE 68 67,nE 69 68,bE 70 .lss 66 69]) (.cond (.E 70) .skip (.exit 2))) (.seq (.block 3 (.seq (.seq (.reg [fV 73 2 1,lE 74 73,mV 75 5,iE 76 1 74 75,lE 77 76,nE 78 77,mV 79 3,bE 80 .neq 78 79,wE 81 80,gE 82 81 .false (.faddr 3 (.V 1)),gE 83 81 .false (.load false 1 (.E 82)),gE 84 81 .false (.mv (.V 5)),gE 85 81 .false (.iaddr 1 (.E 83) (.E 84)),gE 86 81 .false (.load false 1 (.E 85)),gE 87 81 .false (.call zka [([0],(.E 86))]),gE 88 81 .false (.un .not (.E 87)),oE 89 (.pick (.E 81) (kb true) (.E 88))]) (.cond (.E 89) (.seq (.reg [oV 2 (.mv (kb false))]) .ret) .skip)) (.seq (.reg [oV 6 (.mv (ki 0))]) (.block 4 (.loop zs4))))) (.reg [mV 71 5,oE 72 (.bin .add (.E 71) (ki 1)),vE 5 72]))
def zi3:IC := .seq (.reg [oV 1 (.box (.V 0)),oV 2 (.mv (kb false))]) (.seq (.reg [fV 7 0 1,lE 8 7,nE 9 8,vE 3 9]) (.seq (.seq (.reg [mV 10 3,oE 11 (.call zbt [([0],(.E 10)),([0],(ki 1)),([0],(ki 4))]),oE 12 (.un .not (.E 11)),wE 13 12,gE 14 13 .false (.faddr 1 (.V 1)),gE 15 13 .false (.load false 1 (.E 14)),gE 16 13 .false (.call zme [([0],(.E 15))]),gE 17 13 .false (.un .not (.E 16)),oE 18 (.pick (.E 13) (kb true) (.E 17)),wE 19 18,gE 20 19 .false (.faddr 0 (.V 1)),gE 21 19 .false (.load false 1 (.E 20)),gE 22 19 .false (.faddr 1 (.V 1)),gE 23 19 .false (.load false 1 (.E 22)),gE 24 19 .false (.call zmf [([1],(.E 21)),([0],(.E 23))]),oE 25 (.pick (.E 19) (kb true) (.E 24)),wE 26 25,gE 27 26 .false (.faddr 2 (.V 1)),gE 28 26 .false (.load false 1 (.E 27)),gE 29 26 .false (.len (.E 28)),gE 30 26 .false (.call zbt [([0],(.E 29)),([0],(ki 1)),([0],(ki 40))]),gE 31 26 .false (.un .not (.E 30)),oE 32 (.pick (.E 26) (kb true) (.E 31)),wE 33 32,gE 34 33 .false (.faddr 3 (.V 1)),gE 35 33 .false (.load false 1 (.E 34)),gE 36 33 .false (.len (.E 35)),gE 37 33 .false (.faddr 2 (.V 1)),gE 38 33 .false (.load false 1 (.E 37)),gE 39 33 .false (.len (.E 38)),gE 40 33 .false (.bin .neq (.E 36) (.E 39)),oE 41 (.pick (.E 33) (kb true) (.E 40))]) (.cond (.E 41) (.seq (.reg [oV 2 (.mv (kb false))]) .ret) .skip)) (.seq (.seq (.reg [oV 4 (.mv (ki 0))]) (.block 0 (.loop zqe))) (.seq (.seq (.reg [oV 5 (.mv (ki 0))]) (.block 2 (.loop zqf))) (.seq (.reg [oV 2 (.mv (kb true))]) .ret)))))
def zi4:List RV:=[.tmp [0] 2]
def ykn:List Nat:=[0,1,6,2,5,4]
def z1q:IC := .seq (.seq (.reg [mV 8 6,fV 9 2 2,lE 10 9,nE 11 10,bE 12 .lss 8 11,wE 13 12,gE 14 13 .true (.mv (.V 1)),gE 15 13 .true (.faddr 0 (.V 2)),gE 16 13 .true (.load false 1 (.E 15)),gE 17 13 .true (.len (.E 16)),gE 18 13 .true (.bin .sub (.E 17) (ki 1)),gE 19 13 .true (.call zbt [([0],(.E 14)),([0],(ki 0)),([0],(.E 18))]),oE 20 (.pick (.E 13) (.E 19) (kb false))]) (.cond (.E 20) .skip (.exit 0))) (.seq (.block 1 (.seq (.reg [mV 23 1,fV 24 2 2,lE 25 24,mV 26 6,iE 27 1 25 26,lE 28 27,nE 29 28,bE 30 .lss 23 29]) (.cond (.E 30) (.reg [mV 31 5,fV 32 2 2,lE 33 32,mV 34 6,iE 35 1 33 34,lE 36 35,mV 37 1,iE 38 1 36 37,lE 39 38,oE 40 (.bslice 1 1 [iv 0] [(0,(.E 39))]),oE 41 (.app 8 1 (.E 31) (.E 40)),vE 5 41]) (.reg [mV 42 5,oE 43 (.bslice 1 1 [iv 0] [(0,(ki 0))]),oE 44 (.app 8 1 (.E 42) (.E 43)),vE 5 44])))) (.reg [mV 21 6,oE 22 (.bin .add (.E 21) (ki 1)),vE 6 22]))
def zyr:IC := .seq (.reg [oV 2 (.box (.V 0)),oV 4 (.mv (.C .e0))]) (.seq (.reg [oE 7 (.bslice 0 1 [iv 0] []),vE 5 7]) (.seq (.seq (.reg [oV 6 (.mv (ki 0))]) (.block 0 (.loop z1q))) (.seq (.reg [mV 45 5,vE 4 45]) .ret)))
def zys:List RV:=[.tmp [1] 4]
def yko:List Nat:=[0,1,5,8,9,6,7,4]
def zs5:IC := .seq (.seq (.reg [mV 24 8,mV 25 1,bE 26 .lss 24 25]) (.cond (.E 26) .skip (.exit 0))) (.seq (.block 1 (.seq (.reg [mV 29 5,mV 30 8,bE 31 .mul 29 30,mV 32 1,bE 33 .quo 31 32,vE 9 33]) (.seq (.regD [(mV 34 9,0,0),(oE 35 (.bin .geq (.E 34) (ki 1)),0,0),(wE 36 35,0,0),(gE 37 36 .true (.mv (.V 6)),0,0),(gE 38 36 .true (.mv (.V 9)),0,0),(gE 39 36 .true (.bin .sub (.E 38) (ki 1)),0,0),(gE 40 36 .true (.iaddr 1 (.E 37) (.E 39)),0,0),(gE 41 36 .true (.load false 1 (.E 40)),0,0),(gE 42 36 .true (.mv (.V 6)),0,0),(gE 43 36 .true (.mv (.V 5)),0,0),(gE 44 36 .true (.bin .sub (.E 43) (ki 1)),0,0),(gE 45 36 .true (.iaddr 1 (.E 42) (.E 44)),0,0),(gE 46 36 .true (.load false 1 (.E 45)),0,0),(gE 47 36 .true (.bin .lss (.E 41) (.E 46)),0,0),(oE 48 (.pick (.E 36) (.E 47) (kb false)),0,0)]) (.cond (.E 48) (.reg [mV 49 7,mV 50 6,mV 51 9,oE 52 (.bin .sub (.E 51) (ki 1)),iE 53 1 50 52,lE 54 53,oE 55 (.bslice 1 1 [iv 0] [(0,(.E 54))]),oE 56 (.app 8 1 (.E 49) (.E 55)),vE 7 56]) .skip)))) (.reg [mV 27 8,oE 28 (.bin .add (.E 27) (ki 1)),vE 8 28]))
def zyt:IC := .seq (.reg [oV 4 (.mv (.C .e0))]) (.seq (.reg [mV 10 0,nE 11 10,vE 5 11]) (.seq (.seq (.reg [mV 12 1,oE 13 (.call zbt [([0],(.E 12)),([0],(ki 2)),([0],(ki 8))]),oE 14 (.un .not (.E 13)),wE 15 14,gE 16 15 .false (.mv (.V 5)),gE 17 15 .false (.call zbt [([0],(.E 16)),([0],(ki 1)),([0],(ki 40))]),gE 18 15 .false (.un .not (.E 17)),oE 19 (.pick (.E 15) (kb true) (.E 18))]) (.cond (.E 19) (.seq (.reg [oE 20 (.bslice 0 1 [iv 0] []),vE 4 20]) .ret) .skip)) (.seq (.reg [mV 21 0,oE 22 (.call zmg [([1],(.E 21))]),vE 6 22]) (.seq (.reg [oE 23 (.bslice 0 1 [iv 0] []),vE 7 23]) (.seq (.seq (.reg [oV 8 (.mv (ki 1))]) (.block 0 (.loop zs5))) (.seq (.reg [mV 57 7,oE 58 (.call zpx [([1],(.E 57))]),vE 4 58]) .ret))))))
def zyu:List RV:=[.tmp [1] 4]
def ykp:List Nat:=[0,1,6,5,4]
def zyv:IC := .seq (.seq (.reg [mV 7 6,mV 8 0,nE 9 8,bE 10 .lss 7 9]) (.cond (.E 10) .skip (.exit 0))) (.seq (.block 1 (.seq (.reg [mV 13 0,mV 14 6,iE 15 1 13 14,lE 16 15,mV 17 1,bE 18 .lss 16 17]) (.cond (.E 18) (.reg [mV 19 5,oE 20 (.bin .add (.E 19) (ki 1)),vE 5 20]) .skip))) (.reg [mV 11 6,oE 12 (.bin .add (.E 11) (ki 1)),vE 6 12]))
def zyw:IC := .seq (.reg [oV 4 (.mv (ki 0))]) (.seq (.reg [oV 5 (.mv (ki 0))]) (.seq (.seq (.reg [oV 6 (.mv (ki 0))]) (.block 0 (.loop zyv))) (.seq (.reg [mV 21 5,vE 4 21]) .ret)))
def zyx:List RV:=[.tmp [0] 4]
def ykq:List Nat:=[0,1,6,4,5]
def zi5:IC := .seq (.reg [oV 4 (.mv (ki 0)),oV 5 (.mv (kb false))]) (.seq (.reg [mV 7 0,mV 8 1,bE 9 .add 7 8,vE 6 9]) (.seq (.seq (.reg [mV 10 0,oE 11 (.bin .lss (.E 10) (ki 0)),mV 12 1,oE 13 (.bin .lss (.E 12) (ki 0)),oE 14 (.eqb false [.b] (.E 11) (.E 13)),wE 15 14,gE 16 15 .true (.mv (.V 6)),gE 17 15 .true (.bin .lss (.E 16) (ki 0)),gE 18 15 .true (.mv (.V 0)),gE 19 15 .true (.bin .lss (.E 18) (ki 0)),gE 20 15 .true (.eqb true [.b] (.E 17) (.E 19)),oE 21 (.pick (.E 15) (.E 20) (kb false))]) (.cond (.E 21) (.seq (.reg [oV 4 (.mv (ki 0)),oV 5 (.mv (kb false))]) .ret) .skip)) (.seq (.reg [mV 22 6,vE 4 22,oV 5 (.mv (kb true))]) .ret)))
def zi6:List RV:=[.tmp [0] 4,.tmp [0] 5]
def ykr:List Nat:=[0,8,7,6,5,3,2]
def z5a:IC := .seq (.reg [oE 9 (.bin .lss (.V 8) (.V 7))]) (.seq (.cond (.E 9) .skip (.exit 0)) (.seq (.block 1 (.seq (.reg [oE 10 (.iaddr 1 (.V 6) (.V 8)),lE 11 10,vE 5 11]) (.seq (.reg [mV 12 5,mV 13 3,bE 14 .neq 12 13]) (.cond (.E 14) (.seq (.reg [mV 15 5,vE 2 15]) .ret) .skip)))) (.reg [oE 16 (.bin .add (.V 8) (ki 1)),vE 8 16])))
def zyy:IC := .seq (.reg [oV 2 (.mv (ki 0))]) (.seq (.reg [oV 3 (.mv (ki 0))]) (.seq (.seq (.reg [oV 6 (.mv (.V 0)),oV 7 (.len (.V 6)),oV 8 (.mv (ki 0))]) (.block 0 (.loop z5a))) (.seq (.reg [mV 17 3,vE 2 17]) .ret)))
def zyz:List RV:=[.tmp [0] 2]
def yks:List Nat:=[0,1,5,6,4]
def zqg:IC := .seq (.reg [oV 4 (.mv (ki 0))]) (.seq (.reg [mV 7 0,oE 8 (.call zmh [([0],(.E 7))]),vE 5 8]) (.seq (.reg [mV 9 1,oE 10 (.call zmh [([0],(.E 9))]),vE 6 10]) (.seq (.seq (.reg [mV 11 5]) (.cond (.E 11) (.seq (.seq (.reg [mV 12 6]) (.cond (.E 12) (.seq (.reg [oV 4 (.mv (ki 0))]) .ret) .skip)) (.seq (.reg [oV 4 (.mv (ki (-1)))]) .ret)) .skip)) (.seq (.seq (.reg [mV 13 6]) (.cond (.E 13) (.seq (.reg [oV 4 (.mv (ki 1))]) .ret) .skip)) (.seq (.seq (.reg [mV 14 0,mV 15 1,bE 16 .lss 14 15]) (.cond (.E 16) (.seq (.reg [oV 4 (.mv (ki (-1)))]) .ret) .skip)) (.seq (.seq (.reg [mV 17 0,mV 18 1,bE 19 .gtr 17 18]) (.cond (.E 19) (.seq (.reg [oV 4 (.mv (ki 1))]) .ret) .skip)) (.seq (.reg [oV 4 (.mv (ki 0))]) .ret)))))))
def zqh:List RV:=[.tmp [0] 4]
def ykt:List Nat:=[0,1,4,5]
def zkn:IC := .seq (.reg [oV 4 (.mv (ki 0)),oV 5 (.mv (kb false))]) (.seq (.seq (.reg [mV 6 1,oE 7 (.bin .gtr (.E 6) (ki 0)),wE 8 7,gE 9 8 .true (.mv (.V 0)),gE 10 8 .true (.mv (.V 1)),gE 11 8 .true (.bin .sub (ki 9223372036854775807) (.E 10)),gE 12 8 .true (.bin .gtr (.E 9) (.E 11)),oE 13 (.pick (.E 8) (.E 12) (kb false)),wE 14 13,gE 15 14 .false (.mv (.V 1)),gE 16 14 .false (.bin .lss (.E 15) (ki 0)),gE 17 14 .false (.mv (.E 16)),gE 18 17 .true (.mv (.V 0)),gE 19 17 .true (.mv (.V 1)),gE 20 17 .true (.bin .sub (ki (-9223372036854775808)) (.E 19)),gE 21 17 .true (.bin .lss (.E 18) (.E 20)),gE 22 14 .false (.pick (.E 17) (.E 21) (kb false)),oE 23 (.pick (.E 14) (kb true) (.E 22))]) (.cond (.E 23) (.seq (.reg [oV 4 (.mv (ki 0)),oV 5 (.mv (kb false))]) .ret) .skip)) (.seq (.reg [mV 24 0,mV 25 1,bE 26 .add 24 25,vE 4 26,oV 5 (.mv (kb true))]) .ret))
def zko:List RV:=[.tmp [0] 4,.tmp [0] 5]
def yku:List Nat:=[0,1,2,3]
def zy0:IC := .seq (.reg [oV 1 (.box (.V 0)),oV 2 (.alloc [iv 0,iv 0]),oV 3 (.mv (kb false))]) (.seq (.reg [fV 4 2 1,tE 5 2 4,fV 6 4 1,tE 7 2 6,oE 8 (.call zj8 [([0,0],(.E 5)),([0,0],(.E 7))]),xE 9 0 8,xE 10 1 8,oN (.store [0,0] (.V 2) (.E 9)),vE 3 10]) .ret)
def zy1:List RV:=[.cell [0,0] 2 true,.tmp [0] 3]
def ykv:List Nat:=[0,1,2,4,5]
def zqi:IC := .seq (.reg [oV 2 (.box (.V 0)),oV 4 (.alloc [(.v (.bool false)),(.v (.int .u64 0)),(.v (.int .u64 0)),iv 0]),oV 5 (.mv (kb false))]) (.seq (.seq (.reg [fV 6 0 2,lE 7 6,oE 8 (.call zbt [([0],(.E 7)),([0],(ki 0)),([0],(ki 40))]),oE 9 (.un .not (.E 8)),wE 10 9,gE 11 10 .false (.mv (.V 1)),gE 12 10 .false (.call zbt [([0],(.E 11)),([0],(ki 1)),([0],(ki 100))]),gE 13 10 .false (.un .not (.E 12)),oE 14 (.pick (.E 10) (kb true) (.E 13))]) (.cond (.E 14) (.seq (.reg [oE 15 (.build [(.v (.bool false)),(.v (.int .u64 0)),(.v (.int .u64 0)),iv 0] []),oN (.store [0,0,0,0] (.V 4) (.E 15)),oV 5 (.mv (kb false))]) .ret) .skip)) (.seq (.reg [fV 16 1 2,lE 17 16,fV 18 0 2,lE 19 18,mV 20 1,bE 21 .add 19 20,oE 22 (.call zpw [([0],(.E 17)),([0],(.E 21))]),xE 23 0 22,xE 24 1 22,oN (.store [0,0,0,0] (.V 4) (.E 23)),vE 5 24]) .ret))
def zqj:List RV:=[.cell [0,0,0,0] 4 true,.tmp [0] 5]
def ykw:List Nat:=[0,1,2,3,4,7,8,6,11,12,10,14,5]
def zi7:IC := .seq (.reg [oV 2 (.box (.V 0)),oV 3 (.box (.V 1)),oV 4 (.alloc [(.v (.bool false)),(.v (.int .u64 0)),(.v (.int .u64 0))]),oV 5 (.mv (kb false))]) (.seq (.seq (.reg [tV 15 3 2,oE 16 (.call zhb [([0,0,0],(.E 15))]),oE 17 (.un .not (.E 16)),wE 18 17,gE 19 18 .false (.load true 3 (.V 3)),gE 20 18 .false (.call zhb [([0,0,0],(.E 19))]),gE 21 18 .false (.un .not (.E 20)),oE 22 (.pick (.E 18) (kb true) (.E 21))]) (.cond (.E 22) (.seq (.reg [oE 23 (.build [(.v (.bool false)),(.v (.int .u64 0)),(.v (.int .u64 0))] []),oN (.store [0,0,0] (.V 4) (.E 23)),oV 5 (.mv (kb false))]) .ret) .skip)) (.seq (.seq (.reg [fV 24 0 2,lE 25 24,fV 26 0 3,lE 27 26,oE 28 (.eqb true [.b] (.E 25) (.E 27))]) (.cond (.E 28) (.seq (.seq (.reg [tV 29 3 2,tV 30 3 3,oE 31 (.call zkd [([0,0,0],(.E 29)),([0,0,0],(.E 30))]),oE 32 (.bin .lss (.E 31) (ki 0))]) (.cond (.E 32) (.reg [tV 33 3 3,tV 34 3 2,oN (.store [0,0,0] (.V 2) (.E 33)),oN (.store [0,0,0] (.V 3) (.E 34))]) .skip)) (.seq (.reg [fV 36 2 2,lE 37 36,fV 38 2 3,lE 39 38,oE 40 (.call zkf [([0],(.E 37)),([0],(.E 39)),([0],(.C (.v (.int .u64 0))))]),wE 35 40,xE 41 0 35,xE 42 1 35,vE 6 41,vE 7 42]) (.seq (.reg [fV 44 1 2,lE 45 44,fV 46 1 3,lE 47 46,mV 48 7,oE 49 (.call zkf [([0],(.E 45)),([0],(.E 47)),([0],(.E 48))]),wE 43 49,xE 50 0 43,xE 51 1 43,vE 8 50,wE 9 51]) (.seq (.reg [fV 52 0 2,lE 53 52,mV 54 8,mV 55 6,oE 56 (.call zgi [([0],(.E 53)),([0],(.E 54)),([0],(.E 55))]),oN (.store [0,0,0] (.V 4) (.E 56)),oV 5 (.mv (kb true))]) .ret)))) .skip)) (.seq (.reg [fV 58 2 2,lE 59 58,fV 60 2 3,lE 61 60,oE 62 (.call ziy [([0],(.E 59)),([0],(.E 61)),([0],(.C (.v (.int .u64 0))))]),wE 57 62,xE 63 0 57,xE 64 1 57,vE 10 63,vE 11 64]) (.seq (.reg [fV 66 1 2,lE 67 66,fV 68 1 3,lE 69 68,mV 70 11,oE 71 (.call ziy [([0],(.E 67)),([0],(.E 69)),([0],(.E 70))]),wE 65 71,xE 72 0 65,xE 73 1 65,vE 12 72,wE 13 73]) (.seq (.reg [fV 74 0 2,lE 75 74,mV 76 12,mV 77 10,oE 78 (.call zgi [([0],(.E 75)),([0],(.E 76)),([0],(.E 77))]),oV 14 (.alloc [(.v (.bool false)),(.v (.int .u64 0)),(.v (.int .u64 0))]),oN (.store [0,0,0] (.V 14) (.E 78))]) (.seq (.seq (.reg [tV 79 3 14,oE 80 (.call zhb [([0,0,0],(.E 79))]),oE 81 (.un .not (.E 80))]) (.cond (.E 81) (.seq (.reg [oE 82 (.build [(.v (.bool false)),(.v (.int .u64 0)),(.v (.int .u64 0))] []),oN (.store [0,0,0] (.V 4) (.E 82)),oV 5 (.mv (kb false))]) .ret) .skip)) (.seq (.reg [tV 83 3 14,oN (.store [0,0,0] (.V 4) (.E 83)),oV 5 (.mv (kb true))]) .ret)))))))
def zi8:List RV:=[.cell [0,0,0] 4 true,.tmp [0] 5]
def ykx:List Nat:=[0,1,2,6,4,5]
def zy2:IC := .seq (.reg [oV 2 (.box (.V 0)),oV 4 (.alloc [(.v (.bool false)),(.v (.int .u64 0)),(.v (.int .u64 0)),iv 0]),oV 5 (.mv (kb false))]) (.seq (.reg [tV 7 3 2,mV 8 1,oE 9 (.build [(.v (.bool false)),(.v (.int .u64 0)),(.v (.int .u64 0)),iv 0] [(0,3,(.E 7)),(3,1,(.E 8))]),oV 6 (.alloc [(.v (.bool false)),(.v (.int .u64 0)),(.v (.int .u64 0)),iv 0]),oN (.store [0,0,0,0] (.V 6) (.E 9))]) (.seq (.seq (.reg [tV 10 4 6,oE 11 (.call zkc [([0,0,0,0],(.E 10))]),oE 12 (.un .not (.E 11))]) (.cond (.E 12) (.seq (.reg [oE 13 (.build [(.v (.bool false)),(.v (.int .u64 0)),(.v (.int .u64 0)),iv 0] []),oN (.store [0,0,0,0] (.V 4) (.E 13)),oV 5 (.mv (kb false))]) .ret) .skip)) (.seq (.reg [tV 14 4 6,oN (.store [0,0,0,0] (.V 4) (.E 14)),oV 5 (.mv (kb true))]) .ret)))
def zy3:List RV:=[.cell [0,0,0,0] 4 true,.tmp [0] 5]
def yky:List Nat:=[0,1,5,6,4]
def zy4:IC := .seq (.reg [oV 4 (.alloc [(.v (.bool false)),(.v (.int .u64 0)),(.v (.int .u64 0))])]) (.seq (.reg [mV 8 0,oE 9 (.call zkh [([0],(.E 8))]),mV 10 1,oE 11 (.call zkh [([0],(.E 10))]),oE 12 (.call zkg [([0],(.E 9)),([0],(.E 11))]),wE 7 12,xE 13 0 7,xE 14 1 7,vE 5 13,vE 6 14]) (.seq (.reg [mV 15 0,oE 16 (.bin .lss (.E 15) (ki 0)),mV 17 1,oE 18 (.bin .lss (.E 17) (ki 0)),oE 19 (.eqb true [.b] (.E 16) (.E 18)),mV 20 5,mV 21 6,oE 22 (.call zgi [([0],(.E 19)),([0],(.E 20)),([0],(.E 21))]),oN (.store [0,0,0] (.V 4) (.E 22))]) .ret))
def zy5:List RV:=[.cell [0,0,0] 4 true]
def ykz:List Nat:=[0,1,2]
def zy6:IC := .seq (.reg [oV 1 (.box (.V 0)),oV 2 (.mv (kb false))]) (.seq (.reg [fV 3 0 1,tE 4 3 3,oE 5 (.call zhb [([0,0,0],(.E 4))]),wE 6 5,gE 7 6 .true (.faddr 3 (.V 1)),gE 8 6 .true (.load false 1 (.E 7)),gE 9 6 .true (.call zcd [([0],(.E 8)),([0],(ki 1)),([0],(ki 1000000))]),oE 10 (.pick (.E 6) (.E 9) (kb false)),vE 2 10]) .ret)
def zy7:List RV:=[.tmp [0] 2]
def yk0:List Nat:=[0,1,2,4,6,8,9,10,7,11,12,5]
def zhf:IC := .seq (.reg [oV 2 (.box (.V 0)),oV 4 (.alloc [(.v (.bool false)),(.v (.int .u64 0)),(.v (.int .u64 0))]),oV 5 (.mv (kb false))]) (.seq (.seq (.reg [tV 13 3 2,oE 14 (.call zhb [([0,0,0],(.E 13))]),oE 15 (.un .not (.E 14))]) (.cond (.E 15) (.seq (.reg [oE 16 (.build [(.v (.bool false)),(.v (.int .u64 0)),(.v (.int .u64 0))] []),oN (.store [0,0,0] (.V 4) (.E 16)),oV 5 (.mv (kb false))]) .ret) .skip)) (.seq (.reg [mV 17 1,oE 18 (.call zkh [([0],(.E 17))]),vE 6 18]) (.seq (.reg [fV 20 1 2,lE 21 20,mV 22 6,oE 23 (.call zkg [([0],(.E 21)),([0],(.E 22))]),wE 19 23,xE 24 0 19,xE 25 1 19,vE 7 24,vE 8 25]) (.seq (.reg [fV 27 2 2,lE 28 27,mV 29 6,oE 30 (.call zkg [([0],(.E 28)),([0],(.E 29))]),wE 26 30,xE 31 0 26,xE 32 1 26,vE 9 31,vE 10 32]) (.seq (.reg [mV 34 8,mV 35 9,oE 36 (.call ziy [([0],(.E 34)),([0],(.E 35)),([0],(.C (.v (.int .u64 0))))]),wE 33 36,xE 37 0 33,xE 38 1 33,vE 8 37,vE 11 38]) (.seq (.reg [fV 39 0 2,lE 40 39,mV 41 1,oE 42 (.bin .lss (.E 41) (ki 0)),oE 43 (.eqb true [.b] (.E 40) (.E 42)),mV 44 8,mV 45 10,oE 46 (.call zgi [([0],(.E 43)),([0],(.E 44)),([0],(.E 45))]),oV 12 (.alloc [(.v (.bool false)),(.v (.int .u64 0)),(.v (.int .u64 0))]),oN (.store [0,0,0] (.V 12) (.E 46))]) (.seq (.seq (.reg [mV 47 7,oE 48 (.bin .gtr (.E 47) (.C (.v (.int .u64 0)))),wE 49 48,gE 50 49 .false (.mv (.V 11)),gE 51 49 .false (.bin .gtr (.E 50) (.C (.v (.int .u64 0)))),oE 52 (.pick (.E 49) (kb true) (.E 51)),wE 53 52,gE 54 53 .false (.load true 3 (.V 12)),gE 55 53 .false (.call zhb [([0,0,0],(.E 54))]),gE 56 53 .false (.un .not (.E 55)),oE 57 (.pick (.E 53) (kb true) (.E 56))]) (.cond (.E 57) (.seq (.reg [oE 58 (.build [(.v (.bool false)),(.v (.int .u64 0)),(.v (.int .u64 0))] []),oN (.store [0,0,0] (.V 4) (.E 58)),oV 5 (.mv (kb false))]) .ret) .skip)) (.seq (.reg [tV 59 3 12,oN (.store [0,0,0] (.V 4) (.E 59)),oV 5 (.mv (kb true))]) .ret))))))))
def zhg:List RV:=[.cell [0,0,0] 4 true,.tmp [0] 5]
def yk1:List Nat:=[0,1,2,6]
def zqk:IC := .seq (.reg [oV 6 (.alloc [(.v (.bool false)),(.v (.int .u64 0)),(.v (.int .u64 0))])]) (.seq (.reg [mV 7 0,wE 8 7,gE 9 8 .true (.mv (.V 1)),gE 10 8 .true (.bin .gtr (.E 9) (.C (.v (.int .u64 0)))),gE 11 8 .true (.mv (.E 10)),gE 12 11 .false (.mv (.V 2)),gE 13 11 .false (.bin .gtr (.E 12) (.C (.v (.int .u64 0)))),gE 14 8 .true (.pick (.E 11) (kb true) (.E 13)),oE 15 (.pick (.E 8) (.E 14) (kb false)),mV 16 1,mV 17 2,oE 18 (.build [(.v (.bool false)),(.v (.int .u64 0)),(.v (.int .u64 0))] [(0,1,(.E 15)),(1,1,(.E 16)),(2,1,(.E 17))]),oN (.store [0,0,0] (.V 6) (.E 18))]) .ret)
def zql:List RV:=[.cell [0,0,0] 6 true]
def yk2:List Nat:=[0,1,2,3,4]
def zy8:IC := .seq (.reg [oV 2 (.box (.V 0)),oV 3 (.box (.V 1)),oV 4 (.mv (ki 0))]) (.seq (.regD [(fV 5 1 2,0,0),(lE 6 5,0,0),(fV 7 1 3,0,0),(lE 8 7,0,0),(oE 9 (.call zmi [([0],(.E 6)),([0],(.E 8))]),0,0),(fV 10 2 2,1,0),(lE 11 10,1,0),(fV 12 2 3,1,0),(lE 13 12,1,0),(oE 14 (.call zmi [([0],(.E 11)),([0],(.E 13))]),0,0),(oE 15 (.bslice 2 1 [iv 0] [(0,(.E 9)),(1,(.E 14))]),0,0),(oE 16 (.call zl7 [([1],(.E 15))]),0,0),(vE 4 16,0,0)]) .ret)
def zy9:List RV:=[.tmp [0] 4]
def yk3:List Nat:=[0,2]
def zza:IC := .seq (.reg [oV 2 (.mv (kb false))]) (.seq (.reg [mV 3 0,oE 4 (.call zpu [([0],(.E 3))]),oE 5 (.un .not (.E 4)),vE 2 5]) .ret)
def zzb:List RV:=[.tmp [0] 2]
def yk4:List Nat:=[0,2]
def zzc:IC := .seq (.reg [oV 2 (.mv (kb false))]) (.seq (.reg [mV 3 0,oE 4 (.call zcd [([0],(.E 3)),([0],(ki (-2147483647))),([0],(ki 2147483647))]),vE 2 4]) .ret)
def zzd:List RV:=[.tmp [0] 2]
def yk5:List Nat:=[0,1,2,3,4,6,7,8,9,5]
def zfj:IC := .seq (.reg [oV 2 (.box (.V 0)),oV 3 (.box (.V 1)),oV 4 (.alloc [(.v (.bool false)),(.v (.int .u64 0)),(.v (.int .u64 0))]),oV 5 (.mv (kb false))]) (.seq (.seq (.reg [tV 10 3 2,oE 11 (.call zhc [([0,0,0],(.E 10))]),oE 12 (.un .not (.E 11)),wE 13 12,gE 14 13 .false (.load true 3 (.V 3)),gE 15 13 .false (.call zhc [([0,0,0],(.E 14))]),gE 16 13 .false (.un .not (.E 15)),oE 17 (.pick (.E 13) (kb true) (.E 16))]) (.cond (.E 17) (.seq (.reg [oE 18 (.build [(.v (.bool false)),(.v (.int .u64 0)),(.v (.int .u64 0))] []),oN (.store [0,0,0] (.V 4) (.E 18)),oV 5 (.mv (kb false))]) .ret) .skip)) (.seq (.seq (.reg [fV 19 0 2,lE 20 19,fV 21 0 3,lE 22 21,oE 23 (.eqb false [.b] (.E 20) (.E 22))]) (.cond (.E 23) (.seq (.reg [fV 24 0 2,lE 25 24,fV 26 1 2,lE 27 26,fV 28 1 3,lE 29 28,bE 30 .add 27 29,fV 31 2 2,lE 32 31,fV 33 2 3,lE 34 33,bE 35 .add 32 34,oE 36 (.build [(.v (.bool false)),(.v (.int .u64 0)),(.v (.int .u64 0))] [(0,1,(.E 25)),(1,1,(.E 30)),(2,1,(.E 35))]),oV 6 (.alloc [(.v (.bool false)),(.v (.int .u64 0)),(.v (.int .u64 0))]),oN (.store [0,0,0] (.V 6) (.E 36))]) (.seq (.seq (.reg [fV 37 2 6,lE 38 37,fV 39 2 2,lE 40 39,bE 41 .lss 38 40]) (.cond (.E 41) (.reg [fV 42 1 6,lE 43 42,oE 44 (.bin .add (.E 43) (.C (.v (.int .u64 1)))),fV 45 1 6,oN (.store [0] (.E 45) (.E 44))]) .skip)) (.seq (.seq (.reg [tV 46 3 6,oE 47 (.call zhc [([0,0,0],(.E 46))]),oE 48 (.un .not (.E 47))]) (.cond (.E 48) (.seq (.reg [oE 49 (.build [(.v (.bool false)),(.v (.int .u64 0)),(.v (.int .u64 0))] []),oN (.store [0,0,0] (.V 4) (.E 49)),oV 5 (.mv (kb false))]) .ret) .skip)) (.seq (.reg [tV 50 3 6,oN (.store [0,0,0] (.V 4) (.E 50)),oV 5 (.mv (kb true))]) .ret)))) .skip)) (.seq (.reg [tV 51 3 2,oV 7 (.alloc [(.v (.bool false)),(.v (.int .u64 0)),(.v (.int .u64 0))]),oN (.store [0,0,0] (.V 7) (.E 51))]) (.seq (.reg [tV 52 3 3,oV 8 (.alloc [(.v (.bool false)),(.v (.int .u64 0)),(.v (.int .u64 0))]),oN (.store [0,0,0] (.V 8) (.E 52))]) (.seq (.seq (.reg [tV 53 3 2,tV 54 3 3,oE 55 (.call zke [([0,0,0],(.E 53)),([0,0,0],(.E 54))]),oE 56 (.bin .lss (.E 55) (ki 0))]) (.cond (.E 56) (.seq (.reg [tV 57 3 3,oN (.store [0,0,0] (.V 7) (.E 57))]) (.reg [tV 58 3 2,oN (.store [0,0,0] (.V 8) (.E 58))])) .skip)) (.seq (.reg [fV 59 0 7,lE 60 59,fV 61 1 7,lE 62 61,fV 63 1 8,lE 64 63,bE 65 .sub 62 64,fV 66 2 7,lE 67 66,fV 68 2 8,lE 69 68,bE 70 .sub 67 69,oE 71 (.build [(.v (.bool false)),(.v (.int .u64 0)),(.v (.int .u64 0))] [(0,1,(.E 60)),(1,1,(.E 65)),(2,1,(.E 70))]),oV 9 (.alloc [(.v (.bool false)),(.v (.int .u64 0)),(.v (.int .u64 0))]),oN (.store [0,0,0] (.V 9) (.E 71))]) (.seq (.seq (.reg [fV 72 2 7,lE 73 72,fV 74 2 8,lE 75 74,bE 76 .lss 73 75]) (.cond (.E 76) (.reg [fV 77 1 9,lE 78 77,oE 79 (.bin .sub (.E 78) (.C (.v (.int .u64 1)))),fV 80 1 9,oN (.store [0] (.E 80) (.E 79))]) .skip)) (.seq (.seq (.reg [tV 81 3 9,oE 82 (.call zix [([0,0,0],(.E 81))])]) (.cond (.E 82) (.reg [fV 83 0 9,oN (.store [0] (.E 83) (kb false))]) .skip)) (.seq (.reg [tV 84 3 9,oN (.store [0,0,0] (.V 4) (.E 84)),oV 5 (.mv (kb true))]) .ret)))))))))
def zfk:List RV:=[.cell [0,0,0] 4 true,.tmp [0] 5]
def yk6:List Nat:=[0,1,2]
def zze:IC := .seq (.reg [oV 1 (.box (.V 0)),oV 2 (.mv (kb false))]) (.seq (.reg [fV 3 0 1,tE 4 3 3,oE 5 (.call zhc [([0,0,0],(.E 4))]),wE 6 5,gE 7 6 .true (.faddr 3 (.V 1)),gE 8 6 .true (.load false 1 (.E 7)),gE 9 6 .true (.call zbt [([0],(.E 8)),([0],(ki 1)),([0],(ki 1000000))]),oE 10 (.pick (.E 6) (.E 9) (kb false)),vE 2 10]) .ret)
def zzf:List RV:=[.tmp [0] 2]
def yk7:List Nat:=[0,1,6,4,5]
def zzg:IC := .seq (.reg [oV 4 (.alloc [(.v (.bool false)),(.v (.int .u64 0)),(.v (.int .u64 0)),iv 0]),oV 5 (.mv (kb false))]) (.seq (.reg [mV 7 0,mV 8 0,oE 9 (.call zpy [([0],(.E 7)),([0],(.E 8))]),mV 10 1,oE 11 (.build [(.v (.bool false)),(.v (.int .u64 0)),(.v (.int .u64 0)),iv 0] [(0,3,(.E 9)),(3,1,(.E 10))]),oV 6 (.alloc [(.v (.bool false)),(.v (.int .u64 0)),(.v (.int .u64 0)),iv 0]),oN (.store [0,0,0,0] (.V 6) (.E 11))]) (.seq (.seq (.reg [tV 12 4 6,oE 13 (.call ziw [([0,0,0,0],(.E 12))]),oE 14 (.un .not (.E 13))]) (.cond (.E 14) (.seq (.reg [oE 15 (.build [(.v (.bool false)),(.v (.int .u64 0)),(.v (.int .u64 0)),iv 0] []),oN (.store [0,0,0,0] (.V 4) (.E 15)),oV 5 (.mv (kb false))]) .ret) .skip)) (.seq (.reg [tV 16 4 6,oN (.store [0,0,0,0] (.V 4) (.E 16)),oV 5 (.mv (kb true))]) .ret)))
def zzh:List RV:=[.cell [0,0,0,0] 4 true,.tmp [0] 5]
def yk8:List Nat:=[0,1,2,4,6,8,9,11,10,12,7,5]
def zhh:IC := .seq (.reg [oV 2 (.box (.V 0)),oV 4 (.alloc [(.v (.bool false)),(.v (.int .u64 0)),(.v (.int .u64 0))]),oV 5 (.mv (kb false))]) (.seq (.seq (.reg [tV 13 3 2,oE 14 (.call zhc [([0,0,0],(.E 13))]),oE 15 (.un .not (.E 14))]) (.cond (.E 15) (.seq (.reg [oE 16 (.build [(.v (.bool false)),(.v (.int .u64 0)),(.v (.int .u64 0))] []),oN (.store [0,0,0] (.V 4) (.E 16)),oV 5 (.mv (kb false))]) .ret) .skip)) (.seq (.reg [mV 17 1,oE 18 (.call zki [([0],(.E 17))]),vE 6 18]) (.seq (.reg [fV 20 1 2,lE 21 20,mV 22 6,oE 23 (.call zkj [([0],(.E 21)),([0],(.E 22))]),wE 19 23,xE 24 0 19,xE 25 1 19,vE 7 24,vE 8 25]) (.seq (.reg [fV 27 2 2,lE 28 27,mV 29 6,oE 30 (.call zkj [([0],(.E 28)),([0],(.E 29))]),wE 26 30,xE 31 0 26,xE 32 1 26,vE 9 31,vE 10 32]) (.seq (.reg [mV 33 8,mV 34 9,bE 35 .add 33 34,vE 11 35]) (.seq (.reg [fV 36 0 2,lE 37 36,mV 38 1,oE 39 (.bin .lss (.E 38) (ki 0)),oE 40 (.eqb true [.b] (.E 37) (.E 39)),mV 41 11,mV 42 10,oE 43 (.build [(.v (.bool false)),(.v (.int .u64 0)),(.v (.int .u64 0))] [(0,1,(.E 40)),(1,1,(.E 41)),(2,1,(.E 42))]),oV 12 (.alloc [(.v (.bool false)),(.v (.int .u64 0)),(.v (.int .u64 0))]),oN (.store [0,0,0] (.V 12) (.E 43))]) (.seq (.seq (.reg [tV 44 3 12,oE 45 (.call zix [([0,0,0],(.E 44))])]) (.cond (.E 45) (.reg [fV 46 0 12,oN (.store [0] (.E 46) (kb false))]) .skip)) (.seq (.seq (.reg [mV 47 7,oE 48 (.bin .gtr (.E 47) (.C (.v (.int .u64 0)))),wE 49 48,gE 50 49 .false (.mv (.V 11)),gE 51 49 .false (.mv (.V 8)),gE 52 49 .false (.bin .lss (.E 50) (.E 51)),oE 53 (.pick (.E 49) (kb true) (.E 52)),wE 54 53,gE 55 54 .false (.load true 3 (.V 12)),gE 56 54 .false (.call zhc [([0,0,0],(.E 55))]),gE 57 54 .false (.un .not (.E 56)),oE 58 (.pick (.E 54) (kb true) (.E 57))]) (.cond (.E 58) (.seq (.reg [oE 59 (.build [(.v (.bool false)),(.v (.int .u64 0)),(.v (.int .u64 0))] []),oN (.store [0,0,0] (.V 4) (.E 59)),oV 5 (.mv (kb false))]) .ret) .skip)) (.seq (.reg [tV 60 3 12,oN (.store [0,0,0] (.V 4) (.E 60)),oV 5 (.mv (kb true))]) .ret)))))))))
def zhi:List RV:=[.cell [0,0,0] 4 true,.tmp [0] 5]
def yk9:List Nat:=[0,1,2]
def zs6:IC := .seq (.reg [oV 1 (.box (.V 0)),oV 2 (.mv (kb false))]) (.seq (.reg [fV 3 1 1,lE 4 3,oE 5 (.bin .eql (.E 4) (.C (.v (.int .u64 0)))),wE 6 5,gE 7 6 .true (.faddr 2 (.V 1)),gE 8 6 .true (.load false 1 (.E 7)),gE 9 6 .true (.bin .eql (.E 8) (.C (.v (.int .u64 0)))),oE 10 (.pick (.E 6) (.E 9) (kb false)),vE 2 10]) .ret)
def zs7:List RV:=[.tmp [0] 2]
def yla:List Nat:=[0,1,2,3,4]
def zkp:IC := .seq (.reg [oV 2 (.box (.V 0)),oV 3 (.box (.V 1)),oV 4 (.mv (ki 0))]) (.seq (.block 0 (.seq (.reg [fV 6 1 2,lE 7 6,fV 8 1 3,lE 9 8,bE 10 .lss 7 9,wE 11 10,gE 12 11 .false (.faddr 1 (.V 2)),gE 13 11 .false (.load false 1 (.E 12)),gE 14 11 .false (.faddr 1 (.V 3)),gE 15 11 .false (.load false 1 (.E 14)),gE 16 11 .false (.bin .eql (.E 13) (.E 15)),gE 17 11 .false (.mv (.E 16)),gE 18 17 .true (.faddr 2 (.V 2)),gE 19 17 .true (.load false 1 (.E 18)),gE 20 17 .true (.faddr 2 (.V 3)),gE 21 17 .true (.load false 1 (.E 20)),gE 22 17 .true (.bin .lss (.E 19) (.E 21)),gE 23 11 .false (.pick (.E 17) (.E 22) (kb false)),oE 24 (.pick (.E 11) (kb true) (.E 23)),wE 5 24]) (.cond (.E 5) (.seq (.reg [oV 4 (.mv (ki (-1)))]) .ret) (.seq (.reg [fV 26 1 2,lE 27 26,fV 28 1 3,lE 29 28,bE 30 .gtr 27 29,wE 31 30,gE 32 31 .false (.faddr 2 (.V 2)),gE 33 31 .false (.load false 1 (.E 32)),gE 34 31 .false (.faddr 2 (.V 3)),gE 35 31 .false (.load false 1 (.E 34)),gE 36 31 .false (.bin .gtr (.E 33) (.E 35)),oE 37 (.pick (.E 31) (kb true) (.E 36)),wE 25 37]) (.cond (.E 25) (.seq (.reg [oV 4 (.mv (ki 1))]) .ret) .skip))))) (.seq (.reg [oV 4 (.mv (ki 0))]) .ret))
def zkq:List RV:=[.tmp [0] 4]
def ylb:List Nat:=[0,3,2]
def z5b:IC := .seq (.seq (.reg [mV 13 3,mV 14 0,oE 15 (.lenS (.E 14)),bE 16 .lss 13 15]) (.cond (.E 16) .skip (.exit 0))) (.seq (.block 1 (.seq (.reg [mV 19 0,mV 20 3,oE 21 (.idx (.E 19) (.E 20)),oE 22 (.convI .i64 (.E 21)),oE 23 (.call zbt [([0],(.E 22)),([0],(ki 97)),([0],(ki 122))]),oE 24 (.un .not (.E 23)),wE 25 24,gE 26 25 .true (.mv (.V 0)),gE 27 25 .true (.mv (.V 3)),gE 28 25 .true (.idx (.E 26) (.E 27)),gE 29 25 .true (.convI .i64 (.E 28)),gE 30 25 .true (.call zbt [([0],(.E 29)),([0],(ki 48)),([0],(ki 57))]),gE 31 25 .true (.un .not (.E 30)),oE 32 (.pick (.E 25) (.E 31) (kb false))]) (.cond (.E 32) (.seq (.reg [oV 2 (.mv (kb false))]) .ret) .skip))) (.reg [mV 17 3,oE 18 (.bin .add (.E 17) (ki 1)),vE 3 18]))
def zqm:IC := .seq (.reg [oV 2 (.mv (kb false))]) (.seq (.seq (.reg [mV 4 0,oE 5 (.lenS (.E 4)),oE 6 (.call zbt [([0],(.E 5)),([0],(ki 1)),([0],(ki 12))]),oE 7 (.un .not (.E 6)),wE 8 7,gE 9 8 .false (.mv (.V 0)),gE 10 8 .false (.idx (.E 9) (ki 0)),gE 11 8 .false (.bin .lss (.E 10) (.C (.v (.int .u8 97)))),oE 12 (.pick (.E 8) (kb true) (.E 11))]) (.cond (.E 12) (.seq (.reg [oV 2 (.mv (kb false))]) .ret) .skip)) (.seq (.seq (.reg [oV 3 (.mv (ki 0))]) (.block 0 (.loop z5b))) (.seq (.reg [oV 2 (.mv (kb true))]) .ret)))
def zqn:List RV:=[.tmp [0] 2]
def ylc:List Nat:=[0,1,5,4]
def z5c:IC := .seq (.seq (.reg [mV 6 5,mV 7 0,nE 8 7,bE 9 .lss 6 8]) (.cond (.E 9) .skip (.exit 0))) (.seq (.block 1 (.seq (.reg [mV 12 0,mV 13 5,iE 14 1 12 13,lE 15 14,mV 16 1,bE 17 .eql 15 16]) (.cond (.E 17) (.seq (.reg [oV 4 (.mv (kb true))]) .ret) .skip))) (.reg [mV 10 5,oE 11 (.bin .add (.E 10) (ki 1)),vE 5 11]))
def zzi:IC := .seq (.reg [oV 4 (.mv (kb false))]) (.seq (.seq (.reg [oV 5 (.mv (ki 0))]) (.block 0 (.loop z5c))) (.seq (.reg [oV 4 (.mv (kb false))]) .ret))
def zzj:List RV:=[.tmp [0] 4]
def yld:List Nat:=[0,4,3,5,6,2]
def zzk:IC := .seq (.seq (.regD [(mV 16 5,0,0),(oE 17 (.bin .gtr (.E 16) (ki 0)),0,0),(wE 18 17,0,0),(gE 19 18 .true (.mv (.V 3)),0,0),(gE 20 18 .true (.mv (.V 5)),0,0),(gE 21 18 .true (.bin .sub (.E 20) (ki 1)),0,0),(gE 22 18 .true (.iaddr 1 (.E 19) (.E 21)),0,0),(gE 23 18 .true (.load false 1 (.E 22)),0,0),(gE 24 18 .true (.mv (.V 0)),0,0),(gE 25 18 .true (.mv (.V 4)),0,0),(gE 26 18 .true (.iaddr 1 (.E 24) (.E 25)),0,0),(gE 27 18 .true (.load false 1 (.E 26)),0,0),(gE 28 18 .true (.bin .gtr (.E 23) (.E 27)),0,0),(oE 29 (.pick (.E 18) (.E 28) (kb false)),0,0)]) (.cond (.E 29) .skip (.exit 2))) (.block 3 (.reg [mV 30 5,oE 31 (.bin .sub (.E 30) (ki 1)),vE 5 31]))
def z5d:IC := .seq (.seq (.reg [mV 8 4,mV 9 0,nE 10 9,bE 11 .lss 8 10]) (.cond (.E 11) .skip (.exit 0))) (.seq (.block 1 (.seq (.reg [mV 14 3,nE 15 14,vE 5 15]) (.seq (.block 2 (.loop zzk)) (.seq (.regD [(oE 32 (.bslice 0 1 [iv 0] []),0,0),(mV 33 3,0,0),(mV 34 5,0,0),(oE 35 (.slice 1 (.E 33) none (some (.E 34)) none),1,0),(oE 36 (.app 8 1 (.E 32) (.E 35)),0,0),(mV 37 0,0,0),(mV 38 4,0,0),(iE 39 1 37 38,2,0),(lE 40 39,2,0),(oE 41 (.bsliceL 1 1 [iv 0] [(0,(.E 40))]),0,0),(oE 42 (.app 8 1 (.E 36) (.E 41)),0,0),(vE 6 42,0,0)]) (.reg [mV 43 6,mV 44 3,mV 45 5,oE 46 (.slice 1 (.E 44) (some (.E 45)) none none),oE 47 (.app 8 1 (.E 43) (.E 46)),vE 3 47]))))) (.reg [mV 12 4,oE 13 (.bin .add (.E 12) (ki 1)),vE 4 13]))
def zzl:IC := .seq (.reg [oV 2 (.mv (.C .e0))]) (.seq (.reg [oE 7 (.bslice 0 1 [iv 0] []),vE 3 7]) (.seq (.seq (.reg [oV 4 (.mv (ki 0))]) (.block 0 (.loop z5d))) (.seq (.reg [mV 48 3,vE 2 48]) .ret)))
def zzm:List RV:=[.tmp [1] 2]
def yle:List Nat:=[0,5,4,3,2]
def zs8:IC := .seq (.seq (.reg [mV 9 5,mV 10 4,nE 11 10,bE 12 .lss 9 11]) (.cond (.E 12) .skip (.exit 0))) (.seq (.block 1 (.seq (.regD [(mV 15 5,0,0),(oE 16 (.bin .eql (.E 15) (ki 0)),0,0),(wE 17 16,0,0),(gE 18 17 .false (.mv (.V 4)),0,0),(gE 19 17 .false (.mv (.V 5)),0,0),(gE 20 17 .false (.iaddr 1 (.E 18) (.E 19)),0,0),(gE 21 17 .false (.load false 1 (.E 20)),0,0),(gE 22 17 .false (.mv (.V 4)),0,0),(gE 23 17 .false (.mv (.V 5)),0,0),(gE 24 17 .false (.bin .sub (.E 23) (ki 1)),0,0),(gE 25 17 .false (.iaddr 1 (.E 22) (.E 24)),0,0),(gE 26 17 .false (.load false 1 (.E 25)),0,0),(gE 27 17 .false (.bin .neq (.E 21) (.E 26)),0,0),(oE 28 (.pick (.E 17) (kb true) (.E 27)),0,0)]) (.cond (.E 28) (.reg [mV 29 3,mV 30 4,mV 31 5,iE 32 1 30 31,lE 33 32,oE 34 (.bslice 1 1 [iv 0] [(0,(.E 33))]),oE 35 (.app 8 1 (.E 29) (.E 34)),vE 3 35]) .skip))) (.reg [mV 13 5,oE 14 (.bin .add (.E 13) (ki 1)),vE 5 14]))
def zzn:IC := .seq (.reg [oV 2 (.mv (.C .e0))]) (.seq (.reg [oE 6 (.bslice 0 1 [iv 0] []),vE 3 6]) (.seq (.reg [mV 7 0,oE 8 (.call zmg [([1],(.E 7))]),vE 4 8]) (.seq (.seq (.reg [oV 5 (.mv (ki 0))]) (.block 0 (.loop zs8))) (.seq (.reg [mV 36 3,vE 2 36]) .ret))))
def zzo:List RV:=[.tmp [1] 2]
def ylf:List Nat:=[0,2]
def zzp:IC := .seq (.reg [oV 2 (.mv (kb false))]) (.seq (.reg [mV 3 0,mV 4 0,bE 5 .neq 3 4,vE 2 5]) .ret)
def zzq:List RV:=[.tmp [0] 2]
def ylg:List Nat:=[0,1,2]
def zm3:IC := .seq (.reg [oV 1 (.box (.V 0)),oV 2 (.mv (kb false))]) (.seq (.reg [fV 3 1 1,lE 4 3,oE 5 (.bin .lss (.E 4) (.C (.v (.int .u64 9223372036854775808)))),wE 6 5,gE 7 6 .true (.faddr 0 (.V 1)),gE 8 6 .true (.load false 1 (.E 7)),gE 9 6 .true (.un .not (.E 8)),gE 10 6 .true (.mv (.E 9)),gE 11 10 .false (.faddr 1 (.V 1)),gE 12 10 .false (.load false 1 (.E 11)),gE 13 10 .false (.bin .gtr (.E 12) (.C (.v (.int .u64 0)))),gE 14 6 .true (.pick (.E 10) (kb true) (.E 13)),gE 15 6 .true (.mv (.E 14)),gE 16 15 .false (.faddr 2 (.V 1)),gE 17 15 .false (.load false 1 (.E 16)),gE 18 15 .false (.bin .gtr (.E 17) (.C (.v (.int .u64 0)))),gE 19 6 .true (.pick (.E 15) (kb true) (.E 18)),oE 20 (.pick (.E 6) (.E 19) (kb false)),vE 2 20]) .ret)
def zm4:List RV:=[.tmp [0] 2]
def ylh:List Nat:=[0,1,6,8,7,10,11,12,9,13,4,5]
def zzr:IC := .seq (.reg [oV 4 (.mv (.C (.v (.int .u64 0)))),oV 5 (.mv (.C (.v (.int .u64 0))))]) (.seq (.reg [mV 14 0,oE 15 (.bin .and (.E 14) (.C (.v (.int .u64 4294967295)))),vE 6 15]) (.seq (.reg [mV 16 0,oE 17 (.bin .shr (.E 16) (.C (.v (.int .u64 32)))),vE 7 17]) (.seq (.reg [mV 18 1,oE 19 (.bin .and (.E 18) (.C (.v (.int .u64 4294967295)))),vE 8 19]) (.seq (.reg [mV 20 1,oE 21 (.bin .shr (.E 20) (.C (.v (.int .u64 32)))),vE 9 21]) (.seq (.reg [mV 22 6,mV 23 8,bE 24 .mul 22 23,vE 10 24]) (.seq (.reg [mV 25 7,mV 26 8,bE 27 .mul 25 26,mV 28 10,oE 29 (.bin .shr (.E 28) (.C (.v (.int .u64 32)))),bE 30 .add 27 29,vE 11 30]) (.seq (.reg [mV 31 11,oE 32 (.bin .and (.E 31) (.C (.v (.int .u64 4294967295)))),vE 12 32]) (.seq (.reg [mV 33 11,oE 34 (.bin .shr (.E 33) (.C (.v (.int .u64 32)))),vE 13 34]) (.seq (.reg [mV 35 12,mV 36 6,mV 37 9,bE 38 .mul 36 37,bE 39 .add 35 38,vE 12 39]) (.seq (.reg [mV 40 7,mV 41 9,bE 42 .mul 40 41,mV 43 13,bE 44 .add 42 43,mV 45 12,oE 46 (.bin .shr (.E 45) (.C (.v (.int .u64 32)))),bE 47 .add 44 46,vE 4 47]) (.seq (.reg [mV 48 0,mV 49 1,bE 50 .mul 48 49,vE 5 50]) .ret)))))))))))
def zzs:List RV:=[.tmp [0] 4,.tmp [0] 5]
def yli:List Nat:=[0,2]
def zzt:IC := .seq (.reg [oV 2 (.mv (.C (.v (.int .u64 0))))]) (.seq (.seq (.reg [mV 3 0,oE 4 (.bin .lss (.E 3) (ki 0))]) (.cond (.E 4) (.seq (.reg [mV 5 0,oE 6 (.convI .u64 (.E 5)),oE 7 (.un .neg (.E 6)),vE 2 7]) .ret) .skip)) (.seq (.reg [mV 8 0,oE 9 (.convI .u64 (.E 8)),vE 2 9]) .ret))
def zzu:List RV:=[.tmp [0] 2]
def ylj:List Nat:=[0,1,5,6,4]
def zqo:IC := .seq (.reg [oV 4 (.mv (ki 0))]) (.seq (.reg [mV 7 0,oE 8 (.call zmj [([0],(.E 7))]),vE 5 8]) (.seq (.reg [mV 9 1,oE 10 (.call zmj [([0],(.E 9))]),vE 6 10]) (.seq (.seq (.reg [mV 11 5]) (.cond (.E 11) (.seq (.seq (.reg [mV 12 6]) (.cond (.E 12) (.seq (.reg [oV 4 (.mv (ki 0))]) .ret) .skip)) (.seq (.reg [oV 4 (.mv (ki (-1)))]) .ret)) .skip)) (.seq (.seq (.reg [mV 13 6]) (.cond (.E 13) (.seq (.reg [oV 4 (.mv (ki 1))]) .ret) .skip)) (.seq (.seq (.reg [mV 14 0,mV 15 1,bE 16 .lss 14 15]) (.cond (.E 16) (.seq (.reg [oV 4 (.mv (ki (-1)))]) .ret) .skip)) (.seq (.seq (.reg [mV 17 0,mV 18 1,bE 19 .gtr 17 18]) (.cond (.E 19) (.seq (.reg [oV 4 (.mv (ki 1))]) .ret) .skip)) (.seq (.reg [oV 4 (.mv (ki 0))]) .ret)))))))
def zqp:List RV:=[.tmp [0] 4]
def ylk:List Nat:=[0,1,2]
def zm5:IC := .seq (.reg [oV 1 (.box (.V 0)),oV 2 (.mv (kb false))]) (.seq (.reg [fV 3 1 1,lE 4 3,oE 5 (.bin .lss (.E 4) (.C (.v (.int .u64 9223372036854775808)))),wE 6 5,gE 7 6 .true (.faddr 0 (.V 1)),gE 8 6 .true (.load false 1 (.E 7)),gE 9 6 .true (.un .not (.E 8)),gE 10 6 .true (.mv (.E 9)),gE 11 10 .false (.faddr 1 (.V 1)),gE 12 10 .false (.load false 1 (.E 11)),gE 13 10 .false (.bin .gtr (.E 12) (.C (.v (.int .u64 0)))),gE 14 6 .true (.pick (.E 10) (kb true) (.E 13)),gE 15 6 .true (.mv (.E 14)),gE 16 15 .false (.faddr 2 (.V 1)),gE 17 15 .false (.load false 1 (.E 16)),gE 18 15 .false (.bin .gtr (.E 17) (.C (.v (.int .u64 0)))),gE 19 6 .true (.pick (.E 15) (kb true) (.E 18)),oE 20 (.pick (.E 6) (.E 19) (kb false)),vE 2 20]) .ret)
def zm6:List RV:=[.tmp [0] 2]
def yll:List Nat:=[0,1,5,6,4]
def zzv:IC := .seq (.reg [oV 4 (.alloc [(.v (.bool false)),(.v (.int .u64 0)),(.v (.int .u64 0))])]) (.seq (.reg [mV 8 0,oE 9 (.call zki [([0],(.E 8))]),mV 10 1,oE 11 (.call zki [([0],(.E 10))]),oE 12 (.call zkj [([0],(.E 9)),([0],(.E 11))]),wE 7 12,xE 13 0 7,xE 14 1 7,vE 5 13,vE 6 14]) (.seq (.reg [mV 15 0,oE 16 (.bin .lss (.E 15) (ki 0)),mV 17 1,oE 18 (.bin .lss (.E 17) (ki 0)),oE 19 (.eqb true [.b] (.E 16) (.E 18)),wE 20 19,gE 21 20 .true (.mv (.V 0)),gE 22 20 .true (.bin .neq (.E 21) (ki 0)),oE 23 (.pick (.E 20) (.E 22) (kb false)),wE 24 23,gE 25 24 .true (.mv (.V 1)),gE 26 24 .true (.bin .neq (.E 25) (ki 0)),oE 27 (.pick (.E 24) (.E 26) (kb false)),mV 28 5,mV 29 6,oE 30 (.build [(.v (.bool false)),(.v (.int .u64 0)),(.v (.int .u64 0))] [(0,1,(.E 27)),(1,1,(.E 28)),(2,1,(.E 29))]),oN (.store [0,0,0] (.V 4) (.E 30))]) .ret))
def zzw:List RV:=[.cell [0,0,0] 4 true]
def ylm:List Nat:=[0,2]
def zzx:IC := .seq (.reg [oV 2 (.mv (.C (.v (.int .u64 0))))]) (.seq (.seq (.reg [mV 3 0,oE 4 (.bin .lss (.E 3) (ki 0))]) (.cond (.E 4) (.seq (.reg [mV 5 0,oE 6 (.bin .add (.E 5) (ki 1)),oE 7 (.un .neg (.E 6)),oE 8 (.convI .u64 (.E 7)),oE 9 (.bin .add (.E 8) (.C (.v (.int .u64 1)))),vE 2 9]) .ret) .skip)) (.seq (.reg [mV 10 0,oE 11 (.convI .u64 (.E 10)),vE 2 11]) .ret))
def zzy:List RV:=[.tmp [0] 2]
def yln:List Nat:=[0,1,7,9,6,10,8,11,12,4,5]
def zzz:IC := .seq (.reg [oV 4 (.mv (.C (.v (.int .u64 0)))),oV 5 (.mv (.C (.v (.int .u64 0))))]) (.seq (.reg [mV 13 0,oE 14 (.bin .shr (.E 13) (.C (.v (.int .u64 32)))),vE 6 14]) (.seq (.reg [mV 15 0,oE 16 (.bin .and (.E 15) (.C (.v (.int .u64 4294967295)))),vE 7 16]) (.seq (.reg [mV 17 1,oE 18 (.bin .shr (.E 17) (.C (.v (.int .u64 32)))),vE 8 18]) (.seq (.reg [mV 19 1,oE 20 (.bin .and (.E 19) (.C (.v (.int .u64 4294967295)))),vE 9 20]) (.seq (.reg [mV 21 7,mV 22 9,bE 23 .mul 21 22,vE 10 23]) (.seq (.reg [mV 24 6,mV 25 9,bE 26 .mul 24 25,mV 27 10,oE 28 (.bin .shr (.E 27) (.C (.v (.int .u64 32)))),bE 29 .add 26 28,vE 11 29]) (.seq (.reg [mV 30 7,mV 31 8,bE 32 .mul 30 31,mV 33 11,oE 34 (.bin .and (.E 33) (.C (.v (.int .u64 4294967295)))),bE 35 .add 32 34,vE 12 35]) (.seq (.reg [mV 36 6,mV 37 8,bE 38 .mul 36 37,mV 39 11,oE 40 (.bin .shr (.E 39) (.C (.v (.int .u64 32)))),bE 41 .add 38 40,mV 42 12,oE 43 (.bin .shr (.E 42) (.C (.v (.int .u64 32)))),bE 44 .add 41 43,mV 45 12,oE 46 (.bin .shl (.E 45) (.C (.v (.int .u64 32)))),mV 47 10,oE 48 (.bin .and (.E 47) (.C (.v (.int .u64 4294967295)))),bE 49 .add 46 48,vE 4 44,vE 5 49]) .ret))))))))
def zz0:List RV:=[.tmp [0] 4,.tmp [0] 5]
def ylo:List Nat:=[0,2]
def zz1:IC := .seq (.reg [oV 2 (.mv (kb false))]) (.seq (.reg [mV 3 0,mV 4 0,bE 5 .neq 3 4,vE 2 5]) .ret)
def zz2:List RV:=[.tmp [0] 2]
def tbl:List (Nat×Fun):=[
 (zrq,zaa zmk zml []),
 (zn2,zaa zul zum []),
 (zn3,zaa zpz zp0 []),
 (zn4,zaa zp1 zp2 []),
 (zn5,zaa zun zuo []),
 (zk9,zaa zup zuq []),
 (zn6,zaa zur zus []),
 (zla,zaa zmm zmn []),
 (zlb,zaa zmo zmp []),
 (zlc,zaa zrs zrt []),
 (zj1,zaa zp3 zp4 []),
 (zn7,zaa zut zuu []),
 (zn8,zaa zuv zuw []),
 (zn9,zaa zru zrv []),
 (zoa,zaa zuy zuz []),
 (zee,zaa zu0 zu1 [true]),
 (zob,zaa zrw zrx []),
 (zoc,zaa zu4 zu5 []),
 (zod,zaa zu7 zu8 []),
 (zoe,zaa zry zrz []),
 (zof,zaa zva zvb []),
 (zog,zaa zvd zve []),
 (zbt,zaa zvf zvg []),
 (zld,zaa zvh zvi []),
 (zle,zaa zvj zvk []),
 (zoh,zaa zr1 zr2 []),
 (zlf,zaa zr3 zr4 []),
 (zoi,zaa zvl zvm []),
 (zlg,zaa zms zmt []),
 (zlh,zaa zvn zvo []),
 (zit,zaa zr5 zr6 []),
 (zli,zaa zmv zmw []),
 (ziu,zaa zr7 zr8 []),
 (zh7,zaa zr9 zsa []),
 (zlj,zaa zvp zvq []),
 (zcd,zaa zvr zvs []),
 (zoj,zaa zvt zvu []),
 (zok,zaa zvv zvw []),
 (zj2,zaa zsb zsc []),
 (zol,zaa zvx zvy []),
 (zom,zaa zp6 zp7 []),
 (zon,zaa zvz zv0 []),
 (zlk,zaa zv1 zv2 []),
 (zoo,zaa zv3 zv4 []),
 (zll,zaa zse zsf []),
 (zop,zaa zv5 zv6 []),
 (zlm,zaa zv7 zv8 []),
 (zoq,zaa zp8 zp9 []),
 (zln,zaa zsg zsh []),
 (zor,zaa zwa zwb []),
 (zlo,zaa zwc zwd [true]),
 (zbm,zaa zqa zqb [true]),
 (zos,zaa zwf zwg [true]),
 (zeu,zaa zwh zwi [true,true,true]),
 (zlp,zaa zmx zmy [true]),
 (zot,zaa zgj zgk [true]),
 (zou,zaa zhd zhe [true]),
 (zov,zaa zmz zm0 [true]),
 (zow,zaa zsi zsj []),
 (zlq,zaa zwj zwk []),
 (zox,zaa zwm zwn []),
 (zoy,zaa zwo zwp []),
 (zoz,zaa zsk zsl []),
 (ziv,zaa zwq zwr []),
 (zj3,zaa zws zwt []),
 (zo0,zaa zwv zww []),
 (zlr,zaa zkk zkl []),
 (zls,zaa zwx zwy []),
 (zo1,zaa zwz zw0 []),
 (zj4,zaa zw1 zw2 []),
 (zo2,zaa zw3 zw4 []),
 (zj5,zaa zsm zsn []),
 (zlu,zaa zw5 zw6 []),
 (zo3,zaa zw7 zw8 []),
 (zo4,zaa zw9 zxa []),
 (zo5,zaa zxb zxc []),
 (zo6,zaa zxd zxe []),
 (zo7,zaa zxf zxg []),
 (zlv,zaa zxh zxi []),
 (zlw,zaa zso zsp []),
 (zlx,zaa zxj zxk []),
 (zly,zaa zxl zxm []),
 (zo8,zaa zxn zxo []),
 (zlz,zaa zsq zsr []),
 (zo9,zaa zxp zxq []),
 (zl0,zaa zxr zxs []),
 (zpa,zaa zxt zxu []),
 (zl1,zaa zxv zxw []),
 (zpb,zaa zxy zxz []),
 (zpc,zaa zst zkm [true]),
 (zha,zaa zsu zsv [true]),
 (zj6,zaa zqc zqd [true]),
 (zj7,zaa zx1 zx2 []),
 (zpd,zaa zx3 zx4 []),
 (zl2,zaa zi1 zi2 []),
 (zj8,zaa zx5 zx6 []),
 (zpe,zaa zsw zsx []),
 (zpf,zaa zx7 zx8 []),
 (zj9,zaa zx9 zya []),
 (zpg,zaa zsy zsz []),
 (zph,zaa zs0 zs1 []),
 (zpi,zaa zyb zyc []),
 (zl3,zaa zyd zye []),
 (zpj,zaa zyf zyg []),
 (zka,zaa zyh zyi []),
 (zpk,zaa zyj zyk []),
 (zl4,zaa zyl zym []),
 (zpl,zaa zs2 zs3 []),
 (zl5,zaa zyn zyo []),
 (zpm,zaa zyp zyq []),
 (zpn,zaa zi3 zi4 []),
 (zpo,zaa zyr zys []),
 (zpp,zaa zyt zyu []),
 (zpq,zaa zyw zyx []),
 (zl6,zaa zi5 zi6 []),
 (zl7,zaa zyy zyz []),
 (zl8,zaa zqg zqh []),
 (zl9,zaa zkn zko []),
 (zpr,zaa zy0 zy1 []),
 (zkb,zaa zqi zqj []),
 (zps,zaa zi7 zi8 []),
 (zma,zaa zy2 zy3 []),
 (zpt,zaa zy4 zy5 []),
 (zkc,zaa zy6 zy7 []),
 (zmb,zaa zhf zhg []),
 (zgi,zaa zqk zql []),
 (zkd,zaa zy8 zy9 []),
 (zmc,zaa zza zzb []),
 (zpu,zaa zzc zzd []),
 (zpv,zaa zfj zfk []),
 (ziw,zaa zze zzf []),
 (zpw,zaa zzg zzh []),
 (zmd,zaa zhh zhi []),
 (zix,zaa zs6 zs7 []),
 (zke,zaa zkp zkq []),
 (zme,zaa zqm zqn []),
 (zmf,zaa zzi zzj []),
 (zmg,zaa zzl zzm []),
 (zpx,zaa zzn zzo []),
 (zmh,zaa zzp zzq []),
 (zhb,zaa zm3 zm4 []),
 (zkf,.ext zq3),
 (ziy,.ext zqz),
 (zkg,zaa zzr zzs []),
 (zkh,zaa zzt zzu []),
 (zmi,zaa zqo zqp []),
 (zhc,zaa zm5 zm6 []),
 (zpy,zaa zzv zzw []),
 (zki,zaa zzx zzy []),
 (zkj,zaa zzz zz0 []),
 (zmj,zaa zz1 zz2 [])]
def T:zcs:=fun f=>(tbl.find? fun q=>q.1 == f).map fun q=>q.2
theorem zqq:T zrq=some (zaa zmk zml []):=rfl
@[simp] theorem yzh:zad T zrq=[]:=zaf zqq
theorem z5e:T zn2=some (zaa zul zum []):=rfl
@[simp] theorem yzi:zad T zn2=[]:=zaf z5e
theorem z5f:T zn3=some (zaa zpz zp0 []):=rfl
@[simp] theorem yzj:zad T zn3=[]:=zaf z5f
theorem z5g:T zn4=some (zaa zp1 zp2 []):=rfl
@[simp] theorem yzk:zad T zn4=[]:=zaf z5g
theorem z5h:T zn5=some (zaa zun zuo []):=rfl
@[simp] theorem yzl:zad T zn5=[]:=zaf z5h
theorem z5i:T zk9=some (zaa zup zuq []):=rfl
@[simp] theorem yzm:zad T zk9=[]:=zaf z5i
theorem z5j:T zn6=some (zaa zur zus []):=rfl
@[simp] theorem yzn:zad T zn6=[]:=zaf z5j
theorem z5k:T zla=some (zaa zmm zmn []):=rfl
@[simp] theorem yzo:zad T zla=[]:=zaf z5k
theorem z5l:T zlb=some (zaa zmo zmp []):=rfl
@[simp] theorem yzp:zad T zlb=[]:=zaf z5l
theorem z1r:T zlc=some (zaa zrs zrt []):=rfl
@[simp] theorem yzq:zad T zlc=[]:=zaf z1r
theorem z5m:T zj1=some (zaa zp3 zp4 []):=rfl
@[simp] theorem yzr:zad T zj1=[]:=zaf z5m
theorem z5n:T zn7=some (zaa zut zuu []):=rfl
@[simp] theorem yzs:zad T zn7=[]:=zaf z5n
theorem z5o:T zn8=some (zaa zuv zuw []):=rfl
@[simp] theorem yzt:zad T zn8=[]:=zaf z5o
theorem z1s:T zn9=some (zaa zru zrv []):=rfl
@[simp] theorem yzu:zad T zn9=[]:=zaf z1s
theorem z5p:T zoa=some (zaa zuy zuz []):=rfl
@[simp] theorem yzv:zad T zoa=[]:=zaf z5p
theorem z5q:T zee=some (zaa zu0 zu1 [true]):=rfl
@[simp] theorem yzw:zad T zee=[true]:=zaf z5q
theorem z5r:T zob=some (zaa zrw zrx []):=rfl
@[simp] theorem yzx:zad T zob=[]:=zaf z5r
theorem z5s:T zoc=some (zaa zu4 zu5 []):=rfl
@[simp] theorem yzy:zad T zoc=[]:=zaf z5s
theorem z5t:T zod=some (zaa zu7 zu8 []):=rfl
@[simp] theorem yzz:zad T zod=[]:=zaf z5t
theorem z5u:T zoe=some (zaa zry zrz []):=rfl
@[simp] theorem yz0:zad T zoe=[]:=zaf z5u
theorem z5v:T zof=some (zaa zva zvb []):=rfl
@[simp] theorem yz1:zad T zof=[]:=zaf z5v
theorem z5w:T zog=some (zaa zvd zve []):=rfl
@[simp] theorem yz2:zad T zog=[]:=zaf z5w
theorem z5x:T zbt=some (zaa zvf zvg []):=rfl
@[simp] theorem yz3:zad T zbt=[]:=zaf z5x
theorem z5y:T zld=some (zaa zvh zvi []):=rfl
@[simp] theorem yz4:zad T zld=[]:=zaf z5y
theorem z5z:T zle=some (zaa zvj zvk []):=rfl
@[simp] theorem yz5:zad T zle=[]:=zaf z5z
theorem z50:T zoh=some (zaa zr1 zr2 []):=rfl
@[simp] theorem yz6:zad T zoh=[]:=zaf z50
theorem z51:T zlf=some (zaa zr3 zr4 []):=rfl
@[simp] theorem yz7:zad T zlf=[]:=zaf z51
theorem z52:T zoi=some (zaa zvl zvm []):=rfl
@[simp] theorem yz8:zad T zoi=[]:=zaf z52
theorem z53:T zlg=some (zaa zms zmt []):=rfl
@[simp] theorem yz9:zad T zlg=[]:=zaf z53
theorem z54:T zlh=some (zaa zvn zvo []):=rfl
@[simp] theorem y0a:zad T zlh=[]:=zaf z54
theorem z55:T zit=some (zaa zr5 zr6 []):=rfl
@[simp] theorem y0b:zad T zit=[]:=zaf z55
theorem z56:T zli=some (zaa zmv zmw []):=rfl
@[simp] theorem y0c:zad T zli=[]:=zaf z56
theorem z57:T ziu=some (zaa zr7 zr8 []):=rfl
@[simp] theorem y0d:zad T ziu=[]:=zaf z57
theorem z1t:T zh7=some (zaa zr9 zsa []):=rfl
@[simp] theorem y0e:zad T zh7=[]:=zaf z1t
theorem z58:T zlj=some (zaa zvp zvq []):=rfl
@[simp] theorem y0f:zad T zlj=[]:=zaf z58
theorem z59:T zcd=some (zaa zvr zvs []):=rfl
@[simp] theorem y0g:zad T zcd=[]:=zaf z59
theorem z6a:T zoj=some (zaa zvt zvu []):=rfl
@[simp] theorem y0h:zad T zoj=[]:=zaf z6a
theorem z6b:T zok=some (zaa zvv zvw []):=rfl
@[simp] theorem y0i:zad T zok=[]:=zaf z6b
theorem z6c:T zj2=some (zaa zsb zsc []):=rfl
@[simp] theorem y0j:zad T zj2=[]:=zaf z6c
theorem z6d:T zol=some (zaa zvx zvy []):=rfl
@[simp] theorem y0k:zad T zol=[]:=zaf z6d
theorem z6e:T zom=some (zaa zp6 zp7 []):=rfl
@[simp] theorem y0l:zad T zom=[]:=zaf z6e
theorem z6f:T zon=some (zaa zvz zv0 []):=rfl
@[simp] theorem y0m:zad T zon=[]:=zaf z6f
theorem z6g:T zlk=some (zaa zv1 zv2 []):=rfl
@[simp] theorem y0n:zad T zlk=[]:=zaf z6g
theorem z6h:T zoo=some (zaa zv3 zv4 []):=rfl
@[simp] theorem y0o:zad T zoo=[]:=zaf z6h
theorem z6i:T zll=some (zaa zse zsf []):=rfl
@[simp] theorem y0p:zad T zll=[]:=zaf z6i
theorem z6j:T zop=some (zaa zv5 zv6 []):=rfl
@[simp] theorem y0q:zad T zop=[]:=zaf z6j
theorem z6k:T zlm=some (zaa zv7 zv8 []):=rfl
@[simp] theorem y0r:zad T zlm=[]:=zaf z6k
theorem z6l:T zoq=some (zaa zp8 zp9 []):=rfl
@[simp] theorem y0s:zad T zoq=[]:=zaf z6l
theorem z6m:T zln=some (zaa zsg zsh []):=rfl
@[simp] theorem y0t:zad T zln=[]:=zaf z6m
theorem z6n:T zor=some (zaa zwa zwb []):=rfl
@[simp] theorem y0u:zad T zor=[]:=zaf z6n
theorem z6o:T zlo=some (zaa zwc zwd [true]):=rfl
@[simp] theorem y0v:zad T zlo=[true]:=zaf z6o
theorem z6p:T zbm=some (zaa zqa zqb [true]):=rfl
@[simp] theorem y0w:zad T zbm=[true]:=zaf z6p
theorem z6q:T zos=some (zaa zwf zwg [true]):=rfl
@[simp] theorem y0x:zad T zos=[true]:=zaf z6q
theorem z6r:T zeu=some (zaa zwh zwi [true,true,true]):=rfl
@[simp] theorem y0y:zad T zeu=[true,true,true]:=zaf z6r
theorem z6s:T zlp=some (zaa zmx zmy [true]):=rfl
@[simp] theorem y0z:zad T zlp=[true]:=zaf z6s
theorem z6t:T zot=some (zaa zgj zgk [true]):=rfl
@[simp] theorem y00:zad T zot=[true]:=zaf z6t
theorem z6u:T zou=some (zaa zhd zhe [true]):=rfl
@[simp] theorem y01:zad T zou=[true]:=zaf z6u
theorem z6v:T zov=some (zaa zmz zm0 [true]):=rfl
@[simp] theorem y02:zad T zov=[true]:=zaf z6v
theorem z6w:T zow=some (zaa zsi zsj []):=rfl
@[simp] theorem y03:zad T zow=[]:=zaf z6w
theorem z6x:T zlq=some (zaa zwj zwk []):=rfl
@[simp] theorem y04:zad T zlq=[]:=zaf z6x
theorem z6y:T zox=some (zaa zwm zwn []):=rfl
@[simp] theorem y05:zad T zox=[]:=zaf z6y
theorem z6z:T zoy=some (zaa zwo zwp []):=rfl
@[simp] theorem y06:zad T zoy=[]:=zaf z6z
theorem z60:T zoz=some (zaa zsk zsl []):=rfl
@[simp] theorem y07:zad T zoz=[]:=zaf z60
theorem z61:T ziv=some (zaa zwq zwr []):=rfl
@[simp] theorem y08:zad T ziv=[]:=zaf z61
theorem z62:T zj3=some (zaa zws zwt []):=rfl
@[simp] theorem y09:zad T zj3=[]:=zaf z62
theorem z63:T zo0=some (zaa zwv zww []):=rfl
@[simp] theorem y1a:zad T zo0=[]:=zaf z63
theorem z64:T zlr=some (zaa zkk zkl []):=rfl
@[simp] theorem y1b:zad T zlr=[]:=zaf z64
theorem z65:T zls=some (zaa zwx zwy []):=rfl
@[simp] theorem y1c:zad T zls=[]:=zaf z65
theorem z66:T zo1=some (zaa zwz zw0 []):=rfl
@[simp] theorem y1d:zad T zo1=[]:=zaf z66
theorem z67:T zj4=some (zaa zw1 zw2 []):=rfl
@[simp] theorem y1e:zad T zj4=[]:=zaf z67
theorem z68:T zo2=some (zaa zw3 zw4 []):=rfl
@[simp] theorem y1f:zad T zo2=[]:=zaf z68
theorem z69:T zj5=some (zaa zsm zsn []):=rfl
@[simp] theorem y1g:zad T zj5=[]:=zaf z69
theorem z7a:T zlu=some (zaa zw5 zw6 []):=rfl
@[simp] theorem y1h:zad T zlu=[]:=zaf z7a
theorem z7b:T zo3=some (zaa zw7 zw8 []):=rfl
@[simp] theorem y1i:zad T zo3=[]:=zaf z7b
theorem z7c:T zo4=some (zaa zw9 zxa []):=rfl
@[simp] theorem y1j:zad T zo4=[]:=zaf z7c
theorem z7d:T zo5=some (zaa zxb zxc []):=rfl
@[simp] theorem y1k:zad T zo5=[]:=zaf z7d
theorem z7e:T zo6=some (zaa zxd zxe []):=rfl
@[simp] theorem y1l:zad T zo6=[]:=zaf z7e
theorem z7f:T zo7=some (zaa zxf zxg []):=rfl
end Go.Pe
