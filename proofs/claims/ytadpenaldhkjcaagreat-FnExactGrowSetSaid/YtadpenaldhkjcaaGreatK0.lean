/- The compact texts of the functions that the law reaches; no condition. -/
import Derived.Test.YtadpenaldhkjcaaGreatEvA0
set_option linter.all false
namespace Go.Pe
open Go
abbrev gE (n g:Nat) (b:Bool) (o:IOp):zab:=⟨some (.E n),o,some (.E g,b)⟩
abbrev gV (n g:Nat) (b:Bool) (o:IOp):zab:=⟨some (.V n),o,some (.E g,b)⟩
abbrev fV (n i k:Nat):zab:=⟨some (.E n),.faddr i (.V k),none⟩
abbrev fE (n i k:Nat):zab:=⟨some (.E n),.faddr i (.E k),none⟩
abbrev lE (n k:Nat):zab:=⟨some (.E n),.load false 1 (.E k),none⟩
abbrev tV (n i k:Nat):zab:=⟨some (.E n),.load true i (.V k),none⟩
abbrev tE (n i k:Nat):zab:=⟨some (.E n),.load true i (.E k),none⟩
abbrev iE (n i a b:Nat):zab:=⟨some (.E n),.iaddr i (.E a) (.E b),none⟩
abbrev nE (n k:Nat):zab:=⟨some (.E n),.len (.E k),none⟩
abbrev bE (n:Nat) (o:BinOp) (a b:Nat):zab:=⟨some (.E n),.bin o (.E a) (.E b),none⟩
abbrev wE (n k:Nat):zab:=⟨some (.E n),.mv (.E k),none⟩
def zo3:Nat:=7
def zl5:Nat:=14
def zl6:Nat:=17
def zl7:Nat:=18
def zl8:Nat:=21
def zl9:Nat:=22
def zjp:Nat:=27
def zma:Nat:=31
def zmb:Nat:=32
def zmc:Nat:=33
def zhk:Nat:=34
def zf5:Nat:=35
def zhl:Nat:=36
def zg0:Nat:=37
def zmd:Nat:=38
def zij:Nat:=39
def zme:Nat:=40
def zmf:Nat:=41
def zik:Nat:=42
def zmg:Nat:=43
def zmh:Nat:=44
def zjq:Nat:=45
def zdr:Nat:=56
def zjr:Nat:=57
def zjs:Nat:=58
def zmi:Nat:=59
def zjt:Nat:=60
def zmj:Nat:=61
def zmk:Nat:=62
def zml:Nat:=63
def zil:Nat:=64
def zmm:Nat:=65
def zhm:Nat:=66
def zg1:Nat:=67
def zju:Nat:=68
def zca:Nat:=69
def zmn:Nat:=70
def zmo:Nat:=71
def zim:Nat:=72
def zio:Nat:=73
def zmp:Nat:=74
def zjv:Nat:=75
def zmq:Nat:=76
def zmr:Nat:=77
def zjw:Nat:=78
def zf6:Nat:=79
def zms:Nat:=81
def zjx:Nat:=82
def zip:Nat:=83
def zjy:Nat:=86
def zjz:Nat:=87
def ziq:Nat:=88
def zj0:Nat:=89
def zmt:Nat:=90
def zj1:Nat:=91
def zj2:Nat:=92
def zj3:Nat:=93
def zj4:Nat:=94
def zmu:Nat:=105
def zj5:Nat:=113
def zmv:Nat:=114
def zir:Nat:=115
def zmw:Nat:=116
def zis:Nat:=117
def zj6:Nat:=118
def zmx:Nat:=119
def zmy:Nat:=120
def zmz:Nat:=121
def zm0:Nat:=122
def zm1:Nat:=123
def zj7:Nat:=124
def zj8:Nat:=125
def zj9:Nat:=126
def zka:Nat:=127
def zm2:Nat:=128
def zkb:Nat:=129
def zm3:Nat:=130
def zkc:Nat:=131
def zm4:Nat:=132
def zm5:Nat:=133
def zkd:Nat:=134
def zg2:Nat:=135
def zm6:Nat:=140
def zm7:Nat:=141
def zm8:Nat:=144
def zm9:Nat:=148
def zna:Nat:=149
def zke:Nat:=150
def znb:Nat:=151
def znc:Nat:=152
def znd:Nat:=153
def zkf:Nat:=154
def zne:Nat:=155
def zit:Nat:=156
def zkg:Nat:=157
def znf:Nat:=158
def zkh:Nat:=163
def zki:Nat:=164
def zkj:Nat:=165
def zng:Nat:=169
def zkk:Nat:=170
def znh:Nat:=171
def ziu:Nat:=172
def zkl:Nat:=173
def zfp:Nat:=174
def ziv:Nat:=175
def zkm:Nat:=176
def zni:Nat:=177
def znj:Nat:=178
def zhn:Nat:=179
def znk:Nat:=180
def zkn:Nat:=181
def zho:Nat:=182
def ziw:Nat:=183
def zko:Nat:=188
def zf7:Nat:=189
def zix:Nat:=190
def zhp:Nat:=191
def ziy:Nat:=192
def ziz:Nat:=193
def zkp:Nat:=194
def zf8:Nat:=195
def znl:Nat:=196
def zi0:Nat:=197
def zi1:Nat:=198
def zkq:Nat:=199
def yb5:List Nat:=[0,1,2,3,7,5,10,11,12,13,8,14,9,15,16,17,18,19,6]
def zkr:IC := .seq (.reg [oV 3 (.box (.V 0)),oV 5 (.box (.V 2)),oV 6 (.mv (kb false))]) (.seq (.seq (.reg [mV 20 1,nE 21 20,oE 22 (.bin .gtr (.E 21) (ki 1048576))]) (.cond (.E 22) (.seq (.reg [oV 6 (.mv (kb true))]) .ret) .skip)) (.seq (.reg [oV 7 (.mv (ki 1048576))]) (.seq (.reg [tV 23 2 3,mV 24 7,oE 25 (.call zma [([1,1],(.E 23)),([0],(.E 24))]),vE 7 25]) (.seq (.seq (.reg [mV 26 7,oE 27 (.bin .lss (.E 26) (ki 0))]) (.cond (.E 27) (.seq (.reg [oV 6 (.mv (kb true))]) .ret) .skip)) (.seq (.reg [tV 28 8 5,mV 29 7,oE 30 (.call zmb [([0,0,0,0,0,0,0,1],(.E 28)),([0],(.E 29))]),vE 7 30]) (.seq (.seq (.reg [mV 31 7,oE 32 (.bin .lss (.E 31) (ki 0))]) (.cond (.E 32) (.seq (.reg [oV 6 (.mv (kb true))]) .ret) .skip)) (.seq (.regD [(tV 34 2 3,0,0),(oE 35 (.call zhk [([1,1],(.E 34))]),0,0),(mV 36 1,0,0),(oE 37 (.call zf5 [([1],(.E 36))]),0,0),(tV 38 8 5,2,0),(oE 39 (.call zhl [([0,0,0,0,0,0,0,1],(.E 38))]),0,0),(oE 40 (.call zmc [([1,1],(.E 35)),([1],(.E 37)),([0,0,0,0,0,0,0,1],(.E 39))]),0,0),(wE 33 40,0,0),(xE 41 0 33,0,0),(xE 42 1 33,0,0),(oV 8 (.allocL [iv 0,iv 0,iv 0,.e0]),0,0),(oN (.store [0,0,0,4] (.V 8) (.E 41)),0,0),(vE 9 42,0,0)]) (.seq (.reg [tV 43 2 3,oE 44 (.call zhk [([1,1],(.E 43))]),oV 10 (.alloc [.e0,.e0]),oN (.store [1,1] (.V 10) (.E 44))]) (.seq (.reg [mV 45 1,oE 46 (.call zf5 [([1],(.E 45))]),vE 11 46]) (.seq (.reg [tV 47 8 5,oE 48 (.call zhl [([0,0,0,0,0,0,0,1],(.E 47))]),oV 12 (.alloc [iv 0,iv 0,iv 0,iv 0,iv 0,iv 0,iv 0,.e0]),oN (.store [0,0,0,0,0,0,0,1] (.V 12) (.E 48))]) (.seq (.reg [tV 50 2 10,mV 51 11,tV 52 8 12,oE 53 (.call zjp [([1,1],(.E 50)),([1],(.E 51)),([0,0,0,0,0,0,0,1],(.E 52))]),wE 49 53,xE 54 0 49,xE 55 1 49,oV 13 (.alloc [iv 0,iv 0,iv 0,.e0]),oN (.store [0,0,0,4] (.V 13) (.E 54)),vE 14 55]) (.seq (.seq (.reg [tV 56 4 13,tV 57 4 8,oE 58 (.call zg0 [([0,0,0,4],(.E 56)),([0,0,0,4],(.E 57))]),oE 59 (.un .not (.E 58)),wE 60 59,gE 61 60 .false (.mv (.V 14)),gE 62 60 .false (.mv (.V 9)),gE 63 60 .false (.eqb true [.b] (.E 61) (.E 62)),oE 64 (.pick (.E 60) (kb true) (.E 63))]) (.cond (.E 64) (.seq (.reg [oV 6 (.mv (kb false))]) .ret) .skip)) (.seq (.seq (.regD [(tV 65 2 10,0,1),(tV 66 2 3,0,0),(oE 67 (.call zhk [([1,1],(.E 66))]),0,0),(oE 68 (.call zmd [([1,1],(.E 65)),([1,1],(.E 67))]),0,0),(oE 69 (.un .not (.E 68)),0,0)]) (.cond (.E 69) (.seq (.reg [oV 6 (.mv (kb false))]) .ret) .skip)) (.seq (.seq (.reg [mV 70 11,mV 71 1,oE 72 (.call zf5 [([1],(.E 71))]),oE 73 (.call zij [([1],(.E 70)),([1],(.E 72))]),oE 74 (.un .not (.E 73))]) (.cond (.E 74) (.seq (.reg [oV 6 (.mv (kb false))]) .ret) .skip)) (.seq (.seq (.regD [(tV 75 8 12,0,1),(tV 76 8 5,0,0),(oE 77 (.call zhl [([0,0,0,0,0,0,0,1],(.E 76))]),0,0),(oE 78 (.call zme [([0,0,0,0,0,0,0,1],(.E 75)),([0,0,0,0,0,0,0,1],(.E 77))]),0,0),(oE 79 (.un .not (.E 78)),0,0)]) (.cond (.E 79) (.seq (.reg [oV 6 (.mv (kb false))]) .ret) .skip)) (.seq (.reg [oV 15 (.mv (ki 1))]) (.seq (.reg [tV 80 2 10,mV 81 15,oE 82 (.call zmf [([1,1],(.E 80)),([0],(.E 81))]),vE 15 82]) (.seq (.reg [mV 83 11,mV 84 15,oE 85 (.call zik [([1],(.E 83)),([0],(.E 84))]),vE 15 85]) (.seq (.reg [tV 86 8 12,mV 87 15,oE 88 (.call zmg [([0,0,0,0,0,0,0,1],(.E 86)),([0],(.E 87))]),vE 15 88]) (.seq (.seq (.reg [mV 89 15,oE 90 (.bin .lss (.E 89) (ki 0)),wE 91 90,gE 92 91 .false (.load true 4 (.V 13)),gE 93 91 .false (.load true 4 (.V 8)),gE 94 91 .false (.call zg0 [([0,0,0,4],(.E 92)),([0,0,0,4],(.E 93))]),gE 95 91 .false (.un .not (.E 94)),oE 96 (.pick (.E 91) (kb true) (.E 95)),wE 97 96,gE 98 97 .false (.mv (.V 14)),gE 99 97 .false (.mv (.V 9)),gE 100 97 .false (.eqb true [.b] (.E 98) (.E 99)),oE 101 (.pick (.E 97) (kb true) (.E 100))]) (.cond (.E 101) (.seq (.reg [oV 6 (.mv (kb false))]) .ret) .skip)) (.seq (.reg [oV 16 (.mv (ki 1))]) (.seq (.reg [tV 102 4 13,mV 103 16,oE 104 (.call zmh [([0,0,0,4],(.E 102)),([0],(.E 103))]),vE 16 104]) (.seq (.reg [oV 17 (.mv (ki 1))]) (.seq (.reg [tV 105 4 13,mV 106 17,oE 107 (.call zjq [([0,0,0,4],(.E 105)),([0],(.E 106))]),vE 17 107]) (.seq (.seq (.reg [mV 108 17,oE 109 (.bin .lss (.E 108) (ki 0))]) (.cond (.E 109) (.seq (.reg [oV 6 (.mv (kb false))]) .ret) .skip)) (.seq (.seq (.reg [mV 110 17,mV 111 16,bE 112 .neq 110 111]) (.cond (.E 112) (.seq (.reg [oV 6 (.mv (kb false))]) .ret) .skip)) (.seq (.regD [(tV 114 2 3,0,0),(oE 115 (.call zhk [([1,1],(.E 114))]),0,0),(mV 116 1,0,0),(oE 117 (.call zf5 [([1],(.E 116))]),0,0),(tV 118 8 5,2,0),(oE 119 (.call zhl [([0,0,0,0,0,0,0,1],(.E 118))]),0,0),(oE 120 (.call zjp [([1,1],(.E 115)),([1],(.E 117)),([0,0,0,0,0,0,0,1],(.E 119))]),0,0),(wE 113 120,0,0),(xE 121 0 113,0,0),(xE 122 1 113,0,0),(oV 18 (.allocL [iv 0,iv 0,iv 0,.e0]),0,0),(oN (.store [0,0,0,4] (.V 18) (.E 121)),0,0),(vE 19 122,0,0)]) (.seq (.seq (.reg [tV 123 4 18,tV 124 4 8,oE 125 (.call zg0 [([0,0,0,4],(.E 123)),([0,0,0,4],(.E 124))]),oE 126 (.un .not (.E 125)),wE 127 126,gE 128 127 .false (.mv (.V 19)),gE 129 127 .false (.mv (.V 9)),gE 130 127 .false (.eqb true [.b] (.E 128) (.E 129)),oE 131 (.pick (.E 127) (kb true) (.E 130))]) (.cond (.E 131) (.seq (.reg [oV 6 (.mv (kb false))]) .ret) .skip)) (.seq (.reg [oV 17 (.mv (ki 1))]) (.seq (.reg [tV 132 4 13,mV 133 17,oE 134 (.call zjq [([0,0,0,4],(.E 132)),([0],(.E 133))]),vE 17 134]) (.seq (.seq (.reg [mV 135 17,oE 136 (.bin .lss (.E 135) (ki 0))]) (.cond (.E 136) (.seq (.reg [oV 6 (.mv (kb false))]) .ret) .skip)) (.seq (.seq (.reg [mV 137 17,mV 138 16,bE 139 .neq 137 138]) (.cond (.E 139) (.seq (.reg [oV 6 (.mv (kb false))]) .ret) .skip)) (.seq (.reg [oV 6 (.mv (kb true))]) .ret)))))))))))))))))))))))))))))))))
def zks:List RV:=[.tmp [0] 6]
def yb6:List Nat:=[0,1,2,3,4,5,9,7,8,6]
def zre:IC := .seq (.reg [oV 3 (.box (.V 0)),oV 4 (.box (.V 1)),oV 5 (.box (.V 2)),oV 6 (.mv (kb false))]) (.seq (.reg [tV 11 8 3,tV 12 2 4,tV 13 6 5,oE 14 (.call zjr [([0,0,0,0,0,0,0,1],(.E 11)),([0,0],(.E 12)),([0,0,0,0,0,0],(.E 13))]),wE 10 14,xE 15 0 10,xE 16 1 10,xE 17 2 10,vE 7 15,vE 8 16,vE 9 17]) (.seq (.reg [tV 18 8 3,oE 19 (.call zjs [([0,0,0,0,0,0,0,1],(.E 18))]),wE 20 19,gE 21 20 .true (.mv (.V 9)),oE 22 (.pick (.E 20) (.E 21) (kb false)),wE 23 22,gE 24 23 .true (.faddr 2 (.V 5)),gE 25 23 .true (.faddr 0 (.E 24)),gE 26 23 .true (.load false 1 (.E 25)),gE 27 23 .true (.faddr 4 (.V 3)),gE 28 23 .true (.load false 1 (.E 27)),gE 29 23 .true (.bin .geq (.E 26) (.E 28)),oE 30 (.pick (.E 23) (.E 29) (kb false)),wE 31 30,gE 32 31 .true (.faddr 4 (.V 5)),gE 33 31 .true (.faddr 0 (.E 32)),gE 34 31 .true (.load false 1 (.E 33)),gE 35 31 .true (.faddr 4 (.V 3)),gE 36 31 .true (.load false 1 (.E 35)),gE 37 31 .true (.bin .geq (.E 34) (.E 36)),oE 38 (.pick (.E 31) (.E 37) (kb false)),wE 39 38,gE 40 39 .true (.load true 8 (.V 3)),gE 41 39 .true (.faddr 0 (.V 5)),gE 42 39 .true (.load false 1 (.E 41)),gE 43 39 .true (.call zjt [([0,0,0,0,0,0,0,1],(.E 40)),([0],(.E 42))]),gE 44 39 .true (.mv (.V 7)),gE 45 39 .true (.mv (.V 8)),gE 46 39 .true (.call zmi [([0],(.E 43)),([0],(.E 44)),([0],(.E 45))]),oE 47 (.pick (.E 39) (.E 46) (kb false)),wE 48 47,gE 49 48 .true (.load true 6 (.V 5)),gE 50 48 .true (.faddr 3 (.V 3)),gE 51 48 .true (.load false 1 (.E 50)),gE 52 48 .true (.call zmj [([0,0,0,0,0,0],(.E 49)),([0],(.E 51))]),oE 53 (.pick (.E 48) (.E 52) (kb false)),vE 6 53]) .ret))
def zrf:List RV:=[.tmp [0] 6]
def yb7:List Nat:=[0,1,2,3,5,7,6]
def z1c:IC := .seq (.seq (.reg [mV 23 7,mV 24 1,nE 25 24,bE 26 .lss 23 25]) (.cond (.E 26) .skip (.exit 0))) (.seq (.block 1 (.seq (.reg [mV 29 1,mV 30 7,iE 31 1 29 30,lE 32 31,oE 33 (.call zdr [([0],(.E 32)),([0],(ki (-2199023255552))),([0],(ki 2199023255552))]),oE 34 (.un .not (.E 33))]) (.cond (.E 34) (.seq (.reg [oV 6 (.mv (kb false))]) .ret) .skip))) (.reg [mV 27 7,oE 28 (.bin .add (.E 27) (ki 1)),vE 7 28]))
def zkt:IC := .seq (.reg [oV 3 (.box (.V 0)),oV 5 (.box (.V 2)),oV 6 (.mv (kb false))]) (.seq (.seq (.reg [tV 8 2 3,oE 9 (.call zmk [([1,1],(.E 8))]),oE 10 (.un .not (.E 9)),wE 11 10,gE 12 11 .false (.load true 8 (.V 5)),gE 13 11 .false (.call zml [([0,0,0,0,0,0,0,1],(.E 12))]),gE 14 11 .false (.un .not (.E 13)),oE 15 (.pick (.E 11) (kb true) (.E 14)),wE 16 15,gE 17 16 .false (.mv (.V 1)),gE 18 16 .false (.len (.E 17)),gE 19 16 .false (.load true 2 (.V 3)),gE 20 16 .false (.call zil [([1,1],(.E 19))]),gE 21 16 .false (.bin .neq (.E 18) (.E 20)),oE 22 (.pick (.E 16) (kb true) (.E 21))]) (.cond (.E 22) (.seq (.reg [oV 6 (.mv (kb false))]) .ret) .skip)) (.seq (.seq (.reg [oV 7 (.mv (ki 0))]) (.block 0 (.loop z1c))) (.seq (.reg [oV 6 (.mv (kb true))]) .ret)))
def zku:List RV:=[.tmp [0] 6]
def yb8:List Nat:=[0,1,2,3,5,6]
def zkv:IC := .seq (.reg [oV 3 (.box (.V 0)),oV 5 (.box (.V 2)),oV 6 (.mv (kb false))]) (.seq (.reg [tV 7 2 3,oE 8 (.call zmm [([1,1],(.E 7))]),wE 9 8,gE 10 9 .true (.load true 8 (.V 5)),gE 11 9 .true (.call zjs [([0,0,0,0,0,0,0,1],(.E 10))]),oE 12 (.pick (.E 9) (.E 11) (kb false)),wE 13 12,gE 14 13 .true (.mv (.V 1)),gE 15 13 .true (.len (.E 14)),gE 16 13 .true (.load true 2 (.V 3)),gE 17 13 .true (.call zhm [([1,1],(.E 16))]),gE 18 13 .true (.bin .eql (.E 15) (.E 17)),oE 19 (.pick (.E 13) (.E 18) (kb false)),wE 20 19,gE 21 20 .true (.mv (.V 1)),gE 22 20 .true (.call zg1 [([1],(.E 21)),([0],(.C (.fn zju [])))]),gE 23 20 .true (.un .not (.E 22)),oE 24 (.pick (.E 20) (.E 23) (kb false)),vE 6 24]) .ret)
def zkw:List RV:=[.tmp [0] 6]
def yb9:List Nat:=[0,4,3,2]
def zxm:IC := .seq (.seq (.reg [mV 6 4,mV 7 0,bE 8 .lss 6 7,wE 9 8,gE 10 9 .true (.mv (.V 0)),gE 11 9 .true (.bin .leq (.E 10) (ki 40)),oE 12 (.pick (.E 9) (.E 11) (kb false))]) (.cond (.E 12) .skip (.exit 0))) (.seq (.block 1 (.reg [mV 15 3,mV 16 4,oE 17 (.bslice 1 1 [iv 0] [(0,(.E 16))]),oE 18 (.app 8 1 (.E 15) (.E 17)),vE 3 18])) (.reg [mV 13 4,oE 14 (.bin .add (.E 13) (ki 1)),vE 4 14]))
def zrg:IC := .seq (.reg [oV 2 (.mv (.C .e0))]) (.seq (.reg [oE 5 (.bslice 0 1 [iv 0] []),vE 3 5]) (.seq (.seq (.reg [oV 4 (.mv (ki 0))]) (.block 0 (.loop zxm))) (.seq (.reg [mV 19 3,vE 2 19]) .ret)))
def zrh:List RV:=[.tmp [1] 2]
def yca:List Nat:=[0]
def zri:IC := .seq (.reg [oV 0 (.alloc [iv 0,iv 0])]) (.seq (.reg [oE 1 (.build [iv 0,iv 0] [(0,1,(ki (-1099511627776))),(1,1,(ki 1099511627776))]),oN (.store [0,0] (.V 0) (.E 1))]) .ret)
def zrj:List RV:=[.cell [0,0] 0 true]
def ycb:List Nat:=[0,1,2,3,5,6,7]
def zo4:IC := .seq (.reg [oV 3 (.box (.V 0)),oV 5 (.box (.V 2)),oV 6 (.alloc [iv 0,iv 0,iv 0,.e0]),oV 7 (.mv (kb false))]) (.seq (.seq (.reg [tV 8 2 3,mV 9 1,tV 10 8 5,oE 11 (.call zl7 [([1,1],(.E 8)),([1],(.E 9)),([0,0,0,0,0,0,0,1],(.E 10))]),oE 12 (.un .not (.E 11))]) (.cond (.E 12) (.seq (.reg [oE 13 (.build [iv 0,iv 0,iv 0,.e0] []),oN (.store [0,0,0,4] (.V 6) (.E 13)),oV 7 (.mv (kb false))]) .ret) .skip)) (.seq (.regD [(tV 14 2 3,0,3),(mV 15 1,0,0),(tV 16 8 5,0,3),(oE 17 (.build [.e0,.e0,.e0,iv 0,iv 0,iv 0,iv 0,iv 0,iv 0,iv 0,.e0] [(0,2,(.E 14)),(2,1,(.E 15)),(3,8,(.E 16))]),0,0),(tV 18 2 3,0,0),(oE 19 (.call zhm [([1,1],(.E 18))]),0,0),(oE 20 (.call zmn [([0],(.E 19))]),0,0),(oE 21 (.call zmo []),0,0),(oE 22 (.call zip [([1,1,1,0,0,0,0,0,0,0,1],(.E 17)),([1],(.E 20)),([0,0],(.E 21)),([0],(ki 0))]),0,0),(oN (.store [0,0,0,4] (.V 6) (.E 22)),0,0),(oV 7 (.mv (kb true)),0,0)]) .ret))
def zo5:List RV:=[.cell [0,0,0,4] 6 true,.tmp [0] 7]
def ycc:List Nat:=[0,1,2,4]
def znm:IC := .seq (.reg [oV 2 (.box (.V 0)),oV 4 (.mv (ki 0))]) (.seq (.reg [fV 5 0 2,lE 6 5,mV 7 1,oE 8 (.call zjy [([1],(.E 6)),([0],(.E 7))]),vE 1 8]) (.seq (.seq (.reg [mV 9 1,oE 10 (.bin .lss (.E 9) (ki 0))]) (.cond (.E 10) (.seq (.reg [oV 4 (.mv (ki (-1)))]) .ret) .skip)) (.seq (.reg [fV 11 1 2,lE 12 11,mV 13 1,oE 14 (.call zjy [([1],(.E 12)),([0],(.E 13))]),vE 1 14]) (.seq (.seq (.reg [mV 15 1,oE 16 (.bin .lss (.E 15) (ki 0))]) (.cond (.E 16) (.seq (.reg [oV 4 (.mv (ki (-1)))]) .ret) .skip)) (.seq (.reg [mV 17 1,vE 4 17]) .ret)))))
def znn:List RV:=[.tmp [0] 4]
def ycd:List Nat:=[0,1,2,4]
def zo6:IC := .seq (.reg [oV 2 (.box (.V 0)),oV 4 (.mv (ki 0))]) (.seq (.reg [fV 5 7 2,lE 6 5,mV 7 1,oE 8 (.call zjz [([1],(.E 6)),([0],(.E 7))]),vE 1 8]) (.seq (.seq (.reg [mV 9 1,oE 10 (.bin .lss (.E 9) (ki 0))]) (.cond (.E 10) (.seq (.reg [oV 4 (.mv (ki (-1)))]) .ret) .skip)) (.seq (.reg [mV 11 1,vE 4 11]) .ret)))
def zo7:List RV:=[.tmp [0] 4]
def yce:List Nat:=[0,1,2,3,5,6,7]
def zo8:IC := .seq (.reg [oV 3 (.box (.V 0)),oV 5 (.box (.V 2)),oV 6 (.alloc [iv 0,iv 0,iv 0,.e0]),oV 7 (.mv (kb false))]) (.seq (.seq (.reg [tV 8 2 3,mV 9 1,tV 10 8 5,oE 11 (.call zl6 [([1,1],(.E 8)),([1],(.E 9)),([0,0,0,0,0,0,0,1],(.E 10))]),oE 12 (.un .not (.E 11))]) (.cond (.E 12) (.seq (.reg [oE 13 (.build [iv 0,iv 0,iv 0,.e0] []),oN (.store [0,0,0,4] (.V 6) (.E 13)),oV 7 (.mv (kb false))]) .ret) .skip)) (.seq (.regD [(tV 14 2 3,0,2),(mV 15 1,0,0),(tV 16 8 5,0,2),(mV 17 1,0,0),(nE 18 17,0,0),(oE 19 (.call zl8 [([0],(.E 18))]),0,0),(oE 20 (.call zl9 []),0,0),(oE 21 (.call ziq [([1,1],(.E 14)),([1],(.E 15)),([0,0,0,0,0,0,0,1],(.E 16)),([1],(.E 19)),([0,0],(.E 20)),([0],(ki 0))]),0,0),(oN (.store [0,0,0,4] (.V 6) (.E 21)),0,0),(oV 7 (.mv (kb true)),0,0)]) .ret))
def zo9:List RV:=[.cell [0,0,0,4] 6 true,.tmp [0] 7]
def ycf:List Nat:=[0,1,3,2]
def zrk:IC := .seq (.reg [oV 1 (.box (.V 0)),oV 2 (.alloc [.e0,.e0])]) (.seq (.reg [oV 3 (.alloc [.e0,.e0])]) (.seq (.reg [fV 4 0 1,lE 5 4,oE 6 (.call zj0 [([1],(.E 5))]),fV 7 0 3,oN (.store [1] (.E 7) (.E 6))]) (.seq (.reg [fV 8 1 1,lE 9 8,oE 10 (.call zj0 [([1],(.E 9))]),fV 11 1 3,oN (.store [1] (.E 11) (.E 10))]) (.seq (.reg [tV 12 2 3,oN (.store [1,1] (.V 2) (.E 12))]) .ret))))
def zrl:List RV:=[.cell [1,1] 2 true]
def ycg:List Nat:=[0,4,3,2]
def z1d:IC := .seq (.seq (.reg [mV 8 4,mV 9 0,nE 10 9,bE 11 .lss 8 10]) (.cond (.E 11) .skip (.exit 0))) (.seq (.block 1 (.reg [mV 14 3,mV 15 4,mV 16 0,mV 17 4,iE 18 1 16 17,lE 19 18,iE 20 1 14 15,oN (.store [0] (.E 20) (.E 19))])) (.reg [mV 12 4,oE 13 (.bin .add (.E 12) (ki 1)),vE 4 13]))
def zrm:IC := .seq (.reg [oV 2 (.mv (.C .e0))]) (.seq (.reg [mV 5 0,nE 6 5,oE 7 (.mksl 8 1 [iv 0] (.E 6) (.E 6)),vE 3 7]) (.seq (.seq (.reg [oV 4 (.mv (ki 0))]) (.block 0 (.loop z1d))) (.seq (.reg [mV 21 3,vE 2 21]) .ret)))
def zrn:List RV:=[.tmp [1] 2]
def ych:List Nat:=[0,1,3,2]
def zro:IC := .seq (.reg [oV 1 (.box (.V 0)),oV 2 (.alloc [iv 0,iv 0,iv 0,iv 0,iv 0,iv 0,iv 0,.e0])]) (.seq (.reg [oV 3 (.alloc [iv 0,iv 0,iv 0,iv 0,iv 0,iv 0,iv 0,.e0])]) (.seq (.reg [fV 4 0 1,lE 5 4,fV 6 0 3,oN (.store [0] (.E 6) (.E 5))]) (.seq (.reg [fV 7 1 1,lE 8 7,fV 9 1 3,oN (.store [0] (.E 9) (.E 8))]) (.seq (.reg [fV 10 2 1,lE 11 10,fV 12 2 3,oN (.store [0] (.E 12) (.E 11))]) (.seq (.reg [fV 13 3 1,lE 14 13,fV 15 3 3,oN (.store [0] (.E 15) (.E 14))]) (.seq (.reg [fV 16 4 1,lE 17 16,fV 18 4 3,oN (.store [0] (.E 18) (.E 17))]) (.seq (.reg [fV 19 5 1,lE 20 19,fV 21 5 3,oN (.store [0] (.E 21) (.E 20))]) (.seq (.reg [fV 22 6 1,lE 23 22,fV 24 6 3,oN (.store [0] (.E 24) (.E 23))]) (.seq (.reg [fV 25 7 1,lE 26 25,oE 27 (.call zf5 [([1],(.E 26))]),fV 28 7 3,oN (.store [1] (.E 28) (.E 27))]) (.seq (.reg [tV 29 8 3,oN (.store [0,0,0,0,0,0,0,1] (.V 2) (.E 29))]) .ret))))))))))
def zrp:List RV:=[.cell [0,0,0,0,0,0,0,1] 2 true]
def yci:List Nat:=[0,1,2,3,4]
def zrq:IC := .seq (.reg [oV 2 (.box (.V 0)),oV 3 (.box (.V 1)),oV 4 (.mv (kb false))]) (.seq (.seq (.reg [fV 5 0 2,lE 6 5,fV 7 0 3,lE 8 7,bE 9 .neq 6 8]) (.cond (.E 9) (.seq (.reg [oV 4 (.mv (kb false))]) .ret) .skip)) (.seq (.seq (.reg [fV 10 1 2,lE 11 10,fV 12 1 3,lE 13 12,bE 14 .neq 11 13]) (.cond (.E 14) (.seq (.reg [oV 4 (.mv (kb false))]) .ret) .skip)) (.seq (.seq (.reg [fV 15 2 2,lE 16 15,fV 17 2 3,lE 18 17,bE 19 .neq 16 18]) (.cond (.E 19) (.seq (.reg [oV 4 (.mv (kb false))]) .ret) .skip)) (.seq (.seq (.reg [fV 20 3 2,lE 21 20,fV 22 3 3,lE 23 22,oE 24 (.call zmt [([4],(.E 21)),([4],(.E 23))]),oE 25 (.un .not (.E 24))]) (.cond (.E 25) (.seq (.reg [oV 4 (.mv (kb false))]) .ret) .skip)) (.seq (.reg [oV 4 (.mv (kb true))]) .ret)))))
def zrr:List RV:=[.tmp [0] 4]
def ycj:List Nat:=[0,1,2,3,4]
def zrs:IC := .seq (.reg [oV 2 (.box (.V 0)),oV 3 (.box (.V 1)),oV 4 (.mv (kb false))]) (.seq (.seq (.reg [fV 5 0 2,lE 6 5,fV 7 0 3,lE 8 7,oE 9 (.call zj1 [([1],(.E 6)),([1],(.E 8))]),oE 10 (.un .not (.E 9))]) (.cond (.E 10) (.seq (.reg [oV 4 (.mv (kb false))]) .ret) .skip)) (.seq (.seq (.reg [fV 11 1 2,lE 12 11,fV 13 1 3,lE 14 13,oE 15 (.call zj1 [([1],(.E 12)),([1],(.E 14))]),oE 16 (.un .not (.E 15))]) (.cond (.E 16) (.seq (.reg [oV 4 (.mv (kb false))]) .ret) .skip)) (.seq (.reg [oV 4 (.mv (kb true))]) .ret)))
def zrt:List RV:=[.tmp [0] 4]
def yck:List Nat:=[0,1,5,4]
def z1e:IC := .seq (.seq (.reg [mV 11 5,mV 12 0,nE 13 12,bE 14 .lss 11 13]) (.cond (.E 14) .skip (.exit 0))) (.seq (.block 1 (.seq (.regD [(mV 17 0,0,0),(mV 18 5,0,0),(iE 19 1 17 18,0,0),(lE 20 19,0,0),(mV 21 1,0,0),(mV 22 5,0,0),(iE 23 1 21 22,0,0),(lE 24 23,0,0),(bE 25 .neq 20 24,0,0)]) (.cond (.E 25) (.seq (.reg [oV 4 (.mv (kb false))]) .ret) .skip))) (.reg [mV 15 5,oE 16 (.bin .add (.E 15) (ki 1)),vE 5 16]))
def zru:IC := .seq (.reg [oV 4 (.mv (kb false))]) (.seq (.seq (.reg [mV 6 0,nE 7 6,mV 8 1,nE 9 8,bE 10 .neq 7 9]) (.cond (.E 10) (.seq (.reg [oV 4 (.mv (kb false))]) .ret) .skip)) (.seq (.seq (.reg [oV 5 (.mv (ki 0))]) (.block 0 (.loop z1e))) (.seq (.reg [oV 4 (.mv (kb true))]) .ret)))
def zrv:List RV:=[.tmp [0] 4]
def ycl:List Nat:=[0,1,2,3,4]
def zrw:IC := .seq (.reg [oV 2 (.box (.V 0)),oV 3 (.box (.V 1)),oV 4 (.mv (kb false))]) (.seq (.seq (.reg [fV 5 0 2,lE 6 5,fV 7 0 3,lE 8 7,bE 9 .neq 6 8]) (.cond (.E 9) (.seq (.reg [oV 4 (.mv (kb false))]) .ret) .skip)) (.seq (.seq (.reg [fV 10 1 2,lE 11 10,fV 12 1 3,lE 13 12,bE 14 .neq 11 13]) (.cond (.E 14) (.seq (.reg [oV 4 (.mv (kb false))]) .ret) .skip)) (.seq (.seq (.reg [fV 15 2 2,lE 16 15,fV 17 2 3,lE 18 17,bE 19 .neq 16 18]) (.cond (.E 19) (.seq (.reg [oV 4 (.mv (kb false))]) .ret) .skip)) (.seq (.seq (.reg [fV 20 3 2,lE 21 20,fV 22 3 3,lE 23 22,bE 24 .neq 21 23]) (.cond (.E 24) (.seq (.reg [oV 4 (.mv (kb false))]) .ret) .skip)) (.seq (.seq (.reg [fV 25 4 2,lE 26 25,fV 27 4 3,lE 28 27,bE 29 .neq 26 28]) (.cond (.E 29) (.seq (.reg [oV 4 (.mv (kb false))]) .ret) .skip)) (.seq (.seq (.reg [fV 30 5 2,lE 31 30,fV 32 5 3,lE 33 32,bE 34 .neq 31 33]) (.cond (.E 34) (.seq (.reg [oV 4 (.mv (kb false))]) .ret) .skip)) (.seq (.seq (.reg [fV 35 6 2,lE 36 35,fV 37 6 3,lE 38 37,bE 39 .neq 36 38]) (.cond (.E 39) (.seq (.reg [oV 4 (.mv (kb false))]) .ret) .skip)) (.seq (.seq (.reg [fV 40 7 2,lE 41 40,fV 42 7 3,lE 43 42,oE 44 (.call zij [([1],(.E 41)),([1],(.E 43))]),oE 45 (.un .not (.E 44))]) (.cond (.E 45) (.seq (.reg [oV 4 (.mv (kb false))]) .ret) .skip)) (.seq (.reg [oV 4 (.mv (kb true))]) .ret)))))))))
def zrx:List RV:=[.tmp [0] 4]
def ycm:List Nat:=[0,1,2,4]
def zry:IC := .seq (.reg [oV 2 (.box (.V 0)),oV 4 (.mv (ki 0))]) (.seq (.reg [fV 5 0 2,lE 6 5,mV 7 1,oE 8 (.call zj2 [([1],(.E 6)),([0],(.E 7))]),vE 1 8]) (.seq (.reg [fV 9 1 2,lE 10 9,mV 11 1,oE 12 (.call zj2 [([1],(.E 10)),([0],(.E 11))]),vE 1 12]) (.seq (.reg [mV 13 1,vE 4 13]) .ret)))
def zrz:List RV:=[.tmp [0] 4]
def ycn:List Nat:=[0,1,5,4]
def z1f:IC := .seq (.seq (.reg [mV 6 5,mV 7 0,nE 8 7,bE 9 .lss 6 8]) (.cond (.E 9) .skip (.exit 0))) (.seq (.block 1 (.seq (.reg [mV 12 0,mV 13 5,mV 14 1,iE 15 1 12 13,oN (.store [0] (.E 15) (.E 14))]) (.reg [mV 16 1,oE 17 (.bin .add (.E 16) (ki 1)),vE 1 17]))) (.reg [mV 10 5,oE 11 (.bin .add (.E 10) (ki 1)),vE 5 11]))
def zr0:IC := .seq (.reg [oV 4 (.mv (ki 0))]) (.seq (.seq (.reg [oV 5 (.mv (ki 0))]) (.block 0 (.loop z1f))) (.seq (.reg [mV 18 1,vE 4 18]) .ret))
def zr1:List RV:=[.tmp [0] 4]
def yco:List Nat:=[0,1,2,4]
def zr2:IC := .seq (.reg [oV 2 (.box (.V 0)),oV 4 (.mv (ki 0))]) (.seq (.reg [fV 5 7 2,lE 6 5,mV 7 1,oE 8 (.call zik [([1],(.E 6)),([0],(.E 7))]),vE 1 8]) (.seq (.reg [mV 9 1,vE 4 9]) .ret))
def zr3:List RV:=[.tmp [0] 4]
def ycp:List Nat:=[0,1,2,4]
def zr4:IC := .seq (.reg [oV 2 (.box (.V 0)),oV 4 (.mv (ki 0))]) (.seq (.reg [fV 5 3 2,lE 6 5,mV 7 1,oE 8 (.call zj3 [([4],(.E 6)),([0],(.E 7))]),vE 1 8]) (.seq (.reg [mV 9 1,vE 4 9]) .ret))
def zr5:List RV:=[.tmp [0] 4]
def ycq:List Nat:=[0,1,2,4]
def zr6:IC := .seq (.reg [oV 2 (.box (.V 0)),oV 4 (.mv (ki 0))]) (.seq (.reg [fV 5 3 2,lE 6 5,mV 7 1,oE 8 (.call zj4 [([4],(.E 6)),([0],(.E 7))]),vE 1 8]) (.seq (.seq (.reg [mV 9 1,oE 10 (.bin .lss (.E 9) (ki 0))]) (.cond (.E 10) (.seq (.reg [oV 4 (.mv (ki (-1)))]) .ret) .skip)) (.seq (.reg [mV 11 1,vE 4 11]) .ret)))
def zr7:List RV:=[.tmp [0] 4]
def ycr:List Nat:=[0,1,2,6]
def zr8:IC := .seq (.reg [oV 6 (.mv (kb false))]) (.seq (.reg [mV 7 0,mV 8 1,bE 9 .geq 7 8,wE 10 9,gE 11 10 .true (.mv (.V 0)),gE 12 10 .true (.mv (.V 2)),gE 13 10 .true (.bin .leq (.E 11) (.E 12)),oE 14 (.pick (.E 10) (.E 13) (kb false)),vE 6 14]) .ret)
def zr9:List RV:=[.tmp [0] 6]
def ycs:List Nat:=[0,1,2,5,3,4,10,12,9,11,6,7,8]
def zsa:IC := .seq (.reg [oV 3 (.box (.V 0)),oV 4 (.box (.V 1)),oV 5 (.box (.V 2)),oV 6 (.mv (ki 0)),oV 7 (.mv (ki 0)),oV 8 (.mv (kb false))]) (.seq (.reg [fV 14 2 5,tE 15 2 14,fV 16 3 3,lE 17 16,tV 18 2 4,oE 19 (.call zim [([0,0],(.E 15)),([0],(.E 17)),([0,0],(.E 18))]),wE 13 19,xE 20 0 13,xE 21 1 13,vE 9 20,vE 10 21]) (.seq (.reg [fV 23 4 5,tE 24 2 23,fV 25 3 3,lE 26 25,tV 27 2 4,oE 28 (.call zim [([0,0],(.E 24)),([0],(.E 26)),([0,0],(.E 27))]),wE 22 28,xE 29 0 22,xE 30 1 22,vE 11 29,vE 12 30]) (.seq (.seq (.reg [mV 31 10,oE 32 (.un .not (.E 31)),wE 33 32,gE 34 33 .false (.mv (.V 12)),gE 35 33 .false (.un .not (.E 34)),oE 36 (.pick (.E 33) (kb true) (.E 35))]) (.cond (.E 36) (.seq (.reg [oV 6 (.mv (ki 0)),oV 7 (.mv (ki 0)),oV 8 (.mv (kb false))]) .ret) .skip)) (.seq (.reg [mV 37 9,mV 38 11,vE 6 37,vE 7 38,oV 8 (.mv (kb true))]) .ret))))
def zsb:List RV:=[.tmp [0] 6,.tmp [0] 7,.tmp [0] 8]
def yct:List Nat:=[0,1,2]
def zsc:IC := .seq (.reg [oV 1 (.box (.V 0)),oV 2 (.mv (kb false))]) (.seq (.reg [fV 3 0 1,lE 4 3,oE 5 (.call zca [([0],(.E 4)),([0],(ki 1)),([0],(ki 8))]),wE 6 5,gE 7 6 .true (.faddr 1 (.V 1)),gE 8 6 .true (.load false 1 (.E 7)),gE 9 6 .true (.call zca [([0],(.E 8)),([0],(ki 0)),([0],(ki 4))]),oE 10 (.pick (.E 6) (.E 9) (kb false)),wE 11 10,gE 12 11 .true (.faddr 2 (.V 1)),gE 13 11 .true (.load false 1 (.E 12)),gE 14 11 .true (.call zca [([0],(.E 13)),([0],(ki 2)),([0],(ki 8))]),oE 15 (.pick (.E 11) (.E 14) (kb false)),wE 16 15,gE 17 16 .true (.faddr 3 (.V 1)),gE 18 16 .true (.load false 1 (.E 17)),gE 19 16 .true (.call zca [([0],(.E 18)),([0],(ki 1)),([0],(ki 100))]),oE 20 (.pick (.E 16) (.E 19) (kb false)),wE 21 20,gE 22 21 .true (.faddr 4 (.V 1)),gE 23 21 .true (.load false 1 (.E 22)),gE 24 21 .true (.call zca [([0],(.E 23)),([0],(ki 1)),([0],(ki 20))]),oE 25 (.pick (.E 21) (.E 24) (kb false)),wE 26 25,gE 27 26 .true (.faddr 6 (.V 1)),gE 28 26 .true (.load false 1 (.E 27)),gE 29 26 .true (.call zca [([0],(.E 28)),([0],(ki 1)),([0],(ki 1000))]),oE 30 (.pick (.E 26) (.E 29) (kb false)),wE 31 30,gE 32 31 .true (.faddr 5 (.V 1)),gE 33 31 .true (.load false 1 (.E 32)),gE 34 31 .true (.faddr 6 (.V 1)),gE 35 31 .true (.load false 1 (.E 34)),gE 36 31 .true (.call zca [([0],(.E 33)),([0],(ki 1)),([0],(.E 35))]),oE 37 (.pick (.E 31) (.E 36) (kb false)),wE 38 37,gE 39 38 .true (.faddr 7 (.V 1)),gE 40 38 .true (.load false 1 (.E 39)),gE 41 38 .true (.len (.E 40)),gE 42 38 .true (.bin .leq (.E 41) (ki 4)),oE 43 (.pick (.E 38) (.E 42) (kb false)),wE 44 43,gE 45 44 .true (.faddr 7 (.V 1)),gE 46 44 .true (.load false 1 (.E 45)),gE 47 44 .true (.call zg1 [([1],(.E 46)),([0],(.C (.fn zj5 [])))]),gE 48 44 .true (.un .not (.E 47)),oE 49 (.pick (.E 44) (.E 48) (kb false)),vE 2 49]) .ret)
def zsd:List RV:=[.tmp [0] 2]
def ycu:List Nat:=[0,1,2,7,6]
def zpa:IC := .seq (.reg [oV 6 (.mv (kb false))]) (.seq (.seq (.reg [oV 7 (.mv (.V 0))]) (.block 0 (.seq (.reg [oE 9 (.bin .eql (.V 7) (ki 1)),wE 8 9]) (.cond (.E 8) (.seq (.reg [mV 10 1,mV 11 2,bE 12 .leq 10 11,vE 6 12]) .ret) (.seq (.reg [oE 14 (.bin .eql (.V 7) (ki (-1))),wE 13 14]) (.cond (.E 13) (.seq (.reg [mV 15 1,mV 16 2,bE 17 .geq 15 16,vE 6 17]) .ret) .skip)))))) (.seq (.reg [oV 6 (.mv (kb true))]) .ret))
def zpb:List RV:=[.tmp [0] 6]
def ycv:List Nat:=[0,1,2,4]
def zpc:IC := .seq (.reg [oV 2 (.box (.V 0)),oV 4 (.mv (ki 0))]) (.seq (.seq (.reg [mV 5 1,fV 6 7 2,lE 7 6,nE 8 7,oE 9 (.bin .sub (.E 8) (ki 1)),oE 10 (.call zca [([0],(.E 5)),([0],(ki 0)),([0],(.E 9))]),oE 11 (.un .not (.E 10))]) (.cond (.E 11) (.seq (.reg [oV 4 (.mv (ki 0))]) .ret) .skip)) (.seq (.reg [fV 12 7 2,lE 13 12,mV 14 1,iE 15 1 13 14,lE 16 15,vE 4 16]) .ret))
def zpd:List RV:=[.tmp [0] 4]
def ycw:List Nat:=[0,1,2,7,5,9,6,8,10,12,11,4]
def zse:IC := .seq (.reg [oV 2 (.box (.V 0)),oV 4 (.mv (kb false))]) (.seq (.reg [tV 14 6 2,mV 15 1,oE 16 (.call zir [([0,0,0,0,0,0],(.E 14)),([0],(.E 15))]),wE 13 16,xE 17 0 13,xE 18 1 13,oV 5 (.alloc [(.v (.bool false)),(.v (.int .u64 0)),(.v (.int .u64 0)),iv 0]),oN (.store [0,0,0,0] (.V 5) (.E 17)),vE 6 18]) (.seq (.reg [tV 20 6 2,oE 21 (.call zmw [([0,0,0,0,0,0],(.E 20))]),wE 19 21,xE 22 0 19,xE 23 1 19,oV 7 (.alloc [iv 0,iv 0]),oN (.store [0,0] (.V 7) (.E 22)),vE 8 23]) (.seq (.reg [tV 25 2 7,mV 26 1,oE 27 (.call zis [([0,0],(.E 25)),([0],(.E 26))]),wE 24 27,xE 28 0 24,xE 29 1 24,oV 9 (.alloc [(.v (.bool false)),(.v (.int .u64 0)),(.v (.int .u64 0)),iv 0]),oN (.store [0,0,0,0] (.V 9) (.E 28)),vE 10 29]) (.seq (.reg [tV 31 4 5,tV 32 4 9,oE 33 (.call zj6 [([0,0,0,0],(.E 31)),([0,0,0,0],(.E 32))]),wE 30 33,xE 34 0 30,xE 35 1 30,vE 11 34,vE 12 35]) (.seq (.reg [mV 36 6,wE 37 36,gE 38 37 .true (.mv (.V 8)),oE 39 (.pick (.E 37) (.E 38) (kb false)),wE 40 39,gE 41 40 .true (.mv (.V 10)),oE 42 (.pick (.E 40) (.E 41) (kb false)),wE 43 42,gE 44 43 .true (.mv (.V 12)),oE 45 (.pick (.E 43) (.E 44) (kb false)),wE 46 45,gE 47 46 .true (.mv (.V 11)),gE 48 46 .true (.bin .gtr (.E 47) (ki 0)),oE 49 (.pick (.E 46) (.E 48) (kb false)),vE 4 49]) .ret)))))
def zsf:List RV:=[.tmp [0] 4]
def ycx:List Nat:=[0,1,3,4,2]
def z1g:IC := .seq (.seq (.reg [mV 50 4,fV 51 1 1,lE 52 51,mV 53 3,iE 54 1 52 53,lE 55 54,nE 56 55,bE 57 .lss 50 56]) (.cond (.E 57) .skip (.exit 2))) (.seq (.block 3 (.seq (.regD [(fV 60 1 1,0,0),(lE 61 60,0,0),(mV 62 3,0,0),(iE 63 1 61 62,0,0),(lE 64 63,0,0),(mV 65 4,0,0),(iE 66 1 64 65,0,0),(lE 67 66,0,0),(fV 68 0 1,0,0),(lE 69 68,0,0),(mV 70 3,0,0),(iE 71 1 69 70,0,0),(lE 72 71,0,0),(nE 73 72,0,0),(oE 74 (.call zdr [([0],(.E 67)),([0],(ki 0)),([0],(.E 73))]),0,0),(oE 75 (.un .not (.E 74)),0,0)]) (.cond (.E 75) (.seq (.reg [oV 2 (.mv (kb false))]) .ret) .skip))) (.reg [mV 58 4,oE 59 (.bin .add (.E 58) (ki 1)),vE 4 59]))
def z1h:IC := .seq (.seq (.reg [mV 25 3,fV 26 0 1,lE 27 26,nE 28 27,bE 29 .lss 25 28]) (.cond (.E 29) .skip (.exit 0))) (.seq (.block 1 (.seq (.seq (.regD [(fV 32 0 1,0,0),(lE 33 32,0,0),(mV 34 3,0,0),(iE 35 1 33 34,0,0),(lE 36 35,0,0),(oE 37 (.call zmx [([1],(.E 36))]),0,0),(oE 38 (.un .not (.E 37)),0,0),(wE 39 38,0,0),(gE 40 39 .false (.faddr 1 (.V 1)),0,1),(gE 41 39 .false (.load false 1 (.E 40)),0,1),(gE 42 39 .false (.mv (.V 3)),0,0),(gE 43 39 .false (.iaddr 1 (.E 41) (.E 42)),0,1),(gE 44 39 .false (.load false 1 (.E 43)),0,1),(gE 45 39 .false (.len (.E 44)),0,1),(gE 46 39 .false (.load true 2 (.V 1)),0,0),(gE 47 39 .false (.call zil [([1,1],(.E 46))]),0,0),(gE 48 39 .false (.bin .neq (.E 45) (.E 47)),0,0),(oE 49 (.pick (.E 39) (kb true) (.E 48)),0,0)]) (.cond (.E 49) (.seq (.reg [oV 2 (.mv (kb false))]) .ret) .skip)) (.seq (.reg [oV 4 (.mv (ki 0))]) (.block 2 (.loop z1g))))) (.reg [mV 30 3,oE 31 (.bin .add (.E 30) (ki 1)),vE 3 31]))
def zkx:IC := .seq (.reg [oV 1 (.box (.V 0)),oV 2 (.mv (kb false))]) (.seq (.seq (.reg [fV 5 0 1,lE 6 5,nE 7 6,oE 8 (.call zdr [([0],(.E 7)),([0],(ki 1)),([0],(ki 4))]),oE 9 (.un .not (.E 8)),wE 10 9,gE 11 10 .false (.faddr 1 (.V 1)),gE 12 10 .false (.load false 1 (.E 11)),gE 13 10 .false (.len (.E 12)),gE 14 10 .false (.faddr 0 (.V 1)),gE 15 10 .false (.load false 1 (.E 14)),gE 16 10 .false (.len (.E 15)),gE 17 10 .false (.bin .neq (.E 13) (.E 16)),oE 18 (.pick (.E 10) (kb true) (.E 17)),wE 19 18,gE 20 19 .false (.load true 2 (.V 1)),gE 21 19 .false (.call zil [([1,1],(.E 20))]),gE 22 19 .false (.call zdr [([0],(.E 21)),([0],(ki 1)),([0],(ki 40))]),gE 23 19 .false (.un .not (.E 22)),oE 24 (.pick (.E 19) (kb true) (.E 23))]) (.cond (.E 24) (.seq (.reg [oV 2 (.mv (kb false))]) .ret) .skip)) (.seq (.seq (.reg [oV 3 (.mv (ki 0))]) (.block 0 (.loop z1h))) (.seq (.reg [oV 2 (.mv (kb true))]) .ret)))
def zky:List RV:=[.tmp [0] 2]
def ycy:List Nat:=[0,1,4,3,5,2]
def zkz:IC := .seq (.seq (.reg [mV 8 4,oE 9 (.bin .lss (.E 8) (ki 5))]) (.cond (.E 9) .skip (.exit 0))) (.seq (.block 1 (.seq (.regD [(mV 12 3,0,0),(mV 13 4,0,0),(iE 14 1 12 13,0,2),(lE 15 14,0,2),(oE 16 (.call zmz []),0,0),(mV 17 4,0,0),(iE 18 1 16 17,0,1),(lE 19 18,0,1),(oE 20 (.call zm0 []),0,0),(mV 21 4,0,0),(iE 22 1 20 21,0,0),(lE 23 22,0,0),(oE 24 (.call zdr [([0],(.E 15)),([0],(.E 19)),([0],(.E 23))]),0,0),(oE 25 (.un .not (.E 24)),0,0)]) (.cond (.E 25) (.seq (.reg [oV 2 (.mv (kb false))]) .ret) .skip))) (.reg [mV 10 4,oE 11 (.bin .add (.E 10) (ki 1)),vE 4 11]))
def z1i:IC := .seq (.seq (.reg [mV 26 5,fV 27 7 1,lE 28 27,nE 29 28,bE 30 .lss 26 29]) (.cond (.E 30) .skip (.exit 2))) (.seq (.block 3 (.seq (.reg [fV 33 7 1,lE 34 33,mV 35 5,iE 36 1 34 35,lE 37 36,oE 38 (.call zdr [([0],(.E 37)),([0],(ki (-1))),([0],(ki 1))]),oE 39 (.un .not (.E 38))]) (.cond (.E 39) (.seq (.reg [oV 2 (.mv (kb false))]) .ret) .skip))) (.reg [mV 31 5,oE 32 (.bin .add (.E 31) (ki 1)),vE 5 32]))
def zsg:IC := .seq (.reg [oV 1 (.box (.V 0)),oV 2 (.mv (kb false))]) (.seq (.reg [tV 6 8 1,oE 7 (.call zmy [([0,0,0,0,0,0,0,1],(.E 6))]),vE 3 7]) (.seq (.seq (.reg [oV 4 (.mv (ki 0))]) (.block 0 (.loop zkz))) (.seq (.seq (.reg [oV 5 (.mv (ki 0))]) (.block 2 (.loop z1i))) (.seq (.reg [fV 40 6 1,lE 41 40,oE 42 (.call zdr [([0],(.E 41)),([0],(ki 1)),([0],(ki 1000))]),wE 43 42,gE 44 43 .true (.faddr 5 (.V 1)),gE 45 43 .true (.load false 1 (.E 44)),gE 46 43 .true (.faddr 6 (.V 1)),gE 47 43 .true (.load false 1 (.E 46)),gE 48 43 .true (.call zdr [([0],(.E 45)),([0],(ki 1)),([0],(.E 47))]),oE 49 (.pick (.E 43) (.E 48) (kb false)),wE 50 49,gE 51 50 .true (.faddr 7 (.V 1)),gE 52 50 .true (.load false 1 (.E 51)),gE 53 50 .true (.len (.E 52)),gE 54 50 .true (.bin .leq (.E 53) (ki 4)),oE 55 (.pick (.E 50) (.E 54) (kb false)),vE 2 55]) .ret))))
def zsh:List RV:=[.tmp [0] 2]
def ycz:List Nat:=[0,1,2]
def zpe:IC := .seq (.reg [oV 1 (.box (.V 0)),oV 2 (.mv (ki 0))]) (.seq (.seq (.reg [fV 3 1 1,lE 4 3,nE 5 4,oE 6 (.bin .eql (.E 5) (ki 0))]) (.cond (.E 6) (.seq (.reg [oV 2 (.mv (ki 0))]) .ret) .skip)) (.seq (.reg [fV 7 1 1,lE 8 7,oE 9 (.iaddr 1 (.E 8) (ki 0)),lE 10 9,nE 11 10,vE 2 11]) .ret))
def zpf:List RV:=[.tmp [0] 2]
def yc0:List Nat:=[0,1,28,27,26,4,3,2]
def z1j:IC := .seq (.reg [oE 29 (.bin .lss (.V 28) (.V 27))]) (.seq (.cond (.E 29) .skip (.exit 0)) (.seq (.block 1 (.seq (.reg [mV 30 28,oE 31 (.iaddr 1 (.V 26) (.V 28)),lE 32 31,oV 4 (.alloc [.e0]),vE 3 30,oN (.store [1] (.V 4) (.E 32))]) (.seq (.regD [(oE 33 (.load false 1 (.V 4)),0,0),(oE 34 (.call zm1 [([1],(.E 33))]),0,0),(oE 35 (.un .not (.E 34)),0,0),(wE 36 35,0,0),(gE 37 36 .false (.faddr 1 (.V 1)),0,1),(gE 38 36 .false (.load false 1 (.E 37)),0,1),(gE 39 36 .false (.mv (.V 3)),0,0),(gE 40 36 .false (.iaddr 1 (.E 38) (.E 39)),0,1),(gE 41 36 .false (.load false 1 (.E 40)),0,1),(gE 42 36 .false (.len (.E 41)),0,1),(gE 43 36 .false (.load true 2 (.V 1)),0,0),(gE 44 36 .false (.call zhm [([1,1],(.E 43))]),0,0),(gE 45 36 .false (.bin .neq (.E 42) (.E 44)),0,0),(oE 46 (.pick (.E 36) (kb true) (.E 45)),0,0),(wE 47 46,0,0),(gE 48 47 .false (.faddr 1 (.V 1)),0,0),(gE 49 47 .false (.load false 1 (.E 48)),0,0),(gE 50 47 .false (.mv (.V 3)),0,0),(gE 51 47 .false (.iaddr 1 (.E 49) (.E 50)),0,0),(gE 52 47 .false (.load false 1 (.E 51)),0,0),(gE 53 47 .false (.mkfn zj7 [(.V 4)]),0,0),(gE 54 47 .false (.call zg1 [([1],(.E 52)),([0],(.E 53))]),0,0),(oE 55 (.pick (.E 47) (kb true) (.E 54)),0,0)]) (.cond (.E 55) (.seq (.reg [oV 2 (.mv (kb false))]) .ret) .skip)))) (.reg [oE 56 (.bin .add (.V 28) (ki 1)),vE 28 56])))
def zk0:IC := .seq (.reg [oV 1 (.box (.V 0)),oV 2 (.mv (kb false))]) (.seq (.seq (.reg [fV 5 0 1,lE 6 5,nE 7 6,oE 8 (.call zca [([0],(.E 7)),([0],(ki 1)),([0],(ki 4))]),oE 9 (.un .not (.E 8)),wE 10 9,gE 11 10 .false (.faddr 1 (.V 1)),gE 12 10 .false (.load false 1 (.E 11)),gE 13 10 .false (.len (.E 12)),gE 14 10 .false (.faddr 0 (.V 1)),gE 15 10 .false (.load false 1 (.E 14)),gE 16 10 .false (.len (.E 15)),gE 17 10 .false (.bin .neq (.E 13) (.E 16)),oE 18 (.pick (.E 10) (kb true) (.E 17)),wE 19 18,gE 20 19 .false (.load true 2 (.V 1)),gE 21 19 .false (.call zhm [([1,1],(.E 20))]),gE 22 19 .false (.call zca [([0],(.E 21)),([0],(ki 1)),([0],(ki 40))]),gE 23 19 .false (.un .not (.E 22)),oE 24 (.pick (.E 19) (kb true) (.E 23))]) (.cond (.E 24) (.seq (.reg [oV 2 (.mv (kb false))]) .ret) .skip)) (.seq (.seq (.reg [fV 25 0 1,oV 26 (.load false 1 (.E 25)),oV 27 (.len (.V 26)),oV 28 (.mv (ki 0))]) (.block 0 (.loop z1j))) (.seq (.reg [oV 2 (.mv (kb true))]) .ret)))
def zk1:List RV:=[.tmp [0] 2]
def yc1:List Nat:=[0,1,2]
def zpg:IC := .seq (.reg [oV 1 (.box (.V 0)),oV 2 (.mv (ki 0))]) (.seq (.seq (.reg [fV 3 1 1,lE 4 3,nE 5 4,oE 6 (.bin .eql (.E 5) (ki 0))]) (.cond (.E 6) (.seq (.reg [oV 2 (.mv (ki 0))]) .ret) .skip)) (.seq (.reg [fV 7 1 1,lE 8 7,oE 9 (.iaddr 1 (.E 8) (ki 0)),lE 10 9,nE 11 10,vE 2 11]) .ret))
def zph:List RV:=[.tmp [0] 2]
def yc2:List Nat:=[0,1,4]
def zpi:IC := .seq (.reg [oV 4 (.mv (kb false))]) (.seq (.reg [mV 5 0,mV 6 1,oE 7 (.call zj8 [([1],(.E 5)),([0],(.E 6))]),oE 8 (.bin .geq (.E 7) (ki 0)),vE 4 8]) .ret)
def zpj:List RV:=[.tmp [0] 4]
def yc3:List Nat:=[0,2]
def zsi:IC := .seq (.reg [oV 2 (.mv (kb false))]) (.seq (.reg [mV 3 0,oE 4 (.call zca [([0],(.E 3)),([0],(ki (-2199023255552))),([0],(ki 2199023255552))]),oE 5 (.un .not (.E 4)),vE 2 5]) .ret)
def zsj:List RV:=[.tmp [0] 2]
def yc4:List Nat:=[0,1,2,6]
def zsk:IC := .seq (.reg [oV 6 (.mv (kb false))]) (.seq (.reg [mV 7 0,mV 8 1,bE 9 .geq 7 8,wE 10 9,gE 11 10 .true (.mv (.V 0)),gE 12 10 .true (.mv (.V 2)),gE 13 10 .true (.bin .leq (.E 11) (.E 12)),oE 14 (.pick (.E 10) (.E 13) (kb false)),vE 6 14]) .ret)
def zsl:List RV:=[.tmp [0] 6]
def yc5:List Nat:=[0,3,11,10,4,2]
def zxn:IC := .seq (.reg [oE 12 (.bin .lss (.V 11) (.V 10))]) (.seq (.cond (.E 12) .skip (.exit 0)) (.seq (.block 1 (.seq (.reg [mV 13 11,vE 4 13]) (.reg [mV 14 3,mV 15 4,oE 16 (.bslice 1 1 [iv 0] [(0,(.E 15))]),oE 17 (.app 8 1 (.E 14) (.E 16)),vE 3 17]))) (.reg [oE 18 (.bin .add (.V 11) (ki 1)),vE 11 18])))
def zsm:IC := .seq (.reg [oV 2 (.mv (.C .e0))]) (.seq (.reg [oE 5 (.bslice 0 1 [iv 0] []),vE 3 5]) (.seq (.seq (.reg [mV 6 0,oE 7 (.call zca [([0],(.E 6)),([0],(ki 1)),([0],(ki 40))]),oE 8 (.un .not (.E 7))]) (.cond (.E 8) (.seq (.reg [mV 9 3,vE 2 9]) .ret) .skip)) (.seq (.seq (.reg [oV 10 (.mv (.V 0)),oV 11 (.mv (ki 0))]) (.block 0 (.loop zxn))) (.seq (.reg [mV 19 3,vE 2 19]) .ret))))
def zsn:List RV:=[.tmp [1] 2]
def yc6:List Nat:=[0]
def zso:IC := .seq (.reg [oV 0 (.alloc [iv 0,iv 0])]) (.seq (.reg [oE 1 (.build [iv 0,iv 0] [(0,1,(ki (-1099511627776))),(1,1,(ki 1099511627776))]),oN (.store [0,0] (.V 0) (.E 1))]) .ret)
def zsp:List RV:=[.cell [0,0] 0 true]
def yc7:List Nat:=[0,1,2,3,5,8,6,7]
def zpk:IC := .seq (.reg [oV 3 (.box (.V 0)),oV 5 (.box (.V 2)),oV 6 (.mv (ki 0)),oV 7 (.mv (kb false))]) (.seq (.seq (.reg [fV 10 0 3,lE 11 10,mV 12 1,oE 13 (.call zj9 [([0],(.E 11)),([0],(.E 12))]),oE 14 (.un .not (.E 13)),wE 15 14,gE 16 15 .false (.load true 2 (.V 5)),gE 17 15 .false (.call zka [([0,0],(.E 16))]),gE 18 15 .false (.un .not (.E 17)),oE 19 (.pick (.E 15) (kb true) (.E 18))]) (.cond (.E 19) (.seq (.reg [oV 6 (.mv (ki 0)),oV 7 (.mv (kb false))]) .ret) .skip)) (.seq (.reg [fV 21 1 3,lE 22 21,fV 23 0 3,lE 24 23,mV 25 1,bE 26 .add 24 25,oE 27 (.call zm2 [([0],(.E 22)),([0],(.E 26))]),wE 20 27,xE 28 0 20,xE 29 1 20,vE 8 28,wE 9 29]) (.seq (.reg [mV 30 8,fV 31 0 5,lE 32 31,fV 33 1 5,lE 34 33,oE 35 (.call zkb [([0],(.E 30)),([0],(.E 32)),([0],(.E 34))]),vE 6 35,oV 7 (.mv (kb true))]) .ret)))
def zpl:List RV:=[.tmp [0] 6,.tmp [0] 7]
def yc8:List Nat:=[0,1,13,12,11,5,7,4]
def zxo:IC := .seq (.reg [oE 14 (.bin .lss (.V 13) (.V 12))]) (.seq (.cond (.E 14) .skip (.exit 0)) (.seq (.block 1 (.seq (.reg [oE 15 (.iaddr 1 (.V 11) (.V 13)),lE 16 15,vE 7 16]) (.regD [(fV 17 1 5,0,0),(lE 18 17,0,0),(mV 19 0,0,0),(mV 20 7,0,0),(iE 21 1 19 20,0,0),(lE 22 21,0,0),(bE 23 .add 18 22,0,0),(fV 24 1 5,0,0),(oN (.store [0] (.E 24) (.E 23)),0,0)]))) (.reg [oE 25 (.bin .add (.V 13) (ki 1)),vE 13 25])))
def zsq:IC := .seq (.reg [oV 4 (.alloc [iv 0,iv 0])]) (.seq (.reg [mV 8 1,nE 9 8,oE 10 (.build [iv 0,iv 0] [(0,1,(.E 9))]),oV 5 (.alloc [iv 0,iv 0]),oN (.store [0,0] (.V 5) (.E 10))]) (.seq (.seq (.reg [oV 11 (.mv (.V 1)),oV 12 (.len (.V 11)),oV 13 (.mv (ki 0))]) (.block 0 (.loop zxo))) (.seq (.reg [tV 26 2 5,oN (.store [0,0] (.V 4) (.E 26))]) .ret)))
def zsr:List RV:=[.cell [0,0] 4 true]
def yc9:List Nat:=[0,1,2,3,5,10,8,9,11,12]
def zno:IC := .seq (.reg [oV 5 (.box (.V 1)),oV 8 (.alloc [iv 0,iv 0]),oV 9 (.alloc [iv 0,iv 0])]) (.seq (.regD [(mV 13 2,0,0),(mV 14 3,0,0),(oE 15 (.call zm3 [([0],(.E 13)),([0],(.E 14))]),0,0),(fV 16 0 5,1,0),(lE 17 16,1,0),(fV 18 1 5,1,0),(lE 19 18,1,0),(oE 20 (.call zkb [([0],(.E 15)),([0],(.E 17)),([0],(.E 19))]),0,0),(vE 10 20,0,0)]) (.seq (.regD [(fV 21 0 5,0,1),(lE 22 21,0,1),(mV 23 10,0,0),(oE 24 (.build [iv 0,iv 0] [(0,1,(.E 22)),(1,1,(.E 23))]),0,0),(mV 25 10,0,0),(fV 26 1 5,0,3),(lE 27 26,0,3),(oE 28 (.build [iv 0,iv 0] [(0,1,(.E 25)),(1,1,(.E 27))]),0,0),(oV 11 (.alloc [iv 0,iv 0]),0,0),(oV 12 (.allocL [iv 0,iv 0]),0,0),(oN (.store [0,0] (.V 11) (.E 24)),0,0),(oN (.store [0,0] (.V 12) (.E 28)),0,0)]) (.seq (.block 0 (.seq (.reg [tV 30 2 5,oE 31 (.call zka [([0,0],(.E 30))]),oE 32 (.un .not (.E 31)),wE 29 32]) (.cond (.E 29) (.seq (.regD [(tV 33 2 5,0,0),(tV 34 2 5,0,1),(oN (.store [0,0] (.V 8) (.E 33)),0,0),(oN (.store [0,0] (.V 9) (.E 34)),0,0)]) .ret) (.seq (.reg [mV 36 0,oE 37 (.bin .eql (.E 36) (ki 1)),wE 35 37]) (.cond (.E 35) (.seq (.regD [(tV 38 2 11,0,0),(tV 39 2 12,0,1),(oN (.store [0,0] (.V 8) (.E 38)),0,0),(oN (.store [0,0] (.V 9) (.E 39)),0,0)]) .ret) (.seq (.reg [mV 41 0,oE 42 (.bin .eql (.E 41) (ki (-1))),wE 40 42]) (.cond (.E 40) (.seq (.regD [(tV 43 2 12,0,0),(tV 44 2 11,0,1),(oN (.store [0,0] (.V 8) (.E 43)),0,0),(oN (.store [0,0] (.V 9) (.E 44)),0,0)]) .ret) .skip))))))) (.seq (.regD [(tV 45 2 5,0,0),(tV 46 2 5,0,1),(oN (.store [0,0] (.V 8) (.E 45)),0,0),(oN (.store [0,0] (.V 9) (.E 46)),0,0)]) .ret))))
def znp:List RV:=[.cell [0,0] 8 true,.cell [0,0] 9 true]
def yda:List Nat:=[0,1,2,16,15,14,11,8,9,6,7]
def zpm:IC := .seq (.reg [oE 17 (.bin .lss (.V 16) (.V 15))]) (.seq (.cond (.E 17) .skip (.exit 0)) (.seq (.block 1 (.seq (.reg [oE 18 (.iaddr 1 (.V 14) (.V 16)),lE 19 18,vE 11 19]) (.block 2 (.seq (.reg [mV 25 11,mV 26 0,nE 27 26,oE 28 (.bin .sub (.E 27) (ki 1)),oE 29 (.call zca [([0],(.E 25)),([0],(ki 0)),([0],(.E 28))]),oE 30 (.un .not (.E 29)),wE 24 30]) (.cond (.E 24) .skip (.seq (.reg [mV 32 0,mV 33 11,iE 34 1 32 33,lE 35 34,mV 36 2,bE 37 .leq 35 36,wE 31 37]) (.cond (.E 31) (.reg [mV 38 8,mV 39 11,oE 40 (.bslice 1 1 [iv 0] [(0,(.E 39))]),oE 41 (.app 8 1 (.E 38) (.E 40)),vE 8 41]) (.reg [mV 20 9,mV 21 11,oE 22 (.bslice 1 1 [iv 0] [(0,(.E 21))]),oE 23 (.app 8 1 (.E 20) (.E 22)),vE 9 23])))))))) (.reg [oE 42 (.bin .add (.V 16) (ki 1)),vE 16 42])))
def zss:IC := .seq (.reg [oV 6 (.mv (.C .e0)),oV 7 (.mv (.C .e0))]) (.seq (.reg [oE 12 (.bslice 0 1 [iv 0] []),oE 13 (.bslice 0 1 [iv 0] []),vE 8 12,vE 9 13]) (.seq (.seq (.reg [oV 14 (.mv (.V 1)),oV 15 (.len (.V 14)),oV 16 (.mv (ki 0))]) (.block 0 (.loop zpm))) (.seq (.reg [mV 43 8,mV 44 9,vE 6 43,vE 7 44]) .ret)))
def zst:List RV:=[.tmp [1] 6,.tmp [1] 7]
def ydb:List Nat:=[0,1,2]
def zsu:IC := .seq (.reg [oV 1 (.box (.V 0)),oV 2 (.mv (kb false))]) (.seq (.reg [fV 3 0 1,lE 4 3,fV 5 1 1,lE 6 5,bE 7 .leq 4 6,wE 8 7,gE 9 8 .true (.faddr 0 (.V 1)),gE 10 8 .true (.load false 1 (.E 9)),gE 11 8 .true (.call zkc [([0],(.E 10))]),oE 12 (.pick (.E 8) (.E 11) (kb false)),wE 13 12,gE 14 13 .true (.faddr 1 (.V 1)),gE 15 13 .true (.load false 1 (.E 14)),gE 16 13 .true (.call zkc [([0],(.E 15))]),oE 17 (.pick (.E 13) (.E 16) (kb false)),vE 2 17]) .ret)
def zsv:List RV:=[.tmp [0] 2]
def ydc:List Nat:=[0,1,6,4,5]
def zsw:IC := .seq (.reg [oV 4 (.mv (ki 0)),oV 5 (.mv (kb false))]) (.seq (.seq (.reg [mV 7 1,oE 8 (.bin .eql (.E 7) (ki 0)),wE 9 8,gE 10 9 .false (.mv (.V 1)),gE 11 9 .false (.bin .eql (.E 10) (ki (-1))),gE 12 9 .false (.mv (.E 11)),gE 13 12 .true (.mv (.V 0)),gE 14 12 .true (.bin .eql (.E 13) (ki (-9223372036854775808))),gE 15 9 .false (.pick (.E 12) (.E 14) (kb false)),oE 16 (.pick (.E 9) (kb true) (.E 15))]) (.cond (.E 16) (.seq (.reg [oV 4 (.mv (ki 0)),oV 5 (.mv (kb false))]) .ret) .skip)) (.seq (.reg [mV 17 0,mV 18 1,bE 19 .quo 17 18,vE 6 19]) (.seq (.seq (.reg [mV 20 0,mV 21 1,bE 22 .rem 20 21,oE 23 (.bin .neq (.E 22) (ki 0)),wE 24 23,gE 25 24 .true (.mv (.V 0)),gE 26 24 .true (.bin .lss (.E 25) (ki 0)),gE 27 24 .true (.mv (.V 1)),gE 28 24 .true (.bin .lss (.E 27) (ki 0)),gE 29 24 .true (.eqb true [.b] (.E 26) (.E 28)),oE 30 (.pick (.E 24) (.E 29) (kb false))]) (.cond (.E 30) (.reg [mV 31 6,oE 32 (.bin .sub (.E 31) (ki 1)),vE 6 32]) .skip)) (.seq (.reg [mV 33 6,vE 4 33,oV 5 (.mv (kb true))]) .ret))))
def zsx:List RV:=[.tmp [0] 4,.tmp [0] 5]
def ydd:List Nat:=[0,1,2,6]
def zpn:IC := .seq (.reg [oV 6 (.mv (ki 0))]) (.seq (.seq (.reg [mV 7 0,mV 8 1,bE 9 .lss 7 8]) (.cond (.E 9) (.seq (.reg [mV 10 1,vE 6 10]) .ret) .skip)) (.seq (.seq (.reg [mV 11 0,mV 12 2,bE 13 .gtr 11 12]) (.cond (.E 13) (.seq (.reg [mV 14 2,vE 6 14]) .ret) .skip)) (.seq (.reg [mV 15 0,vE 6 15]) .ret)))
def zpo:List RV:=[.tmp [0] 6]
def yde:List Nat:=[0,1,6,5,4]
def zxp:IC := .seq (.seq (.reg [mV 8 6,mV 9 1,nE 10 9,bE 11 .lss 8 10]) (.cond (.E 11) .skip (.exit 0))) (.seq (.block 1 (.regD [(fV 14 0 5,0,0),(lE 15 14,0,0),(oE 16 (.bin .add (.E 15) (ki 1)),0,0),(fV 17 1 5,0,0),(lE 18 17,0,0),(mV 19 0,0,0),(mV 20 1,0,0),(mV 21 6,0,0),(iE 22 1 20 21,0,0),(lE 23 22,0,0),(iE 24 1 19 23,0,0),(lE 25 24,0,0),(bE 26 .add 18 25,0,0),(oE 27 (.build [iv 0,iv 0] [(0,1,(.E 16)),(1,1,(.E 26))]),0,0),(oN (.store [0,0] (.V 5) (.E 27)),0,0)])) (.reg [mV 12 6,oE 13 (.bin .add (.E 12) (ki 1)),vE 6 13]))
def zsy:IC := .seq (.reg [oV 4 (.alloc [iv 0,iv 0])]) (.seq (.reg [oE 7 (.build [iv 0,iv 0] []),oV 5 (.alloc [iv 0,iv 0]),oN (.store [0,0] (.V 5) (.E 7))]) (.seq (.seq (.reg [oV 6 (.mv (ki 0))]) (.block 0 (.loop zxp))) (.seq (.reg [tV 28 2 5,oN (.store [0,0] (.V 4) (.E 28))]) .ret)))
def zsz:List RV:=[.cell [0,0] 4 true]
def ydf:List Nat:=[0,1,2,3,5,8,9,24,10]
def znq:IC := .seq (.reg [oV 5 (.box (.V 1)),oV 8 (.alloc [iv 0,iv 0]),oV 9 (.alloc [iv 0,iv 0])]) (.seq (.seq (.reg [tV 11 2 5,oE 12 (.call zmq [([0,0],(.E 11))]),oE 13 (.un .not (.E 12))]) (.cond (.E 13) (.seq (.regD [(tV 14 2 5,0,0),(tV 15 2 5,0,1),(oN (.store [0,0] (.V 8) (.E 14)),0,0),(oN (.store [0,0] (.V 9) (.E 15)),0,0)]) .ret) .skip)) (.seq (.regD [(mV 16 2,0,0),(mV 17 3,0,0),(oE 18 (.call zm4 [([0],(.E 16)),([0],(.E 17))]),0,0),(fV 19 0 5,1,0),(lE 20 19,1,0),(fV 21 1 5,1,0),(lE 22 21,1,0),(oE 23 (.call zjw [([0],(.E 18)),([0],(.E 20)),([0],(.E 22))]),0,0),(vE 10 23,0,0)]) (.seq (.seq (.reg [oV 24 (.mv (.V 0))]) (.block 0 (.seq (.reg [oE 26 (.bin .eql (.V 24) (ki 1)),wE 25 26]) (.cond (.E 25) (.seq (.regD [(fV 27 0 5,0,0),(lE 28 27,0,0),(mV 29 10,0,0),(oE 30 (.build [iv 0,iv 0] [(0,1,(.E 28)),(1,1,(.E 29))]),0,0),(mV 31 10,0,0),(fV 32 1 5,0,1),(lE 33 32,0,1),(oE 34 (.build [iv 0,iv 0] [(0,1,(.E 31)),(1,1,(.E 33))]),0,0),(oN (.store [0,0] (.V 8) (.E 30)),0,0),(oN (.store [0,0] (.V 9) (.E 34)),0,0)]) .ret) (.seq (.reg [oE 36 (.bin .eql (.V 24) (ki (-1))),wE 35 36]) (.cond (.E 35) (.seq (.regD [(mV 37 10,0,0),(fV 38 1 5,0,0),(lE 39 38,0,0),(oE 40 (.build [iv 0,iv 0] [(0,1,(.E 37)),(1,1,(.E 39))]),0,0),(fV 41 0 5,0,1),(lE 42 41,0,1),(mV 43 10,0,0),(oE 44 (.build [iv 0,iv 0] [(0,1,(.E 42)),(1,1,(.E 43))]),0,0),(oN (.store [0,0] (.V 8) (.E 40)),0,0),(oN (.store [0,0] (.V 9) (.E 44)),0,0)]) .ret) .skip)))))) (.seq (.regD [(tV 45 2 5,0,0),(tV 46 2 5,0,1),(oN (.store [0,0] (.V 8) (.E 45)),0,0),(oN (.store [0,0] (.V 9) (.E 46)),0,0)]) .ret))))
def znr:List RV:=[.cell [0,0] 8 true,.cell [0,0] 9 true]
def ydg:List Nat:=[0,1,2,4]
def zpp:IC := .seq (.reg [oV 2 (.box (.V 0)),oV 4 (.mv (ki 0))]) (.seq (.seq (.reg [mV 5 1,fV 6 7 2,lE 7 6,nE 8 7,oE 9 (.bin .sub (.E 8) (ki 1)),oE 10 (.call zdr [([0],(.E 5)),([0],(ki 0)),([0],(.E 9))]),oE 11 (.un .not (.E 10))]) (.cond (.E 11) (.seq (.reg [oV 4 (.mv (ki 0))]) .ret) .skip)) (.seq (.reg [fV 12 7 2,lE 13 12,mV 14 1,iE 15 1 13 14,lE 16 15,vE 4 16]) .ret))
def zpq:List RV:=[.tmp [0] 4]
def ydh:List Nat:=[0,1,2,3,4,9,6,10,12,8,55,54,53,16,62,61,15,17,18,19,20,14,13,21,22,26,24,27,25,28]
def zns:IC := .seq (.reg [oE 63 (.bin .lss (.V 62) (.V 61))]) (.seq (.cond (.E 63) .skip (.exit 2)) (.seq (.block 3 (.seq (.reg [mV 64 62,vE 17 64]) (.seq (.reg [fV 66 0 4,fE 67 1 66,lE 68 67,mV 69 15,iE 70 1 68 69,lE 71 70,mV 72 1,mV 73 17,oE 74 (.call zjv [([1],(.E 71)),([1],(.E 72)),([0],(.E 73))]),wE 65 74,xE 75 0 65,xE 76 1 65,vE 18 75,vE 19 76]) (.seq (.regD [(mV 77 15,0,0),(mV 78 17,0,0),(fV 79 2 4,0,0),(lE 80 79,0,0),(mV 81 18,0,0),(oE 82 (.call zio [([1],(.E 80)),([1],(.E 81))]),0,0),(fV 83 2 4,1,0),(lE 84 83,1,0),(mV 85 19,0,0),(oE 86 (.call zio [([1],(.E 84)),([1],(.E 85))]),0,0),(oE 87 (.build [iv 0,iv 0,iv 0,iv 0,iv 0,iv 0] [(0,1,(.E 77)),(1,1,(.E 78)),(2,2,(.E 82)),(4,2,(.E 86))]),0,0),(oV 20 (.allocL [iv 0,iv 0,iv 0,iv 0,iv 0,iv 0]),0,0),(oN (.store [0,0,0,0,0,0] (.V 20) (.E 87)),0,0)]) (.seq (.reg [fV 88 3 4,tE 89 8 88,tV 90 2 6,tV 91 6 20,oE 92 (.call zl5 [([0,0,0,0,0,0,0,1],(.E 89)),([0,0],(.E 90)),([0,0,0,0,0,0],(.E 91))]),wE 93 92,gE 94 93 .true (.mv (.V 14)),gE 95 93 .true (.un .not (.E 94)),gE 96 93 .true (.mv (.E 95)),gE 97 96 .false (.load true 6 (.V 20)),gE 98 96 .false (.load true 6 (.V 13)),gE 99 96 .false (.faddr 3 (.V 4)),gE 100 96 .false (.faddr 3 (.E 99)),gE 101 96 .false (.load false 1 (.E 100)),gE 102 96 .false (.call zmu [([0,0,0,0,0,0],(.E 97)),([0,0,0,0,0,0],(.E 98)),([0],(.E 101))]),gE 103 93 .true (.pick (.E 96) (kb true) (.E 102)),oE 104 (.pick (.E 93) (.E 103) (kb false))]) (.cond (.E 104) (.reg [tV 105 6 20,oN (.store [0,0,0,0,0,0] (.V 13) (.E 105)),oV 14 (.mv (kb true))]) .skip)))))) (.reg [oE 106 (.bin .add (.V 62) (ki 1)),vE 62 106])))
def zs0:IC := .seq (.reg [oE 56 (.bin .lss (.V 55) (.V 54))]) (.seq (.cond (.E 56) .skip (.exit 0)) (.seq (.block 1 (.seq (.reg [mV 57 55,oE 58 (.iaddr 1 (.V 53) (.V 55)),lE 59 58,vE 15 57,vE 16 59]) (.seq (.reg [mV 60 16,oV 61 (.len (.E 60)),oV 62 (.mv (ki 0))]) (.block 2 (.loop zns))))) (.reg [oE 107 (.bin .add (.V 55) (ki 1)),vE 55 107])))
def zpr:IC := .seq (.reg [oV 4 (.box (.V 0)),oV 6 (.box (.V 2)),oV 8 (.alloc [iv 0,iv 0,iv 0,.e0])]) (.seq (.reg [fV 29 2 4,lE 30 29,mV 31 1,oE 32 (.call zio [([1],(.E 30)),([1],(.E 31))]),oV 9 (.alloc [iv 0,iv 0]),oN (.store [0,0] (.V 9) (.E 32))]) (.seq (.reg [tV 34 2 9,fV 35 3 4,fE 36 3 35,lE 37 36,tV 38 2 6,oE 39 (.call zim [([0,0],(.E 34)),([0],(.E 37)),([0,0],(.E 38))]),wE 33 39,xE 40 0 33,xE 41 1 33,vE 10 40,wE 11 41]) (.seq (.reg [mV 42 10,oE 43 (.build [iv 0,iv 0,iv 0,.e0] [(0,1,(ki (-1))),(2,1,(.E 42))]),oV 12 (.alloc [iv 0,iv 0,iv 0,.e0]),oN (.store [0,0,0,4] (.V 12) (.E 43))]) (.seq (.seq (.reg [mV 44 3,fV 45 3 4,fE 46 1 45,lE 47 46,bE 48 .geq 44 47]) (.cond (.E 48) (.seq (.reg [tV 49 4 12,oN (.store [0,0,0,4] (.V 8) (.E 49))]) .ret) .skip)) (.seq (.reg [oE 50 (.build [iv 0,iv 0,iv 0,iv 0,iv 0,iv 0] []),oV 13 (.alloc [iv 0,iv 0,iv 0,iv 0,iv 0,iv 0]),oN (.store [0,0,0,0,0,0] (.V 13) (.E 50)),oV 14 (.mv (kb false))]) (.seq (.seq (.reg [fV 51 0 4,fE 52 0 51,oV 53 (.load false 1 (.E 52)),oV 54 (.len (.V 53)),oV 55 (.mv (ki 0))]) (.block 0 (.loop zs0))) (.seq (.seq (.reg [mV 108 14,oE 109 (.un .not (.E 108))]) (.cond (.E 109) (.seq (.reg [tV 110 4 12,oN (.store [0,0,0,4] (.V 8) (.E 110))]) .ret) .skip)) (.seq (.reg [fV 112 3 4,tE 113 8 112,tV 114 2 6,tV 115 6 13,oE 116 (.call zjr [([0,0,0,0,0,0,0,1],(.E 113)),([0,0],(.E 114)),([0,0,0,0,0,0],(.E 115))]),wE 111 116,xE 117 0 111,xE 118 1 111,xE 119 2 111,vE 21 117,vE 22 118,wE 23 119]) (.seq (.regD [(fV 121 3 4,0,0),(tE 122 8 121,0,0),(fV 123 0 13,0,0),(lE 124 123,0,0),(oE 125 (.call zjt [([0,0,0,0,0,0,0,1],(.E 122)),([0],(.E 124))]),0,0),(tV 126 2 6,1,0),(mV 127 21,0,0),(mV 128 22,0,0),(oE 129 (.call zmp [([0],(.E 125)),([0,0],(.E 126)),([0],(.E 127)),([0],(.E 128))]),0,0),(wE 120 129,0,0),(xE 130 0 120,0,0),(xE 131 1 120,0,0),(oV 24 (.allocL [iv 0,iv 0]),0,0),(oV 25 (.allocL [iv 0,iv 0]),0,0),(oN (.store [0,0] (.V 24) (.E 130)),0,0),(oN (.store [0,0] (.V 25) (.E 131)),0,0)]) (.seq (.regD [(fV 133 0 4,0,0),(fE 134 1 133,0,0),(lE 135 134,0,0),(fV 136 0 13,0,0),(lE 137 136,0,0),(iE 138 1 135 137,0,0),(lE 139 138,0,0),(mV 140 1,0,0),(fV 141 1 13,0,0),(lE 142 141,0,0),(oE 143 (.call zjv [([1],(.E 139)),([1],(.E 140)),([0],(.E 142))]),0,0),(wE 132 143,0,0),(xE 144 0 132,0,0),(xE 145 1 132,0,0),(vE 26 144,0,0),(vE 27 145,0,0)]) (.seq (.regD [(tV 146 11 4,0,0),(mV 147 26,0,0),(tV 148 2 24,0,0),(mV 149 3,0,0),(oE 150 (.bin .add (.E 149) (ki 1)),0,0),(oE 151 (.call zip [([1,1,1,0,0,0,0,0,0,0,1],(.E 146)),([1],(.E 147)),([0,0],(.E 148)),([0],(.E 150))]),0,0),(tV 152 11 4,1,0),(mV 153 27,0,0),(tV 154 2 25,1,0),(mV 155 3,0,0),(oE 156 (.bin .add (.E 155) (ki 1)),0,0),(oE 157 (.call zip [([1,1,1,0,0,0,0,0,0,0,1],(.E 152)),([1],(.E 153)),([0,0],(.E 154)),([0],(.E 156))]),0,0),(oE 158 (.bslice 2 4 [iv 0,iv 0,iv 0,(.own 4 [])] [(0,(.E 151)),(1,(.E 157))]),0,0),(vE 28 158,0,0)]) (.seq (.regD [(fV 159 0 13,0,0),(lE 160 159,0,0),(fV 161 0 4,0,0),(fE 162 0 161,0,0),(lE 163 162,0,0),(fV 164 0 13,0,0),(lE 165 164,0,0),(iE 166 1 163 165,0,0),(lE 167 166,0,0),(fV 168 1 13,0,0),(lE 169 168,0,0),(iE 170 1 167 169,0,0),(lE 171 170,0,0),(mV 172 28,0,0),(oE 173 (.build [iv 0,iv 0,iv 0,.e0] [(0,1,(.E 160)),(1,1,(.E 171)),(3,1,(.E 172))]),0,0),(oN (.store [0,0,0,4] (.V 8) (.E 173)),0,0)]) .ret))))))))))))
def zps:List RV:=[.cell [0,0,0,4] 8 true]
def ydi:List Nat:=[0,1,5,4]
def z1k:IC := .seq (.seq (.reg [mV 12 5,mV 13 0,nE 14 13,bE 15 .lss 12 14]) (.cond (.E 15) .skip (.exit 0))) (.seq (.block 1 (.seq (.reg [mV 18 0,mV 19 5,iE 20 1 18 19,lE 21 20,mV 22 1,oE 23 (.call zjz [([1],(.E 21)),([0],(.E 22))]),vE 1 23]) (.seq (.reg [mV 24 1,oE 25 (.bin .lss (.E 24) (ki 0))]) (.cond (.E 25) (.seq (.reg [oV 4 (.mv (ki (-1)))]) .ret) .skip)))) (.reg [mV 16 5,oE 17 (.bin .add (.E 16) (ki 1)),vE 5 17]))
def zs1:IC := .seq (.reg [oV 4 (.mv (ki 0))]) (.seq (.reg [mV 6 1,mV 7 0,nE 8 7,bE 9 .sub 6 8,vE 1 9]) (.seq (.seq (.reg [mV 10 1,oE 11 (.bin .lss (.E 10) (ki 0))]) (.cond (.E 11) (.seq (.reg [oV 4 (.mv (ki (-1)))]) .ret) .skip)) (.seq (.seq (.reg [oV 5 (.mv (ki 0))]) (.block 0 (.loop z1k))) (.seq (.reg [mV 26 1,vE 4 26]) .ret))))
def zs2:List RV:=[.tmp [0] 4]
def ydj:List Nat:=[0,1,4]
def zs3:IC := .seq (.reg [oV 4 (.mv (ki 0))]) (.seq (.reg [mV 5 1,mV 6 0,nE 7 6,bE 8 .sub 5 7,vE 1 8]) (.seq (.seq (.reg [mV 9 1,oE 10 (.bin .lss (.E 9) (ki 0))]) (.cond (.E 10) (.seq (.reg [oV 4 (.mv (ki (-1)))]) .ret) .skip)) (.seq (.reg [mV 11 1,vE 4 11]) .ret)))
def zs4:List RV:=[.tmp [0] 4]
def ydk:List Nat:=[0,1,2,3,4,5,15,6,8,16,10,18,17,13,14,19,12,21,22,23,24,25]
def znt:IC := .seq (.seq (.reg [mV 40 16,fV 41 0 6,lE 42 41,mV 43 15,iE 44 1 42 43,lE 45 44,nE 46 45,bE 47 .lss 40 46]) (.cond (.E 47) .skip (.exit 2))) (.seq (.block 3 (.seq (.reg [tV 51 2 6,mV 52 1,tV 53 8 8,mV 54 3,tV 55 2 10,mV 56 15,mV 57 16,oE 58 (.call zm5 [([1,1],(.E 51)),([1],(.E 52)),([0,0,0,0,0,0,0,1],(.E 53)),([1],(.E 54)),([0,0],(.E 55)),([0],(.E 56)),([0],(.E 57))]),wE 50 58,xE 59 0 50,xE 60 1 50,oV 17 (.alloc [iv 0,iv 0,.e0,.e0,(.v (.bool false)),(.v (.int .u64 0)),(.v (.int .u64 0)),iv 0]),oN (.store [0,0,1,1,0,0,0,0] (.V 17) (.E 59)),vE 18 60]) (.seq (.seq (.reg [mV 61 18,oE 62 (.un .not (.E 61))]) (.cond (.E 62) (.exit 3) .skip)) (.seq (.reg [fV 64 4 17,tE 65 4 64,fV 66 4 13,tE 67 4 66,oE 68 (.call zkd [([0,0,0,0],(.E 65)),([0,0,0,0],(.E 67))]),wE 63 68,xE 69 0 63,xE 70 1 63,vE 19 69,wE 20 70]) (.seq (.reg [mV 71 14,oE 72 (.un .not (.E 71)),wE 73 72,gE 74 73 .false (.mv (.V 19)),gE 75 73 .false (.bin .gtr (.E 74) (ki 0)),oE 76 (.pick (.E 73) (kb true) (.E 75))]) (.cond (.E 76) (.seq (.reg [tV 77 8 17,oN (.store [0,0,1,1,0,0,0,0] (.V 13) (.E 77))]) (.reg [oV 14 (.mv (kb true))])) .skip)))))) (.reg [mV 48 16,oE 49 (.bin .add (.E 48) (ki 1)),vE 16 49]))
def zpt:IC := .seq (.seq (.reg [mV 27 15,fV 28 0 6,lE 29 28,nE 30 29,bE 31 .lss 27 30,wE 32 31,gE 33 32 .true (.mv (.V 5)),gE 34 32 .true (.faddr 1 (.V 8)),gE 35 32 .true (.load false 1 (.E 34)),gE 36 32 .true (.bin .lss (.E 33) (.E 35)),oE 37 (.pick (.E 32) (.E 36) (kb false))]) (.cond (.E 37) .skip (.exit 0))) (.seq (.block 1 (.seq (.reg [oV 16 (.mv (ki 0))]) (.block 2 (.loop znt)))) (.reg [mV 38 15,oE 39 (.bin .add (.E 38) (ki 1)),vE 15 39]))
def zpu:IC := .seq (.reg [oV 6 (.box (.V 0)),oV 8 (.box (.V 2)),oV 10 (.box (.V 4)),oV 12 (.alloc [iv 0,iv 0,iv 0,.e0])]) (.seq (.reg [oE 26 (.build [iv 0,iv 0,.e0,.e0,(.v (.bool false)),(.v (.int .u64 0)),(.v (.int .u64 0)),iv 0] []),oV 13 (.alloc [iv 0,iv 0,.e0,.e0,(.v (.bool false)),(.v (.int .u64 0)),(.v (.int .u64 0)),iv 0]),oN (.store [0,0,1,1,0,0,0,0] (.V 13) (.E 26))]) (.seq (.reg [oV 14 (.mv (kb false))]) (.seq (.seq (.reg [oV 15 (.mv (ki 0))]) (.block 0 (.loop zpt))) (.seq (.seq (.reg [mV 78 14,oE 79 (.un .not (.E 78))]) (.cond (.E 79) (.seq (.regD [(mV 80 1,0,0),(mV 81 3,0,0),(oE 82 (.call zf6 [([1],(.E 80)),([1],(.E 81))]),0,0),(fV 83 3 8,1,0),(lE 84 83,1,0),(tV 85 2 10,1,0),(oE 86 (.call zg2 [([0,0],(.E 82)),([0],(.E 84)),([0,0],(.E 85))]),0,0),(oE 87 (.build [iv 0,iv 0,iv 0,.e0] [(0,1,(ki (-1))),(2,1,(.E 86))]),0,0),(oN (.store [0,0,0,4] (.V 12) (.E 87)),0,0)]) .ret) .skip)) (.seq (.regD [(mV 88 1,0,0),(fV 89 2 13,0,0),(lE 90 89,0,0),(oE 91 (.call zf6 [([1],(.E 88)),([1],(.E 90))]),0,0),(fV 92 3 8,1,0),(lE 93 92,1,0),(tV 94 2 10,1,0),(oE 95 (.call zg2 [([0,0],(.E 91)),([0],(.E 93)),([0,0],(.E 94))]),0,0),(vE 21 95,0,0)]) (.seq (.regD [(mV 96 1,0,0),(fV 97 3 13,0,0),(lE 98 97,0,0),(oE 99 (.call zf6 [([1],(.E 96)),([1],(.E 98))]),0,0),(fV 100 3 8,1,0),(lE 101 100,1,0),(tV 102 2 10,1,0),(oE 103 (.call zg2 [([0,0],(.E 99)),([0],(.E 101)),([0,0],(.E 102))]),0,0),(vE 22 103,0,0)]) (.seq (.regD [(tV 105 8 8,0,0),(fV 106 0 13,0,0),(lE 107 106,0,0),(oE 108 (.call zjx [([0,0,0,0,0,0,0,1],(.E 105)),([0],(.E 107))]),0,0),(tV 109 2 10,1,0),(mV 110 21,0,0),(mV 111 22,0,0),(oE 112 (.call zms [([0],(.E 108)),([0,0],(.E 109)),([0],(.E 110)),([0],(.E 111))]),0,0),(wE 104 112,0,0),(xE 113 0 104,0,0),(xE 114 1 104,0,0),(oV 23 (.allocL [iv 0,iv 0]),0,0),(oV 24 (.allocL [iv 0,iv 0]),0,0),(oN (.store [0,0] (.V 23) (.E 113)),0,0),(oN (.store [0,0] (.V 24) (.E 114)),0,0)]) (.seq (.regD [(tV 115 2 6,0,0),(mV 116 1,0,0),(tV 117 8 8,0,0),(fV 118 2 13,0,0),(lE 119 118,0,0),(tV 120 2 23,0,0),(mV 121 5,0,0),(oE 122 (.bin .add (.E 121) (ki 1)),0,0),(oE 123 (.call ziq [([1,1],(.E 115)),([1],(.E 116)),([0,0,0,0,0,0,0,1],(.E 117)),([1],(.E 119)),([0,0],(.E 120)),([0],(.E 122))]),0,0),(tV 124 2 6,1,0),(mV 125 1,0,0),(tV 126 8 8,1,0),(fV 127 3 13,1,0),(lE 128 127,1,0),(tV 129 2 24,1,0),(mV 130 5,0,0),(oE 131 (.bin .add (.E 130) (ki 1)),0,0),(oE 132 (.call ziq [([1,1],(.E 124)),([1],(.E 125)),([0,0,0,0,0,0,0,1],(.E 126)),([1],(.E 128)),([0,0],(.E 129)),([0],(.E 131))]),0,0),(oE 133 (.bslice 2 4 [iv 0,iv 0,iv 0,(.own 4 [])] [(0,(.E 123)),(1,(.E 132))]),0,0),(vE 25 133,0,0)]) (.seq (.regD [(fV 134 0 13,0,0),(lE 135 134,0,0),(fV 136 0 6,0,0),(lE 137 136,0,0),(fV 138 0 13,0,0),(lE 139 138,0,0),(iE 140 1 137 139,0,0),(lE 141 140,0,0),(fV 142 1 13,0,0),(lE 143 142,0,0),(iE 144 1 141 143,0,0),(lE 145 144,0,0),(mV 146 25,0,0),(oE 147 (.build [iv 0,iv 0,iv 0,.e0] [(0,1,(.E 135)),(1,1,(.E 145)),(3,1,(.E 146))]),0,0),(oN (.store [0,0,0,4] (.V 12) (.E 147)),0,0)]) .ret)))))))))
def zpv:List RV:=[.cell [0,0,0,4] 12 true]
def ydl:List Nat:=[0,4,3,2]
def z1l:IC := .seq (.seq (.reg [mV 8 4,mV 9 0,nE 10 9,bE 11 .lss 8 10]) (.cond (.E 11) .skip (.exit 0))) (.seq (.block 1 (.reg [mV 14 3,mV 15 4,mV 16 0,mV 17 4,iE 18 1 16 17,lE 19 18,oE 20 (.call zf5 [([1],(.E 19))]),iE 21 1 14 15,oN (.store [1] (.E 21) (.E 20))])) (.reg [mV 12 4,oE 13 (.bin .add (.E 12) (ki 1)),vE 4 13]))
def zs5:IC := .seq (.reg [oV 2 (.mv (.C .e0))]) (.seq (.reg [mV 5 0,nE 6 5,oE 7 (.mksl 24 1 [(.own 1 [])] (.E 6) (.E 6)),vE 3 7]) (.seq (.seq (.reg [oV 4 (.mv (ki 0))]) (.block 0 (.loop z1l))) (.seq (.reg [mV 22 3,vE 2 22]) .ret)))
def zs6:List RV:=[.tmp [1] 2]
def ydm:List Nat:=[0,1,5,4]
def zxq:IC := .seq (.seq (.reg [mV 11 5,mV 12 0,nE 13 12,bE 14 .lss 11 13]) (.cond (.E 14) .skip (.exit 0))) (.seq (.block 1 (.seq (.regD [(mV 17 0,0,0),(mV 18 5,0,0),(iE 19 4 17 18,0,0),(tE 20 4 19,0,0),(mV 21 1,0,0),(mV 22 5,0,0),(iE 23 4 21 22,0,0),(tE 24 4 23,0,0),(oE 25 (.call zg0 [([0,0,0,4],(.E 20)),([0,0,0,4],(.E 24))]),0,0),(oE 26 (.un .not (.E 25)),0,0)]) (.cond (.E 26) (.seq (.reg [oV 4 (.mv (kb false))]) .ret) .skip))) (.reg [mV 15 5,oE 16 (.bin .add (.E 15) (ki 1)),vE 5 16]))
def zs7:IC := .seq (.reg [oV 4 (.mv (kb false))]) (.seq (.seq (.reg [mV 6 0,nE 7 6,mV 8 1,nE 9 8,bE 10 .neq 7 9]) (.cond (.E 10) (.seq (.reg [oV 4 (.mv (kb false))]) .ret) .skip)) (.seq (.seq (.reg [oV 5 (.mv (ki 0))]) (.block 0 (.loop zxq))) (.seq (.reg [oV 4 (.mv (kb true))]) .ret)))
def zs8:List RV:=[.tmp [0] 4]
def ydn:List Nat:=[0,1,5,4]
def z1m:IC := .seq (.seq (.reg [mV 11 5,mV 12 0,nE 13 12,bE 14 .lss 11 13]) (.cond (.E 14) .skip (.exit 0))) (.seq (.block 1 (.seq (.regD [(mV 17 0,0,0),(mV 18 5,0,0),(iE 19 1 17 18,0,0),(lE 20 19,0,0),(mV 21 1,0,0),(mV 22 5,0,0),(iE 23 1 21 22,0,0),(lE 24 23,0,0),(oE 25 (.call zij [([1],(.E 20)),([1],(.E 24))]),0,0),(oE 26 (.un .not (.E 25)),0,0)]) (.cond (.E 26) (.seq (.reg [oV 4 (.mv (kb false))]) .ret) .skip))) (.reg [mV 15 5,oE 16 (.bin .add (.E 15) (ki 1)),vE 5 16]))
def zs9:IC := .seq (.reg [oV 4 (.mv (kb false))]) (.seq (.seq (.reg [mV 6 0,nE 7 6,mV 8 1,nE 9 8,bE 10 .neq 7 9]) (.cond (.E 10) (.seq (.reg [oV 4 (.mv (kb false))]) .ret) .skip)) (.seq (.seq (.reg [oV 5 (.mv (ki 0))]) (.block 0 (.loop z1m))) (.seq (.reg [oV 4 (.mv (kb true))]) .ret)))
def zta:List RV:=[.tmp [0] 4]
def ydo:List Nat:=[0,1,5,4]
def z1n:IC := .seq (.seq (.reg [mV 6 5,mV 7 0,nE 8 7,bE 9 .lss 6 8]) (.cond (.E 9) .skip (.exit 0))) (.seq (.block 1 (.reg [mV 12 0,mV 13 5,iE 14 1 12 13,lE 15 14,mV 16 1,oE 17 (.call zik [([1],(.E 15)),([0],(.E 16))]),vE 1 17])) (.reg [mV 10 5,oE 11 (.bin .add (.E 10) (ki 1)),vE 5 11]))
def ztb:IC := .seq (.reg [oV 4 (.mv (ki 0))]) (.seq (.seq (.reg [oV 5 (.mv (ki 0))]) (.block 0 (.loop z1n))) (.seq (.reg [mV 18 1,vE 4 18]) .ret))
def ztc:List RV:=[.tmp [0] 4]
def ydp:List Nat:=[0,1,5,4]
def zxr:IC := .seq (.seq (.reg [mV 6 5,mV 7 0,nE 8 7,bE 9 .lss 6 8]) (.cond (.E 9) .skip (.exit 0))) (.seq (.block 1 (.seq (.reg [mV 12 0,mV 13 5,mV 14 1,iE 15 4 12 13,fE 16 0 15,oN (.store [0] (.E 16) (.E 14))]) (.seq (.reg [mV 17 1,oE 18 (.bin .add (.E 17) (ki 1)),vE 1 18]) (.seq (.reg [mV 19 0,mV 20 5,mV 21 1,iE 22 4 19 20,fE 23 1 22,oN (.store [0] (.E 23) (.E 21))]) (.seq (.reg [mV 24 1,oE 25 (.bin .add (.E 24) (ki 1)),vE 1 25]) (.seq (.reg [mV 26 0,mV 27 5,mV 28 1,iE 29 4 26 27,fE 30 2 29,oN (.store [0] (.E 30) (.E 28))]) (.seq (.reg [mV 31 1,oE 32 (.bin .add (.E 31) (ki 1)),vE 1 32]) (.reg [mV 33 0,mV 34 5,iE 35 4 33 34,fE 36 3 35,lE 37 36,mV 38 1,oE 39 (.call zj3 [([4],(.E 37)),([0],(.E 38))]),vE 1 39])))))))) (.reg [mV 10 5,oE 11 (.bin .add (.E 10) (ki 1)),vE 5 11]))
def ztd:IC := .seq (.reg [oV 4 (.mv (ki 0))]) (.seq (.seq (.reg [oV 5 (.mv (ki 0))]) (.block 0 (.loop zxr))) (.seq (.reg [mV 40 1,vE 4 40]) .ret))
def zte:List RV:=[.tmp [0] 4]
def ydq:List Nat:=[0,1,5,4]
def zxs:IC := .seq (.seq (.reg [mV 6 5,mV 7 0,nE 8 7,bE 9 .lss 6 8]) (.cond (.E 9) .skip (.exit 0))) (.seq (.block 1 (.seq (.seq (.reg [mV 12 0,mV 13 5,iE 14 4 12 13,fE 15 0 14,lE 16 15,mV 17 1,bE 18 .neq 16 17]) (.cond (.E 18) (.seq (.reg [oV 4 (.mv (ki (-1)))]) .ret) .skip)) (.seq (.reg [mV 19 1,oE 20 (.bin .add (.E 19) (ki 1)),vE 1 20]) (.seq (.seq (.reg [mV 21 0,mV 22 5,iE 23 4 21 22,fE 24 1 23,lE 25 24,mV 26 1,bE 27 .neq 25 26]) (.cond (.E 27) (.seq (.reg [oV 4 (.mv (ki (-1)))]) .ret) .skip)) (.seq (.reg [mV 28 1,oE 29 (.bin .add (.E 28) (ki 1)),vE 1 29]) (.seq (.seq (.reg [mV 30 0,mV 31 5,iE 32 4 30 31,fE 33 2 32,lE 34 33,mV 35 1,bE 36 .neq 34 35]) (.cond (.E 36) (.seq (.reg [oV 4 (.mv (ki (-1)))]) .ret) .skip)) (.seq (.reg [mV 37 1,oE 38 (.bin .add (.E 37) (ki 1)),vE 1 38]) (.seq (.reg [mV 39 0,mV 40 5,iE 41 4 39 40,fE 42 3 41,lE 43 42,mV 44 1,oE 45 (.call zj4 [([4],(.E 43)),([0],(.E 44))]),vE 1 45]) (.seq (.reg [mV 46 1,oE 47 (.bin .lss (.E 46) (ki 0))]) (.cond (.E 47) (.seq (.reg [oV 4 (.mv (ki (-1)))]) .ret) .skip)))))))))) (.reg [mV 10 5,oE 11 (.bin .add (.E 10) (ki 1)),vE 5 11]))
def ztf:IC := .seq (.reg [oV 4 (.mv (ki 0))]) (.seq (.seq (.reg [oV 5 (.mv (ki 0))]) (.block 0 (.loop zxs))) (.seq (.reg [mV 48 1,vE 4 48]) .ret))
def ztg:List RV:=[.tmp [0] 4]
def ydr:List Nat:=[0,1,2,3,4,7,9,8,10,12,11,6]
def zth:IC := .seq (.reg [oV 3 (.box (.V 0)),oV 4 (.box (.V 1)),oV 6 (.mv (kb false))]) (.seq (.reg [tV 14 6 3,mV 15 2,oE 16 (.call zir [([0,0,0,0,0,0],(.E 14)),([0],(.E 15))]),wE 13 16,xE 17 0 13,xE 18 1 13,oV 7 (.alloc [(.v (.bool false)),(.v (.int .u64 0)),(.v (.int .u64 0)),iv 0]),oN (.store [0,0,0,0] (.V 7) (.E 17)),vE 8 18]) (.seq (.reg [tV 20 6 4,mV 21 2,oE 22 (.call zir [([0,0,0,0,0,0],(.E 20)),([0],(.E 21))]),wE 19 22,xE 23 0 19,xE 24 1 19,oV 9 (.alloc [(.v (.bool false)),(.v (.int .u64 0)),(.v (.int .u64 0)),iv 0]),oN (.store [0,0,0,0] (.V 9) (.E 23)),vE 10 24]) (.seq (.reg [tV 26 4 7,tV 27 4 9,oE 28 (.call zj6 [([0,0,0,0],(.E 26)),([0,0,0,0],(.E 27))]),wE 25 28,xE 29 0 25,xE 30 1 25,vE 11 29,vE 12 30]) (.seq (.reg [mV 31 8,wE 32 31,gE 33 32 .true (.mv (.V 10)),oE 34 (.pick (.E 32) (.E 33) (kb false)),wE 35 34,gE 36 35 .true (.mv (.V 12)),oE 37 (.pick (.E 35) (.E 36) (kb false)),wE 38 37,gE 39 38 .true (.mv (.V 11)),gE 40 38 .true (.bin .gtr (.E 39) (ki 0)),gE 41 38 .true (.mv (.E 40)),gE 42 41 .false (.mv (.V 11)),gE 43 41 .false (.bin .eql (.E 42) (ki 0)),gE 44 41 .false (.mv (.E 43)),gE 45 44 .true (.load true 6 (.V 3)),gE 46 44 .true (.load true 6 (.V 4)),gE 47 44 .true (.call zm7 [([0,0,0,0,0,0],(.E 45)),([0,0,0,0,0,0],(.E 46))]),gE 48 41 .false (.pick (.E 44) (.E 47) (kb false)),gE 49 38 .true (.pick (.E 41) (kb true) (.E 48)),oE 50 (.pick (.E 38) (.E 49) (kb false)),vE 6 50]) .ret))))
def zti:List RV:=[.tmp [0] 6]
def yds:List Nat:=[0,2]
def ztj:IC := .seq (.reg [oV 2 (.mv (kb false))]) (.seq (.reg [mV 3 0,oE 4 (.call zmv [([0],(.E 3))]),oE 5 (.un .not (.E 4)),vE 2 5]) .ret)
def ztk:List RV:=[.tmp [0] 2]
def ydt:List Nat:=[0,2]
def ztl:IC := .seq (.reg [oV 2 (.mv (kb false))]) (.seq (.reg [mV 3 0,oE 4 (.call zca [([0],(.E 3)),([0],(ki (-1))),([0],(ki 1))]),vE 2 4]) .ret)
def ztm:List RV:=[.tmp [0] 2]
def ydu:List Nat:=[0,1,2,7,9,4,6,8,5]
def ztn:IC := .seq (.reg [oV 2 (.box (.V 0)),oV 4 (.alloc [(.v (.bool false)),(.v (.int .u64 0)),(.v (.int .u64 0)),iv 0]),oV 5 (.mv (kb false))]) (.seq (.reg [fV 11 2 2,tE 12 2 11,mV 13 1,oE 14 (.call zis [([0,0],(.E 12)),([0],(.E 13))]),wE 10 14,xE 15 0 10,xE 16 1 10,oV 6 (.alloc [(.v (.bool false)),(.v (.int .u64 0)),(.v (.int .u64 0)),iv 0]),oN (.store [0,0,0,0] (.V 6) (.E 15)),vE 7 16]) (.seq (.reg [fV 18 4 2,tE 19 2 18,mV 20 1,oE 21 (.call zis [([0,0],(.E 19)),([0],(.E 20))]),wE 17 21,xE 22 0 17,xE 23 1 17,oV 8 (.alloc [(.v (.bool false)),(.v (.int .u64 0)),(.v (.int .u64 0)),iv 0]),oN (.store [0,0,0,0] (.V 8) (.E 22)),vE 9 23]) (.seq (.seq (.reg [mV 24 7,oE 25 (.un .not (.E 24)),wE 26 25,gE 27 26 .false (.mv (.V 9)),gE 28 26 .false (.un .not (.E 27)),oE 29 (.pick (.E 26) (kb true) (.E 28))]) (.cond (.E 29) (.seq (.reg [oE 30 (.build [(.v (.bool false)),(.v (.int .u64 0)),(.v (.int .u64 0)),iv 0] []),oN (.store [0,0,0,0] (.V 4) (.E 30)),oV 5 (.mv (kb false))]) .ret) .skip)) (.seq (.reg [tV 31 4 6,tV 32 4 8,oE 33 (.call zm9 [([0,0,0,0],(.E 31)),([0,0,0,0],(.E 32))]),xE 34 0 33,xE 35 1 33,oN (.store [0,0,0,0] (.V 4) (.E 34)),vE 5 35]) .ret))))
def zto:List RV:=[.cell [0,0,0,0] 4 true,.tmp [0] 5]
def ydv:List Nat:=[0,1,2,3]
def ztp:IC := .seq (.reg [oV 1 (.box (.V 0)),oV 2 (.alloc [iv 0,iv 0]),oV 3 (.mv (kb false))]) (.seq (.reg [fV 4 2 1,tE 5 2 4,fV 6 4 1,tE 7 2 6,oE 8 (.call zm6 [([0,0],(.E 5)),([0,0],(.E 7))]),xE 9 0 8,xE 10 1 8,oN (.store [0,0] (.V 2) (.E 9)),vE 3 10]) .ret)
def ztq:List RV:=[.cell [0,0] 2 true,.tmp [0] 3]
def ydw:List Nat:=[0,1,2,4,5]
def zpw:IC := .seq (.reg [oV 2 (.box (.V 0)),oV 4 (.alloc [(.v (.bool false)),(.v (.int .u64 0)),(.v (.int .u64 0)),iv 0]),oV 5 (.mv (kb false))]) (.seq (.seq (.reg [fV 6 0 2,lE 7 6,mV 8 1,oE 9 (.call zj9 [([0],(.E 7)),([0],(.E 8))]),oE 10 (.un .not (.E 9))]) (.cond (.E 10) (.seq (.reg [oE 11 (.build [(.v (.bool false)),(.v (.int .u64 0)),(.v (.int .u64 0)),iv 0] []),oN (.store [0,0,0,0] (.V 4) (.E 11)),oV 5 (.mv (kb false))]) .ret) .skip)) (.seq (.reg [fV 12 1 2,lE 13 12,fV 14 0 2,lE 15 14,mV 16 1,bE 17 .add 15 16,oE 18 (.call zna [([0],(.E 13)),([0],(.E 17))]),xE 19 0 18,xE 20 1 18,oN (.store [0,0,0,0] (.V 4) (.E 19)),vE 5 20]) .ret))
def zpx:List RV:=[.cell [0,0,0,0] 4 true,.tmp [0] 5]
def ydx:List Nat:=[0,1,2,3,8,6,7,4,5]
def ztr:IC := .seq (.reg [oV 2 (.box (.V 0)),oV 3 (.box (.V 1)),oV 4 (.mv (ki 0)),oV 5 (.mv (kb false))]) (.seq (.reg [tV 10 4 2,tV 11 4 3,oE 12 (.call zke [([0,0,0,0],(.E 10)),([0,0,0,0],(.E 11))]),wE 9 12,xE 13 0 9,xE 14 1 9,xE 15 2 9,oV 6 (.alloc [(.v (.bool false)),(.v (.int .u64 0)),(.v (.int .u64 0))]),oV 7 (.alloc [(.v (.bool false)),(.v (.int .u64 0)),(.v (.int .u64 0))]),oN (.store [0,0,0] (.V 6) (.E 13)),oN (.store [0,0,0] (.V 7) (.E 14)),vE 8 15]) (.seq (.seq (.reg [mV 16 8,oE 17 (.un .not (.E 16))]) (.cond (.E 17) (.seq (.reg [oV 4 (.mv (ki 0)),oV 5 (.mv (kb false))]) .ret) .skip)) (.seq (.reg [tV 18 3 6,tV 19 3 7,oE 20 (.call znb [([0,0,0],(.E 18)),([0,0,0],(.E 19))]),vE 4 20,oV 5 (.mv (kb true))]) .ret)))
def zts:List RV:=[.tmp [0] 4,.tmp [0] 5]
def ydy:List Nat:=[0,3,2]
def z1o:IC := .seq (.seq (.reg [mV 4 3,mV 5 0,nE 6 5,bE 7 .lss 4 6]) (.cond (.E 7) .skip (.exit 0))) (.seq (.block 1 (.seq (.regD [(mV 10 0,0,0),(mV 11 3,0,0),(iE 12 1 10 11,0,0),(lE 13 12,0,0),(oE 14 (.call znc [([0],(.E 13))]),0,0),(oE 15 (.un .not (.E 14)),0,0),(wE 16 15,0,0),(gE 17 16 .false (.mv (.V 3)),0,0),(gE 18 16 .false (.bin .gtr (.E 17) (ki 0)),0,0),(gE 19 16 .false (.mv (.E 18)),0,0),(gE 20 19 .true (.mv (.V 0)),0,0),(gE 21 19 .true (.mv (.V 3)),0,0),(gE 22 19 .true (.bin .sub (.E 21) (ki 1)),0,0),(gE 23 19 .true (.iaddr 1 (.E 20) (.E 22)),0,0),(gE 24 19 .true (.load false 1 (.E 23)),0,0),(gE 25 19 .true (.mv (.V 0)),0,0),(gE 26 19 .true (.mv (.V 3)),0,0),(gE 27 19 .true (.iaddr 1 (.E 25) (.E 26)),0,0),(gE 28 19 .true (.load false 1 (.E 27)),0,0),(gE 29 19 .true (.bin .geq (.E 24) (.E 28)),0,0),(gE 30 16 .false (.pick (.E 19) (.E 29) (kb false)),0,0),(oE 31 (.pick (.E 16) (kb true) (.E 30)),0,0)]) (.cond (.E 31) (.seq (.reg [oV 2 (.mv (kb false))]) .ret) .skip))) (.reg [mV 8 3,oE 9 (.bin .add (.E 8) (ki 1)),vE 3 9]))
def ztt:IC := .seq (.reg [oV 2 (.mv (kb false))]) (.seq (.seq (.reg [oV 3 (.mv (ki 0))]) (.block 0 (.loop z1o))) (.seq (.reg [mV 32 0,nE 33 32,oE 34 (.bin .leq (.E 33) (ki 7)),vE 2 34]) .ret))
def ztu:List RV:=[.tmp [0] 2]
def ydz:List Nat:=[0,1,2]
def ztv:IC := .seq (.reg [oV 1 (.box (.V 0)),oV 2 (.mv (.C .e0))]) (.seq (.reg [fV 3 0 1,lE 4 3,fV 5 1 1,lE 6 5,fV 7 2 1,lE 8 7,fV 9 3 1,lE 10 9,fV 11 4 1,lE 12 11,oE 13 (.bslice 5 1 [iv 0] [(0,(.E 4)),(1,(.E 6)),(2,(.E 8)),(3,(.E 10)),(4,(.E 12))]),vE 2 13]) .ret)
def ztw:List RV:=[.tmp [1] 2]
def yd0:List Nat:=[0]
def ztx:IC := .seq (.reg [oV 0 (.mv (.C .e0))]) (.seq (.reg [oE 1 (.bslice 5 1 [iv 0] [(0,(ki 1)),(1,(ki 0)),(2,(ki 2)),(3,(ki 1)),(4,(ki 1))]),vE 0 1]) .ret)
def zty:List RV:=[.tmp [1] 0]
def yd1:List Nat:=[0]
def ztz:IC := .seq (.reg [oV 0 (.mv (.C .e0))]) (.seq (.reg [oE 1 (.bslice 5 1 [iv 0] [(0,(ki 8)),(1,(ki 4)),(2,(ki 8)),(3,(ki 100)),(4,(ki 20))]),vE 0 1]) .ret)
def zt0:List RV:=[.tmp [1] 0]
def yd2:List Nat:=[0,3,2]
def z1p:IC := .seq (.seq (.reg [mV 4 3,mV 5 0,nE 6 5,bE 7 .lss 4 6]) (.cond (.E 7) .skip (.exit 0))) (.seq (.block 1 (.seq (.regD [(mV 10 0,0,0),(mV 11 3,0,0),(oE 12 (.bin .sub (.E 11) (ki 1)),0,0),(iE 13 1 10 12,0,0),(lE 14 13,0,0),(mV 15 0,0,0),(mV 16 3,0,0),(iE 17 1 15 16,0,0),(lE 18 17,0,0),(bE 19 .geq 14 18,0,0)]) (.cond (.E 19) (.seq (.reg [oV 2 (.mv (kb false))]) .ret) .skip))) (.reg [mV 8 3,oE 9 (.bin .add (.E 8) (ki 1)),vE 3 9]))
def zt1:IC := .seq (.reg [oV 2 (.mv (kb false))]) (.seq (.seq (.reg [oV 3 (.mv (ki 1))]) (.block 0 (.loop z1p))) (.seq (.reg [mV 20 0,nE 21 20,oE 22 (.bin .leq (.E 21) (ki 7)),wE 23 22,gE 24 23 .true (.mv (.V 0)),gE 25 23 .true (.call znd [([1],(.E 24))]),oE 26 (.pick (.E 23) (.E 25) (kb false)),vE 2 26]) .ret))
def zt2:List RV:=[.tmp [0] 2]
def yd3:List Nat:=[0,1,3]
def zt3:IC := .seq (.reg [oV 3 (.mv (kb false))]) (.seq (.reg [mV 4 0,oE 5 (.load false 1 (.V 1)),nE 6 5,oE 7 (.call zca [([0],(.E 4)),([0],(ki 0)),([0],(.E 6))]),oE 8 (.un .not (.E 7)),vE 3 8]) .ret)
def zt4:List RV:=[.tmp [0] 3]
def yd4:List Nat:=[0,1,8,7,5,4]
def zxt:IC := .seq (.reg [oE 9 (.bin .lss (.V 8) (.V 7))]) (.seq (.cond (.E 9) .skip (.exit 0)) (.seq (.block 1 (.seq (.reg [mV 10 8,vE 5 10]) (.seq (.reg [mV 11 1,mV 12 0,mV 13 5,iE 14 1 12 13,lE 15 14,oE 16 (.callv (.E 11) [([0],(.E 15))])]) (.cond (.E 16) (.seq (.reg [mV 17 5,vE 4 17]) .ret) .skip)))) (.reg [oE 18 (.bin .add (.V 8) (ki 1)),vE 8 18])))
def zpy:IC := .seq (.reg [oV 4 (.mv (ki 0))]) (.seq (.seq (.reg [mV 6 0,oV 7 (.len (.E 6)),oV 8 (.mv (ki 0))]) (.block 0 (.loop zxt))) (.seq (.reg [oV 4 (.mv (ki (-1)))]) .ret))
def zpz:List RV:=[.tmp [0] 4]
def yd5:List Nat:=[0,1,4]
def zt5:IC := .seq (.reg [oV 4 (.mv (kb false))]) (.seq (.reg [mV 5 0,oE 6 (.call zca [([0],(.E 5)),([0],(ki 0)),([0],(ki 40))]),wE 7 6,gE 8 7 .true (.mv (.V 1)),gE 9 7 .true (.call zca [([0],(.E 8)),([0],(ki 1)),([0],(ki 100))]),oE 10 (.pick (.E 7) (.E 9) (kb false)),vE 4 10]) .ret)
def zt6:List RV:=[.tmp [0] 4]
def yd6:List Nat:=[0,1,2]
def zt7:IC := .seq (.reg [oV 1 (.box (.V 0)),oV 2 (.mv (kb false))]) (.seq (.reg [fV 3 0 1,lE 4 3,fV 5 1 1,lE 6 5,bE 7 .leq 4 6,wE 8 7,gE 9 8 .true (.faddr 0 (.V 1)),gE 10 8 .true (.load false 1 (.E 9)),gE 11 8 .true (.call zkf [([0],(.E 10))]),oE 12 (.pick (.E 8) (.E 11) (kb false)),wE 13 12,gE 14 13 .true (.faddr 1 (.V 1)),gE 15 13 .true (.load false 1 (.E 14)),gE 16 13 .true (.call zkf [([0],(.E 15))]),oE 17 (.pick (.E 13) (.E 16) (kb false)),vE 2 17]) .ret)
def zt8:List RV:=[.tmp [0] 2]
def yd7:List Nat:=[0,1,6,4,5]
def zt9:IC := .seq (.reg [oV 4 (.mv (ki 0)),oV 5 (.mv (kb false))]) (.seq (.seq (.reg [mV 7 1,oE 8 (.bin .eql (.E 7) (ki 0)),wE 9 8,gE 10 9 .false (.mv (.V 0)),gE 11 9 .false (.bin .eql (.E 10) (ki (-9223372036854775808))),gE 12 9 .false (.mv (.E 11)),gE 13 12 .true (.mv (.V 1)),gE 14 12 .true (.bin .eql (.E 13) (ki (-1))),gE 15 9 .false (.pick (.E 12) (.E 14) (kb false)),oE 16 (.pick (.E 9) (kb true) (.E 15))]) (.cond (.E 16) (.seq (.reg [oV 4 (.mv (ki 0)),oV 5 (.mv (kb false))]) .ret) .skip)) (.seq (.reg [mV 17 0,mV 18 1,bE 19 .quo 17 18,vE 6 19]) (.seq (.seq (.reg [mV 20 0,mV 21 1,bE 22 .rem 20 21,oE 23 (.bin .neq (.E 22) (ki 0)),wE 24 23,gE 25 24 .true (.mv (.V 0)),gE 26 24 .true (.bin .lss (.E 25) (ki 0)),gE 27 24 .true (.mv (.V 1)),gE 28 24 .true (.bin .lss (.E 27) (ki 0)),gE 29 24 .true (.eqb true [.b] (.E 26) (.E 28)),oE 30 (.pick (.E 24) (.E 29) (kb false))]) (.cond (.E 30) (.reg [mV 31 6,oE 32 (.bin .sub (.E 31) (ki 1)),vE 6 32]) .skip)) (.seq (.reg [mV 33 6,vE 4 33,oV 5 (.mv (kb true))]) .ret))))
def zua:List RV:=[.tmp [0] 4,.tmp [0] 5]
def yd8:List Nat:=[0,1,2,6]
def zp0:IC := .seq (.reg [oV 6 (.mv (ki 0))]) (.seq (.block 0 (.seq (.reg [mV 8 0,mV 9 1,bE 10 .lss 8 9,wE 7 10]) (.cond (.E 7) (.seq (.reg [mV 11 1,vE 6 11]) .ret) (.seq (.reg [mV 13 0,mV 14 2,bE 15 .gtr 13 14,wE 12 15]) (.cond (.E 12) (.seq (.reg [mV 16 2,vE 6 16]) .ret) .skip))))) (.seq (.reg [mV 17 0,vE 6 17]) .ret))
def zp1:List RV:=[.tmp [0] 6]
def yd9:List Nat:=[0,1,4]
def zub:IC := .seq (.reg [oV 4 (.mv (ki 0))]) (.seq (.reg [mV 5 0,oE 6 (.bin .shr (.E 5) (.C (.v (.int .u64 1)))),mV 7 1,oE 8 (.bin .shr (.E 7) (.C (.v (.int .u64 1)))),bE 9 .add 6 8,mV 10 0,mV 11 1,bE 12 .and 10 11,oE 13 (.bin .and (.E 12) (ki 1)),bE 14 .add 9 13,vE 4 14]) .ret)
def zuc:List RV:=[.tmp [0] 4]
def yea:List Nat:=[0,2]
def zud:IC := .seq (.reg [oV 2 (.mv (kb false))]) (.seq (.reg [mV 3 0,oE 4 (.call zdr [([0],(.E 3)),([0],(ki (-1099511627776))),([0],(ki 1099511627776))]),vE 2 4]) .ret)
def zue:List RV:=[.tmp [0] 2]
def yeb:List Nat:=[0,1,4]
def zuf:IC := .seq (.reg [oV 4 (.mv (ki 0))]) (.seq (.reg [mV 5 0,mV 6 1,bE 7 .and 5 6,mV 8 0,mV 9 1,bE 10 .xor 8 9,oE 11 (.bin .shr (.E 10) (.C (.v (.int .u64 1)))),bE 12 .add 7 11,vE 4 12]) .ret)
def zug:List RV:=[.tmp [0] 4]
def yec:List Nat:=[0,1,2,3,4,5,6,17,7,16,18,9,19,20,22,11,24,14,15]
def zdd:IC := .seq (.seq (.reg [mV 28 17,mV 29 3,nE 30 29,bE 31 .lss 28 30]) (.cond (.E 31) .skip (.exit 0))) (.seq (.block 1 (.seq (.regD [(fV 34 1 7,0,0),(lE 35 34,0,0),(mV 36 5,0,0),(iE 37 1 35 36,0,0),(lE 38 37,0,0),(mV 39 3,0,0),(mV 40 17,0,0),(iE 41 1 39 40,0,0),(lE 42 41,0,0),(iE 43 1 38 42,0,0),(lE 44 43,0,0),(mV 45 6,0,0),(bE 46 .leq 44 45,0,0)]) (.cond (.E 46) (.regD [(fV 47 2 16,0,1),(lE 48 47,0,1),(mV 49 3,0,0),(mV 50 17,0,0),(iE 51 1 49 50,0,0),(lE 52 51,0,0),(oE 53 (.bslice 1 1 [iv 0] [(0,(.E 52))]),0,0),(oE 54 (.app 8 1 (.E 48) (.E 53)),0,0),(fV 55 2 16,0,0),(oN (.store [1] (.E 55) (.E 54)),0,0)]) (.regD [(fV 56 3 16,0,1),(lE 57 56,0,1),(mV 58 3,0,0),(mV 59 17,0,0),(iE 60 1 58 59,0,0),(lE 61 60,0,0),(oE 62 (.bslice 1 1 [iv 0] [(0,(.E 61))]),0,0),(oE 63 (.app 8 1 (.E 57) (.E 62)),0,0),(fV 64 3 16,0,0),(oN (.store [1] (.E 64) (.E 63)),0,0)])))) (.reg [mV 32 17,oE 33 (.bin .add (.E 32) (ki 1)),vE 17 33]))
def zuh:IC := .seq (.reg [oV 7 (.box (.V 0)),oV 9 (.box (.V 2)),oV 11 (.box (.V 4)),oV 14 (.alloc [iv 0,iv 0,.e0,.e0,(.v (.bool false)),(.v (.int .u64 0)),(.v (.int .u64 0)),iv 0]),oV 15 (.mv (kb false))]) (.seq (.reg [mV 25 5,mV 26 6,oE 27 (.build [iv 0,iv 0,.e0,.e0,(.v (.bool false)),(.v (.int .u64 0)),(.v (.int .u64 0)),iv 0] [(0,1,(.E 25)),(1,1,(.E 26))]),oV 16 (.alloc [iv 0,iv 0,.e0,.e0,(.v (.bool false)),(.v (.int .u64 0)),(.v (.int .u64 0)),iv 0]),oN (.store [0,0,1,1,0,0,0,0] (.V 16) (.E 27))]) (.seq (.seq (.reg [oV 17 (.mv (ki 0))]) (.block 0 (.loop zdd))) (.seq (.reg [mV 65 1,fV 66 2 16,lE 67 66,oE 68 (.call zf6 [([1],(.E 65)),([1],(.E 67))]),oV 18 (.alloc [iv 0,iv 0]),oN (.store [0,0] (.V 18) (.E 68))]) (.seq (.reg [mV 69 1,fV 70 3 16,lE 71 70,oE 72 (.call zf6 [([1],(.E 69)),([1],(.E 71))]),oV 19 (.alloc [iv 0,iv 0]),oN (.store [0,0] (.V 19) (.E 72))]) (.seq (.regD [(tV 74 2 18,0,0),(fV 75 3 9,0,0),(lE 76 75,0,0),(oE 77 (.call zit [([0,0],(.E 74)),([0],(.E 76))]),0,0),(tV 78 2 19,1,0),(fV 79 3 9,1,0),(lE 80 79,1,0),(oE 81 (.call zit [([0,0],(.E 78)),([0],(.E 80))]),0,0),(oE 82 (.call zne [([0,0,0,0],(.E 77)),([0,0,0,0],(.E 81))]),0,0),(wE 73 82,0,0),(xE 83 0 73,0,0),(xE 84 1 73,0,0),(oV 20 (.allocL [(.v (.bool false)),(.v (.int .u64 0)),(.v (.int .u64 0)),iv 0]),0,0),(oN (.store [0,0,0,0] (.V 20) (.E 83)),0,0),(wE 21 84,0,0)]) (.seq (.reg [tV 85 4 20,fV 86 4 16,oN (.store [0,0,0,0] (.E 86) (.E 85))]) (.seq (.regD [(tV 88 4 20,0,2),(mV 89 1,0,0),(mV 90 3,0,0),(oE 91 (.call zf6 [([1],(.E 89)),([1],(.E 90))]),0,0),(fV 92 3 9,1,0),(lE 93 92,1,0),(oE 94 (.call zit [([0,0],(.E 91)),([0],(.E 93))]),0,0),(oE 95 (.call zkd [([0,0,0,0],(.E 88)),([0,0,0,0],(.E 94))]),0,0),(wE 87 95,0,0),(xE 96 0 87,0,0),(xE 97 1 87,0,0),(vE 22 96,0,0),(wE 23 97,0,0)]) (.seq (.regD [(fV 98 0 18,0,0),(lE 99 98,0,0),(fV 100 4 9,0,0),(lE 101 100,0,0),(bE 102 .geq 99 101,0,0),(wE 103 102,0,0),(gE 104 103 .true (.faddr 0 (.V 19)),0,0),(gE 105 103 .true (.load false 1 (.E 104)),0,0),(gE 106 103 .true (.faddr 4 (.V 9)),0,0),(gE 107 103 .true (.load false 1 (.E 106)),0,0),(gE 108 103 .true (.bin .geq (.E 105) (.E 107)),0,0),(oE 109 (.pick (.E 103) (.E 108) (kb false)),0,0),(wE 110 109,0,0),(gE 111 110 .true (.mv (.V 22)),0,0),(gE 112 110 .true (.bin .gtr (.E 111) (ki 0)),0,0),(oE 113 (.pick (.E 110) (.E 112) (kb false)),0,0),(wE 114 113,0,0),(gE 115 114 .true (.load true 8 (.V 9)),0,0),(gE 116 114 .true (.mv (.V 5)),0,0),(gE 117 114 .true (.call zjx [([0,0,0,0,0,0,0,1],(.E 115)),([0],(.E 116))]),0,0),(gE 118 114 .true (.load true 2 (.V 18)),1,0),(gE 119 114 .true (.faddr 3 (.V 9)),1,0),(gE 120 114 .true (.load false 1 (.E 119)),1,0),(gE 121 114 .true (.load true 2 (.V 11)),1,0),(gE 122 114 .true (.call zg2 [([0,0],(.E 118)),([0],(.E 120)),([0,0],(.E 121))]),0,0),(gE 123 114 .true (.load true 2 (.V 19)),2,0),(gE 124 114 .true (.faddr 3 (.V 9)),2,0),(gE 125 114 .true (.load false 1 (.E 124)),2,0),(gE 126 114 .true (.load true 2 (.V 11)),2,0),(gE 127 114 .true (.call zg2 [([0,0],(.E 123)),([0],(.E 125)),([0,0],(.E 126))]),0,0),(gE 128 114 .true (.call zm8 [([0],(.E 117)),([0],(.E 122)),([0],(.E 127))]),0,0),(oE 129 (.pick (.E 114) (.E 128) (kb false)),0,0),(vE 24 129,0,0)]) (.seq (.reg [tV 130 8 16,mV 131 24,oN (.store [0,0,1,1,0,0,0,0] (.V 14) (.E 130)),vE 15 131]) .ret)))))))))
def zui:List RV:=[.cell [0,0,1,1,0,0,0,0] 14 true,.tmp [0] 15]
def yed:List Nat:=[0,1,2,3,8,6,7,4,5]
def zuj:IC := .seq (.reg [oV 2 (.box (.V 0)),oV 3 (.box (.V 1)),oV 4 (.mv (ki 0)),oV 5 (.mv (kb false))]) (.seq (.reg [tV 10 4 2,tV 11 4 3,oE 12 (.call zkg [([0,0,0,0],(.E 10)),([0,0,0,0],(.E 11))]),wE 9 12,xE 13 0 9,xE 14 1 9,xE 15 2 9,oV 6 (.alloc [(.v (.bool false)),(.v (.int .u64 0)),(.v (.int .u64 0))]),oV 7 (.alloc [(.v (.bool false)),(.v (.int .u64 0)),(.v (.int .u64 0))]),oN (.store [0,0,0] (.V 6) (.E 13)),oN (.store [0,0,0] (.V 7) (.E 14)),vE 8 15]) (.seq (.seq (.reg [mV 16 8,oE 17 (.un .not (.E 16))]) (.cond (.E 17) (.seq (.reg [oV 4 (.mv (ki 0)),oV 5 (.mv (kb false))]) .ret) .skip)) (.seq (.reg [tV 18 3 6,tV 19 3 7,oE 20 (.call znf [([0,0,0],(.E 18)),([0,0,0],(.E 19))]),vE 4 20,oV 5 (.mv (kb true))]) .ret)))
def zuk:List RV:=[.tmp [0] 4,.tmp [0] 5]
def yee:List Nat:=[0,1,2,3,7,5,6]
def zul:IC := .seq (.reg [oV 3 (.box (.V 0)),oV 5 (.box (.V 2)),oV 6 (.mv (ki 0))]) (.seq (.reg [fV 10 1 3,lE 11 10,fV 12 0 3,lE 13 12,mV 14 1,bE 15 .add 13 14,oE 16 (.call zmr [([0],(.E 11)),([0],(.E 15))]),wE 9 16,xE 17 0 9,xE 18 1 9,vE 7 17,wE 8 18]) (.seq (.reg [mV 19 7,fV 20 0 5,lE 21 20,fV 22 1 5,lE 23 22,oE 24 (.call zjw [([0],(.E 19)),([0],(.E 21)),([0],(.E 23))]),vE 6 24]) .ret))
def zum:List RV:=[.tmp [0] 6]
def yef:List Nat:=[0,1,2,3,7,9,4,6,8,5]
def zun:IC := .seq (.reg [oV 2 (.box (.V 0)),oV 3 (.box (.V 1)),oV 4 (.alloc [iv 0,iv 0]),oV 5 (.mv (kb false))]) (.seq (.reg [fV 11 0 2,lE 12 11,fV 13 0 3,lE 14 13,oE 15 (.call zkh [([0],(.E 12)),([0],(.E 14))]),wE 10 15,xE 16 0 10,xE 17 1 10,vE 6 16,vE 7 17]) (.seq (.reg [fV 19 1 2,lE 20 19,fV 21 1 3,lE 22 21,oE 23 (.call zkh [([0],(.E 20)),([0],(.E 22))]),wE 18 23,xE 24 0 18,xE 25 1 18,vE 8 24,vE 9 25]) (.seq (.seq (.reg [mV 26 7,oE 27 (.un .not (.E 26)),wE 28 27,gE 29 28 .false (.mv (.V 9)),gE 30 28 .false (.un .not (.E 29)),oE 31 (.pick (.E 28) (kb true) (.E 30))]) (.cond (.E 31) (.seq (.reg [oE 32 (.build [iv 0,iv 0] []),oN (.store [0,0] (.V 4) (.E 32)),oV 5 (.mv (kb false))]) .ret) .skip)) (.seq (.reg [mV 33 6,mV 34 8,oE 35 (.build [iv 0,iv 0] [(0,1,(.E 33)),(1,1,(.E 34))]),oN (.store [0,0] (.V 4) (.E 35)),oV 5 (.mv (kb true))]) .ret))))
def zuo:List RV:=[.cell [0,0] 4 true,.tmp [0] 5]
def yeg:List Nat:=[0,1,2,3,4]
def zup:IC := .seq (.reg [oV 2 (.box (.V 0)),oV 3 (.box (.V 1)),oV 4 (.mv (kb false))]) (.seq (.regD [(fV 5 0 2,0,0),(lE 6 5,0,0),(fV 7 0 3,0,0),(lE 8 7,0,0),(oE 9 (.call zkj [([0],(.E 6)),([0],(.E 8))]),0,0),(fV 10 1 2,1,0),(lE 11 10,1,0),(fV 12 1 3,1,0),(lE 13 12,1,0),(oE 14 (.call zkj [([0],(.E 11)),([0],(.E 13))]),0,0),(oE 15 (.bslice 2 1 [iv 0] [(0,(.E 9)),(1,(.E 14))]),0,0),(oE 16 (.call zki [([1],(.E 15))]),0,0),(oE 17 (.bin .lss (.E 16) (ki 0)),0,0),(vE 4 17,0,0)]) .ret)
def zuq:List RV:=[.tmp [0] 4]
def yeh:List Nat:=[0,1,2,6]
def zp2:IC := .seq (.reg [oV 6 (.mv (kb false))]) (.seq (.reg [mV 7 0,oE 8 (.bin .neq (.E 7) (ki 1)),wE 9 8,gE 10 9 .true (.mv (.V 0)),gE 11 9 .true (.bin .neq (.E 10) (ki (-1))),oE 12 (.pick (.E 9) (.E 11) (kb false)),wE 13 12,gE 14 13 .false (.mv (.V 0)),gE 15 13 .false (.bin .eql (.E 14) (ki 1)),gE 16 13 .false (.mv (.E 15)),gE 17 16 .true (.mv (.V 1)),gE 18 16 .true (.mv (.V 2)),gE 19 16 .true (.bin .leq (.E 17) (.E 18)),gE 20 13 .false (.pick (.E 16) (.E 19) (kb false)),oE 21 (.pick (.E 13) (kb true) (.E 20)),wE 22 21,gE 23 22 .false (.mv (.V 0)),gE 24 22 .false (.bin .eql (.E 23) (ki (-1))),gE 25 22 .false (.mv (.E 24)),gE 26 25 .true (.mv (.V 1)),gE 27 25 .true (.mv (.V 2)),gE 28 25 .true (.bin .geq (.E 26) (.E 27)),gE 29 22 .false (.pick (.E 25) (.E 28) (kb false)),oE 30 (.pick (.E 22) (kb true) (.E 29)),vE 6 30]) .ret)
def zp3:List RV:=[.tmp [0] 6]
def yei:List Nat:=[0,1,2,3,8,4,6,7,9,5]
def zp4:IC := .seq (.reg [oV 2 (.box (.V 0)),oV 3 (.box (.V 1)),oV 4 (.alloc [(.v (.bool false)),(.v (.int .u64 0)),(.v (.int .u64 0)),iv 0]),oV 5 (.mv (kb false))]) (.seq (.reg [tV 11 4 2,tV 12 4 3,oE 13 (.call zke [([0,0,0,0],(.E 11)),([0,0,0,0],(.E 12))]),wE 10 13,xE 14 0 10,xE 15 1 10,xE 16 2 10,oV 6 (.alloc [(.v (.bool false)),(.v (.int .u64 0)),(.v (.int .u64 0))]),oV 7 (.alloc [(.v (.bool false)),(.v (.int .u64 0)),(.v (.int .u64 0))]),oN (.store [0,0,0] (.V 6) (.E 14)),oN (.store [0,0,0] (.V 7) (.E 15)),vE 8 16]) (.seq (.seq (.reg [mV 17 8,oE 18 (.un .not (.E 17))]) (.cond (.E 18) (.seq (.reg [oE 19 (.build [(.v (.bool false)),(.v (.int .u64 0)),(.v (.int .u64 0)),iv 0] []),oN (.store [0,0,0,0] (.V 4) (.E 19)),oV 5 (.mv (kb false))]) .ret) .skip)) (.seq (.reg [tV 21 3 6,tV 22 3 7,oE 23 (.call zng [([0,0,0],(.E 21)),([0,0,0],(.E 22))]),wE 20 23,xE 24 0 20,xE 25 1 20,oV 9 (.alloc [(.v (.bool false)),(.v (.int .u64 0)),(.v (.int .u64 0))]),oN (.store [0,0,0] (.V 9) (.E 24)),vE 8 25]) (.seq (.seq (.reg [mV 26 8,oE 27 (.un .not (.E 26))]) (.cond (.E 27) (.seq (.reg [oE 28 (.build [(.v (.bool false)),(.v (.int .u64 0)),(.v (.int .u64 0)),iv 0] []),oN (.store [0,0,0,0] (.V 4) (.E 28)),oV 5 (.mv (kb false))]) .ret) .skip)) (.seq (.reg [tV 29 3 9,fV 30 3 2,lE 31 30,fV 32 3 3,lE 33 32,bE 34 .mul 31 33,oE 35 (.call zkk [([0,0,0],(.E 29)),([0],(.E 34))]),xE 36 0 35,xE 37 1 35,oN (.store [0,0,0,0] (.V 4) (.E 36)),vE 5 37]) .ret)))))
def zp5:List RV:=[.cell [0,0,0,0] 4 true,.tmp [0] 5]
def yej:List Nat:=[0,1,4,5]
def zur:IC := .seq (.reg [oV 4 (.alloc [(.v (.bool false)),(.v (.int .u64 0)),(.v (.int .u64 0)),iv 0]),oV 5 (.mv (kb false))]) (.seq (.reg [mV 6 0,mV 7 0,oE 8 (.call znh [([0],(.E 6)),([0],(.E 7))]),mV 9 1,oE 10 (.call zkk [([0,0,0],(.E 8)),([0],(.E 9))]),xE 11 0 10,xE 12 1 10,oN (.store [0,0,0,0] (.V 4) (.E 11)),vE 5 12]) .ret)
def zus:List RV:=[.cell [0,0,0,0] 4 true,.tmp [0] 5]
def yek:List Nat:=[0,1,2,3,4,5,7,9,8,10,6]
def zut:IC := .seq (.reg [oV 2 (.box (.V 0)),oV 3 (.box (.V 1)),oV 4 (.alloc [(.v (.bool false)),(.v (.int .u64 0)),(.v (.int .u64 0))]),oV 5 (.alloc [(.v (.bool false)),(.v (.int .u64 0)),(.v (.int .u64 0))]),oV 6 (.mv (kb false))]) (.seq (.seq (.reg [tV 11 4 2,oE 12 (.call ziu [([0,0,0,0],(.E 11))]),oE 13 (.un .not (.E 12)),wE 14 13,gE 15 14 .false (.load true 4 (.V 3)),gE 16 14 .false (.call ziu [([0,0,0,0],(.E 15))]),gE 17 14 .false (.un .not (.E 16)),oE 18 (.pick (.E 14) (kb true) (.E 17))]) (.cond (.E 18) (.seq (.reg [oE 19 (.build [(.v (.bool false)),(.v (.int .u64 0)),(.v (.int .u64 0))] []),oE 20 (.build [(.v (.bool false)),(.v (.int .u64 0)),(.v (.int .u64 0))] []),oN (.store [0,0,0] (.V 4) (.E 19)),oN (.store [0,0,0] (.V 5) (.E 20)),oV 6 (.mv (kb false))]) .ret) .skip)) (.seq (.reg [fV 22 0 2,tE 23 3 22,fV 24 3 3,lE 25 24,oE 26 (.call zkl [([0,0,0],(.E 23)),([0],(.E 25))]),wE 21 26,xE 27 0 21,xE 28 1 21,oV 7 (.alloc [(.v (.bool false)),(.v (.int .u64 0)),(.v (.int .u64 0))]),oN (.store [0,0,0] (.V 7) (.E 27)),vE 8 28]) (.seq (.reg [fV 30 0 3,tE 31 3 30,fV 32 3 2,lE 33 32,oE 34 (.call zkl [([0,0,0],(.E 31)),([0],(.E 33))]),wE 29 34,xE 35 0 29,xE 36 1 29,oV 9 (.alloc [(.v (.bool false)),(.v (.int .u64 0)),(.v (.int .u64 0))]),oN (.store [0,0,0] (.V 9) (.E 35)),vE 10 36]) (.seq (.regD [(tV 37 3 7,0,0),(tV 38 3 9,0,1),(mV 39 8,0,0),(wE 40 39,0,0),(gE 41 40 .true (.mv (.V 10)),0,0),(oE 42 (.pick (.E 40) (.E 41) (kb false)),0,0),(oN (.store [0,0,0] (.V 4) (.E 37)),0,0),(oN (.store [0,0,0] (.V 5) (.E 38)),0,0),(vE 6 42,0,0)]) .ret))))
def zuu:List RV:=[.cell [0,0,0] 4 true,.cell [0,0,0] 5 true,.tmp [0] 6]
def yel:List Nat:=[0,1,2,3,4]
def zuv:IC := .seq (.reg [oV 2 (.box (.V 0)),oV 3 (.box (.V 1)),oV 4 (.mv (ki 0))]) (.seq (.regD [(fV 5 0 2,0,0),(lE 6 5,0,0),(fV 7 1 2,0,0),(lE 8 7,0,0),(fV 9 2 2,0,0),(lE 10 9,0,0),(oE 11 (.call zfp [([0],(.E 6)),([0],(.E 8)),([0],(.E 10))]),0,0),(fV 12 0 3,1,0),(lE 13 12,1,0),(fV 14 1 3,1,0),(lE 15 14,1,0),(fV 16 2 3,1,0),(lE 17 16,1,0),(oE 18 (.call zfp [([0],(.E 13)),([0],(.E 15)),([0],(.E 17))]),0,0),(oN (.store [0,0,0] (.V 2) (.E 11)),0,0),(oN (.store [0,0,0] (.V 3) (.E 18)),0,0)]) (.seq (.block 0 (.seq (.reg [fV 20 0 2,lE 21 20,wE 22 21,gE 23 22 .true (.faddr 0 (.V 3)),gE 24 22 .true (.load false 1 (.E 23)),gE 25 22 .true (.un .not (.E 24)),oE 26 (.pick (.E 22) (.E 25) (kb false)),wE 19 26]) (.cond (.E 19) (.seq (.reg [oV 4 (.mv (ki (-1)))]) .ret) (.seq (.reg [fV 28 0 3,lE 29 28,wE 30 29,gE 31 30 .true (.faddr 0 (.V 2)),gE 32 30 .true (.load false 1 (.E 31)),gE 33 30 .true (.un .not (.E 32)),oE 34 (.pick (.E 30) (.E 33) (kb false)),wE 27 34]) (.cond (.E 27) (.seq (.reg [oV 4 (.mv (ki 1))]) .ret) (.seq (.reg [fV 36 0 2,lE 37 36,wE 35 37]) (.cond (.E 35) (.seq (.reg [tV 38 3 3,tV 39 3 2,oE 40 (.call ziv [([0,0,0],(.E 38)),([0,0,0],(.E 39))]),vE 4 40]) .ret) .skip))))))) (.seq (.reg [tV 41 3 2,tV 42 3 3,oE 43 (.call ziv [([0,0,0],(.E 41)),([0,0,0],(.E 42))]),vE 4 43]) .ret)))
def zuw:List RV:=[.tmp [0] 4]
def yem:List Nat:=[0,2]
def zux:IC := .seq (.reg [oV 2 (.mv (kb false))]) (.seq (.reg [mV 3 0,oE 4 (.call zdr [([0],(.E 3)),([0],(ki (-2147483647))),([0],(ki 2147483647))]),vE 2 4]) .ret)
def zuy:List RV:=[.tmp [0] 2]
def yen:List Nat:=[0,2]
def zuz:IC := .seq (.reg [oV 2 (.mv (kb false))]) (.seq (.reg [mV 3 0,oE 4 (.call zg1 [([1],(.E 3)),([0],(.C (.fn zkm [])))]),oE 5 (.un .not (.E 4)),vE 2 5]) .ret)
def zu0:List RV:=[.tmp [0] 2]
def yeo:List Nat:=[0,2]
def zu1:IC := .seq (.reg [oV 2 (.mv (kb false))]) (.seq (.reg [mV 3 0,oE 4 (.call zca [([0],(.E 3)),([0],(ki (-1099511627776))),([0],(ki 1099511627776))]),vE 2 4]) .ret)
def zu2:List RV:=[.tmp [0] 2]
def yep:List Nat:=[0,1,2,3,8,4,6,7,9,10,11,5]
def zp6:IC := .seq (.reg [oV 2 (.box (.V 0)),oV 3 (.box (.V 1)),oV 4 (.alloc [(.v (.bool false)),(.v (.int .u64 0)),(.v (.int .u64 0)),iv 0]),oV 5 (.mv (kb false))]) (.seq (.reg [tV 13 4 2,tV 14 4 3,oE 15 (.call zkg [([0,0,0,0],(.E 13)),([0,0,0,0],(.E 14))]),wE 12 15,xE 16 0 12,xE 17 1 12,xE 18 2 12,oV 6 (.alloc [(.v (.bool false)),(.v (.int .u64 0)),(.v (.int .u64 0))]),oV 7 (.alloc [(.v (.bool false)),(.v (.int .u64 0)),(.v (.int .u64 0))]),oN (.store [0,0,0] (.V 6) (.E 16)),oN (.store [0,0,0] (.V 7) (.E 17)),vE 8 18]) (.seq (.seq (.reg [mV 19 8,oE 20 (.un .not (.E 19))]) (.cond (.E 20) (.seq (.reg [oE 21 (.build [(.v (.bool false)),(.v (.int .u64 0)),(.v (.int .u64 0)),iv 0] []),oN (.store [0,0,0,0] (.V 4) (.E 21)),oV 5 (.mv (kb false))]) .ret) .skip)) (.seq (.reg [tV 23 3 6,tV 24 3 7,oE 25 (.call znj [([0,0,0],(.E 23)),([0,0,0],(.E 24))]),wE 22 25,xE 26 0 22,xE 27 1 22,oV 9 (.alloc [(.v (.bool false)),(.v (.int .u64 0)),(.v (.int .u64 0))]),oN (.store [0,0,0] (.V 9) (.E 26)),vE 10 27]) (.seq (.reg [tV 28 3 9,fV 29 3 2,lE 30 29,fV 31 3 3,lE 32 31,bE 33 .mul 30 32,oE 34 (.build [(.v (.bool false)),(.v (.int .u64 0)),(.v (.int .u64 0)),iv 0] [(0,3,(.E 28)),(3,1,(.E 33))]),oV 11 (.alloc [(.v (.bool false)),(.v (.int .u64 0)),(.v (.int .u64 0)),iv 0]),oN (.store [0,0,0,0] (.V 11) (.E 34))]) (.seq (.seq (.reg [mV 35 10,oE 36 (.un .not (.E 35)),wE 37 36,gE 38 37 .false (.load true 4 (.V 11)),gE 39 37 .false (.call zhn [([0,0,0,0],(.E 38))]),gE 40 37 .false (.un .not (.E 39)),oE 41 (.pick (.E 37) (kb true) (.E 40))]) (.cond (.E 41) (.seq (.reg [oE 42 (.build [(.v (.bool false)),(.v (.int .u64 0)),(.v (.int .u64 0)),iv 0] []),oN (.store [0,0,0,0] (.V 4) (.E 42)),oV 5 (.mv (kb false))]) .ret) .skip)) (.seq (.reg [tV 43 4 11,oN (.store [0,0,0,0] (.V 4) (.E 43)),oV 5 (.mv (kb true))]) .ret))))))
def zp7:List RV:=[.cell [0,0,0,0] 4 true,.tmp [0] 5]
def yeq:List Nat:=[0,1,2,5,4]
def zu3:IC := .seq (.reg [oV 2 (.box (.V 0)),oV 4 (.alloc [(.v (.bool false)),(.v (.int .u64 0)),(.v (.int .u64 0)),iv 0])]) (.seq (.reg [fV 8 1 2,lE 9 8,fV 10 0 2,lE 11 10,mV 12 1,bE 13 .add 11 12,oE 14 (.call znk [([0],(.E 9)),([0],(.E 13))]),wE 7 14,xE 15 0 7,xE 16 1 7,oV 5 (.alloc [(.v (.bool false)),(.v (.int .u64 0)),(.v (.int .u64 0)),iv 0]),oN (.store [0,0,0,0] (.V 5) (.E 15)),wE 6 16]) (.seq (.reg [tV 17 4 5,oN (.store [0,0,0,0] (.V 4) (.E 17))]) .ret))
def zu4:List RV:=[.cell [0,0,0,0] 4 true]
def yer:List Nat:=[0,1,2,3,4,5,7,9,8,10,6]
def zu5:IC := .seq (.reg [oV 2 (.box (.V 0)),oV 3 (.box (.V 1)),oV 4 (.alloc [(.v (.bool false)),(.v (.int .u64 0)),(.v (.int .u64 0))]),oV 5 (.alloc [(.v (.bool false)),(.v (.int .u64 0)),(.v (.int .u64 0))]),oV 6 (.mv (kb false))]) (.seq (.seq (.reg [tV 11 4 2,oE 12 (.call zhn [([0,0,0,0],(.E 11))]),oE 13 (.un .not (.E 12)),wE 14 13,gE 15 14 .false (.load true 4 (.V 3)),gE 16 14 .false (.call zhn [([0,0,0,0],(.E 15))]),gE 17 14 .false (.un .not (.E 16)),oE 18 (.pick (.E 14) (kb true) (.E 17))]) (.cond (.E 18) (.seq (.reg [oE 19 (.build [(.v (.bool false)),(.v (.int .u64 0)),(.v (.int .u64 0))] []),oE 20 (.build [(.v (.bool false)),(.v (.int .u64 0)),(.v (.int .u64 0))] []),oN (.store [0,0,0] (.V 4) (.E 19)),oN (.store [0,0,0] (.V 5) (.E 20)),oV 6 (.mv (kb false))]) .ret) .skip)) (.seq (.reg [fV 22 0 2,tE 23 3 22,fV 24 3 3,lE 25 24,oE 26 (.call zkn [([0,0,0],(.E 23)),([0],(.E 25))]),wE 21 26,xE 27 0 21,xE 28 1 21,oV 7 (.alloc [(.v (.bool false)),(.v (.int .u64 0)),(.v (.int .u64 0))]),oN (.store [0,0,0] (.V 7) (.E 27)),vE 8 28]) (.seq (.reg [fV 30 0 3,tE 31 3 30,fV 32 3 2,lE 33 32,oE 34 (.call zkn [([0,0,0],(.E 31)),([0],(.E 33))]),wE 29 34,xE 35 0 29,xE 36 1 29,oV 9 (.alloc [(.v (.bool false)),(.v (.int .u64 0)),(.v (.int .u64 0))]),oN (.store [0,0,0] (.V 9) (.E 35)),vE 10 36]) (.seq (.regD [(tV 37 3 7,0,0),(tV 38 3 9,0,1),(mV 39 8,0,0),(wE 40 39,0,0),(gE 41 40 .true (.mv (.V 10)),0,0),(oE 42 (.pick (.E 40) (.E 41) (kb false)),0,0),(oN (.store [0,0,0] (.V 4) (.E 37)),0,0),(oN (.store [0,0,0] (.V 5) (.E 38)),0,0),(vE 6 42,0,0)]) .ret))))
def zu6:List RV:=[.cell [0,0,0] 4 true,.cell [0,0,0] 5 true,.tmp [0] 6]
def yes:List Nat:=[0,1,2,3,5,6,4]
def zu7:IC := .seq (.reg [oV 2 (.box (.V 0)),oV 3 (.box (.V 1)),oV 4 (.mv (ki 0))]) (.seq (.reg [fV 7 0 2,lE 8 7,wE 9 8,gE 10 9 .true (.load true 3 (.V 2)),gE 11 9 .true (.call zho [([0,0,0],(.E 10))]),gE 12 9 .true (.un .not (.E 11)),oE 13 (.pick (.E 9) (.E 12) (kb false)),vE 5 13]) (.seq (.reg [fV 14 0 3,lE 15 14,wE 16 15,gE 17 16 .true (.load true 3 (.V 3)),gE 18 16 .true (.call zho [([0,0,0],(.E 17))]),gE 19 16 .true (.un .not (.E 18)),oE 20 (.pick (.E 16) (.E 19) (kb false)),vE 6 20]) (.seq (.block 0 (.seq (.reg [mV 22 5,wE 23 22,gE 24 23 .true (.mv (.V 6)),gE 25 23 .true (.un .not (.E 24)),oE 26 (.pick (.E 23) (.E 25) (kb false)),wE 21 26]) (.cond (.E 21) (.seq (.reg [oV 4 (.mv (ki (-1)))]) .ret) (.seq (.reg [mV 28 6,wE 29 28,gE 30 29 .true (.mv (.V 5)),gE 31 29 .true (.un .not (.E 30)),oE 32 (.pick (.E 29) (.E 31) (kb false)),wE 27 32]) (.cond (.E 27) (.seq (.reg [oV 4 (.mv (ki 1))]) .ret) (.seq (.reg [mV 34 5,wE 33 34]) (.cond (.E 33) (.seq (.reg [tV 35 3 3,tV 36 3 2,oE 37 (.call ziw [([0,0,0],(.E 35)),([0,0,0],(.E 36))]),vE 4 37]) .ret) .skip))))))) (.seq (.reg [tV 38 3 2,tV 39 3 3,oE 40 (.call ziw [([0,0,0],(.E 38)),([0,0,0],(.E 39))]),vE 4 40]) .ret))))
def zu8:List RV:=[.tmp [0] 4]
def yeu:List Nat:=[0,1,6,4,5]
def zhq:IC := .seq (.reg [oV 4 (.mv (ki 0)),oV 5 (.mv (kb false))]) (.seq (.reg [mV 7 0,mV 8 1,bE 9 .add 7 8,vE 6 9]) (.seq (.seq (.reg [mV 10 0,oE 11 (.bin .lss (.E 10) (ki 0)),mV 12 1,oE 13 (.bin .lss (.E 12) (ki 0)),oE 14 (.eqb false [.b] (.E 11) (.E 13)),wE 15 14,gE 16 15 .true (.mv (.V 6)),gE 17 15 .true (.bin .lss (.E 16) (ki 0)),gE 18 15 .true (.mv (.V 0)),gE 19 15 .true (.bin .lss (.E 18) (ki 0)),gE 20 15 .true (.eqb true [.b] (.E 17) (.E 19)),oE 21 (.pick (.E 15) (.E 20) (kb false))]) (.cond (.E 21) (.seq (.reg [oV 4 (.mv (ki 0)),oV 5 (.mv (kb false))]) .ret) .skip)) (.seq (.reg [mV 22 6,vE 4 22,oV 5 (.mv (kb true))]) .ret)))
def zhr:List RV:=[.tmp [0] 4,.tmp [0] 5]
def yev:List Nat:=[0,8,7,6,5,3,2]
def z1q:IC := .seq (.reg [oE 9 (.bin .lss (.V 8) (.V 7))]) (.seq (.cond (.E 9) .skip (.exit 0)) (.seq (.block 1 (.seq (.reg [oE 10 (.iaddr 1 (.V 6) (.V 8)),lE 11 10,vE 5 11]) (.seq (.reg [mV 12 5,mV 13 3,bE 14 .neq 12 13]) (.cond (.E 14) (.seq (.reg [mV 15 5,vE 2 15]) .ret) .skip)))) (.reg [oE 16 (.bin .add (.V 8) (ki 1)),vE 8 16])))
def zu9:IC := .seq (.reg [oV 2 (.mv (ki 0))]) (.seq (.reg [oV 3 (.mv (ki 0))]) (.seq (.seq (.reg [oV 6 (.mv (.V 0)),oV 7 (.len (.V 6)),oV 8 (.mv (ki 0))]) (.block 0 (.loop z1q))) (.seq (.reg [mV 17 3,vE 2 17]) .ret)))
def zva:List RV:=[.tmp [0] 2]
def yew:List Nat:=[0,1,5,6,4]
def znu:IC := .seq (.reg [oV 4 (.mv (ki 0))]) (.seq (.reg [mV 7 0,oE 8 (.call zko [([0],(.E 7))]),vE 5 8]) (.seq (.reg [mV 9 1,oE 10 (.call zko [([0],(.E 9))]),vE 6 10]) (.seq (.seq (.reg [mV 11 5]) (.cond (.E 11) (.seq (.seq (.reg [mV 12 6]) (.cond (.E 12) (.seq (.reg [oV 4 (.mv (ki 0))]) .ret) .skip)) (.seq (.reg [oV 4 (.mv (ki (-1)))]) .ret)) .skip)) (.seq (.seq (.reg [mV 13 6]) (.cond (.E 13) (.seq (.reg [oV 4 (.mv (ki 1))]) .ret) .skip)) (.seq (.seq (.reg [mV 14 0,mV 15 1,bE 16 .lss 14 15]) (.cond (.E 16) (.seq (.reg [oV 4 (.mv (ki (-1)))]) .ret) .skip)) (.seq (.seq (.reg [mV 17 0,mV 18 1,bE 19 .gtr 17 18]) (.cond (.E 19) (.seq (.reg [oV 4 (.mv (ki 1))]) .ret) .skip)) (.seq (.reg [oV 4 (.mv (ki 0))]) .ret)))))))
def znv:List RV:=[.tmp [0] 4]
def yex:List Nat:=[0,1,2,3,4,7,8,6,11,12,10,14,5]
def zhs:IC := .seq (.reg [oV 2 (.box (.V 0)),oV 3 (.box (.V 1)),oV 4 (.alloc [(.v (.bool false)),(.v (.int .u64 0)),(.v (.int .u64 0))]),oV 5 (.mv (kb false))]) (.seq (.seq (.reg [tV 15 3 2,oE 16 (.call zf7 [([0,0,0],(.E 15))]),oE 17 (.un .not (.E 16)),wE 18 17,gE 19 18 .false (.load true 3 (.V 3)),gE 20 18 .false (.call zf7 [([0,0,0],(.E 19))]),gE 21 18 .false (.un .not (.E 20)),oE 22 (.pick (.E 18) (kb true) (.E 21))]) (.cond (.E 22) (.seq (.reg [oE 23 (.build [(.v (.bool false)),(.v (.int .u64 0)),(.v (.int .u64 0))] []),oN (.store [0,0,0] (.V 4) (.E 23)),oV 5 (.mv (kb false))]) .ret) .skip)) (.seq (.seq (.reg [fV 24 0 2,lE 25 24,fV 26 0 3,lE 27 26,oE 28 (.eqb true [.b] (.E 25) (.E 27))]) (.cond (.E 28) (.seq (.seq (.reg [tV 29 3 2,tV 30 3 3,oE 31 (.call ziv [([0,0,0],(.E 29)),([0,0,0],(.E 30))]),oE 32 (.bin .lss (.E 31) (ki 0))]) (.cond (.E 32) (.reg [tV 33 3 3,tV 34 3 2,oN (.store [0,0,0] (.V 2) (.E 33)),oN (.store [0,0,0] (.V 3) (.E 34))]) .skip)) (.seq (.reg [fV 36 2 2,lE 37 36,fV 38 2 3,lE 39 38,oE 40 (.call zix [([0],(.E 37)),([0],(.E 39)),([0],(.C (.v (.int .u64 0))))]),wE 35 40,xE 41 0 35,xE 42 1 35,vE 6 41,vE 7 42]) (.seq (.reg [fV 44 1 2,lE 45 44,fV 46 1 3,lE 47 46,mV 48 7,oE 49 (.call zix [([0],(.E 45)),([0],(.E 47)),([0],(.E 48))]),wE 43 49,xE 50 0 43,xE 51 1 43,vE 8 50,wE 9 51]) (.seq (.reg [fV 52 0 2,lE 53 52,mV 54 8,mV 55 6,oE 56 (.call zfp [([0],(.E 53)),([0],(.E 54)),([0],(.E 55))]),oN (.store [0,0,0] (.V 4) (.E 56)),oV 5 (.mv (kb true))]) .ret)))) .skip)) (.seq (.reg [fV 58 2 2,lE 59 58,fV 60 2 3,lE 61 60,oE 62 (.call zhp [([0],(.E 59)),([0],(.E 61)),([0],(.C (.v (.int .u64 0))))]),wE 57 62,xE 63 0 57,xE 64 1 57,vE 10 63,vE 11 64]) (.seq (.reg [fV 66 1 2,lE 67 66,fV 68 1 3,lE 69 68,mV 70 11,oE 71 (.call zhp [([0],(.E 67)),([0],(.E 69)),([0],(.E 70))]),wE 65 71,xE 72 0 65,xE 73 1 65,vE 12 72,wE 13 73]) (.seq (.reg [fV 74 0 2,lE 75 74,mV 76 12,mV 77 10,oE 78 (.call zfp [([0],(.E 75)),([0],(.E 76)),([0],(.E 77))]),oV 14 (.alloc [(.v (.bool false)),(.v (.int .u64 0)),(.v (.int .u64 0))]),oN (.store [0,0,0] (.V 14) (.E 78))]) (.seq (.seq (.reg [tV 79 3 14,oE 80 (.call zf7 [([0,0,0],(.E 79))]),oE 81 (.un .not (.E 80))]) (.cond (.E 81) (.seq (.reg [oE 82 (.build [(.v (.bool false)),(.v (.int .u64 0)),(.v (.int .u64 0))] []),oN (.store [0,0,0] (.V 4) (.E 82)),oV 5 (.mv (kb false))]) .ret) .skip)) (.seq (.reg [tV 83 3 14,oN (.store [0,0,0] (.V 4) (.E 83)),oV 5 (.mv (kb true))]) .ret)))))))
def zht:List RV:=[.cell [0,0,0] 4 true,.tmp [0] 5]
def yey:List Nat:=[0,1,2,6,4,5]
def zvb:IC := .seq (.reg [oV 2 (.box (.V 0)),oV 4 (.alloc [(.v (.bool false)),(.v (.int .u64 0)),(.v (.int .u64 0)),iv 0]),oV 5 (.mv (kb false))]) (.seq (.reg [tV 7 3 2,mV 8 1,oE 9 (.build [(.v (.bool false)),(.v (.int .u64 0)),(.v (.int .u64 0)),iv 0] [(0,3,(.E 7)),(3,1,(.E 8))]),oV 6 (.alloc [(.v (.bool false)),(.v (.int .u64 0)),(.v (.int .u64 0)),iv 0]),oN (.store [0,0,0,0] (.V 6) (.E 9))]) (.seq (.seq (.reg [tV 10 4 6,oE 11 (.call ziu [([0,0,0,0],(.E 10))]),oE 12 (.un .not (.E 11))]) (.cond (.E 12) (.seq (.reg [oE 13 (.build [(.v (.bool false)),(.v (.int .u64 0)),(.v (.int .u64 0)),iv 0] []),oN (.store [0,0,0,0] (.V 4) (.E 13)),oV 5 (.mv (kb false))]) .ret) .skip)) (.seq (.reg [tV 14 4 6,oN (.store [0,0,0,0] (.V 4) (.E 14)),oV 5 (.mv (kb true))]) .ret)))
def zvc:List RV:=[.cell [0,0,0,0] 4 true,.tmp [0] 5]
def yez:List Nat:=[0,1,5,6,4]
def zvd:IC := .seq (.reg [oV 4 (.alloc [(.v (.bool false)),(.v (.int .u64 0)),(.v (.int .u64 0))])]) (.seq (.reg [mV 8 0,oE 9 (.call ziz [([0],(.E 8))]),mV 10 1,oE 11 (.call ziz [([0],(.E 10))]),oE 12 (.call ziy [([0],(.E 9)),([0],(.E 11))]),wE 7 12,xE 13 0 7,xE 14 1 7,vE 5 13,vE 6 14]) (.seq (.reg [mV 15 0,oE 16 (.bin .lss (.E 15) (ki 0)),mV 17 1,oE 18 (.bin .lss (.E 17) (ki 0)),oE 19 (.eqb true [.b] (.E 16) (.E 18)),mV 20 5,mV 21 6,oE 22 (.call zfp [([0],(.E 19)),([0],(.E 20)),([0],(.E 21))]),oN (.store [0,0,0] (.V 4) (.E 22))]) .ret))
def zve:List RV:=[.cell [0,0,0] 4 true]
def ye0:List Nat:=[0,1,2]
def zvf:IC := .seq (.reg [oV 1 (.box (.V 0)),oV 2 (.mv (kb false))]) (.seq (.reg [fV 3 0 1,tE 4 3 3,oE 5 (.call zf7 [([0,0,0],(.E 4))]),wE 6 5,gE 7 6 .true (.faddr 3 (.V 1)),gE 8 6 .true (.load false 1 (.E 7)),gE 9 6 .true (.call zca [([0],(.E 8)),([0],(ki 1)),([0],(ki 1000000))]),oE 10 (.pick (.E 6) (.E 9) (kb false)),vE 2 10]) .ret)
def zvg:List RV:=[.tmp [0] 2]
def ye1:List Nat:=[0,1,2,4,6,8,9,10,7,11,12,5]
def zf9:IC := .seq (.reg [oV 2 (.box (.V 0)),oV 4 (.alloc [(.v (.bool false)),(.v (.int .u64 0)),(.v (.int .u64 0))]),oV 5 (.mv (kb false))]) (.seq (.seq (.reg [tV 13 3 2,oE 14 (.call zf7 [([0,0,0],(.E 13))]),oE 15 (.un .not (.E 14))]) (.cond (.E 15) (.seq (.reg [oE 16 (.build [(.v (.bool false)),(.v (.int .u64 0)),(.v (.int .u64 0))] []),oN (.store [0,0,0] (.V 4) (.E 16)),oV 5 (.mv (kb false))]) .ret) .skip)) (.seq (.reg [mV 17 1,oE 18 (.call ziz [([0],(.E 17))]),vE 6 18]) (.seq (.reg [fV 20 1 2,lE 21 20,mV 22 6,oE 23 (.call ziy [([0],(.E 21)),([0],(.E 22))]),wE 19 23,xE 24 0 19,xE 25 1 19,vE 7 24,vE 8 25]) (.seq (.reg [fV 27 2 2,lE 28 27,mV 29 6,oE 30 (.call ziy [([0],(.E 28)),([0],(.E 29))]),wE 26 30,xE 31 0 26,xE 32 1 26,vE 9 31,vE 10 32]) (.seq (.reg [mV 34 8,mV 35 9,oE 36 (.call zhp [([0],(.E 34)),([0],(.E 35)),([0],(.C (.v (.int .u64 0))))]),wE 33 36,xE 37 0 33,xE 38 1 33,vE 8 37,vE 11 38]) (.seq (.reg [fV 39 0 2,lE 40 39,mV 41 1,oE 42 (.bin .lss (.E 41) (ki 0)),oE 43 (.eqb true [.b] (.E 40) (.E 42)),mV 44 8,mV 45 10,oE 46 (.call zfp [([0],(.E 43)),([0],(.E 44)),([0],(.E 45))]),oV 12 (.alloc [(.v (.bool false)),(.v (.int .u64 0)),(.v (.int .u64 0))]),oN (.store [0,0,0] (.V 12) (.E 46))]) (.seq (.seq (.reg [mV 47 7,oE 48 (.bin .gtr (.E 47) (.C (.v (.int .u64 0)))),wE 49 48,gE 50 49 .false (.mv (.V 11)),gE 51 49 .false (.bin .gtr (.E 50) (.C (.v (.int .u64 0)))),oE 52 (.pick (.E 49) (kb true) (.E 51)),wE 53 52,gE 54 53 .false (.load true 3 (.V 12)),gE 55 53 .false (.call zf7 [([0,0,0],(.E 54))]),gE 56 53 .false (.un .not (.E 55)),oE 57 (.pick (.E 53) (kb true) (.E 56))]) (.cond (.E 57) (.seq (.reg [oE 58 (.build [(.v (.bool false)),(.v (.int .u64 0)),(.v (.int .u64 0))] []),oN (.store [0,0,0] (.V 4) (.E 58)),oV 5 (.mv (kb false))]) .ret) .skip)) (.seq (.reg [tV 59 3 12,oN (.store [0,0,0] (.V 4) (.E 59)),oV 5 (.mv (kb true))]) .ret))))))))
def zga:List RV:=[.cell [0,0,0] 4 true,.tmp [0] 5]
def ye2:List Nat:=[0,1,2,6]
def znw:IC := .seq (.reg [oV 6 (.alloc [(.v (.bool false)),(.v (.int .u64 0)),(.v (.int .u64 0))])]) (.seq (.reg [mV 7 0,wE 8 7,gE 9 8 .true (.mv (.V 1)),gE 10 8 .true (.bin .gtr (.E 9) (.C (.v (.int .u64 0)))),gE 11 8 .true (.mv (.E 10)),gE 12 11 .false (.mv (.V 2)),gE 13 11 .false (.bin .gtr (.E 12) (.C (.v (.int .u64 0)))),gE 14 8 .true (.pick (.E 11) (kb true) (.E 13)),oE 15 (.pick (.E 8) (.E 14) (kb false)),mV 16 1,mV 17 2,oE 18 (.build [(.v (.bool false)),(.v (.int .u64 0)),(.v (.int .u64 0))] [(0,1,(.E 15)),(1,1,(.E 16)),(2,1,(.E 17))]),oN (.store [0,0,0] (.V 6) (.E 18))]) .ret)
def znx:List RV:=[.cell [0,0,0] 6 true]
def ye3:List Nat:=[0,1,2,3,4]
def zvh:IC := .seq (.reg [oV 2 (.box (.V 0)),oV 3 (.box (.V 1)),oV 4 (.mv (ki 0))]) (.seq (.regD [(fV 5 1 2,0,0),(lE 6 5,0,0),(fV 7 1 3,0,0),(lE 8 7,0,0),(oE 9 (.call zkp [([0],(.E 6)),([0],(.E 8))]),0,0),(fV 10 2 2,1,0),(lE 11 10,1,0),(fV 12 2 3,1,0),(lE 13 12,1,0),(oE 14 (.call zkp [([0],(.E 11)),([0],(.E 13))]),0,0),(oE 15 (.bslice 2 1 [iv 0] [(0,(.E 9)),(1,(.E 14))]),0,0),(oE 16 (.call zki [([1],(.E 15))]),0,0),(vE 4 16,0,0)]) .ret)
def zvi:List RV:=[.tmp [0] 4]
def ye4:List Nat:=[0,2]
def zvj:IC := .seq (.reg [oV 2 (.mv (kb false))]) (.seq (.reg [mV 3 0,oE 4 (.call zni [([0],(.E 3))]),oE 5 (.un .not (.E 4)),vE 2 5]) .ret)
def zvk:List RV:=[.tmp [0] 2]
def ye5:List Nat:=[0,2]
def zvl:IC := .seq (.reg [oV 2 (.mv (kb false))]) (.seq (.reg [mV 3 0,oE 4 (.call zca [([0],(.E 3)),([0],(ki (-2147483647))),([0],(ki 2147483647))]),vE 2 4]) .ret)
def zvm:List RV:=[.tmp [0] 2]
def ye6:List Nat:=[0,1,2,3,4,6,7,8,9,5]
def zet:IC := .seq (.reg [oV 2 (.box (.V 0)),oV 3 (.box (.V 1)),oV 4 (.alloc [(.v (.bool false)),(.v (.int .u64 0)),(.v (.int .u64 0))]),oV 5 (.mv (kb false))]) (.seq (.seq (.reg [tV 10 3 2,oE 11 (.call zf8 [([0,0,0],(.E 10))]),oE 12 (.un .not (.E 11)),wE 13 12,gE 14 13 .false (.load true 3 (.V 3)),gE 15 13 .false (.call zf8 [([0,0,0],(.E 14))]),gE 16 13 .false (.un .not (.E 15)),oE 17 (.pick (.E 13) (kb true) (.E 16))]) (.cond (.E 17) (.seq (.reg [oE 18 (.build [(.v (.bool false)),(.v (.int .u64 0)),(.v (.int .u64 0))] []),oN (.store [0,0,0] (.V 4) (.E 18)),oV 5 (.mv (kb false))]) .ret) .skip)) (.seq (.seq (.reg [fV 19 0 2,lE 20 19,fV 21 0 3,lE 22 21,oE 23 (.eqb false [.b] (.E 20) (.E 22))]) (.cond (.E 23) (.seq (.reg [fV 24 0 2,lE 25 24,fV 26 1 2,lE 27 26,fV 28 1 3,lE 29 28,bE 30 .add 27 29,fV 31 2 2,lE 32 31,fV 33 2 3,lE 34 33,bE 35 .add 32 34,oE 36 (.build [(.v (.bool false)),(.v (.int .u64 0)),(.v (.int .u64 0))] [(0,1,(.E 25)),(1,1,(.E 30)),(2,1,(.E 35))]),oV 6 (.alloc [(.v (.bool false)),(.v (.int .u64 0)),(.v (.int .u64 0))]),oN (.store [0,0,0] (.V 6) (.E 36))]) (.seq (.seq (.reg [fV 37 2 6,lE 38 37,fV 39 2 2,lE 40 39,bE 41 .lss 38 40]) (.cond (.E 41) (.reg [fV 42 1 6,lE 43 42,oE 44 (.bin .add (.E 43) (.C (.v (.int .u64 1)))),fV 45 1 6,oN (.store [0] (.E 45) (.E 44))]) .skip)) (.seq (.seq (.reg [tV 46 3 6,oE 47 (.call zf8 [([0,0,0],(.E 46))]),oE 48 (.un .not (.E 47))]) (.cond (.E 48) (.seq (.reg [oE 49 (.build [(.v (.bool false)),(.v (.int .u64 0)),(.v (.int .u64 0))] []),oN (.store [0,0,0] (.V 4) (.E 49)),oV 5 (.mv (kb false))]) .ret) .skip)) (.seq (.reg [tV 50 3 6,oN (.store [0,0,0] (.V 4) (.E 50)),oV 5 (.mv (kb true))]) .ret)))) .skip)) (.seq (.reg [tV 51 3 2,oV 7 (.alloc [(.v (.bool false)),(.v (.int .u64 0)),(.v (.int .u64 0))]),oN (.store [0,0,0] (.V 7) (.E 51))]) (.seq (.reg [tV 52 3 3,oV 8 (.alloc [(.v (.bool false)),(.v (.int .u64 0)),(.v (.int .u64 0))]),oN (.store [0,0,0] (.V 8) (.E 52))]) (.seq (.seq (.reg [tV 53 3 2,tV 54 3 3,oE 55 (.call ziw [([0,0,0],(.E 53)),([0,0,0],(.E 54))]),oE 56 (.bin .lss (.E 55) (ki 0))]) (.cond (.E 56) (.seq (.reg [tV 57 3 3,oN (.store [0,0,0] (.V 7) (.E 57))]) (.reg [tV 58 3 2,oN (.store [0,0,0] (.V 8) (.E 58))])) .skip)) (.seq (.reg [fV 59 0 7,lE 60 59,fV 61 1 7,lE 62 61,fV 63 1 8,lE 64 63,bE 65 .sub 62 64,fV 66 2 7,lE 67 66,fV 68 2 8,lE 69 68,bE 70 .sub 67 69,oE 71 (.build [(.v (.bool false)),(.v (.int .u64 0)),(.v (.int .u64 0))] [(0,1,(.E 60)),(1,1,(.E 65)),(2,1,(.E 70))]),oV 9 (.alloc [(.v (.bool false)),(.v (.int .u64 0)),(.v (.int .u64 0))]),oN (.store [0,0,0] (.V 9) (.E 71))]) (.seq (.seq (.reg [fV 72 2 7,lE 73 72,fV 74 2 8,lE 75 74,bE 76 .lss 73 75]) (.cond (.E 76) (.reg [fV 77 1 9,lE 78 77,oE 79 (.bin .sub (.E 78) (.C (.v (.int .u64 1)))),fV 80 1 9,oN (.store [0] (.E 80) (.E 79))]) .skip)) (.seq (.seq (.reg [tV 81 3 9,oE 82 (.call zho [([0,0,0],(.E 81))])]) (.cond (.E 82) (.reg [fV 83 0 9,oN (.store [0] (.E 83) (kb false))]) .skip)) (.seq (.reg [tV 84 3 9,oN (.store [0,0,0] (.V 4) (.E 84)),oV 5 (.mv (kb true))]) .ret)))))))))
def zeu:List RV:=[.cell [0,0,0] 4 true,.tmp [0] 5]
def ye7:List Nat:=[0,1,2]
def zvn:IC := .seq (.reg [oV 1 (.box (.V 0)),oV 2 (.mv (kb false))]) (.seq (.reg [fV 3 0 1,tE 4 3 3,oE 5 (.call zf8 [([0,0,0],(.E 4))]),wE 6 5,gE 7 6 .true (.faddr 3 (.V 1)),gE 8 6 .true (.load false 1 (.E 7)),gE 9 6 .true (.call zdr [([0],(.E 8)),([0],(ki 1)),([0],(ki 1000000))]),oE 10 (.pick (.E 6) (.E 9) (kb false)),vE 2 10]) .ret)
def zvo:List RV:=[.tmp [0] 2]
def ye8:List Nat:=[0,1,6,4,5]
def zvp:IC := .seq (.reg [oV 4 (.alloc [(.v (.bool false)),(.v (.int .u64 0)),(.v (.int .u64 0)),iv 0]),oV 5 (.mv (kb false))]) (.seq (.reg [mV 7 0,mV 8 0,oE 9 (.call znl [([0],(.E 7)),([0],(.E 8))]),mV 10 1,oE 11 (.build [(.v (.bool false)),(.v (.int .u64 0)),(.v (.int .u64 0)),iv 0] [(0,3,(.E 9)),(3,1,(.E 10))]),oV 6 (.alloc [(.v (.bool false)),(.v (.int .u64 0)),(.v (.int .u64 0)),iv 0]),oN (.store [0,0,0,0] (.V 6) (.E 11))]) (.seq (.seq (.reg [tV 12 4 6,oE 13 (.call zhn [([0,0,0,0],(.E 12))]),oE 14 (.un .not (.E 13))]) (.cond (.E 14) (.seq (.reg [oE 15 (.build [(.v (.bool false)),(.v (.int .u64 0)),(.v (.int .u64 0)),iv 0] []),oN (.store [0,0,0,0] (.V 4) (.E 15)),oV 5 (.mv (kb false))]) .ret) .skip)) (.seq (.reg [tV 16 4 6,oN (.store [0,0,0,0] (.V 4) (.E 16)),oV 5 (.mv (kb true))]) .ret)))
def zvq:List RV:=[.cell [0,0,0,0] 4 true,.tmp [0] 5]
def ye9:List Nat:=[0,1,2,4,6,8,9,11,10,12,7,5]
def zgb:IC := .seq (.reg [oV 2 (.box (.V 0)),oV 4 (.alloc [(.v (.bool false)),(.v (.int .u64 0)),(.v (.int .u64 0))]),oV 5 (.mv (kb false))]) (.seq (.seq (.reg [tV 13 3 2,oE 14 (.call zf8 [([0,0,0],(.E 13))]),oE 15 (.un .not (.E 14))]) (.cond (.E 15) (.seq (.reg [oE 16 (.build [(.v (.bool false)),(.v (.int .u64 0)),(.v (.int .u64 0))] []),oN (.store [0,0,0] (.V 4) (.E 16)),oV 5 (.mv (kb false))]) .ret) .skip)) (.seq (.reg [mV 17 1,oE 18 (.call zi0 [([0],(.E 17))]),vE 6 18]) (.seq (.reg [fV 20 1 2,lE 21 20,mV 22 6,oE 23 (.call zi1 [([0],(.E 21)),([0],(.E 22))]),wE 19 23,xE 24 0 19,xE 25 1 19,vE 7 24,vE 8 25]) (.seq (.reg [fV 27 2 2,lE 28 27,mV 29 6,oE 30 (.call zi1 [([0],(.E 28)),([0],(.E 29))]),wE 26 30,xE 31 0 26,xE 32 1 26,vE 9 31,vE 10 32]) (.seq (.reg [mV 33 8,mV 34 9,bE 35 .add 33 34,vE 11 35]) (.seq (.reg [fV 36 0 2,lE 37 36,mV 38 1,oE 39 (.bin .lss (.E 38) (ki 0)),oE 40 (.eqb true [.b] (.E 37) (.E 39)),mV 41 11,mV 42 10,oE 43 (.build [(.v (.bool false)),(.v (.int .u64 0)),(.v (.int .u64 0))] [(0,1,(.E 40)),(1,1,(.E 41)),(2,1,(.E 42))]),oV 12 (.alloc [(.v (.bool false)),(.v (.int .u64 0)),(.v (.int .u64 0))]),oN (.store [0,0,0] (.V 12) (.E 43))]) (.seq (.seq (.reg [tV 44 3 12,oE 45 (.call zho [([0,0,0],(.E 44))])]) (.cond (.E 45) (.reg [fV 46 0 12,oN (.store [0] (.E 46) (kb false))]) .skip)) (.seq (.seq (.reg [mV 47 7,oE 48 (.bin .gtr (.E 47) (.C (.v (.int .u64 0)))),wE 49 48,gE 50 49 .false (.mv (.V 11)),gE 51 49 .false (.mv (.V 8)),gE 52 49 .false (.bin .lss (.E 50) (.E 51)),oE 53 (.pick (.E 49) (kb true) (.E 52)),wE 54 53,gE 55 54 .false (.load true 3 (.V 12)),gE 56 54 .false (.call zf8 [([0,0,0],(.E 55))]),gE 57 54 .false (.un .not (.E 56)),oE 58 (.pick (.E 54) (kb true) (.E 57))]) (.cond (.E 58) (.seq (.reg [oE 59 (.build [(.v (.bool false)),(.v (.int .u64 0)),(.v (.int .u64 0))] []),oN (.store [0,0,0] (.V 4) (.E 59)),oV 5 (.mv (kb false))]) .ret) .skip)) (.seq (.reg [tV 60 3 12,oN (.store [0,0,0] (.V 4) (.E 60)),oV 5 (.mv (kb true))]) .ret)))))))))
def zgc:List RV:=[.cell [0,0,0] 4 true,.tmp [0] 5]
def yfa:List Nat:=[0,1,2]
def zp8:IC := .seq (.reg [oV 1 (.box (.V 0)),oV 2 (.mv (kb false))]) (.seq (.reg [fV 3 1 1,lE 4 3,oE 5 (.bin .eql (.E 4) (.C (.v (.int .u64 0)))),wE 6 5,gE 7 6 .true (.faddr 2 (.V 1)),gE 8 6 .true (.load false 1 (.E 7)),gE 9 6 .true (.bin .eql (.E 8) (.C (.v (.int .u64 0)))),oE 10 (.pick (.E 6) (.E 9) (kb false)),vE 2 10]) .ret)
def zp9:List RV:=[.tmp [0] 2]
def yfb:List Nat:=[0,1,2,3,4]
def zi2:IC := .seq (.reg [oV 2 (.box (.V 0)),oV 3 (.box (.V 1)),oV 4 (.mv (ki 0))]) (.seq (.block 0 (.seq (.reg [fV 6 1 2,lE 7 6,fV 8 1 3,lE 9 8,bE 10 .lss 7 9,wE 11 10,gE 12 11 .false (.faddr 1 (.V 2)),gE 13 11 .false (.load false 1 (.E 12)),gE 14 11 .false (.faddr 1 (.V 3)),gE 15 11 .false (.load false 1 (.E 14)),gE 16 11 .false (.bin .eql (.E 13) (.E 15)),gE 17 11 .false (.mv (.E 16)),gE 18 17 .true (.faddr 2 (.V 2)),gE 19 17 .true (.load false 1 (.E 18)),gE 20 17 .true (.faddr 2 (.V 3)),gE 21 17 .true (.load false 1 (.E 20)),gE 22 17 .true (.bin .lss (.E 19) (.E 21)),gE 23 11 .false (.pick (.E 17) (.E 22) (kb false)),oE 24 (.pick (.E 11) (kb true) (.E 23)),wE 5 24]) (.cond (.E 5) (.seq (.reg [oV 4 (.mv (ki (-1)))]) .ret) (.seq (.reg [fV 26 1 2,lE 27 26,fV 28 1 3,lE 29 28,bE 30 .gtr 27 29,wE 31 30,gE 32 31 .false (.faddr 2 (.V 2)),gE 33 31 .false (.load false 1 (.E 32)),gE 34 31 .false (.faddr 2 (.V 3)),gE 35 31 .false (.load false 1 (.E 34)),gE 36 31 .false (.bin .gtr (.E 33) (.E 35)),oE 37 (.pick (.E 31) (kb true) (.E 36)),wE 25 37]) (.cond (.E 25) (.seq (.reg [oV 4 (.mv (ki 1))]) .ret) .skip))))) (.seq (.reg [oV 4 (.mv (ki 0))]) .ret))
def zi3:List RV:=[.tmp [0] 4]
def yfc:List Nat:=[0,2]
def zvr:IC := .seq (.reg [oV 2 (.mv (kb false))]) (.seq (.reg [mV 3 0,mV 4 0,bE 5 .neq 3 4,vE 2 5]) .ret)
def zvs:List RV:=[.tmp [0] 2]
def yfd:List Nat:=[0,1,2]
def zk2:IC := .seq (.reg [oV 1 (.box (.V 0)),oV 2 (.mv (kb false))]) (.seq (.reg [fV 3 1 1,lE 4 3,oE 5 (.bin .lss (.E 4) (.C (.v (.int .u64 9223372036854775808)))),wE 6 5,gE 7 6 .true (.faddr 0 (.V 1)),gE 8 6 .true (.load false 1 (.E 7)),gE 9 6 .true (.un .not (.E 8)),gE 10 6 .true (.mv (.E 9)),gE 11 10 .false (.faddr 1 (.V 1)),gE 12 10 .false (.load false 1 (.E 11)),gE 13 10 .false (.bin .gtr (.E 12) (.C (.v (.int .u64 0)))),gE 14 6 .true (.pick (.E 10) (kb true) (.E 13)),gE 15 6 .true (.mv (.E 14)),gE 16 15 .false (.faddr 2 (.V 1)),gE 17 15 .false (.load false 1 (.E 16)),gE 18 15 .false (.bin .gtr (.E 17) (.C (.v (.int .u64 0)))),gE 19 6 .true (.pick (.E 15) (kb true) (.E 18)),oE 20 (.pick (.E 6) (.E 19) (kb false)),vE 2 20]) .ret)
def zk3:List RV:=[.tmp [0] 2]
def yfe:List Nat:=[0,1,6,8,7,10,11,12,9,13,4,5]
def zvt:IC := .seq (.reg [oV 4 (.mv (.C (.v (.int .u64 0)))),oV 5 (.mv (.C (.v (.int .u64 0))))]) (.seq (.reg [mV 14 0,oE 15 (.bin .and (.E 14) (.C (.v (.int .u64 4294967295)))),vE 6 15]) (.seq (.reg [mV 16 0,oE 17 (.bin .shr (.E 16) (.C (.v (.int .u64 32)))),vE 7 17]) (.seq (.reg [mV 18 1,oE 19 (.bin .and (.E 18) (.C (.v (.int .u64 4294967295)))),vE 8 19]) (.seq (.reg [mV 20 1,oE 21 (.bin .shr (.E 20) (.C (.v (.int .u64 32)))),vE 9 21]) (.seq (.reg [mV 22 6,mV 23 8,bE 24 .mul 22 23,vE 10 24]) (.seq (.reg [mV 25 7,mV 26 8,bE 27 .mul 25 26,mV 28 10,oE 29 (.bin .shr (.E 28) (.C (.v (.int .u64 32)))),bE 30 .add 27 29,vE 11 30]) (.seq (.reg [mV 31 11,oE 32 (.bin .and (.E 31) (.C (.v (.int .u64 4294967295)))),vE 12 32]) (.seq (.reg [mV 33 11,oE 34 (.bin .shr (.E 33) (.C (.v (.int .u64 32)))),vE 13 34]) (.seq (.reg [mV 35 12,mV 36 6,mV 37 9,bE 38 .mul 36 37,bE 39 .add 35 38,vE 12 39]) (.seq (.reg [mV 40 7,mV 41 9,bE 42 .mul 40 41,mV 43 13,bE 44 .add 42 43,mV 45 12,oE 46 (.bin .shr (.E 45) (.C (.v (.int .u64 32)))),bE 47 .add 44 46,vE 4 47]) (.seq (.reg [mV 48 0,mV 49 1,bE 50 .mul 48 49,vE 5 50]) .ret)))))))))))
def zvu:List RV:=[.tmp [0] 4,.tmp [0] 5]
def yff:List Nat:=[0,2]
def zvv:IC := .seq (.reg [oV 2 (.mv (.C (.v (.int .u64 0))))]) (.seq (.seq (.reg [mV 3 0,oE 4 (.bin .lss (.E 3) (ki 0))]) (.cond (.E 4) (.seq (.reg [mV 5 0,oE 6 (.convI .u64 (.E 5)),oE 7 (.un .neg (.E 6)),vE 2 7]) .ret) .skip)) (.seq (.reg [mV 8 0,oE 9 (.convI .u64 (.E 8)),vE 2 9]) .ret))
def zvw:List RV:=[.tmp [0] 2]
def yfg:List Nat:=[0,1,5,6,4]
def zny:IC := .seq (.reg [oV 4 (.mv (ki 0))]) (.seq (.reg [mV 7 0,oE 8 (.call zkq [([0],(.E 7))]),vE 5 8]) (.seq (.reg [mV 9 1,oE 10 (.call zkq [([0],(.E 9))]),vE 6 10]) (.seq (.seq (.reg [mV 11 5]) (.cond (.E 11) (.seq (.seq (.reg [mV 12 6]) (.cond (.E 12) (.seq (.reg [oV 4 (.mv (ki 0))]) .ret) .skip)) (.seq (.reg [oV 4 (.mv (ki (-1)))]) .ret)) .skip)) (.seq (.seq (.reg [mV 13 6]) (.cond (.E 13) (.seq (.reg [oV 4 (.mv (ki 1))]) .ret) .skip)) (.seq (.seq (.reg [mV 14 0,mV 15 1,bE 16 .lss 14 15]) (.cond (.E 16) (.seq (.reg [oV 4 (.mv (ki (-1)))]) .ret) .skip)) (.seq (.seq (.reg [mV 17 0,mV 18 1,bE 19 .gtr 17 18]) (.cond (.E 19) (.seq (.reg [oV 4 (.mv (ki 1))]) .ret) .skip)) (.seq (.reg [oV 4 (.mv (ki 0))]) .ret)))))))
def znz:List RV:=[.tmp [0] 4]
def yfh:List Nat:=[0,1,2]
def zk4:IC := .seq (.reg [oV 1 (.box (.V 0)),oV 2 (.mv (kb false))]) (.seq (.reg [fV 3 1 1,lE 4 3,oE 5 (.bin .lss (.E 4) (.C (.v (.int .u64 9223372036854775808)))),wE 6 5,gE 7 6 .true (.faddr 0 (.V 1)),gE 8 6 .true (.load false 1 (.E 7)),gE 9 6 .true (.un .not (.E 8)),gE 10 6 .true (.mv (.E 9)),gE 11 10 .false (.faddr 1 (.V 1)),gE 12 10 .false (.load false 1 (.E 11)),gE 13 10 .false (.bin .gtr (.E 12) (.C (.v (.int .u64 0)))),gE 14 6 .true (.pick (.E 10) (kb true) (.E 13)),gE 15 6 .true (.mv (.E 14)),gE 16 15 .false (.faddr 2 (.V 1)),gE 17 15 .false (.load false 1 (.E 16)),gE 18 15 .false (.bin .gtr (.E 17) (.C (.v (.int .u64 0)))),gE 19 6 .true (.pick (.E 15) (kb true) (.E 18)),oE 20 (.pick (.E 6) (.E 19) (kb false)),vE 2 20]) .ret)
def zk5:List RV:=[.tmp [0] 2]
def yfi:List Nat:=[0,1,5,6,4]
def zvx:IC := .seq (.reg [oV 4 (.alloc [(.v (.bool false)),(.v (.int .u64 0)),(.v (.int .u64 0))])]) (.seq (.reg [mV 8 0,oE 9 (.call zi0 [([0],(.E 8))]),mV 10 1,oE 11 (.call zi0 [([0],(.E 10))]),oE 12 (.call zi1 [([0],(.E 9)),([0],(.E 11))]),wE 7 12,xE 13 0 7,xE 14 1 7,vE 5 13,vE 6 14]) (.seq (.reg [mV 15 0,oE 16 (.bin .lss (.E 15) (ki 0)),mV 17 1,oE 18 (.bin .lss (.E 17) (ki 0)),oE 19 (.eqb true [.b] (.E 16) (.E 18)),wE 20 19,gE 21 20 .true (.mv (.V 0)),gE 22 20 .true (.bin .neq (.E 21) (ki 0)),oE 23 (.pick (.E 20) (.E 22) (kb false)),wE 24 23,gE 25 24 .true (.mv (.V 1)),gE 26 24 .true (.bin .neq (.E 25) (ki 0)),oE 27 (.pick (.E 24) (.E 26) (kb false)),mV 28 5,mV 29 6,oE 30 (.build [(.v (.bool false)),(.v (.int .u64 0)),(.v (.int .u64 0))] [(0,1,(.E 27)),(1,1,(.E 28)),(2,1,(.E 29))]),oN (.store [0,0,0] (.V 4) (.E 30))]) .ret))
def zvy:List RV:=[.cell [0,0,0] 4 true]
def yfj:List Nat:=[0,2]
def zvz:IC := .seq (.reg [oV 2 (.mv (.C (.v (.int .u64 0))))]) (.seq (.seq (.reg [mV 3 0,oE 4 (.bin .lss (.E 3) (ki 0))]) (.cond (.E 4) (.seq (.reg [mV 5 0,oE 6 (.bin .add (.E 5) (ki 1)),oE 7 (.un .neg (.E 6)),oE 8 (.convI .u64 (.E 7)),oE 9 (.bin .add (.E 8) (.C (.v (.int .u64 1)))),vE 2 9]) .ret) .skip)) (.seq (.reg [mV 10 0,oE 11 (.convI .u64 (.E 10)),vE 2 11]) .ret))
def zv0:List RV:=[.tmp [0] 2]
def yfk:List Nat:=[0,1,7,9,6,10,8,11,12,4,5]
def zv1:IC := .seq (.reg [oV 4 (.mv (.C (.v (.int .u64 0)))),oV 5 (.mv (.C (.v (.int .u64 0))))]) (.seq (.reg [mV 13 0,oE 14 (.bin .shr (.E 13) (.C (.v (.int .u64 32)))),vE 6 14]) (.seq (.reg [mV 15 0,oE 16 (.bin .and (.E 15) (.C (.v (.int .u64 4294967295)))),vE 7 16]) (.seq (.reg [mV 17 1,oE 18 (.bin .shr (.E 17) (.C (.v (.int .u64 32)))),vE 8 18]) (.seq (.reg [mV 19 1,oE 20 (.bin .and (.E 19) (.C (.v (.int .u64 4294967295)))),vE 9 20]) (.seq (.reg [mV 21 7,mV 22 9,bE 23 .mul 21 22,vE 10 23]) (.seq (.reg [mV 24 6,mV 25 9,bE 26 .mul 24 25,mV 27 10,oE 28 (.bin .shr (.E 27) (.C (.v (.int .u64 32)))),bE 29 .add 26 28,vE 11 29]) (.seq (.reg [mV 30 7,mV 31 8,bE 32 .mul 30 31,mV 33 11,oE 34 (.bin .and (.E 33) (.C (.v (.int .u64 4294967295)))),bE 35 .add 32 34,vE 12 35]) (.seq (.reg [mV 36 6,mV 37 8,bE 38 .mul 36 37,mV 39 11,oE 40 (.bin .shr (.E 39) (.C (.v (.int .u64 32)))),bE 41 .add 38 40,mV 42 12,oE 43 (.bin .shr (.E 42) (.C (.v (.int .u64 32)))),bE 44 .add 41 43,mV 45 12,oE 46 (.bin .shl (.E 45) (.C (.v (.int .u64 32)))),mV 47 10,oE 48 (.bin .and (.E 47) (.C (.v (.int .u64 4294967295)))),bE 49 .add 46 48,vE 4 44,vE 5 49]) .ret))))))))
def zv2:List RV:=[.tmp [0] 4,.tmp [0] 5]
def yfl:List Nat:=[0,2]
def zv3:IC := .seq (.reg [oV 2 (.mv (kb false))]) (.seq (.reg [mV 3 0,mV 4 0,bE 5 .neq 3 4,vE 2 5]) .ret)
def zv4:List RV:=[.tmp [0] 2]
def tbl:List (Nat×Fun):=[
 (zo3,zaa zkr zks []),
 (zl5,zaa zre zrf []),
 (zl6,zaa zkt zku []),
 (zl7,zaa zkv zkw []),
 (zl8,zaa zrg zrh []),
 (zl9,zaa zri zrj []),
 (zjp,zaa zo4 zo5 []),
 (zma,zaa znm znn []),
 (zmb,zaa zo6 zo7 []),
 (zmc,zaa zo8 zo9 []),
 (zhk,zaa zrk zrl []),
 (zf5,zaa zrm zrn []),
 (zhl,zaa zro zrp []),
 (zg0,zaa zrq zrr []),
 (zmd,zaa zrs zrt []),
 (zij,zaa zru zrv []),
 (zme,zaa zrw zrx []),
 (zmf,zaa zry zrz [true]),
 (zik,zaa zr0 zr1 [true]),
 (zmg,zaa zr2 zr3 [true]),
 (zmh,zaa zr4 zr5 [true]),
 (zjq,zaa zr6 zr7 []),
 (zdr,zaa zr8 zr9 []),
 (zjr,zaa zsa zsb []),
 (zjs,zaa zsc zsd []),
 (zmi,zaa zpa zpb []),
 (zjt,zaa zpc zpd []),
 (zmj,zaa zse zsf []),
 (zmk,zaa zkx zky []),
 (zml,zaa zsg zsh []),
 (zil,zaa zpe zpf []),
 (zmm,zaa zk0 zk1 []),
 (zhm,zaa zpg zph []),
 (zg1,zaa zpi zpj []),
 (zju,zaa zsi zsj []),
 (zca,zaa zsk zsl []),
 (zmn,zaa zsm zsn []),
 (zmo,zaa zso zsp []),
 (zim,zaa zpk zpl []),
 (zio,zaa zsq zsr []),
 (zmp,zaa zno znp []),
 (zjv,zaa zss zst []),
 (zmq,zaa zsu zsv []),
 (zmr,zaa zsw zsx []),
 (zjw,zaa zpn zpo []),
 (zf6,zaa zsy zsz []),
 (zms,zaa znq znr []),
 (zjx,zaa zpp zpq []),
 (zip,zaa zpr zps []),
 (zjy,zaa zs1 zs2 []),
 (zjz,zaa zs3 zs4 []),
 (ziq,zaa zpu zpv []),
 (zj0,zaa zs5 zs6 []),
 (zmt,zaa zs7 zs8 []),
 (zj1,zaa zs9 zta []),
 (zj2,zaa ztb ztc [true]),
 (zj3,zaa ztd zte [true]),
 (zj4,zaa ztf ztg []),
 (zmu,zaa zth zti []),
 (zj5,zaa ztj ztk []),
 (zmv,zaa ztl ztm []),
 (zir,zaa ztn zto []),
 (zmw,zaa ztp ztq []),
 (zis,zaa zpw zpx []),
 (zj6,zaa ztr zts []),
 (zmx,zaa ztt ztu []),
 (zmy,zaa ztv ztw []),
 (zmz,zaa ztx zty []),
 (zm0,zaa ztz zt0 []),
 (zm1,zaa zt1 zt2 []),
 (zj7,zaa zt3 zt4 []),
 (zj8,zaa zpy zpz []),
 (zj9,zaa zt5 zt6 []),
 (zka,zaa zt7 zt8 []),
 (zm2,zaa zt9 zua []),
 (zkb,zaa zp0 zp1 []),
 (zm3,zaa zub zuc []),
 (zkc,zaa zud zue []),
 (zm4,zaa zuf zug []),
 (zm5,zaa zuh zui []),
 (zkd,zaa zuj zuk []),
 (zg2,zaa zul zum []),
 (zm6,zaa zun zuo []),
 (zm7,zaa zup zuq []),
 (zm8,zaa zp2 zp3 []),
 (zm9,zaa zp4 zp5 []),
 (zna,zaa zur zus []),
 (zke,zaa zut zuu []),
 (znb,zaa zuv zuw []),
 (znc,zaa zux zuy []),
 (znd,zaa zuz zu0 []),
 (zkf,zaa zu1 zu2 []),
 (zne,zaa zp6 zp7 []),
 (zit,zaa zu3 zu4 []),
 (zkg,zaa zu5 zu6 []),
 (znf,zaa zu7 zu8 []),
 (zkh,zaa zhq zhr []),
 (zki,zaa zu9 zva []),
 (zkj,zaa znu znv []),
 (zng,zaa zhs zht []),
 (zkk,zaa zvb zvc []),
 (znh,zaa zvd zve []),
 (ziu,zaa zvf zvg []),
 (zkl,zaa zf9 zga []),
 (zfp,zaa znw znx []),
 (ziv,zaa zvh zvi []),
 (zkm,zaa zvj zvk []),
 (zni,zaa zvl zvm []),
 (znj,zaa zet zeu []),
 (zhn,zaa zvn zvo []),
 (znk,zaa zvp zvq []),
 (zkn,zaa zgb zgc []),
 (zho,zaa zp8 zp9 []),
 (ziw,zaa zi2 zi3 []),
 (zko,zaa zvr zvs []),
 (zf7,zaa zk2 zk3 []),
 (zix,.ext zom),
 (zhp,.ext zos),
 (ziy,zaa zvt zvu []),
 (ziz,zaa zvv zvw []),
 (zkp,zaa zny znz []),
 (zf8,zaa zk4 zk5 []),
 (znl,zaa zvx zvy []),
 (zi0,zaa zvz zv0 []),
 (zi1,zaa zv1 zv2 []),
 (zkq,zaa zv3 zv4 [])]
def T:zcc:=fun f=>(tbl.find? fun q=>q.1 == f).map fun q=>q.2
theorem zn0:T zo3=some (zaa zkr zks []):=rfl
@[simp] theorem yrc:zad T zo3=[]:=zaj zn0
theorem z1r:T zl5=some (zaa zre zrf []):=rfl
@[simp] theorem yrd:zad T zl5=[]:=zaj z1r
theorem z1s:T zl6=some (zaa zkt zku []):=rfl
@[simp] theorem yre:zad T zl6=[]:=zaj z1s
theorem z1t:T zl7=some (zaa zkv zkw []):=rfl
@[simp] theorem yrf:zad T zl7=[]:=zaj z1t
theorem z1u:T zl8=some (zaa zrg zrh []):=rfl
@[simp] theorem yrg:zad T zl8=[]:=zaj z1u
theorem z1v:T zl9=some (zaa zri zrj []):=rfl
@[simp] theorem yrh:zad T zl9=[]:=zaj z1v
theorem zxu:T zjp=some (zaa zo4 zo5 []):=rfl
@[simp] theorem yri:zad T zjp=[]:=zaj zxu
theorem z1w:T zma=some (zaa znm znn []):=rfl
@[simp] theorem yrj:zad T zma=[]:=zaj z1w
theorem z1x:T zmb=some (zaa zo6 zo7 []):=rfl
@[simp] theorem yrk:zad T zmb=[]:=zaj z1x
theorem zxv:T zmc=some (zaa zo8 zo9 []):=rfl
@[simp] theorem yrl:zad T zmc=[]:=zaj zxv
theorem z1y:T zhk=some (zaa zrk zrl []):=rfl
@[simp] theorem yrm:zad T zhk=[]:=zaj z1y
theorem z1z:T zf5=some (zaa zrm zrn []):=rfl
@[simp] theorem yrn:zad T zf5=[]:=zaj z1z
theorem z10:T zhl=some (zaa zro zrp []):=rfl
@[simp] theorem yro:zad T zhl=[]:=zaj z10
theorem z11:T zg0=some (zaa zrq zrr []):=rfl
@[simp] theorem yrp:zad T zg0=[]:=zaj z11
theorem z12:T zmd=some (zaa zrs zrt []):=rfl
@[simp] theorem yrq:zad T zmd=[]:=zaj z12
theorem z13:T zij=some (zaa zru zrv []):=rfl
@[simp] theorem yrr:zad T zij=[]:=zaj z13
theorem z14:T zme=some (zaa zrw zrx []):=rfl
@[simp] theorem yrs:zad T zme=[]:=zaj z14
theorem z15:T zmf=some (zaa zry zrz [true]):=rfl
@[simp] theorem yrt:zad T zmf=[true]:=zaj z15
theorem z16:T zik=some (zaa zr0 zr1 [true]):=rfl
@[simp] theorem yru:zad T zik=[true]:=zaj z16
theorem z17:T zmg=some (zaa zr2 zr3 [true]):=rfl
@[simp] theorem yrv:zad T zmg=[true]:=zaj z17
theorem z18:T zmh=some (zaa zr4 zr5 [true]):=rfl
@[simp] theorem yrw:zad T zmh=[true]:=zaj z18
theorem z19:T zjq=some (zaa zr6 zr7 []):=rfl
@[simp] theorem yrx:zad T zjq=[]:=zaj z19
theorem z2a:T zdr=some (zaa zr8 zr9 []):=rfl
@[simp] theorem yry:zad T zdr=[]:=zaj z2a
theorem z2b:T zjr=some (zaa zsa zsb []):=rfl
@[simp] theorem yrz:zad T zjr=[]:=zaj z2b
theorem z2c:T zjs=some (zaa zsc zsd []):=rfl
@[simp] theorem yr0:zad T zjs=[]:=zaj z2c
theorem z2d:T zmi=some (zaa zpa zpb []):=rfl
@[simp] theorem yr1:zad T zmi=[]:=zaj z2d
theorem z2e:T zjt=some (zaa zpc zpd []):=rfl
@[simp] theorem yr2:zad T zjt=[]:=zaj z2e
theorem z2f:T zmj=some (zaa zse zsf []):=rfl
@[simp] theorem yr3:zad T zmj=[]:=zaj z2f
theorem z2g:T zmk=some (zaa zkx zky []):=rfl
@[simp] theorem yr4:zad T zmk=[]:=zaj z2g
theorem z2h:T zml=some (zaa zsg zsh []):=rfl
@[simp] theorem yr5:zad T zml=[]:=zaj z2h
theorem z2i:T zil=some (zaa zpe zpf []):=rfl
@[simp] theorem yr6:zad T zil=[]:=zaj z2i
theorem z2j:T zmm=some (zaa zk0 zk1 []):=rfl
@[simp] theorem yr7:zad T zmm=[]:=zaj z2j
theorem z2k:T zhm=some (zaa zpg zph []):=rfl
@[simp] theorem yr8:zad T zhm=[]:=zaj z2k
theorem zxw:T zg1=some (zaa zpi zpj []):=rfl
@[simp] theorem yr9:zad T zg1=[]:=zaj zxw
theorem z2l:T zju=some (zaa zsi zsj []):=rfl
@[simp] theorem ysa:zad T zju=[]:=zaj z2l
theorem z2m:T zca=some (zaa zsk zsl []):=rfl
@[simp] theorem ysb:zad T zca=[]:=zaj z2m
theorem z2n:T zmn=some (zaa zsm zsn []):=rfl
@[simp] theorem ysc:zad T zmn=[]:=zaj z2n
theorem z2o:T zmo=some (zaa zso zsp []):=rfl
@[simp] theorem ysd:zad T zmo=[]:=zaj z2o
theorem z2p:T zim=some (zaa zpk zpl []):=rfl
@[simp] theorem yse:zad T zim=[]:=zaj z2p
theorem z2q:T zio=some (zaa zsq zsr []):=rfl
@[simp] theorem ysf:zad T zio=[]:=zaj z2q
theorem z2r:T zmp=some (zaa zno znp []):=rfl
@[simp] theorem ysg:zad T zmp=[]:=zaj z2r
theorem z2s:T zjv=some (zaa zss zst []):=rfl
@[simp] theorem ysh:zad T zjv=[]:=zaj z2s
theorem z2t:T zmq=some (zaa zsu zsv []):=rfl
@[simp] theorem ysi:zad T zmq=[]:=zaj z2t
theorem z2u:T zmr=some (zaa zsw zsx []):=rfl
@[simp] theorem ysj:zad T zmr=[]:=zaj z2u
theorem z2v:T zjw=some (zaa zpn zpo []):=rfl
@[simp] theorem ysk:zad T zjw=[]:=zaj z2v
theorem z2w:T zf6=some (zaa zsy zsz []):=rfl
@[simp] theorem ysl:zad T zf6=[]:=zaj z2w
theorem z2x:T zms=some (zaa znq znr []):=rfl
@[simp] theorem ysm:zad T zms=[]:=zaj z2x
theorem z2y:T zjx=some (zaa zpp zpq []):=rfl
@[simp] theorem ysn:zad T zjx=[]:=zaj z2y
theorem zxx:T zip=some (zaa zpr zps []):=rfl
@[simp] theorem yso:zad T zip=[]:=zaj zxx
theorem z2z:T zjy=some (zaa zs1 zs2 []):=rfl
@[simp] theorem ysp:zad T zjy=[]:=zaj z2z
theorem z20:T zjz=some (zaa zs3 zs4 []):=rfl
@[simp] theorem ysq:zad T zjz=[]:=zaj z20
theorem zxy:T ziq=some (zaa zpu zpv []):=rfl
@[simp] theorem ysr:zad T ziq=[]:=zaj zxy
theorem z21:T zj0=some (zaa zs5 zs6 []):=rfl
@[simp] theorem yss:zad T zj0=[]:=zaj z21
theorem z22:T zmt=some (zaa zs7 zs8 []):=rfl
@[simp] theorem yst:zad T zmt=[]:=zaj z22
theorem z23:T zj1=some (zaa zs9 zta []):=rfl
@[simp] theorem ysu:zad T zj1=[]:=zaj z23
theorem z24:T zj2=some (zaa ztb ztc [true]):=rfl
@[simp] theorem ysv:zad T zj2=[true]:=zaj z24
theorem z25:T zj3=some (zaa ztd zte [true]):=rfl
@[simp] theorem ysw:zad T zj3=[true]:=zaj z25
theorem z26:T zj4=some (zaa ztf ztg []):=rfl
@[simp] theorem ysx:zad T zj4=[]:=zaj z26
theorem z27:T zmu=some (zaa zth zti []):=rfl
@[simp] theorem ysy:zad T zmu=[]:=zaj z27
theorem z28:T zj5=some (zaa ztj ztk []):=rfl
@[simp] theorem ysz:zad T zj5=[]:=zaj z28
theorem z29:T zmv=some (zaa ztl ztm []):=rfl
@[simp] theorem ys0:zad T zmv=[]:=zaj z29
theorem z3a:T zir=some (zaa ztn zto []):=rfl
@[simp] theorem ys1:zad T zir=[]:=zaj z3a
theorem z3b:T zmw=some (zaa ztp ztq []):=rfl
@[simp] theorem ys2:zad T zmw=[]:=zaj z3b
theorem z3c:T zis=some (zaa zpw zpx []):=rfl
@[simp] theorem ys3:zad T zis=[]:=zaj z3c
theorem z3d:T zj6=some (zaa ztr zts []):=rfl
@[simp] theorem ys4:zad T zj6=[]:=zaj z3d
theorem z3e:T zmx=some (zaa ztt ztu []):=rfl
@[simp] theorem ys5:zad T zmx=[]:=zaj z3e
theorem z3f:T zmy=some (zaa ztv ztw []):=rfl
@[simp] theorem ys6:zad T zmy=[]:=zaj z3f
theorem z3g:T zmz=some (zaa ztx zty []):=rfl
@[simp] theorem ys7:zad T zmz=[]:=zaj z3g
theorem z3h:T zm0=some (zaa ztz zt0 []):=rfl
@[simp] theorem ys8:zad T zm0=[]:=zaj z3h
theorem z3i:T zm1=some (zaa zt1 zt2 []):=rfl
@[simp] theorem ys9:zad T zm1=[]:=zaj z3i
theorem z3j:T zj7=some (zaa zt3 zt4 []):=rfl
@[simp] theorem yta:zad T zj7=[]:=zaj z3j
theorem zxz:T zj8=some (zaa zpy zpz []):=rfl
@[simp] theorem ytb:zad T zj8=[]:=zaj zxz
theorem z3k:T zj9=some (zaa zt5 zt6 []):=rfl
@[simp] theorem ytc:zad T zj9=[]:=zaj z3k
theorem z3l:T zka=some (zaa zt7 zt8 []):=rfl
@[simp] theorem ytd:zad T zka=[]:=zaj z3l
theorem z3m:T zm2=some (zaa zt9 zua []):=rfl
@[simp] theorem yte:zad T zm2=[]:=zaj z3m
theorem z3n:T zkb=some (zaa zp0 zp1 []):=rfl
@[simp] theorem ytf:zad T zkb=[]:=zaj z3n
theorem z3o:T zm3=some (zaa zub zuc []):=rfl
@[simp] theorem ytg:zad T zm3=[]:=zaj z3o
theorem z3p:T zkc=some (zaa zud zue []):=rfl
@[simp] theorem yth:zad T zkc=[]:=zaj z3p
theorem z3q:T zm4=some (zaa zuf zug []):=rfl
@[simp] theorem yti:zad T zm4=[]:=zaj z3q
theorem z3r:T zm5=some (zaa zuh zui []):=rfl
@[simp] theorem ytj:zad T zm5=[]:=zaj z3r
theorem z3s:T zkd=some (zaa zuj zuk []):=rfl
@[simp] theorem ytk:zad T zkd=[]:=zaj z3s
theorem z3t:T zg2=some (zaa zul zum []):=rfl
@[simp] theorem ytl:zad T zg2=[]:=zaj z3t
theorem z3u:T zm6=some (zaa zun zuo []):=rfl
@[simp] theorem ytm:zad T zm6=[]:=zaj z3u
theorem z3v:T zm7=some (zaa zup zuq []):=rfl
@[simp] theorem ytn:zad T zm7=[]:=zaj z3v
theorem z3w:T zm8=some (zaa zp2 zp3 []):=rfl
@[simp] theorem yto:zad T zm8=[]:=zaj z3w
theorem z3x:T zm9=some (zaa zp4 zp5 []):=rfl
@[simp] theorem ytp:zad T zm9=[]:=zaj z3x
theorem z3y:T zna=some (zaa zur zus []):=rfl
@[simp] theorem ytq:zad T zna=[]:=zaj z3y
theorem z3z:T zke=some (zaa zut zuu []):=rfl
@[simp] theorem ytr:zad T zke=[]:=zaj z3z
theorem z30:T znb=some (zaa zuv zuw []):=rfl
@[simp] theorem yts:zad T znb=[]:=zaj z30
theorem z31:T znc=some (zaa zux zuy []):=rfl
@[simp] theorem ytt:zad T znc=[]:=zaj z31
theorem z32:T znd=some (zaa zuz zu0 []):=rfl
@[simp] theorem ytu:zad T znd=[]:=zaj z32
theorem z33:T zkf=some (zaa zu1 zu2 []):=rfl
@[simp] theorem ytv:zad T zkf=[]:=zaj z33
theorem z34:T zne=some (zaa zp6 zp7 []):=rfl
@[simp] theorem ytw:zad T zne=[]:=zaj z34
theorem z35:T zit=some (zaa zu3 zu4 []):=rfl
@[simp] theorem ytx:zad T zit=[]:=zaj z35
theorem z36:T zkg=some (zaa zu5 zu6 []):=rfl
@[simp] theorem yty:zad T zkg=[]:=zaj z36
theorem z37:T znf=some (zaa zu7 zu8 []):=rfl
@[simp] theorem ytz:zad T znf=[]:=zaj z37
theorem z38:T zkh=some (zaa zhq zhr []):=rfl
@[simp] theorem yt0:zad T zkh=[]:=zaj z38
theorem z39:T zki=some (zaa zu9 zva []):=rfl
@[simp] theorem yt1:zad T zki=[]:=zaj z39
theorem z4a:T zkj=some (zaa znu znv []):=rfl
@[simp] theorem yt2:zad T zkj=[]:=zaj z4a
theorem z4b:T zng=some (zaa zhs zht []):=rfl
@[simp] theorem yt3:zad T zng=[]:=zaj z4b
theorem z4c:T zkk=some (zaa zvb zvc []):=rfl
@[simp] theorem yt4:zad T zkk=[]:=zaj z4c
theorem z4d:T znh=some (zaa zvd zve []):=rfl
@[simp] theorem yt5:zad T znh=[]:=zaj z4d
theorem z4e:T ziu=some (zaa zvf zvg []):=rfl
@[simp] theorem yt6:zad T ziu=[]:=zaj z4e
theorem z4f:T zkl=some (zaa zf9 zga []):=rfl
@[simp] theorem yt7:zad T zkl=[]:=zaj z4f
theorem z4g:T zfp=some (zaa znw znx []):=rfl
@[simp] theorem yt8:zad T zfp=[]:=zaj z4g
theorem z4h:T ziv=some (zaa zvh zvi []):=rfl
@[simp] theorem yt9:zad T ziv=[]:=zaj z4h
theorem z4i:T zkm=some (zaa zvj zvk []):=rfl
@[simp] theorem yua:zad T zkm=[]:=zaj z4i
theorem z4j:T zni=some (zaa zvl zvm []):=rfl
@[simp] theorem yub:zad T zni=[]:=zaj z4j
theorem z4k:T znj=some (zaa zet zeu []):=rfl
@[simp] theorem yuc:zad T znj=[]:=zaj z4k
theorem z4l:T zhn=some (zaa zvn zvo []):=rfl
@[simp] theorem yud:zad T zhn=[]:=zaj z4l
theorem z4m:T znk=some (zaa zvp zvq []):=rfl
@[simp] theorem yue:zad T znk=[]:=zaj z4m
theorem z4n:T zkn=some (zaa zgb zgc []):=rfl
@[simp] theorem yuf:zad T zkn=[]:=zaj z4n
theorem z4o:T zho=some (zaa zp8 zp9 []):=rfl
@[simp] theorem yug:zad T zho=[]:=zaj z4o
theorem z4p:T ziw=some (zaa zi2 zi3 []):=rfl
@[simp] theorem yuh:zad T ziw=[]:=zaj z4p
theorem z4q:T zko=some (zaa zvr zvs []):=rfl
@[simp] theorem yui:zad T zko=[]:=zaj z4q
theorem z4r:T zf7=some (zaa zk2 zk3 []):=rfl
@[simp] theorem yuj:zad T zf7=[]:=zaj z4r
theorem z4s:T zix=some (.ext zom):=rfl
@[simp] theorem yuk:zad T zix=[]:=rfl
theorem zx0:T zhp=some (.ext zos):=rfl
@[simp] theorem yul:zad T zhp=[]:=rfl
theorem z4t:T ziy=some (zaa zvt zvu []):=rfl
@[simp] theorem yum:zad T ziy=[]:=zaj z4t
theorem z4u:T ziz=some (zaa zvv zvw []):=rfl
@[simp] theorem yun:zad T ziz=[]:=zaj z4u
theorem z4v:T zkp=some (zaa zny znz []):=rfl
@[simp] theorem yuo:zad T zkp=[]:=zaj z4v
theorem z4w:T zf8=some (zaa zk4 zk5 []):=rfl
@[simp] theorem yup:zad T zf8=[]:=zaj z4w
theorem z4x:T znl=some (zaa zvx zvy []):=rfl
@[simp] theorem yuq:zad T znl=[]:=zaj z4x
theorem z4y:T zi0=some (zaa zvz zv0 []):=rfl
@[simp] theorem yur:zad T zi0=[]:=zaj z4y
theorem z4z:T zi1=some (zaa zv1 zv2 []):=rfl
@[simp] theorem yus:zad T zi1=[]:=zaj z4z
theorem z40:T zkq=some (zaa zv3 zv4 []):=rfl
@[simp] theorem yut:zad T zkq=[]:=zaj z40
end Go.Pe
