/- The compact texts of the functions that the law reaches; no condition. -/
import Derived.Test.YtadpenaldhkjcaaGreatEvA0
set_option linter.all false
namespace Go.Pe
open Go
abbrev gE (n g:Nat) (b:Bool) (o:IOp):zab:=⟨some (.E n),o,some (.E g,b)⟩
abbrev gV (n g:Nat) (b:Bool) (o:IOp):zab:=⟨some (.V n),o,some (.E g,b)⟩
abbrev fV (n i k:Nat):zab:=⟨some (.E n),.faddr i (.V k),none⟩
abbrev fE (n i k:Nat):zab:=⟨some (.E n),.faddr i (.E k),none⟩
abbrev lE (n k:Nat):zab:=⟨some (.E n),.load false 1 (.E k),none⟩
abbrev tV (n i k:Nat):zab:=⟨some (.E n),.load true i (.V k),none⟩
abbrev tE (n i k:Nat):zab:=⟨some (.E n),.load true i (.E k),none⟩
abbrev iE (n i a b:Nat):zab:=⟨some (.E n),.iaddr i (.E a) (.E b),none⟩
abbrev nE (n k:Nat):zab:=⟨some (.E n),.len (.E k),none⟩
abbrev bE (n:Nat) (o:BinOp) (a b:Nat):zab:=⟨some (.E n),.bin o (.E a) (.E b),none⟩
abbrev wE (n k:Nat):zab:=⟨some (.E n),.mv (.E k),none⟩
def bs (l:List UInt8):ByteArray:=⟨l.toArray⟩
def zqw:Nat:=3
def znb:Nat:=8
def znc:Nat:=9
def znd:Nat:=10
def zne:Nat:=11
def znf:Nat:=12
def zng:Nat:=13
def zjd:Nat:=14
def zkm:Nat:=15
def znh:Nat:=17
def zni:Nat:=18
def zkn:Nat:=20
def zko:Nat:=22
def znj:Nat:=46
def zc9:Nat:=47
def znk:Nat:=48
def znl:Nat:=49
def znm:Nat:=50
def znn:Nat:=51
def zno:Nat:=52
def znp:Nat:=53
def znq:Nat:=54
def znr:Nat:=55
def zbm:Nat:=56
def zns:Nat:=57
def zkp:Nat:=58
def znt:Nat:=59
def znu:Nat:=60
def znv:Nat:=61
def zkq:Nat:=62
def zkr:Nat:=63
def zh4:Nat:=64
def zks:Nat:=65
def zje:Nat:=66
def zhk:Nat:=67
def zkt:Nat:=68
def zcf:Nat:=69
def zku:Nat:=72
def znw:Nat:=76
def znx:Nat:=77
def zny:Nat:=78
def znz:Nat:=80
def zn0:Nat:=82
def zn1:Nat:=95
def zkv:Nat:=96
def zbd:Nat:=97
def zn2:Nat:=98
def zd5:Nat:=99
def zkw:Nat:=100
def zn3:Nat:=101
def zn4:Nat:=102
def zjf:Nat:=103
def zn5:Nat:=104
def zkx:Nat:=105
def zn6:Nat:=106
def zn7:Nat:=107
def zn8:Nat:=108
def zh5:Nat:=109
def zjg:Nat:=110
def zn9:Nat:=111
def zky:Nat:=112
def zkz:Nat:=113
def zoa:Nat:=114
def zjh:Nat:=115
def zob:Nat:=116
def zji:Nat:=117
def zk0:Nat:=118
def zoc:Nat:=119
def zod:Nat:=120
def zoe:Nat:=121
def zof:Nat:=122
def zog:Nat:=123
def zk1:Nat:=124
def zk2:Nat:=125
def zk3:Nat:=126
def zoh:Nat:=127
def zoi:Nat:=128
def zoj:Nat:=129
def zk4:Nat:=131
def zk5:Nat:=134
def zok:Nat:=136
def zol:Nat:=137
def zgn:Nat:=138
def zjj:Nat:=139
def zjk:Nat:=140
def zom:Nat:=141
def zk6:Nat:=142
def zjl:Nat:=143
def zon:Nat:=144
def zoo:Nat:=145
def zjm:Nat:=146
def zop:Nat:=147
def zoq:Nat:=148
def zor:Nat:=149
def zk7:Nat:=150
def zos:Nat:=151
def zjn:Nat:=152
def zot:Nat:=153
def zk8:Nat:=154
def zou:Nat:=155
def zk9:Nat:=157
def zov:Nat:=158
def zow:Nat:=159
def zox:Nat:=160
def zoy:Nat:=161
def zoz:Nat:=162
def zla:Nat:=163
def zlb:Nat:=164
def zlc:Nat:=165
def zld:Nat:=166
def zo0:Nat:=167
def zjo:Nat:=168
def zo1:Nat:=169
def zle:Nat:=170
def zo2:Nat:=171
def zjp:Nat:=172
def zlf:Nat:=173
def zf4:Nat:=174
def zjq:Nat:=175
def zlg:Nat:=176
def zo3:Nat:=177
def zo4:Nat:=178
def zh6:Nat:=179
def zo5:Nat:=180
def zlh:Nat:=181
def zh7:Nat:=182
def zjr:Nat:=183
def zli:Nat:=184
def zlj:Nat:=185
def zlk:Nat:=186
def zo6:Nat:=187
def zll:Nat:=188
def zgo:Nat:=189
def zjs:Nat:=190
def zh8:Nat:=191
def zjt:Nat:=192
def zju:Nat:=193
def zlm:Nat:=194
def zgp:Nat:=195
def zo7:Nat:=196
def zjv:Nat:=197
def zjw:Nat:=198
def zln:Nat:=199
def ye3:List Nat:=[0,3,4,5,6,7,9,11,8,10,12,13,2]
def zlo:IC := .seq (.reg [oV 2 (.mv (kb false))]) (.seq (.seq (.reg [mV 14 0,oE 15 (.call znb [([1],(.E 14))])]) (.cond (.E 15) (.seq (.reg [oV 2 (.mv (kb true))]) .ret) .skip)) (.seq (.reg [mV 17 0,oE 18 (.call znc [([1],(.E 17))]),wE 16 18,xE 19 0 16,xE 20 1 16,xE 21 2 16,xE 22 3 16,xE 23 4 16,oV 3 (.alloc [.e0,.e0]),oV 5 (.alloc [iv 0,iv 0,iv 0,iv 0,iv 0,iv 0,iv 0,.e0]),oV 7 (.alloc [iv 0,iv 0]),oN (.store [1,1] (.V 3) (.E 19)),vE 4 20,oN (.store [0,0,0,0,0,0,0,1] (.V 5) (.E 21)),vE 6 22,oN (.store [0,0] (.V 7) (.E 23))]) (.seq (.reg [tV 25 2 3,mV 26 4,tV 27 8 5,mV 28 6,tV 29 2 7,oE 30 (.call znd [([1,1],(.E 25)),([1],(.E 26)),([0,0,0,0,0,0,0,1],(.E 27)),([1],(.E 28)),([0,0],(.E 29))]),wE 24 30,xE 31 0 24,xE 32 1 24,oV 8 (.alloc [iv 0,iv 0,iv 0,iv 0,iv 0,iv 0]),oN (.store [0,0,0,0,0,0] (.V 8) (.E 31)),vE 9 32]) (.seq (.reg [tV 34 2 3,mV 35 4,tV 36 8 5,mV 37 6,tV 38 2 7,oE 39 (.call zne [([1,1],(.E 34)),([1],(.E 35)),([0,0,0,0,0,0,0,1],(.E 36)),([1],(.E 37)),([0,0],(.E 38))]),wE 33 39,xE 40 0 33,xE 41 1 33,oV 10 (.alloc [iv 0,iv 0,iv 0,iv 0,iv 0,iv 0]),oN (.store [0,0,0,0,0,0] (.V 10) (.E 40)),vE 11 41]) (.seq (.seq (.reg [mV 42 9,mV 43 11,oE 44 (.eqb true [.b] (.E 42) (.E 43)),wE 45 44,gE 46 45 .false (.load true 6 (.V 8)),gE 47 45 .false (.load true 6 (.V 10)),gE 48 45 .false (.eqb true [.i .i64,.i .i64,.i .i64,.i .i64,.i .i64,.i .i64] (.E 46) (.E 47)),oE 49 (.pick (.E 45) (kb true) (.E 48))]) (.cond (.E 49) (.seq (.reg [oV 2 (.mv (kb false))]) .ret) .skip)) (.seq (.seq (.reg [mV 50 9,oE 51 (.un .not (.E 50)),wE 52 51,gE 53 52 .false (.mv (.V 6)),gE 54 52 .false (.mv (.V 4)),gE 55 52 .false (.len (.E 54)),gE 56 52 .false (.call znf [([1],(.E 53)),([0],(.E 55))]),gE 57 52 .false (.un .not (.E 56)),oE 58 (.pick (.E 52) (kb true) (.E 57))]) (.cond (.E 58) (.seq (.reg [oV 2 (.mv (kb true))]) .ret) .skip)) (.seq (.regD [(fV 60 1 3,0,0),(lE 61 60,0,0),(fV 62 0 8,0,0),(lE 63 62,0,0),(iE 64 1 61 63,0,0),(lE 65 64,0,0),(mV 66 6,0,0),(fV 67 1 8,0,0),(lE 68 67,0,0),(oE 69 (.call zng [([1],(.E 65)),([1],(.E 66)),([0],(.E 68))]),0,0),(wE 59 69,0,0),(xE 70 0 59,0,0),(xE 71 1 59,0,0),(vE 12 70,0,0),(vE 13 71,0,0)]) (.seq (.regD [(tV 72 8 5,0,0),(tV 73 2 7,0,0),(tV 74 6 8,0,0),(oE 75 (.call zjd [([0,0,0,0,0,0,0,1],(.E 72)),([0,0],(.E 73)),([0,0,0,0,0,0],(.E 74))]),0,0),(wE 76 75,0,0),(gE 77 76 .true (.mv (.V 4)),0,0),(gE 78 76 .true (.mv (.V 12)),0,0),(gE 79 76 .true (.call zkm [([1],(.E 77)),([1],(.E 78))]),0,0),(gE 80 76 .true (.faddr 2 (.V 8)),1,0),(gE 81 76 .true (.load true 2 (.E 80)),1,0),(gE 82 76 .true (.eqb false [.i .i64,.i .i64] (.E 79) (.E 81)),0,0),(oE 83 (.pick (.E 76) (.E 82) (kb false)),0,0),(wE 84 83,0,0),(gE 85 84 .true (.mv (.V 4)),0,0),(gE 86 84 .true (.mv (.V 13)),0,0),(gE 87 84 .true (.call zkm [([1],(.E 85)),([1],(.E 86))]),0,0),(gE 88 84 .true (.faddr 4 (.V 8)),1,0),(gE 89 84 .true (.load true 2 (.E 88)),1,0),(gE 90 84 .true (.eqb false [.i .i64,.i .i64] (.E 87) (.E 89)),0,0),(oE 91 (.pick (.E 84) (.E 90) (kb false)),0,0),(vE 2 91,0,0)]) .ret))))))))
def zlp:List RV:=[.tmp [0] 2]
def ye4:List Nat:=[0,2]
def zto:IC := .seq (.reg [oV 2 (.mv (kb false))]) (.seq (.reg [mV 3 0,nE 4 3,oE 5 (.bin .gtr (.E 4) (ki 1048576)),vE 2 5]) .ret)
def ztp:List RV:=[.tmp [0] 2]
def ye5:List Nat:=[0,7,11,8,9,10,2,4,6,3,5]
def zqx:IC := .seq (.reg [oV 2 (.alloc [.e0,.e0]),oV 3 (.mv (.C .e0)),oV 4 (.alloc [iv 0,iv 0,iv 0,iv 0,iv 0,iv 0,iv 0,.e0]),oV 5 (.mv (.C .e0)),oV 6 (.alloc [iv 0,iv 0])]) (.seq (.reg [mV 13 0,oE 14 (.call znj [([1],(.E 13))]),wE 12 14,xE 15 0 12,xE 16 1 12,xE 17 2 12,xE 18 3 12,oV 8 (.alloc [.e0,.e0]),oV 10 (.alloc [iv 0,iv 0,iv 0,iv 0,iv 0,iv 0,iv 0,.e0]),vE 7 15,oN (.store [1,1] (.V 8) (.E 16)),vE 9 17,oN (.store [0,0,0,0,0,0,0,1] (.V 10) (.E 18))]) (.seq (.reg [oE 19 (.call zko []),oV 11 (.alloc [iv 0,iv 0]),oN (.store [0,0] (.V 11) (.E 19))]) (.seq (.seq (.reg [mV 20 7,oE 21 (.call zc9 [([0],(.E 20)),([0],(ki 3))])]) (.cond (.E 21) (.reg [mV 22 7,oE 23 (.call znk [([0],(.E 22))]),oN (.store [0,0] (.V 11) (.E 23))]) .skip)) (.seq (.regD [(tV 24 2 8,0,1),(mV 25 9,0,0),(tV 26 8 10,0,2),(mV 27 7,0,0),(mV 28 9,0,0),(nE 29 28,0,0),(oE 30 (.call znl [([0],(.E 27)),([0],(.E 29))]),0,0),(tV 31 2 11,1,2),(oN (.store [1,1] (.V 2) (.E 24)),0,0),(vE 3 25,0,0),(oN (.store [0,0,0,0,0,0,0,1] (.V 4) (.E 26)),0,0),(vE 5 30,0,0),(oN (.store [0,0] (.V 6) (.E 31)),0,0)]) .ret))))
def zqy:List RV:=[.cell [1,1] 2 true,.tmp [1] 3,.cell [0,0,0,0,0,0,0,1] 4 true,.tmp [1] 5,.cell [0,0] 6 true]
def ye6:List Nat:=[0,1,2,3,4,5,7,10,13,9,12,11]
def zo8:IC := .seq (.reg [oV 5 (.box (.V 0)),oV 7 (.box (.V 2)),oV 9 (.box (.V 4)),oV 10 (.alloc [iv 0,iv 0,iv 0,iv 0,iv 0,iv 0]),oV 11 (.mv (kb false))]) (.seq (.seq (.reg [tV 14 2 5,mV 15 1,tV 16 8 7,oE 17 (.call zni [([1,1],(.E 14)),([1],(.E 15)),([0,0,0,0,0,0,0,1],(.E 16))]),oE 18 (.un .not (.E 17))]) (.cond (.E 18) (.seq (.reg [oE 19 (.build [iv 0,iv 0,iv 0,iv 0,iv 0,iv 0] []),oN (.store [0,0,0,0,0,0] (.V 10) (.E 19)),oV 11 (.mv (kb false))]) .ret) .skip)) (.seq (.reg [tV 21 2 5,mV 22 1,mV 23 3,oE 24 (.call znm [([1,1],(.E 21)),([1],(.E 22)),([1],(.E 23))]),wE 20 24,xE 25 0 20,xE 26 1 20,vE 12 25,vE 13 26]) (.seq (.seq (.reg [mV 27 13,oE 28 (.un .not (.E 27))]) (.cond (.E 28) (.seq (.reg [oE 29 (.build [iv 0,iv 0,iv 0,iv 0,iv 0,iv 0] []),oN (.store [0,0,0,0,0,0] (.V 10) (.E 29)),oV 11 (.mv (kb false))]) .ret) .skip)) (.seq (.regD [(tV 30 8 7,0,1),(tV 31 2 9,0,1),(mV 32 12,0,0),(fV 33 4 7,0,0),(lE 34 33,0,0),(oE 35 (.call zno [([1],(.E 32)),([0],(.E 34))]),0,0),(oE 36 (.call znn [([0,0,0,0,0,0,0,1],(.E 30)),([0,0],(.E 31)),([6],(.E 35))]),0,0),(xE 37 0 36,0,0),(xE 38 1 36,0,0),(oN (.store [0,0,0,0,0,0] (.V 10) (.E 37)),0,0),(vE 11 38,0,0)]) .ret))))
def zo9:List RV:=[.cell [0,0,0,0,0,0] 10 true,.tmp [0] 11]
def ye7:List Nat:=[0,1,2,3,4,5,7,10,13,9,12,11]
def zpa:IC := .seq (.reg [oV 5 (.box (.V 0)),oV 7 (.box (.V 2)),oV 9 (.box (.V 4)),oV 10 (.alloc [iv 0,iv 0,iv 0,iv 0,iv 0,iv 0]),oV 11 (.mv (kb false))]) (.seq (.seq (.reg [tV 14 2 5,mV 15 1,tV 16 8 7,oE 17 (.call znh [([1,1],(.E 14)),([1],(.E 15)),([0,0,0,0,0,0,0,1],(.E 16))]),oE 18 (.un .not (.E 17))]) (.cond (.E 18) (.seq (.reg [oE 19 (.build [iv 0,iv 0,iv 0,iv 0,iv 0,iv 0] []),oN (.store [0,0,0,0,0,0] (.V 10) (.E 19)),oV 11 (.mv (kb false))]) .ret) .skip)) (.seq (.reg [tV 21 2 5,mV 22 1,mV 23 3,oE 24 (.call znp [([1,1],(.E 21)),([1],(.E 22)),([1],(.E 23))]),wE 20 24,xE 25 0 20,xE 26 1 20,vE 12 25,vE 13 26]) (.seq (.seq (.reg [mV 27 13,oE 28 (.un .not (.E 27))]) (.cond (.E 28) (.seq (.reg [oE 29 (.build [iv 0,iv 0,iv 0,iv 0,iv 0,iv 0] []),oN (.store [0,0,0,0,0,0] (.V 10) (.E 29)),oV 11 (.mv (kb false))]) .ret) .skip)) (.seq (.regD [(tV 30 8 7,0,1),(tV 31 2 9,0,1),(mV 32 12,0,0),(fV 33 4 7,0,0),(lE 34 33,0,0),(oE 35 (.call znr [([1],(.E 32)),([0],(.E 34))]),0,0),(oE 36 (.call znq [([0,0,0,0,0,0,0,1],(.E 30)),([0,0],(.E 31)),([6],(.E 35))]),0,0),(xE 37 0 36,0,0),(xE 38 1 36,0,0),(oN (.store [0,0,0,0,0,0] (.V 10) (.E 37)),0,0),(vE 11 38,0,0)]) .ret))))
def zpb:List RV:=[.cell [0,0,0,0,0,0] 10 true,.tmp [0] 11]
def ye8:List Nat:=[0,1,5,4]
def zlq:IC := .seq (.seq (.reg [mV 6 5,mV 7 0,nE 8 7,bE 9 .lss 6 8]) (.cond (.E 9) .skip (.exit 0))) (.seq (.block 1 (.seq (.regD [(mV 12 1,0,0),(oE 13 (.bin .lss (.E 12) (ki 1)),0,0),(wE 14 13,0,0),(gE 15 14 .false (.mv (.V 0)),0,0),(gE 16 14 .false (.mv (.V 5)),0,0),(gE 17 14 .false (.iaddr 1 (.E 15) (.E 16)),0,0),(gE 18 14 .false (.load false 1 (.E 17)),0,0),(gE 19 14 .false (.mv (.V 1)),0,0),(gE 20 14 .false (.bin .sub (.E 19) (ki 1)),0,0),(gE 21 14 .false (.call zbm [([0],(.E 18)),([0],(ki 0)),([0],(.E 20))]),0,0),(gE 22 14 .false (.un .not (.E 21)),0,0),(oE 23 (.pick (.E 14) (kb true) (.E 22)),0,0),(wE 24 23,0,0),(gE 25 24 .false (.mv (.V 5)),0,0),(gE 26 24 .false (.bin .gtr (.E 25) (ki 0)),0,0),(gE 27 24 .false (.mv (.E 26)),0,0),(gE 28 27 .true (.mv (.V 0)),0,0),(gE 29 27 .true (.mv (.V 5)),0,0),(gE 30 27 .true (.bin .sub (.E 29) (ki 1)),0,0),(gE 31 27 .true (.iaddr 1 (.E 28) (.E 30)),0,0),(gE 32 27 .true (.load false 1 (.E 31)),0,0),(gE 33 27 .true (.mv (.V 0)),0,0),(gE 34 27 .true (.mv (.V 5)),0,0),(gE 35 27 .true (.iaddr 1 (.E 33) (.E 34)),0,0),(gE 36 27 .true (.load false 1 (.E 35)),0,0),(gE 37 27 .true (.bin .geq (.E 32) (.E 36)),0,0),(gE 38 24 .false (.pick (.E 27) (.E 37) (kb false)),0,0),(oE 39 (.pick (.E 24) (kb true) (.E 38)),0,0)]) (.cond (.E 39) (.seq (.reg [oV 4 (.mv (kb false))]) .ret) .skip))) (.reg [mV 10 5,oE 11 (.bin .add (.E 10) (ki 1)),vE 5 11]))
def ztq:IC := .seq (.reg [oV 4 (.mv (kb false))]) (.seq (.seq (.reg [oV 5 (.mv (ki 0))]) (.block 0 (.loop zlq))) (.seq (.reg [oV 4 (.mv (kb true))]) .ret))
def ztr:List RV:=[.tmp [0] 4]
def ye9:List Nat:=[0,1,2,10,8,9,6,7]
def zqz:IC := .seq (.seq (.reg [mV 13 10,mV 14 1,nE 15 14,bE 16 .lss 13 15]) (.cond (.E 16) .skip (.exit 0))) (.seq (.block 1 (.block 2 (.seq (.reg [mV 27 1,mV 28 10,iE 29 1 27 28,lE 30 29,mV 31 0,nE 32 31,oE 33 (.bin .sub (.E 32) (ki 1)),oE 34 (.call zbm [([0],(.E 30)),([0],(ki 0)),([0],(.E 33))]),oE 35 (.un .not (.E 34)),wE 26 35]) (.cond (.E 26) .skip (.seq (.reg [mV 37 0,mV 38 1,mV 39 10,iE 40 1 38 39,lE 41 40,iE 42 1 37 41,lE 43 42,mV 44 2,bE 45 .leq 43 44,wE 36 45]) (.cond (.E 36) (.reg [mV 46 8,mV 47 1,mV 48 10,iE 49 1 47 48,lE 50 49,oE 51 (.bslice 1 1 [iv 0] [(0,(.E 50))]),oE 52 (.app 8 1 (.E 46) (.E 51)),vE 8 52]) (.reg [mV 19 9,mV 20 1,mV 21 10,iE 22 1 20 21,lE 23 22,oE 24 (.bslice 1 1 [iv 0] [(0,(.E 23))]),oE 25 (.app 8 1 (.E 19) (.E 24)),vE 9 25]))))))) (.reg [mV 17 10,oE 18 (.bin .add (.E 17) (ki 1)),vE 10 18]))
def zts:IC := .seq (.reg [oV 6 (.mv (.C .e0)),oV 7 (.mv (.C .e0))]) (.seq (.reg [oE 11 (.bslice 0 1 [iv 0] []),vE 8 11]) (.seq (.reg [oE 12 (.bslice 0 1 [iv 0] []),vE 9 12]) (.seq (.seq (.reg [oV 10 (.mv (ki 0))]) (.block 0 (.loop zqz))) (.seq (.reg [mV 53 8,mV 54 9,vE 6 53,vE 7 54]) .ret))))
def ztt:List RV:=[.tmp [1] 6,.tmp [1] 7]
def yfa:List Nat:=[0,1,2,3,4,5,9,7,8,6]
def ztu:IC := .seq (.reg [oV 3 (.box (.V 0)),oV 4 (.box (.V 1)),oV 5 (.box (.V 2)),oV 6 (.mv (kb false))]) (.seq (.reg [tV 11 8 3,tV 12 2 4,tV 13 6 5,oE 14 (.call zns [([0,0,0,0,0,0,0,1],(.E 11)),([0,0],(.E 12)),([0,0,0,0,0,0],(.E 13))]),wE 10 14,xE 15 0 10,xE 16 1 10,xE 17 2 10,vE 7 15,vE 8 16,vE 9 17]) (.seq (.reg [tV 18 8 3,oE 19 (.call zkp [([0,0,0,0,0,0,0,1],(.E 18))]),wE 20 19,gE 21 20 .true (.mv (.V 9)),oE 22 (.pick (.E 20) (.E 21) (kb false)),wE 23 22,gE 24 23 .true (.faddr 2 (.V 5)),gE 25 23 .true (.faddr 0 (.E 24)),gE 26 23 .true (.load false 1 (.E 25)),gE 27 23 .true (.faddr 4 (.V 3)),gE 28 23 .true (.load false 1 (.E 27)),gE 29 23 .true (.bin .geq (.E 26) (.E 28)),oE 30 (.pick (.E 23) (.E 29) (kb false)),wE 31 30,gE 32 31 .true (.faddr 4 (.V 5)),gE 33 31 .true (.faddr 0 (.E 32)),gE 34 31 .true (.load false 1 (.E 33)),gE 35 31 .true (.faddr 4 (.V 3)),gE 36 31 .true (.load false 1 (.E 35)),gE 37 31 .true (.bin .geq (.E 34) (.E 36)),oE 38 (.pick (.E 31) (.E 37) (kb false)),wE 39 38,gE 40 39 .true (.load true 8 (.V 3)),gE 41 39 .true (.faddr 0 (.V 5)),gE 42 39 .true (.load false 1 (.E 41)),gE 43 39 .true (.call znu [([0,0,0,0,0,0,0,1],(.E 40)),([0],(.E 42))]),gE 44 39 .true (.mv (.V 7)),gE 45 39 .true (.mv (.V 8)),gE 46 39 .true (.call znt [([0],(.E 43)),([0],(.E 44)),([0],(.E 45))]),oE 47 (.pick (.E 39) (.E 46) (kb false)),wE 48 47,gE 49 48 .true (.load true 6 (.V 5)),gE 50 48 .true (.faddr 3 (.V 3)),gE 51 48 .true (.load false 1 (.E 50)),gE 52 48 .true (.call znv [([0,0,0,0,0,0],(.E 49)),([0],(.E 51))]),oE 53 (.pick (.E 48) (.E 52) (kb false)),vE 6 53]) .ret))
def ztv:List RV:=[.tmp [0] 6]
def yfb:List Nat:=[0,1,6,5,4]
def zz2:IC := .seq (.seq (.reg [mV 8 6,mV 9 1,nE 10 9,bE 11 .lss 8 10]) (.cond (.E 11) .skip (.exit 0))) (.seq (.block 1 (.seq (.reg [fV 14 0 5,lE 15 14,oE 16 (.bin .add (.E 15) (ki 1)),fV 17 0 5,oN (.store [0] (.E 17) (.E 16))]) (.regD [(fV 18 1 5,0,0),(lE 19 18,0,0),(mV 20 0,0,0),(mV 21 1,0,0),(mV 22 6,0,0),(iE 23 1 21 22,0,0),(lE 24 23,0,0),(iE 25 1 20 24,0,0),(lE 26 25,0,0),(bE 27 .add 19 26,0,0),(fV 28 1 5,0,0),(oN (.store [0] (.E 28) (.E 27)),0,0)]))) (.reg [mV 12 6,oE 13 (.bin .add (.E 12) (ki 1)),vE 6 13]))
def ztw:IC := .seq (.reg [oV 4 (.alloc [iv 0,iv 0])]) (.seq (.reg [oE 7 (.build [iv 0,iv 0] []),oV 5 (.alloc [iv 0,iv 0]),oN (.store [0,0] (.V 5) (.E 7))]) (.seq (.seq (.reg [oV 6 (.mv (ki 0))]) (.block 0 (.loop zz2))) (.seq (.reg [tV 29 2 5,oN (.store [0,0] (.V 4) (.E 29))]) .ret)))
def ztx:List RV:=[.cell [0,0] 4 true]
def yfc:List Nat:=[0,1,2,3,5,7,6]
def z26:IC := .seq (.seq (.reg [mV 23 7,mV 24 1,nE 25 24,bE 26 .lss 23 25]) (.cond (.E 26) .skip (.exit 0))) (.seq (.block 1 (.seq (.reg [mV 29 1,mV 30 7,iE 31 1 29 30,lE 32 31,oE 33 (.call zbm [([0],(.E 32)),([0],(ki (-2199023255552))),([0],(ki 2199023255552))]),oE 34 (.un .not (.E 33))]) (.cond (.E 34) (.seq (.reg [oV 6 (.mv (kb false))]) .ret) .skip))) (.reg [mV 27 7,oE 28 (.bin .add (.E 27) (ki 1)),vE 7 28]))
def zlr:IC := .seq (.reg [oV 3 (.box (.V 0)),oV 5 (.box (.V 2)),oV 6 (.mv (kb false))]) (.seq (.seq (.reg [tV 8 2 3,oE 9 (.call zkq [([1,1],(.E 8))]),oE 10 (.un .not (.E 9)),wE 11 10,gE 12 11 .false (.load true 8 (.V 5)),gE 13 11 .false (.call zkr [([0,0,0,0,0,0,0,1],(.E 12))]),gE 14 11 .false (.un .not (.E 13)),oE 15 (.pick (.E 11) (kb true) (.E 14)),wE 16 15,gE 17 16 .false (.mv (.V 1)),gE 18 16 .false (.len (.E 17)),gE 19 16 .false (.load true 2 (.V 3)),gE 20 16 .false (.call zh4 [([1,1],(.E 19))]),gE 21 16 .false (.bin .neq (.E 18) (.E 20)),oE 22 (.pick (.E 16) (kb true) (.E 21))]) (.cond (.E 22) (.seq (.reg [oV 6 (.mv (kb false))]) .ret) .skip)) (.seq (.seq (.reg [oV 7 (.mv (ki 0))]) (.block 0 (.loop z26))) (.seq (.reg [oV 6 (.mv (kb true))]) .ret)))
def zls:List RV:=[.tmp [0] 6]
def yfd:List Nat:=[0,1,2,3,5,6]
def zlu:IC := .seq (.reg [oV 3 (.box (.V 0)),oV 5 (.box (.V 2)),oV 6 (.mv (kb false))]) (.seq (.reg [tV 7 2 3,oE 8 (.call zks [([1,1],(.E 7))]),wE 9 8,gE 10 9 .true (.load true 8 (.V 5)),gE 11 9 .true (.call zkp [([0,0,0,0,0,0,0,1],(.E 10))]),oE 12 (.pick (.E 9) (.E 11) (kb false)),wE 13 12,gE 14 13 .true (.mv (.V 1)),gE 15 13 .true (.len (.E 14)),gE 16 13 .true (.load true 2 (.V 3)),gE 17 13 .true (.call zje [([1,1],(.E 16))]),gE 18 13 .true (.bin .eql (.E 15) (.E 17)),oE 19 (.pick (.E 13) (.E 18) (kb false)),wE 20 19,gE 21 20 .true (.mv (.V 1)),gE 22 20 .true (.call zhk [([1],(.E 21)),([0],(.C (.fn zkt [])))]),gE 23 20 .true (.un .not (.E 22)),oE 24 (.pick (.E 20) (.E 23) (kb false)),vE 6 24]) .ret)
def zlv:List RV:=[.tmp [0] 6]
def yfe:List Nat:=[0,1,2,3,5,8,6,7]
def zpc:IC := .seq (.reg [oV 3 (.box (.V 0)),oV 5 (.box (.V 2)),oV 6 (.mv (ki 0)),oV 7 (.mv (kb false))]) (.seq (.seq (.reg [fV 10 0 3,lE 11 10,oE 12 (.call zbm [([0],(.E 11)),([0],(ki 0)),([0],(ki 40))]),oE 13 (.un .not (.E 12)),wE 14 13,gE 15 14 .false (.mv (.V 1)),gE 16 14 .false (.call zbm [([0],(.E 15)),([0],(ki 1)),([0],(ki 100))]),gE 17 14 .false (.un .not (.E 16)),oE 18 (.pick (.E 14) (kb true) (.E 17)),wE 19 18,gE 20 19 .false (.load true 2 (.V 5)),gE 21 19 .false (.call znw [([0,0],(.E 20))]),gE 22 19 .false (.un .not (.E 21)),oE 23 (.pick (.E 19) (kb true) (.E 22))]) (.cond (.E 23) (.seq (.reg [oV 6 (.mv (ki 0)),oV 7 (.mv (kb false))]) .ret) .skip)) (.seq (.reg [fV 25 1 3,lE 26 25,fV 27 0 3,lE 28 27,mV 29 1,bE 30 .add 28 29,oE 31 (.call znx [([0],(.E 26)),([0],(.E 30))]),wE 24 31,xE 32 0 24,xE 33 1 24,vE 8 32,wE 9 33]) (.seq (.reg [mV 34 8,fV 35 0 5,lE 36 35,fV 37 1 5,lE 38 37,oE 39 (.call zny [([0],(.E 34)),([0],(.E 36)),([0],(.E 38))]),vE 6 39,oV 7 (.mv (kb true))]) .ret)))
def zpd:List RV:=[.tmp [0] 6,.tmp [0] 7]
def yff:List Nat:=[0]
def zty:IC := .seq (.reg [oV 0 (.alloc [iv 0,iv 0])]) (.seq (.reg [oE 1 (.build [iv 0,iv 0] [(0,1,(ki (-1099511627776))),(1,1,(ki 1099511627776))]),oN (.store [0,0] (.V 0) (.E 1))]) .ret)
def ztz:List RV:=[.cell [0,0] 0 true]
def yfg:List Nat:=[0,6,7,10,8,9,11,12,3,5,2,4]
def zt0:IC := .seq (.seq (.reg [mV 20 10,mV 21 8,bE 22 .lss 20 21]) (.cond (.E 22) .skip (.exit 0))) (.seq (.block 1 (.seq (.reg [mV 25 6,oE 26 (.call zbd [([0],(.E 25)),([0],(ki 41))]),oE 27 (.bin .sub (.E 26) (ki 20)),oE 28 (.bin .mul (ki 100) (.E 27)),mV 29 6,oE 30 (.call zbd [([0],(.E 29)),([0],(ki 3))]),bE 31 .add 28 30,vE 11 31]) (.seq (.seq (.reg [fV 32 1 7,lE 33 32,oE 34 (.iaddr 1 (.E 33) (ki 0)),lE 35 34,nE 36 35,mV 37 10,bE 38 .gtr 36 37,wE 39 38,gE 40 39 .true (.mv (.V 6)),gE 41 39 .true (.call zc9 [([0],(.E 40)),([0],(ki 4))]),gE 42 39 .true (.un .not (.E 41)),oE 43 (.pick (.E 39) (.E 42) (kb false))]) (.cond (.E 43) (.regD [(fV 44 1 7,0,1),(lE 45 44,0,1),(oE 46 (.iaddr 1 (.E 45) (ki 0)),0,1),(lE 47 46,0,1),(mV 48 10,0,0),(iE 49 1 47 48,0,1),(lE 50 49,0,1),(oE 51 (.bin .mul (ki 300) (.E 50)),0,0),(oE 52 (.bin .sub (.E 51) (ki 400)),0,0),(mV 53 6,0,0),(oE 54 (.call zbd [([0],(.E 53)),([0],(ki 4))]),0,0),(oE 55 (.bin .mul (ki 50) (.E 54)),0,0),(bE 56 .add 52 55,0,0),(vE 11 56,0,0)]) .skip)) (.reg [mV 57 9,mV 58 11,oE 59 (.bslice 1 1 [iv 0] [(0,(.E 58))]),oE 60 (.app 8 1 (.E 57) (.E 59)),vE 9 60])))) (.reg [mV 23 10,oE 24 (.bin .add (.E 23) (ki 1)),vE 10 24]))
def zt1:IC := .seq (.reg [oV 2 (.mv (.C (.v (.pointer none)))),oV 3 (.alloc [.e0,.e0]),oV 4 (.mv (.C .e0)),oV 5 (.alloc [iv 0,iv 0,iv 0,iv 0,iv 0,iv 0,iv 0,.e0])]) (.seq (.reg [mV 13 0,oE 14 (.call zn1 [([1],(.E 13))]),vE 6 14]) (.seq (.reg [mV 15 6,oE 16 (.call zkv [([0],(.E 15))]),oV 7 (.alloc [.e0,.e0]),oN (.store [1,1] (.V 7) (.E 16))]) (.seq (.reg [tV 17 2 7,oE 18 (.call zh4 [([1,1],(.E 17))]),vE 8 18]) (.seq (.reg [oE 19 (.bslice 0 1 [iv 0] []),vE 9 19]) (.seq (.seq (.reg [oV 10 (.mv (ki 0))]) (.block 0 (.loop zt0))) (.seq (.seq (.reg [mV 61 6,oE 62 (.call zc9 [([0],(.E 61)),([0],(ki 12))])]) (.cond (.E 62) (.reg [mV 63 6,mV 64 8,oE 65 (.call zn2 [([0],(.E 63)),([0],(.E 64))]),vE 9 65]) .skip)) (.seq (.seq (.reg [mV 66 6,oE 67 (.call zc9 [([0],(.E 66)),([0],(ki 20))])]) (.cond (.E 67) (.reg [mV 68 9,mV 69 6,oE 70 (.bslice 3 1 [iv 0] [(0,(ki 0)),(1,(ki 2199023255552)),(2,(ki 2199023255553))]),oE 71 (.call zd5 [([0],(.E 69)),([1],(.E 70))]),oE 72 (.bslice 1 1 [iv 0] [(0,(.E 71))]),oE 73 (.app 8 1 (.E 68) (.E 72)),vE 9 73]) .skip)) (.seq (.seq (.reg [mV 74 8,oE 75 (.bin .gtr (.E 74) (ki 0)),wE 76 75,gE 77 76 .true (.mv (.V 6)),gE 78 76 .true (.call zc9 [([0],(.E 77)),([0],(ki 20))]),oE 79 (.pick (.E 76) (.E 78) (kb false))]) (.cond (.E 79) (.reg [mV 80 9,mV 81 6,oE 82 (.bslice 4 1 [iv 0] [(0,(ki 2199023255552)),(1,(ki 2199023255553)),(2,(ki (-2199023255552))),(3,(ki (-2199023255553)))]),oE 83 (.call zd5 [([0],(.E 81)),([1],(.E 82))]),oE 84 (.iaddr 1 (.E 80) (ki 0)),oN (.store [0] (.E 84) (.E 83))]) .skip)) (.seq (.reg [mV 85 6,oE 86 (.call zkw [([0],(.E 85))]),oV 12 (.alloc [iv 0,iv 0,iv 0,iv 0,iv 0,iv 0,iv 0,.e0]),oN (.store [0,0,0,0,0,0,0,1] (.V 12) (.E 86))]) (.seq (.seq (.reg [mV 87 6,oE 88 (.call zc9 [([0],(.E 87)),([0],(ki 20))])]) (.cond (.E 88) (.reg [mV 89 6,oE 90 (.call zn3 [([0],(.E 89))]),oN (.store [0,0,0,0,0,0,0,1] (.V 12) (.E 90))]) .skip)) (.seq (.seq (.reg [mV 91 6,oE 92 (.call zc9 [([0],(.E 91)),([0],(ki 20))])]) (.cond (.E 92) (.reg [mV 93 6,oE 94 (.call zn4 [([0],(.E 93))]),oN (.store [1,1] (.V 7) (.E 94))]) .skip)) (.seq (.regD [(mV 95 6,0,0),(tV 96 2 7,0,0),(mV 97 9,0,0),(tV 98 8 12,0,1),(vE 2 95,0,0),(oN (.store [1,1] (.V 3) (.E 96)),0,0),(vE 4 97,0,0),(oN (.store [0,0,0,0,0,0,0,1] (.V 5) (.E 98)),0,0)]) .ret))))))))))))
def zt2:List RV:=[.tmp [0] 2,.cell [1,1] 3 true,.tmp [1] 4,.cell [0,0,0,0,0,0,0,1] 5 true]
def yfh:List Nat:=[0,1,4]
def zt3:IC := .seq (.reg [oV 4 (.mv (kb false))]) (.seq (.reg [mV 5 0,mV 6 1,oE 7 (.call zbd [([0],(.E 5)),([0],(.E 6))]),oE 8 (.bin .eql (.E 7) (ki 0)),vE 4 8]) .ret)
def zt4:List RV:=[.tmp [0] 4]
def yfi:List Nat:=[0,5,2,3]
def zpe:IC := .seq (.reg [oV 2 (.alloc [iv 0,iv 0])]) (.seq (.seq (.reg [mV 4 0,oV 5 (.call zbd [([0],(.E 4)),([0],(ki 4))])]) (.block 0 (.seq (.reg [oE 7 (.bin .eql (.V 5) (ki 0)),wE 6 7]) (.cond (.E 6) (.seq (.reg [oE 8 (.call zko []),oN (.store [0,0] (.V 2) (.E 8))]) .ret) (.seq (.reg [oE 10 (.bin .eql (.V 5) (ki 1)),wE 9 10]) (.cond (.E 9) (.seq (.reg [mV 11 0,oE 12 (.call zjf [([0],(.E 11))]),mV 13 0,oE 14 (.call zjf [([0],(.E 13))]),oE 15 (.build [iv 0,iv 0] [(0,1,(.E 12)),(1,1,(.E 14))]),oN (.store [0,0] (.V 2) (.E 15))]) .ret) .skip)))))) (.seq (.reg [mV 16 0,oE 17 (.call zbd [([0],(.E 16)),([0],(ki 41))]),oE 18 (.bin .sub (.E 17) (ki 20)),oE 19 (.bin .mul (ki 50) (.E 18)),vE 3 19]) (.seq (.reg [mV 20 3,mV 21 3,mV 22 0,oE 23 (.call zbd [([0],(.E 22)),([0],(ki 30))]),oE 24 (.bin .mul (ki 50) (.E 23)),bE 25 .add 21 24,oE 26 (.build [iv 0,iv 0] [(0,1,(.E 20)),(1,1,(.E 25))]),oN (.store [0,0] (.V 2) (.E 26))]) .ret)))
def zpf:List RV:=[.cell [0,0] 2 true]
def yfj:List Nat:=[0,1,6,5,4]
def zq0:IC := .seq (.seq (.reg [mV 8 6,mV 9 1,bE 10 .lss 8 9]) (.cond (.E 10) .skip (.exit 0))) (.seq (.block 1 (.seq (.reg [mV 13 0,oE 14 (.call zc9 [([0],(.E 13)),([0],(ki 3))]),oE 15 (.un .not (.E 14))]) (.cond (.E 15) (.reg [mV 16 5,mV 17 6,oE 18 (.bslice 1 1 [iv 0] [(0,(.E 17))]),oE 19 (.app 8 1 (.E 16) (.E 18)),vE 5 19]) .skip))) (.reg [mV 11 6,oE 12 (.bin .add (.E 11) (ki 1)),vE 6 12]))
def zt5:IC := .seq (.reg [oV 4 (.mv (.C .e0))]) (.seq (.reg [oE 7 (.bslice 0 1 [iv 0] []),vE 5 7]) (.seq (.seq (.reg [oV 6 (.mv (ki 0))]) (.block 0 (.loop zq0))) (.seq (.seq (.reg [mV 20 0,oE 21 (.call zc9 [([0],(.E 20)),([0],(ki 10))])]) (.cond (.E 21) (.reg [mV 22 5,mV 23 0,mV 24 1,oE 25 (.bslice 4 1 [iv 0] [(0,(ki 0)),(1,(.E 24)),(2,(ki (-1))),(3,(ki 9223372036854775807))]),oE 26 (.call zd5 [([0],(.E 23)),([1],(.E 25))]),oE 27 (.bslice 1 1 [iv 0] [(0,(.E 26))]),oE 28 (.app 8 1 (.E 22) (.E 27)),vE 5 28]) .skip)) (.seq (.reg [mV 29 5,vE 4 29]) .ret))))
def zt6:List RV:=[.tmp [1] 4]
def yfk:List Nat:=[0,1,2,3,20,19,18,9,10,12,8,11,6,7]
def zt7:IC := .seq (.reg [oE 21 (.bin .lss (.V 20) (.V 19))]) (.seq (.cond (.E 21) .skip (.exit 0)) (.seq (.block 1 (.seq (.reg [mV 22 20,oE 23 (.iaddr 1 (.V 18) (.V 20)),lE 24 23,vE 9 22,vE 10 24]) (.seq (.reg [fV 26 1 3,lE 27 26,mV 28 9,iE 29 1 27 28,lE 30 29,mV 31 1,mV 32 2,mV 33 10,nE 34 33,oE 35 (.bin .add (.E 34) (ki 1)),oE 36 (.call zn5 [([1],(.E 30)),([1],(.E 31)),([1],(.E 32)),([0],(.E 35))]),wE 25 36,xE 37 0 25,xE 38 1 25,vE 11 37,vE 12 38]) (.seq (.seq (.reg [mV 39 12,oE 40 (.un .not (.E 39))]) (.cond (.E 40) (.seq (.reg [oV 6 (.mv (.C .e0)),oV 7 (.mv (kb false))]) .ret) .skip)) (.reg [mV 41 8,mV 42 11,oE 43 (.bslice 1 1 [(.own 2 [])] [(0,(.E 42))]),oE 44 (.app 24 1 (.E 41) (.E 43)),vE 8 44]))))) (.reg [oE 45 (.bin .add (.V 20) (ki 1)),vE 20 45])))
def zq1:IC := .seq (.reg [oV 3 (.box (.V 0)),oV 6 (.mv (.C .e0)),oV 7 (.mv (kb false))]) (.seq (.seq (.reg [tV 13 2 3,oE 14 (.call zks [([1,1],(.E 13))]),oE 15 (.un .not (.E 14))]) (.cond (.E 15) (.seq (.reg [oV 6 (.mv (.C .e0)),oV 7 (.mv (kb false))]) .ret) .skip)) (.seq (.reg [oE 16 (.bslice 0 1 [(.own 2 [])] []),vE 8 16]) (.seq (.seq (.reg [fV 17 0 3,oV 18 (.load false 1 (.E 17)),oV 19 (.len (.V 18)),oV 20 (.mv (ki 0))]) (.block 0 (.loop zt7))) (.seq (.reg [mV 46 8,vE 6 46,oV 7 (.mv (kb true))]) .ret))))
def zq2:List RV:=[.tmp [1] 6,.tmp [0] 7]
def yfl:List Nat:=[0,1,2,19,18,17,3,4,10,8,34,33,32,41,40,39,13,14,11,15,12,6,7]
def zt8:IC := .seq (.reg [oE 20 (.bin .lss (.V 19) (.V 18))]) (.seq (.cond (.E 20) .skip (.exit 0)) (.seq (.block 1 (.seq (.reg [oE 21 (.iaddr 6 (.V 17) (.V 19)),tE 22 6 21,oV 10 (.alloc [iv 0,iv 0,iv 0,iv 0,iv 0,iv 0]),oN (.store [0,0,0,0,0,0] (.V 10) (.E 22))]) (.seq (.reg [tV 23 8 3,tV 24 2 4,tV 25 6 10,oE 26 (.call zjd [([0,0,0,0,0,0,0,1],(.E 23)),([0,0],(.E 24)),([0,0,0,0,0,0],(.E 25))])]) (.cond (.E 26) (.reg [mV 27 8,tV 28 6 10,oE 29 (.bslice 1 6 [iv 0,iv 0,iv 0,iv 0,iv 0,iv 0] [(0,(.E 28))]),oE 30 (.app 48 6 (.E 27) (.E 29)),vE 8 30]) .skip)))) (.reg [oE 31 (.bin .add (.V 19) (ki 1)),vE 19 31])))
def zlw:IC := .seq (.reg [oE 42 (.bin .lss (.V 41) (.V 40))]) (.seq (.cond (.E 42) .skip (.exit 4)) (.seq (.block 5 (.seq (.reg [mV 43 41,oE 44 (.iaddr 6 (.V 39) (.V 41)),tE 45 6 44,oV 15 (.alloc [iv 0,iv 0,iv 0,iv 0,iv 0,iv 0]),vE 14 43,oN (.store [0,0,0,0,0,0] (.V 15) (.E 45))]) (.reg [mV 46 13,wE 47 46,gE 48 47 .true (.mv (.V 14)),gE 49 47 .true (.mv (.V 11)),gE 50 47 .true (.bin .eql (.E 48) (.E 49)),gE 51 47 .true (.mv (.E 50)),gE 52 51 .false (.load true 6 (.V 15)),gE 53 51 .false (.load true 6 (.V 12)),gE 54 51 .false (.faddr 3 (.V 3)),gE 55 51 .false (.load false 1 (.E 54)),gE 56 51 .false (.call zkx [([0,0,0,0,0,0],(.E 52)),([0,0,0,0,0,0],(.E 53)),([0],(.E 55))]),gE 57 51 .false (.un .not (.E 56)),gE 58 47 .true (.pick (.E 51) (kb true) (.E 57)),oE 59 (.pick (.E 47) (.E 58) (kb false)),vE 13 59]))) (.reg [oE 60 (.bin .add (.V 41) (ki 1)),vE 41 60])))
def zz3:IC := .seq (.reg [oE 35 (.bin .lss (.V 34) (.V 33))]) (.seq (.cond (.E 35) .skip (.exit 2)) (.seq (.block 3 (.seq (.reg [mV 36 34,oE 37 (.iaddr 6 (.V 32) (.V 34)),tE 38 6 37,oV 12 (.alloc [iv 0,iv 0,iv 0,iv 0,iv 0,iv 0]),vE 11 36,oN (.store [0,0,0,0,0,0] (.V 12) (.E 38))]) (.seq (.reg [oV 13 (.mv (kb true))]) (.seq (.seq (.reg [oV 39 (.mv (.V 8)),oV 40 (.len (.V 39)),oV 41 (.mv (ki 0))]) (.block 4 (.loop zlw))) (.seq (.reg [mV 61 13]) (.cond (.E 61) (.seq (.reg [tV 62 6 12,oN (.store [0,0,0,0,0,0] (.V 6) (.E 62)),oV 7 (.mv (kb true))]) .ret) .skip)))))) (.reg [oE 63 (.bin .add (.V 34) (ki 1)),vE 34 63])))
def zt9:IC := .seq (.reg [oV 3 (.box (.V 0)),oV 4 (.box (.V 1)),oV 6 (.alloc [iv 0,iv 0,iv 0,iv 0,iv 0,iv 0]),oV 7 (.mv (kb false))]) (.seq (.reg [oE 16 (.bslice 0 6 [iv 0,iv 0,iv 0,iv 0,iv 0,iv 0] []),vE 8 16]) (.seq (.seq (.reg [oV 17 (.mv (.V 2)),oV 18 (.len (.V 17)),oV 19 (.mv (ki 0))]) (.block 0 (.loop zt8))) (.seq (.seq (.reg [oV 32 (.mv (.V 8)),oV 33 (.len (.V 32)),oV 34 (.mv (ki 0))]) (.block 2 (.loop zz3))) (.seq (.reg [oE 64 (.build [iv 0,iv 0,iv 0,iv 0,iv 0,iv 0] []),oN (.store [0,0,0,0,0,0] (.V 6) (.E 64)),oV 7 (.mv (kb false))]) .ret))))
def zua:List RV:=[.cell [0,0,0,0,0,0] 6 true,.tmp [0] 7]
def yfm:List Nat:=[0,1,16,15,14,7,9,10,8,12,11,5,6,4]
def zpg:IC := .seq (.seq (.reg [mV 28 10,mV 29 8,nE 30 29,oE 31 (.bin .sub (.E 30) (ki 1)),bE 32 .lss 28 31]) (.cond (.E 32) .skip (.exit 2))) (.seq (.block 3 (.seq (.regD [(mV 36 8,0,0),(mV 37 8,0,0),(nE 38 37,0,0),(oE 39 (.bin .sub (.E 38) (ki 1)),0,0),(iE 40 2 36 39,0,0),(tE 41 2 40,0,0),(mV 42 8,0,0),(mV 43 10,0,0),(iE 44 2 42 43,0,0),(tE 45 2 44,0,0),(oE 46 (.call zn7 [([0,0],(.E 41)),([0,0],(.E 45))]),0,0),(wE 35 46,0,0),(xE 47 0 35,0,0),(xE 48 1 35,0,0),(oV 11 (.allocL [iv 0,iv 0]),0,0),(oN (.store [0,0] (.V 11) (.E 47)),0,0),(vE 12 48,0,0)]) (.seq (.seq (.reg [mV 49 12,oE 50 (.un .not (.E 49))]) (.cond (.E 50) (.seq (.reg [oV 4 (.mv (.C .e0))]) .ret) .skip)) (.seq (.reg [mV 51 8,mV 52 10,iE 53 2 51 52,fE 54 0 53,lE 55 54,mV 56 1,bE 57 .geq 55 56,wE 58 57,gE 59 58 .true (.faddr 0 (.V 11)),gE 60 58 .true (.load false 1 (.E 59)),gE 61 58 .true (.mv (.V 1)),gE 62 58 .true (.bin .geq (.E 60) (.E 61)),oE 63 (.pick (.E 58) (.E 62) (kb false))]) (.cond (.E 63) (.regD [(mV 64 5,0,0),(mV 65 6,0,0),(mV 66 10,0,0),(mV 67 8,0,0),(mV 68 10,0,0),(iE 69 2 67 68,0,0),(tE 70 2 69,0,0),(tV 71 2 11,0,0),(oE 72 (.build [iv 0,iv 0,iv 0,iv 0,iv 0,iv 0] [(0,1,(.E 65)),(1,1,(.E 66)),(2,2,(.E 70)),(4,2,(.E 71))]),0,0),(oE 73 (.bslice 1 6 [iv 0,iv 0,iv 0,iv 0,iv 0,iv 0] [(0,(.E 72))]),0,0),(oE 74 (.app 48 6 (.E 64) (.E 73)),0,0),(vE 5 74,0,0)]) .skip))))) (.reg [mV 33 10,oE 34 (.bin .add (.E 33) (ki 1)),vE 10 34]))
def zub:IC := .seq (.reg [oE 17 (.bin .lss (.V 16) (.V 15))]) (.seq (.cond (.E 17) .skip (.exit 0)) (.seq (.block 1 (.seq (.reg [mV 18 16,oE 19 (.iaddr 1 (.V 14) (.V 16)),lE 20 19,vE 6 18,vE 7 20]) (.seq (.reg [mV 22 7,oE 23 (.call zn6 [([2],(.E 22))]),wE 21 23,xE 24 0 21,xE 25 1 21,vE 8 24,vE 9 25]) (.seq (.seq (.reg [mV 26 9,oE 27 (.un .not (.E 26))]) (.cond (.E 27) (.seq (.reg [oV 4 (.mv (.C .e0))]) .ret) .skip)) (.seq (.reg [oV 10 (.mv (ki 0))]) (.block 2 (.loop zpg))))))) (.reg [oE 75 (.bin .add (.V 16) (ki 1)),vE 16 75])))
def zuc:IC := .seq (.reg [oV 4 (.mv (.C .e0))]) (.seq (.reg [oE 13 (.bslice 0 6 [iv 0,iv 0,iv 0,iv 0,iv 0,iv 0] []),vE 5 13]) (.seq (.seq (.reg [oV 14 (.mv (.V 0)),oV 15 (.len (.V 14)),oV 16 (.mv (ki 0))]) (.block 0 (.loop zub))) (.seq (.reg [mV 76 5,vE 4 76]) .ret)))
def zud:List RV:=[.tmp [6] 4]
def yfn:List Nat:=[0,1,2,3,8,9,11,10,6,7]
def zue:IC := .seq (.seq (.reg [mV 17 9,fV 18 0 3,lE 19 18,nE 20 19,bE 21 .lss 17 20]) (.cond (.E 21) .skip (.exit 0))) (.seq (.block 1 (.seq (.regD [(fV 25 1 3,0,0),(lE 26 25,0,0),(mV 27 9,0,0),(iE 28 1 26 27,0,0),(lE 29 28,0,0),(mV 30 1,0,0),(mV 31 2,0,0),(fV 32 0 3,0,0),(lE 33 32,0,0),(mV 34 9,0,0),(iE 35 1 33 34,0,0),(lE 36 35,0,0),(nE 37 36,0,0),(oE 38 (.bin .add (.E 37) (ki 1)),0,0),(oE 39 (.call zn8 [([1],(.E 29)),([1],(.E 30)),([1],(.E 31)),([0],(.E 38))]),0,0),(wE 24 39,0,0),(xE 40 0 24,0,0),(xE 41 1 24,0,0),(vE 10 40,0,0),(vE 11 41,0,0)]) (.seq (.seq (.reg [mV 42 11,oE 43 (.un .not (.E 42))]) (.cond (.E 43) (.seq (.reg [oE 44 (.bslice 0 1 [(.own 2 [])] []),vE 6 44,oV 7 (.mv (kb false))]) .ret) .skip)) (.reg [mV 45 8,mV 46 10,oE 47 (.bslice 1 1 [(.own 2 [])] [(0,(.E 46))]),oE 48 (.app 24 1 (.E 45) (.E 47)),vE 8 48])))) (.reg [mV 22 9,oE 23 (.bin .add (.E 22) (ki 1)),vE 9 23]))
def zq3:IC := .seq (.reg [oV 3 (.box (.V 0)),oV 6 (.mv (.C .e0)),oV 7 (.mv (kb false))]) (.seq (.reg [oE 12 (.bslice 0 1 [(.own 2 [])] []),vE 8 12]) (.seq (.seq (.reg [tV 13 2 3,oE 14 (.call zkq [([1,1],(.E 13))]),oE 15 (.un .not (.E 14))]) (.cond (.E 15) (.seq (.reg [mV 16 8,vE 6 16,oV 7 (.mv (kb false))]) .ret) .skip)) (.seq (.seq (.reg [oV 9 (.mv (ki 0))]) (.block 0 (.loop zue))) (.seq (.reg [mV 49 8,vE 6 49,oV 7 (.mv (kb true))]) .ret))))
def zq4:List RV:=[.tmp [1] 6,.tmp [0] 7]
def yfo:List Nat:=[0,1,2,8,3,4,10,9,6,7]
def zq5:IC := .seq (.seq (.reg [mV 24 10,mV 25 2,nE 26 25,bE 27 .lss 24 26,wE 28 27,gE 29 28 .true (.mv (.V 9)),oE 30 (.pick (.E 28) (.E 29) (kb false))]) (.cond (.E 30) .skip (.exit 2))) (.seq (.block 3 (.regD [(tV 33 8 3,0,0),(tV 34 2 4,0,0),(mV 35 2,0,0),(mV 36 10,0,0),(iE 37 6 35 36,0,0),(tE 38 6 37,0,0),(oE 39 (.call zh5 [([0,0,0,0,0,0,0,1],(.E 33)),([0,0],(.E 34)),([0,0,0,0,0,0],(.E 38))]),0,0),(oE 40 (.un .not (.E 39)),0,0),(wE 41 40,0,0),(gE 42 41 .false (.mv (.V 2)),0,0),(gE 43 41 .false (.mv (.V 10)),0,0),(gE 44 41 .false (.iaddr 6 (.E 42) (.E 43)),0,0),(gE 45 41 .false (.load true 6 (.E 44)),0,0),(gE 46 41 .false (.mv (.V 2)),0,0),(gE 47 41 .false (.mv (.V 8)),0,0),(gE 48 41 .false (.iaddr 6 (.E 46) (.E 47)),0,0),(gE 49 41 .false (.load true 6 (.E 48)),0,0),(gE 50 41 .false (.faddr 3 (.V 3)),0,0),(gE 51 41 .false (.load false 1 (.E 50)),0,0),(gE 52 41 .false (.call zjg [([0,0,0,0,0,0],(.E 45)),([0,0,0,0,0,0],(.E 49)),([0],(.E 51))]),0,0),(gE 53 41 .false (.un .not (.E 52)),0,0),(oE 54 (.pick (.E 41) (kb true) (.E 53)),0,0),(vE 9 54,0,0)])) (.reg [mV 31 10,oE 32 (.bin .add (.E 31) (ki 1)),vE 10 32]))
def zz4:IC := .seq (.seq (.reg [mV 11 8,mV 12 2,nE 13 12,bE 14 .lss 11 13]) (.cond (.E 14) .skip (.exit 0))) (.seq (.block 1 (.seq (.regD [(tV 17 8 3,0,0),(tV 18 2 4,0,0),(mV 19 2,0,0),(mV 20 8,0,0),(iE 21 6 19 20,0,0),(tE 22 6 21,0,0),(oE 23 (.call zh5 [([0,0,0,0,0,0,0,1],(.E 17)),([0,0],(.E 18)),([0,0,0,0,0,0],(.E 22))]),0,0),(vE 9 23,0,0)]) (.seq (.seq (.reg [oV 10 (.mv (ki 0))]) (.block 2 (.loop zq5))) (.seq (.reg [mV 55 9]) (.cond (.E 55) (.seq (.reg [mV 56 2,mV 57 8,iE 58 6 56 57,tE 59 6 58,oN (.store [0,0,0,0,0,0] (.V 6) (.E 59)),oV 7 (.mv (kb true))]) .ret) .skip))))) (.reg [mV 15 8,oE 16 (.bin .add (.E 15) (ki 1)),vE 8 16]))
def zuf:IC := .seq (.reg [oV 3 (.box (.V 0)),oV 4 (.box (.V 1)),oV 6 (.alloc [iv 0,iv 0,iv 0,iv 0,iv 0,iv 0]),oV 7 (.mv (kb false))]) (.seq (.seq (.reg [oV 8 (.mv (ki 0))]) (.block 0 (.loop zz4))) (.seq (.reg [oE 60 (.build [iv 0,iv 0,iv 0,iv 0,iv 0,iv 0] []),oN (.store [0,0,0,0,0,0] (.V 6) (.E 60)),oV 7 (.mv (kb false))]) .ret))
def zug:List RV:=[.cell [0,0,0,0,0,0] 6 true,.tmp [0] 7]
def yfp:List Nat:=[0,1,6,8,9,7,10,12,14,11,5,13,4]
def zlx:IC := .seq (.seq (.reg [mV 33 9,oE 34 (.bin .add (.E 33) (ki 1)),mV 35 7,nE 36 35,bE 37 .lss 34 36]) (.cond (.E 37) .skip (.exit 2))) (.seq (.block 3 (.seq (.reg [mV 40 7,mV 41 7,nE 42 41,oE 43 (.bin .sub (.E 42) (ki 1)),iE 44 2 40 43,tE 45 2 44,oV 10 (.alloc [iv 0,iv 0]),oN (.store [0,0] (.V 10) (.E 45))]) (.seq (.regD [(fV 47 0 10,0,0),(lE 48 47,0,0),(mV 49 7,0,0),(mV 50 9,0,0),(iE 51 2 49 50,0,0),(fE 52 0 51,0,0),(lE 53 52,0,0),(oE 54 (.call zky [([0],(.E 48)),([0],(.E 53))]),0,0),(wE 46 54,0,0),(xE 55 0 46,0,0),(xE 56 1 46,0,0),(vE 11 55,0,0),(vE 12 56,0,0)]) (.seq (.regD [(fV 58 1 10,0,0),(lE 59 58,0,0),(mV 60 7,0,0),(mV 61 9,0,0),(iE 62 2 60 61,0,0),(fE 63 1 62,0,0),(lE 64 63,0,0),(oE 65 (.call zky [([0],(.E 59)),([0],(.E 64))]),0,0),(wE 57 65,0,0),(xE 66 0 57,0,0),(xE 67 1 57,0,0),(vE 13 66,0,0),(vE 14 67,0,0)]) (.seq (.seq (.reg [mV 68 12,oE 69 (.un .not (.E 68)),wE 70 69,gE 71 70 .false (.mv (.V 14)),gE 72 70 .false (.un .not (.E 71)),oE 73 (.pick (.E 70) (kb true) (.E 72))]) (.cond (.E 73) (.seq (.reg [oE 74 (.bslice 0 6 [iv 0,iv 0,iv 0,iv 0,iv 0,iv 0] []),vE 4 74]) .ret) .skip)) (.seq (.reg [mV 75 7,mV 76 9,iE 77 2 75 76,fE 78 0 77,lE 79 78,mV 80 1,bE 81 .geq 79 80,wE 82 81,gE 83 82 .true (.mv (.V 11)),gE 84 82 .true (.mv (.V 1)),gE 85 82 .true (.bin .geq (.E 83) (.E 84)),oE 86 (.pick (.E 82) (.E 85) (kb false))]) (.cond (.E 86) (.reg [mV 87 5,mV 88 6,mV 89 9,mV 90 7,mV 91 9,iE 92 2 90 91,tE 93 2 92,mV 94 11,mV 95 13,oE 96 (.build [iv 0,iv 0] [(0,1,(.E 94)),(1,1,(.E 95))]),oE 97 (.build [iv 0,iv 0,iv 0,iv 0,iv 0,iv 0] [(0,1,(.E 88)),(1,1,(.E 89)),(2,2,(.E 93)),(4,2,(.E 96))]),oE 98 (.bslice 1 6 [iv 0,iv 0,iv 0,iv 0,iv 0,iv 0] [(0,(.E 97))]),oE 99 (.app 48 6 (.E 87) (.E 98)),vE 5 99]) .skip))))))) (.reg [mV 38 9,oE 39 (.bin .add (.E 38) (ki 1)),vE 9 39]))
def zuh:IC := .seq (.seq (.reg [mV 16 6,mV 17 0,nE 18 17,bE 19 .lss 16 18]) (.cond (.E 19) .skip (.exit 0))) (.seq (.block 1 (.seq (.reg [mV 23 0,mV 24 6,iE 25 1 23 24,lE 26 25,oE 27 (.call zn9 [([2],(.E 26))]),wE 22 27,xE 28 0 22,xE 29 1 22,vE 7 28,vE 8 29]) (.seq (.seq (.reg [mV 30 8,oE 31 (.un .not (.E 30))]) (.cond (.E 31) (.seq (.reg [oE 32 (.bslice 0 6 [iv 0,iv 0,iv 0,iv 0,iv 0,iv 0] []),vE 4 32]) .ret) .skip)) (.seq (.reg [oV 9 (.mv (ki 0))]) (.block 2 (.loop zlx)))))) (.reg [mV 20 6,oE 21 (.bin .add (.E 20) (ki 1)),vE 6 21]))
def zui:IC := .seq (.reg [oV 4 (.mv (.C .e0))]) (.seq (.reg [oE 15 (.bslice 0 6 [iv 0,iv 0,iv 0,iv 0,iv 0,iv 0] []),vE 5 15]) (.seq (.seq (.reg [oV 6 (.mv (ki 0))]) (.block 0 (.loop zuh))) (.seq (.reg [mV 100 5,vE 4 100]) .ret)))
def zuj:List RV:=[.tmp [6] 4]
def yfq:List Nat:=[0,1,2,6]
def zuk:IC := .seq (.reg [oV 6 (.mv (kb false))]) (.seq (.reg [mV 7 0,mV 8 1,bE 9 .geq 7 8,wE 10 9,gE 11 10 .true (.mv (.V 0)),gE 12 10 .true (.mv (.V 2)),gE 13 10 .true (.bin .leq (.E 11) (.E 12)),oE 14 (.pick (.E 10) (.E 13) (kb false)),vE 6 14]) .ret)
def zul:List RV:=[.tmp [0] 6]
def yfr:List Nat:=[0,1,2,5,3,4,10,12,9,11,6,7,8]
def zum:IC := .seq (.reg [oV 3 (.box (.V 0)),oV 4 (.box (.V 1)),oV 5 (.box (.V 2)),oV 6 (.mv (ki 0)),oV 7 (.mv (ki 0)),oV 8 (.mv (kb false))]) (.seq (.reg [fV 14 2 5,tE 15 2 14,fV 16 3 3,lE 17 16,tV 18 2 4,oE 19 (.call zku [([0,0],(.E 15)),([0],(.E 17)),([0,0],(.E 18))]),wE 13 19,xE 20 0 13,xE 21 1 13,vE 9 20,vE 10 21]) (.seq (.reg [fV 23 4 5,tE 24 2 23,fV 25 3 3,lE 26 25,tV 27 2 4,oE 28 (.call zku [([0,0],(.E 24)),([0],(.E 26)),([0,0],(.E 27))]),wE 22 28,xE 29 0 22,xE 30 1 22,vE 11 29,vE 12 30]) (.seq (.seq (.reg [mV 31 10,oE 32 (.un .not (.E 31)),wE 33 32,gE 34 33 .false (.mv (.V 12)),gE 35 33 .false (.un .not (.E 34)),oE 36 (.pick (.E 33) (kb true) (.E 35))]) (.cond (.E 36) (.seq (.reg [oV 6 (.mv (ki 0)),oV 7 (.mv (ki 0)),oV 8 (.mv (kb false))]) .ret) .skip)) (.seq (.reg [mV 37 9,mV 38 11,vE 6 37,vE 7 38,oV 8 (.mv (kb true))]) .ret))))
def zun:List RV:=[.tmp [0] 6,.tmp [0] 7,.tmp [0] 8]
def yfs:List Nat:=[0,1,2]
def zuo:IC := .seq (.reg [oV 1 (.box (.V 0)),oV 2 (.mv (kb false))]) (.seq (.reg [fV 3 0 1,lE 4 3,oE 5 (.call zcf [([0],(.E 4)),([0],(ki 1)),([0],(ki 8))]),wE 6 5,gE 7 6 .true (.faddr 1 (.V 1)),gE 8 6 .true (.load false 1 (.E 7)),gE 9 6 .true (.call zcf [([0],(.E 8)),([0],(ki 0)),([0],(ki 4))]),oE 10 (.pick (.E 6) (.E 9) (kb false)),wE 11 10,gE 12 11 .true (.faddr 2 (.V 1)),gE 13 11 .true (.load false 1 (.E 12)),gE 14 11 .true (.call zcf [([0],(.E 13)),([0],(ki 2)),([0],(ki 8))]),oE 15 (.pick (.E 11) (.E 14) (kb false)),wE 16 15,gE 17 16 .true (.faddr 3 (.V 1)),gE 18 16 .true (.load false 1 (.E 17)),gE 19 16 .true (.call zcf [([0],(.E 18)),([0],(ki 1)),([0],(ki 100))]),oE 20 (.pick (.E 16) (.E 19) (kb false)),wE 21 20,gE 22 21 .true (.faddr 4 (.V 1)),gE 23 21 .true (.load false 1 (.E 22)),gE 24 21 .true (.call zcf [([0],(.E 23)),([0],(ki 1)),([0],(ki 20))]),oE 25 (.pick (.E 21) (.E 24) (kb false)),wE 26 25,gE 27 26 .true (.faddr 6 (.V 1)),gE 28 26 .true (.load false 1 (.E 27)),gE 29 26 .true (.call zcf [([0],(.E 28)),([0],(ki 1)),([0],(ki 1000))]),oE 30 (.pick (.E 26) (.E 29) (kb false)),wE 31 30,gE 32 31 .true (.faddr 5 (.V 1)),gE 33 31 .true (.load false 1 (.E 32)),gE 34 31 .true (.faddr 6 (.V 1)),gE 35 31 .true (.load false 1 (.E 34)),gE 36 31 .true (.call zcf [([0],(.E 33)),([0],(ki 1)),([0],(.E 35))]),oE 37 (.pick (.E 31) (.E 36) (kb false)),wE 38 37,gE 39 38 .true (.faddr 7 (.V 1)),gE 40 38 .true (.load false 1 (.E 39)),gE 41 38 .true (.len (.E 40)),gE 42 38 .true (.bin .leq (.E 41) (ki 4)),oE 43 (.pick (.E 38) (.E 42) (kb false)),wE 44 43,gE 45 44 .true (.faddr 7 (.V 1)),gE 46 44 .true (.load false 1 (.E 45)),gE 47 44 .true (.call zhk [([1],(.E 46)),([0],(.C (.fn zkz [])))]),gE 48 44 .true (.un .not (.E 47)),oE 49 (.pick (.E 44) (.E 48) (kb false)),vE 2 49]) .ret)
def zup:List RV:=[.tmp [0] 2]
def yft:List Nat:=[0,1,2,7,6]
def zq6:IC := .seq (.reg [oV 6 (.mv (kb false))]) (.seq (.seq (.reg [oV 7 (.mv (.V 0))]) (.block 0 (.seq (.reg [oE 9 (.bin .eql (.V 7) (ki 1)),wE 8 9]) (.cond (.E 8) (.seq (.reg [mV 10 1,mV 11 2,bE 12 .leq 10 11,vE 6 12]) .ret) (.seq (.reg [oE 14 (.bin .eql (.V 7) (ki (-1))),wE 13 14]) (.cond (.E 13) (.seq (.reg [mV 15 1,mV 16 2,bE 17 .geq 15 16,vE 6 17]) .ret) .skip)))))) (.seq (.reg [oV 6 (.mv (kb true))]) .ret))
def zq7:List RV:=[.tmp [0] 6]
def yfu:List Nat:=[0,1,2,4]
def zq8:IC := .seq (.reg [oV 2 (.box (.V 0)),oV 4 (.mv (ki 0))]) (.seq (.seq (.reg [mV 5 1,fV 6 7 2,lE 7 6,nE 8 7,oE 9 (.bin .sub (.E 8) (ki 1)),oE 10 (.call zcf [([0],(.E 5)),([0],(ki 0)),([0],(.E 9))]),oE 11 (.un .not (.E 10))]) (.cond (.E 11) (.seq (.reg [oV 4 (.mv (ki 0))]) .ret) .skip)) (.seq (.reg [fV 12 7 2,lE 13 12,mV 14 1,iE 15 1 13 14,lE 16 15,vE 4 16]) .ret))
def zq9:List RV:=[.tmp [0] 4]
def yfv:List Nat:=[0,1,2,7,5,9,6,8,10,12,11,4]
def zuq:IC := .seq (.reg [oV 2 (.box (.V 0)),oV 4 (.mv (kb false))]) (.seq (.reg [tV 14 6 2,mV 15 1,oE 16 (.call zjh [([0,0,0,0,0,0],(.E 14)),([0],(.E 15))]),wE 13 16,xE 17 0 13,xE 18 1 13,oV 5 (.alloc [(.v (.bool false)),(.v (.int .u64 0)),(.v (.int .u64 0)),iv 0]),oN (.store [0,0,0,0] (.V 5) (.E 17)),vE 6 18]) (.seq (.reg [tV 20 6 2,oE 21 (.call zob [([0,0,0,0,0,0],(.E 20))]),wE 19 21,xE 22 0 19,xE 23 1 19,oV 7 (.alloc [iv 0,iv 0]),oN (.store [0,0] (.V 7) (.E 22)),vE 8 23]) (.seq (.reg [tV 25 2 7,mV 26 1,oE 27 (.call zji [([0,0],(.E 25)),([0],(.E 26))]),wE 24 27,xE 28 0 24,xE 29 1 24,oV 9 (.alloc [(.v (.bool false)),(.v (.int .u64 0)),(.v (.int .u64 0)),iv 0]),oN (.store [0,0,0,0] (.V 9) (.E 28)),vE 10 29]) (.seq (.reg [tV 31 4 5,tV 32 4 9,oE 33 (.call zk0 [([0,0,0,0],(.E 31)),([0,0,0,0],(.E 32))]),wE 30 33,xE 34 0 30,xE 35 1 30,vE 11 34,vE 12 35]) (.seq (.reg [mV 36 6,wE 37 36,gE 38 37 .true (.mv (.V 8)),oE 39 (.pick (.E 37) (.E 38) (kb false)),wE 40 39,gE 41 40 .true (.mv (.V 10)),oE 42 (.pick (.E 40) (.E 41) (kb false)),wE 43 42,gE 44 43 .true (.mv (.V 12)),oE 45 (.pick (.E 43) (.E 44) (kb false)),wE 46 45,gE 47 46 .true (.mv (.V 11)),gE 48 46 .true (.bin .gtr (.E 47) (ki 0)),oE 49 (.pick (.E 46) (.E 48) (kb false)),vE 4 49]) .ret)))))
def zur:List RV:=[.tmp [0] 4]
def yfw:List Nat:=[0,1,3,4,2]
def z27:IC := .seq (.seq (.reg [mV 50 4,fV 51 1 1,lE 52 51,mV 53 3,iE 54 1 52 53,lE 55 54,nE 56 55,bE 57 .lss 50 56]) (.cond (.E 57) .skip (.exit 2))) (.seq (.block 3 (.seq (.regD [(fV 60 1 1,0,0),(lE 61 60,0,0),(mV 62 3,0,0),(iE 63 1 61 62,0,0),(lE 64 63,0,0),(mV 65 4,0,0),(iE 66 1 64 65,0,0),(lE 67 66,0,0),(fV 68 0 1,0,0),(lE 69 68,0,0),(mV 70 3,0,0),(iE 71 1 69 70,0,0),(lE 72 71,0,0),(nE 73 72,0,0),(oE 74 (.call zbm [([0],(.E 67)),([0],(ki 0)),([0],(.E 73))]),0,0),(oE 75 (.un .not (.E 74)),0,0)]) (.cond (.E 75) (.seq (.reg [oV 2 (.mv (kb false))]) .ret) .skip))) (.reg [mV 58 4,oE 59 (.bin .add (.E 58) (ki 1)),vE 4 59]))
def z28:IC := .seq (.seq (.reg [mV 25 3,fV 26 0 1,lE 27 26,nE 28 27,bE 29 .lss 25 28]) (.cond (.E 29) .skip (.exit 0))) (.seq (.block 1 (.seq (.seq (.regD [(fV 32 0 1,0,0),(lE 33 32,0,0),(mV 34 3,0,0),(iE 35 1 33 34,0,0),(lE 36 35,0,0),(oE 37 (.call zoc [([1],(.E 36))]),0,0),(oE 38 (.un .not (.E 37)),0,0),(wE 39 38,0,0),(gE 40 39 .false (.faddr 1 (.V 1)),0,1),(gE 41 39 .false (.load false 1 (.E 40)),0,1),(gE 42 39 .false (.mv (.V 3)),0,0),(gE 43 39 .false (.iaddr 1 (.E 41) (.E 42)),0,1),(gE 44 39 .false (.load false 1 (.E 43)),0,1),(gE 45 39 .false (.len (.E 44)),0,1),(gE 46 39 .false (.load true 2 (.V 1)),0,0),(gE 47 39 .false (.call zh4 [([1,1],(.E 46))]),0,0),(gE 48 39 .false (.bin .neq (.E 45) (.E 47)),0,0),(oE 49 (.pick (.E 39) (kb true) (.E 48)),0,0)]) (.cond (.E 49) (.seq (.reg [oV 2 (.mv (kb false))]) .ret) .skip)) (.seq (.reg [oV 4 (.mv (ki 0))]) (.block 2 (.loop z27))))) (.reg [mV 30 3,oE 31 (.bin .add (.E 30) (ki 1)),vE 3 31]))
def zly:IC := .seq (.reg [oV 1 (.box (.V 0)),oV 2 (.mv (kb false))]) (.seq (.seq (.reg [fV 5 0 1,lE 6 5,nE 7 6,oE 8 (.call zbm [([0],(.E 7)),([0],(ki 1)),([0],(ki 4))]),oE 9 (.un .not (.E 8)),wE 10 9,gE 11 10 .false (.faddr 1 (.V 1)),gE 12 10 .false (.load false 1 (.E 11)),gE 13 10 .false (.len (.E 12)),gE 14 10 .false (.faddr 0 (.V 1)),gE 15 10 .false (.load false 1 (.E 14)),gE 16 10 .false (.len (.E 15)),gE 17 10 .false (.bin .neq (.E 13) (.E 16)),oE 18 (.pick (.E 10) (kb true) (.E 17)),wE 19 18,gE 20 19 .false (.load true 2 (.V 1)),gE 21 19 .false (.call zh4 [([1,1],(.E 20))]),gE 22 19 .false (.call zbm [([0],(.E 21)),([0],(ki 1)),([0],(ki 40))]),gE 23 19 .false (.un .not (.E 22)),oE 24 (.pick (.E 19) (kb true) (.E 23))]) (.cond (.E 24) (.seq (.reg [oV 2 (.mv (kb false))]) .ret) .skip)) (.seq (.seq (.reg [oV 3 (.mv (ki 0))]) (.block 0 (.loop z28))) (.seq (.reg [oV 2 (.mv (kb true))]) .ret)))
def zlz:List RV:=[.tmp [0] 2]
def yfx:List Nat:=[0,1,4,3,5,2]
def zl0:IC := .seq (.seq (.reg [mV 8 4,oE 9 (.bin .lss (.E 8) (ki 5))]) (.cond (.E 9) .skip (.exit 0))) (.seq (.block 1 (.seq (.regD [(mV 12 3,0,0),(mV 13 4,0,0),(iE 14 1 12 13,0,2),(lE 15 14,0,2),(oE 16 (.call zoe []),0,0),(mV 17 4,0,0),(iE 18 1 16 17,0,1),(lE 19 18,0,1),(oE 20 (.call zof []),0,0),(mV 21 4,0,0),(iE 22 1 20 21,0,0),(lE 23 22,0,0),(oE 24 (.call zbm [([0],(.E 15)),([0],(.E 19)),([0],(.E 23))]),0,0),(oE 25 (.un .not (.E 24)),0,0)]) (.cond (.E 25) (.seq (.reg [oV 2 (.mv (kb false))]) .ret) .skip))) (.reg [mV 10 4,oE 11 (.bin .add (.E 10) (ki 1)),vE 4 11]))
def z29:IC := .seq (.seq (.reg [mV 26 5,fV 27 7 1,lE 28 27,nE 29 28,bE 30 .lss 26 29]) (.cond (.E 30) .skip (.exit 2))) (.seq (.block 3 (.seq (.reg [fV 33 7 1,lE 34 33,mV 35 5,iE 36 1 34 35,lE 37 36,oE 38 (.call zbm [([0],(.E 37)),([0],(ki (-1))),([0],(ki 1))]),oE 39 (.un .not (.E 38))]) (.cond (.E 39) (.seq (.reg [oV 2 (.mv (kb false))]) .ret) .skip))) (.reg [mV 31 5,oE 32 (.bin .add (.E 31) (ki 1)),vE 5 32]))
def zus:IC := .seq (.reg [oV 1 (.box (.V 0)),oV 2 (.mv (kb false))]) (.seq (.reg [tV 6 8 1,oE 7 (.call zod [([0,0,0,0,0,0,0,1],(.E 6))]),vE 3 7]) (.seq (.seq (.reg [oV 4 (.mv (ki 0))]) (.block 0 (.loop zl0))) (.seq (.seq (.reg [oV 5 (.mv (ki 0))]) (.block 2 (.loop z29))) (.seq (.reg [fV 40 6 1,lE 41 40,oE 42 (.call zbm [([0],(.E 41)),([0],(ki 1)),([0],(ki 1000))]),wE 43 42,gE 44 43 .true (.faddr 5 (.V 1)),gE 45 43 .true (.load false 1 (.E 44)),gE 46 43 .true (.faddr 6 (.V 1)),gE 47 43 .true (.load false 1 (.E 46)),gE 48 43 .true (.call zbm [([0],(.E 45)),([0],(ki 1)),([0],(.E 47))]),oE 49 (.pick (.E 43) (.E 48) (kb false)),wE 50 49,gE 51 50 .true (.faddr 7 (.V 1)),gE 52 50 .true (.load false 1 (.E 51)),gE 53 50 .true (.len (.E 52)),gE 54 50 .true (.bin .leq (.E 53) (ki 4)),oE 55 (.pick (.E 50) (.E 54) (kb false)),vE 2 55]) .ret))))
def zut:List RV:=[.tmp [0] 2]
def yfy:List Nat:=[0,1,2]
def zra:IC := .seq (.reg [oV 1 (.box (.V 0)),oV 2 (.mv (ki 0))]) (.seq (.seq (.reg [fV 3 1 1,lE 4 3,nE 5 4,oE 6 (.bin .eql (.E 5) (ki 0))]) (.cond (.E 6) (.seq (.reg [oV 2 (.mv (ki 0))]) .ret) .skip)) (.seq (.reg [fV 7 1 1,lE 8 7,oE 9 (.iaddr 1 (.E 8) (ki 0)),lE 10 9,nE 11 10,vE 2 11]) .ret))
def zrb:List RV:=[.tmp [0] 2]
def yfz:List Nat:=[0,1,28,27,26,4,3,2]
def z3a:IC := .seq (.reg [oE 29 (.bin .lss (.V 28) (.V 27))]) (.seq (.cond (.E 29) .skip (.exit 0)) (.seq (.block 1 (.seq (.reg [mV 30 28,oE 31 (.iaddr 1 (.V 26) (.V 28)),lE 32 31,oV 4 (.alloc [.e0]),vE 3 30,oN (.store [1] (.V 4) (.E 32))]) (.seq (.regD [(oE 33 (.load false 1 (.V 4)),0,0),(oE 34 (.call zog [([1],(.E 33))]),0,0),(oE 35 (.un .not (.E 34)),0,0),(wE 36 35,0,0),(gE 37 36 .false (.faddr 1 (.V 1)),0,1),(gE 38 36 .false (.load false 1 (.E 37)),0,1),(gE 39 36 .false (.mv (.V 3)),0,0),(gE 40 36 .false (.iaddr 1 (.E 38) (.E 39)),0,1),(gE 41 36 .false (.load false 1 (.E 40)),0,1),(gE 42 36 .false (.len (.E 41)),0,1),(gE 43 36 .false (.load true 2 (.V 1)),0,0),(gE 44 36 .false (.call zje [([1,1],(.E 43))]),0,0),(gE 45 36 .false (.bin .neq (.E 42) (.E 44)),0,0),(oE 46 (.pick (.E 36) (kb true) (.E 45)),0,0),(wE 47 46,0,0),(gE 48 47 .false (.faddr 1 (.V 1)),0,0),(gE 49 47 .false (.load false 1 (.E 48)),0,0),(gE 50 47 .false (.mv (.V 3)),0,0),(gE 51 47 .false (.iaddr 1 (.E 49) (.E 50)),0,0),(gE 52 47 .false (.load false 1 (.E 51)),0,0),(gE 53 47 .false (.mkfn zk1 [(.V 4)]),0,0),(gE 54 47 .false (.call zhk [([1],(.E 52)),([0],(.E 53))]),0,0),(oE 55 (.pick (.E 47) (kb true) (.E 54)),0,0)]) (.cond (.E 55) (.seq (.reg [oV 2 (.mv (kb false))]) .ret) .skip)))) (.reg [oE 56 (.bin .add (.V 28) (ki 1)),vE 28 56])))
def zl1:IC := .seq (.reg [oV 1 (.box (.V 0)),oV 2 (.mv (kb false))]) (.seq (.seq (.reg [fV 5 0 1,lE 6 5,nE 7 6,oE 8 (.call zcf [([0],(.E 7)),([0],(ki 1)),([0],(ki 4))]),oE 9 (.un .not (.E 8)),wE 10 9,gE 11 10 .false (.faddr 1 (.V 1)),gE 12 10 .false (.load false 1 (.E 11)),gE 13 10 .false (.len (.E 12)),gE 14 10 .false (.faddr 0 (.V 1)),gE 15 10 .false (.load false 1 (.E 14)),gE 16 10 .false (.len (.E 15)),gE 17 10 .false (.bin .neq (.E 13) (.E 16)),oE 18 (.pick (.E 10) (kb true) (.E 17)),wE 19 18,gE 20 19 .false (.load true 2 (.V 1)),gE 21 19 .false (.call zje [([1,1],(.E 20))]),gE 22 19 .false (.call zcf [([0],(.E 21)),([0],(ki 1)),([0],(ki 40))]),gE 23 19 .false (.un .not (.E 22)),oE 24 (.pick (.E 19) (kb true) (.E 23))]) (.cond (.E 24) (.seq (.reg [oV 2 (.mv (kb false))]) .ret) .skip)) (.seq (.seq (.reg [fV 25 0 1,oV 26 (.load false 1 (.E 25)),oV 27 (.len (.V 26)),oV 28 (.mv (ki 0))]) (.block 0 (.loop z3a))) (.seq (.reg [oV 2 (.mv (kb true))]) .ret)))
def zl2:List RV:=[.tmp [0] 2]
def yf0:List Nat:=[0,1,2]
def zrc:IC := .seq (.reg [oV 1 (.box (.V 0)),oV 2 (.mv (ki 0))]) (.seq (.seq (.reg [fV 3 1 1,lE 4 3,nE 5 4,oE 6 (.bin .eql (.E 5) (ki 0))]) (.cond (.E 6) (.seq (.reg [oV 2 (.mv (ki 0))]) .ret) .skip)) (.seq (.reg [fV 7 1 1,lE 8 7,oE 9 (.iaddr 1 (.E 8) (ki 0)),lE 10 9,nE 11 10,vE 2 11]) .ret))
def zrd:List RV:=[.tmp [0] 2]
def yf1:List Nat:=[0,1,4]
def zre:IC := .seq (.reg [oV 4 (.mv (kb false))]) (.seq (.reg [mV 5 0,mV 6 1,oE 7 (.call zk2 [([1],(.E 5)),([0],(.E 6))]),oE 8 (.bin .geq (.E 7) (ki 0)),vE 4 8]) .ret)
def zrf:List RV:=[.tmp [0] 4]
def yf2:List Nat:=[0,2]
def zuu:IC := .seq (.reg [oV 2 (.mv (kb false))]) (.seq (.reg [mV 3 0,oE 4 (.call zcf [([0],(.E 3)),([0],(ki (-2199023255552))),([0],(ki 2199023255552))]),oE 5 (.un .not (.E 4)),vE 2 5]) .ret)
def zuv:List RV:=[.tmp [0] 2]
def yf3:List Nat:=[0,1,2,6]
def zuw:IC := .seq (.reg [oV 6 (.mv (kb false))]) (.seq (.reg [mV 7 0,mV 8 1,bE 9 .geq 7 8,wE 10 9,gE 11 10 .true (.mv (.V 0)),gE 12 10 .true (.mv (.V 2)),gE 13 10 .true (.bin .leq (.E 11) (.E 12)),oE 14 (.pick (.E 10) (.E 13) (kb false)),vE 6 14]) .ret)
def zux:List RV:=[.tmp [0] 6]
def yf4:List Nat:=[0,1,2,3,5,8,6,7]
def zrg:IC := .seq (.reg [oV 3 (.box (.V 0)),oV 5 (.box (.V 2)),oV 6 (.mv (ki 0)),oV 7 (.mv (kb false))]) (.seq (.seq (.reg [fV 10 0 3,lE 11 10,mV 12 1,oE 13 (.call zk3 [([0],(.E 11)),([0],(.E 12))]),oE 14 (.un .not (.E 13)),wE 15 14,gE 16 15 .false (.load true 2 (.V 5)),gE 17 15 .false (.call zoh [([0,0],(.E 16))]),gE 18 15 .false (.un .not (.E 17)),oE 19 (.pick (.E 15) (kb true) (.E 18))]) (.cond (.E 19) (.seq (.reg [oV 6 (.mv (ki 0)),oV 7 (.mv (kb false))]) .ret) .skip)) (.seq (.reg [fV 21 1 3,lE 22 21,fV 23 0 3,lE 24 23,mV 25 1,bE 26 .add 24 25,oE 27 (.call zoi [([0],(.E 22)),([0],(.E 26))]),wE 20 27,xE 28 0 20,xE 29 1 20,vE 8 28,wE 9 29]) (.seq (.reg [mV 30 8,fV 31 0 5,lE 32 31,fV 33 1 5,lE 34 33,oE 35 (.call zoj [([0],(.E 30)),([0],(.E 32)),([0],(.E 34))]),vE 6 35,oV 7 (.mv (kb true))]) .ret)))
def zrh:List RV:=[.tmp [0] 6,.tmp [0] 7]
def yf5:List Nat:=[0,1,2]
def zuy:IC := .seq (.reg [oV 1 (.box (.V 0)),oV 2 (.mv (kb false))]) (.seq (.reg [fV 3 0 1,lE 4 3,fV 5 1 1,lE 6 5,bE 7 .leq 4 6,wE 8 7,gE 9 8 .true (.faddr 0 (.V 1)),gE 10 8 .true (.load false 1 (.E 9)),gE 11 8 .true (.call zk4 [([0],(.E 10))]),oE 12 (.pick (.E 8) (.E 11) (kb false)),wE 13 12,gE 14 13 .true (.faddr 1 (.V 1)),gE 15 13 .true (.load false 1 (.E 14)),gE 16 13 .true (.call zk4 [([0],(.E 15))]),oE 17 (.pick (.E 13) (.E 16) (kb false)),vE 2 17]) .ret)
def zuz:List RV:=[.tmp [0] 2]
def yf6:List Nat:=[0,1,6,4,5]
def zu0:IC := .seq (.reg [oV 4 (.mv (ki 0)),oV 5 (.mv (kb false))]) (.seq (.seq (.reg [mV 7 1,oE 8 (.bin .eql (.E 7) (ki 0)),wE 9 8,gE 10 9 .false (.mv (.V 1)),gE 11 9 .false (.bin .eql (.E 10) (ki (-1))),gE 12 9 .false (.mv (.E 11)),gE 13 12 .true (.mv (.V 0)),gE 14 12 .true (.bin .eql (.E 13) (ki (-9223372036854775808))),gE 15 9 .false (.pick (.E 12) (.E 14) (kb false)),oE 16 (.pick (.E 9) (kb true) (.E 15))]) (.cond (.E 16) (.seq (.reg [oV 4 (.mv (ki 0)),oV 5 (.mv (kb false))]) .ret) .skip)) (.seq (.reg [mV 17 0,mV 18 1,bE 19 .quo 17 18,vE 6 19]) (.seq (.seq (.reg [mV 20 0,mV 21 1,bE 22 .rem 20 21,oE 23 (.bin .neq (.E 22) (ki 0)),wE 24 23,gE 25 24 .true (.mv (.V 0)),gE 26 24 .true (.bin .lss (.E 25) (ki 0)),gE 27 24 .true (.mv (.V 1)),gE 28 24 .true (.bin .lss (.E 27) (ki 0)),gE 29 24 .true (.eqb true [.b] (.E 26) (.E 28)),oE 30 (.pick (.E 24) (.E 29) (kb false))]) (.cond (.E 30) (.reg [mV 31 6,oE 32 (.bin .sub (.E 31) (ki 1)),vE 6 32]) .skip)) (.seq (.reg [mV 33 6,vE 4 33,oV 5 (.mv (kb true))]) .ret))))
def zu1:List RV:=[.tmp [0] 4,.tmp [0] 5]
def yf7:List Nat:=[0,1,2,6]
def zri:IC := .seq (.reg [oV 6 (.mv (ki 0))]) (.seq (.seq (.reg [mV 7 0,mV 8 1,bE 9 .lss 7 8]) (.cond (.E 9) (.seq (.reg [mV 10 1,vE 6 10]) .ret) .skip)) (.seq (.seq (.reg [mV 11 0,mV 12 2,bE 13 .gtr 11 12]) (.cond (.E 13) (.seq (.reg [mV 14 2,vE 6 14]) .ret) .skip)) (.seq (.reg [mV 15 0,vE 6 15]) .ret)))
def zrj:List RV:=[.tmp [0] 6]
def yf8:List Nat:=[0,1,2,5,3,4,10,12,9,11,6,7,8]
def zu2:IC := .seq (.reg [oV 3 (.box (.V 0)),oV 4 (.box (.V 1)),oV 5 (.box (.V 2)),oV 6 (.mv (ki 0)),oV 7 (.mv (ki 0)),oV 8 (.mv (kb false))]) (.seq (.reg [fV 14 2 5,tE 15 2 14,fV 16 3 3,lE 17 16,tV 18 2 4,oE 19 (.call zkn [([0,0],(.E 15)),([0],(.E 17)),([0,0],(.E 18))]),wE 13 19,xE 20 0 13,xE 21 1 13,vE 9 20,vE 10 21]) (.seq (.reg [fV 23 4 5,tE 24 2 23,fV 25 3 3,lE 26 25,tV 27 2 4,oE 28 (.call zkn [([0,0],(.E 24)),([0],(.E 26)),([0,0],(.E 27))]),wE 22 28,xE 29 0 22,xE 30 1 22,vE 11 29,vE 12 30]) (.seq (.seq (.reg [mV 31 10,oE 32 (.un .not (.E 31)),wE 33 32,gE 34 33 .false (.mv (.V 12)),gE 35 33 .false (.un .not (.E 34)),oE 36 (.pick (.E 33) (kb true) (.E 35))]) (.cond (.E 36) (.seq (.reg [oV 6 (.mv (ki 0)),oV 7 (.mv (ki 0)),oV 8 (.mv (kb false))]) .ret) .skip)) (.seq (.reg [mV 37 9,mV 38 11,vE 6 37,vE 7 38,oV 8 (.mv (kb true))]) .ret))))
def zu3:List RV:=[.tmp [0] 6,.tmp [0] 7,.tmp [0] 8]
def yf9:List Nat:=[0,1,2,4]
def zrk:IC := .seq (.reg [oV 2 (.box (.V 0)),oV 4 (.mv (ki 0))]) (.seq (.seq (.reg [mV 5 1,fV 6 7 2,lE 7 6,nE 8 7,oE 9 (.bin .sub (.E 8) (ki 1)),oE 10 (.call zbm [([0],(.E 5)),([0],(ki 0)),([0],(.E 9))]),oE 11 (.un .not (.E 10))]) (.cond (.E 11) (.seq (.reg [oV 4 (.mv (ki 0))]) .ret) .skip)) (.seq (.reg [fV 12 7 2,lE 13 12,mV 14 1,iE 15 1 13 14,lE 16 15,vE 4 16]) .ret))
def zrl:List RV:=[.tmp [0] 4]
def yga:List Nat:=[0,4,3,2]
def zu4:IC := .seq (.seq (.reg [mV 8 4,mV 9 0,nE 10 9,bE 11 .lss 8 10,wE 12 11,gE 13 12 .true (.mv (.V 4)),gE 14 12 .true (.bin .lss (.E 13) (ki 4000)),oE 15 (.pick (.E 12) (.E 14) (kb false))]) (.cond (.E 15) .skip (.exit 0))) (.seq (.block 1 (.reg [mV 18 3,oE 19 (.bin .mul (.E 18) (ki 131)),mV 20 0,mV 21 4,iE 22 1 20 21,lE 23 22,oE 24 (.convI .i64 (.E 23)),bE 25 .add 19 24,oE 26 (.bin .add (.E 25) (ki 7)),oE 27 (.bin .and (.E 26) (ki 1073741823)),vE 3 27])) (.reg [mV 16 4,oE 17 (.bin .add (.E 16) (ki 1)),vE 4 17]))
def zu5:IC := .seq (.reg [oV 2 (.mv (.C (.v (.pointer none))))]) (.seq (.reg [mV 5 0,nE 6 5,oE 7 (.bin .add (ki 28507) (.E 6)),vE 3 7]) (.seq (.seq (.reg [oV 4 (.mv (ki 0))]) (.block 0 (.loop zu4))) (.seq (.reg [mV 28 0,mV 29 3,oE 30 (.build [.e0,iv 0,iv 0] [(0,1,(.E 28)),(2,1,(.E 29))]),oE 31 (.box (.E 30)),vE 2 31]) .ret)))
def zu6:List RV:=[.tmp [0] 2]
def ygb:List Nat:=[0,2]
def zu7:IC := .seq (.reg [oV 2 (.alloc [.e0,.e0])]) (.seq (.reg [mV 3 0,oE 4 (.call zol [([0],(.E 3))]),mV 5 0,oE 6 (.call zbd [([0],(.E 5)),([0],(ki 5))]),oE 7 (.bin .add (ki 2) (.E 6)),oE 8 (.call zok [([1,0,1,1],(.E 4)),([0],(.E 7))]),oN (.store [1,1] (.V 2) (.E 8))]) .ret)
def zu8:List RV:=[.cell [1,1] 2 true]
def ygc:List Nat:=[0,1,5,6,7,8,4]
def zph:IC := .seq (.reg [oV 4 (.mv (ki 0))]) (.seq (.seq (.reg [mV 9 1,oE 10 (.bin .leq (.E 9) (ki 0))]) (.cond (.E 10) (.seq (.reg [oV 4 (.mv (ki 0))]) .ret) .skip)) (.seq (.seq (.reg [mV 11 1,oE 12 (.bin .leq (.E 11) (ki 256))]) (.cond (.E 12) (.seq (.reg [mV 13 0,oE 14 (.call zgn [([0],(.E 13))]),mV 15 1,bE 16 .rem 14 15,vE 4 16]) .ret) .skip)) (.seq (.reg [mV 17 0,oE 18 (.call zgn [([0],(.E 17))]),vE 5 18]) (.seq (.reg [mV 19 0,oE 20 (.call zgn [([0],(.E 19))]),vE 6 20]) (.seq (.reg [mV 21 0,oE 22 (.call zgn [([0],(.E 21))]),vE 7 22]) (.seq (.reg [mV 23 0,oE 24 (.call zgn [([0],(.E 23))]),vE 8 24]) (.seq (.reg [mV 25 5,oE 26 (.bin .mul (.E 25) (ki 16777216)),mV 27 6,oE 28 (.bin .mul (.E 27) (ki 65536)),bE 29 .add 26 28,mV 30 7,oE 31 (.bin .mul (.E 30) (ki 256)),bE 32 .add 29 31,mV 33 8,bE 34 .add 32 33,mV 35 1,bE 36 .rem 34 35,vE 4 36]) .ret)))))))
def zpi:List RV:=[.tmp [0] 4]
def ygd:List Nat:=[0,1,7,6,5,4]
def zu9:IC := .seq (.seq (.reg [mV 11 7,mV 12 1,bE 13 .lss 11 12]) (.cond (.E 13) .skip (.exit 0))) (.seq (.block 1 (.seq (.reg [mV 16 6]) (.cond (.E 16) (.reg [mV 17 5,mV 18 0,oE 19 (.call zjf [([0],(.E 18))]),oE 20 (.bslice 1 1 [iv 0] [(0,(.E 19))]),oE 21 (.app 8 1 (.E 17) (.E 20)),vE 5 21]) (.reg [mV 22 5,mV 23 0,oE 24 (.call zbd [([0],(.E 23)),([0],(ki 41))]),oE 25 (.bin .sub (.E 24) (ki 20)),oE 26 (.bin .mul (ki 100) (.E 25)),mV 27 0,oE 28 (.call zbd [([0],(.E 27)),([0],(ki 3))]),bE 29 .add 26 28,oE 30 (.bslice 1 1 [iv 0] [(0,(.E 29))]),oE 31 (.app 8 1 (.E 22) (.E 30)),vE 5 31])))) (.reg [mV 14 7,oE 15 (.bin .add (.E 14) (ki 1)),vE 7 15]))
def zva:IC := .seq (.reg [oV 4 (.mv (.C .e0))]) (.seq (.reg [oE 8 (.bslice 0 1 [iv 0] []),vE 5 8]) (.seq (.reg [mV 9 0,oE 10 (.call zc9 [([0],(.E 9)),([0],(ki 20))]),vE 6 10]) (.seq (.seq (.reg [oV 7 (.mv (ki 0))]) (.block 0 (.loop zu9))) (.seq (.reg [mV 32 5,vE 4 32]) .ret))))
def zvb:List RV:=[.tmp [1] 4]
def yge:List Nat:=[0,1,4]
def zvc:IC := .seq (.reg [oV 4 (.mv (ki 0))]) (.seq (.reg [mV 5 1,mV 6 0,mV 7 1,nE 8 7,oE 9 (.call zbd [([0],(.E 6)),([0],(.E 8))]),iE 10 1 5 9,lE 11 10,vE 4 11]) .ret)
def zvd:List RV:=[.tmp [0] 4]
def ygf:List Nat:=[0,3,5,4,2]
def zz5:IC := .seq (.seq (.reg [mV 40 5,mV 41 4,bE 42 .lss 40 41]) (.cond (.E 42) .skip (.exit 0))) (.seq (.block 1 (.regD [(fV 45 7 3,0,2),(lE 46 45,0,2),(mV 47 0,0,0),(oE 48 (.call zbd [([0],(.E 47)),([0],(ki 3))]),0,0),(oE 49 (.bin .sub (.E 48) (ki 1)),0,0),(oE 50 (.bslice 1 1 [iv 0] [(0,(.E 49))]),0,0),(oE 51 (.app 8 1 (.E 46) (.E 50)),0,0),(fV 52 7 3,0,0),(oN (.store [1] (.E 52) (.E 51)),0,0)])) (.reg [mV 43 5,oE 44 (.bin .add (.E 43) (ki 1)),vE 5 44]))
def zl3:IC := .seq (.reg [oV 2 (.alloc [iv 0,iv 0,iv 0,iv 0,iv 0,iv 0,iv 0,.e0])]) (.seq (.reg [mV 6 0,oE 7 (.call zbd [([0],(.E 6)),([0],(ki 4))]),oE 8 (.bin .add (ki 1) (.E 7)),mV 9 0,oE 10 (.call zbd [([0],(.E 9)),([0],(ki 4))]),mV 11 0,oE 12 (.call zbd [([0],(.E 11)),([0],(ki 5))]),oE 13 (.bin .add (ki 2) (.E 12)),mV 14 0,oE 15 (.call zbd [([0],(.E 14)),([0],(ki 3))]),oE 16 (.bin .add (ki 1) (.E 15)),mV 17 0,oE 18 (.call zbd [([0],(.E 17)),([0],(ki 3))]),oE 19 (.bin .add (ki 1) (.E 18)),mV 20 0,oE 21 (.call zbd [([0],(.E 20)),([0],(ki 3))]),oE 22 (.bin .add (ki 1) (.E 21)),oE 23 (.build [iv 0,iv 0,iv 0,iv 0,iv 0,iv 0,iv 0,.e0] [(0,1,(.E 8)),(1,1,(.E 10)),(2,1,(.E 13)),(3,1,(.E 16)),(4,1,(.E 19)),(5,1,(ki 1)),(6,1,(.E 22))]),oV 3 (.alloc [iv 0,iv 0,iv 0,iv 0,iv 0,iv 0,iv 0,.e0]),oN (.store [0,0,0,0,0,0,0,1] (.V 3) (.E 23))]) (.seq (.seq (.reg [mV 24 0,oE 25 (.call zc9 [([0],(.E 24)),([0],(ki 8))])]) (.cond (.E 25) (.reg [mV 26 0,oE 27 (.call zbd [([0],(.E 26)),([0],(ki 100))]),oE 28 (.bin .add (ki 1) (.E 27)),fV 29 3 3,oN (.store [0] (.E 29) (.E 28))]) .skip)) (.seq (.seq (.reg [mV 30 0,oE 31 (.call zc9 [([0],(.E 30)),([0],(ki 4))])]) (.cond (.E 31) (.reg [mV 32 0,fV 33 6 3,lE 34 33,oE 35 (.call zbd [([0],(.E 32)),([0],(.E 34))]),oE 36 (.bin .add (ki 1) (.E 35)),fV 37 5 3,oN (.store [0] (.E 37) (.E 36))]) .skip)) (.seq (.reg [mV 38 0,oE 39 (.call zbd [([0],(.E 38)),([0],(ki 5))]),vE 4 39]) (.seq (.seq (.reg [oV 5 (.mv (ki 0))]) (.block 0 (.loop zz5))) (.seq (.reg [tV 53 8 3,oN (.store [0,0,0,0,0,0,0,1] (.V 2) (.E 53))]) .ret))))))
def zl4:List RV:=[.cell [0,0,0,0,0,0,0,1] 2 true]
def ygg:List Nat:=[0,7,3,2]
def zf5:IC := .seq (.reg [oV 2 (.alloc [iv 0,iv 0,iv 0,iv 0,iv 0,iv 0,iv 0,.e0])]) (.seq (.reg [mV 4 0,oE 5 (.call zkw [([0],(.E 4))]),oV 3 (.alloc [iv 0,iv 0,iv 0,iv 0,iv 0,iv 0,iv 0,.e0]),oN (.store [0,0,0,0,0,0,0,1] (.V 3) (.E 5))]) (.seq (.seq (.reg [mV 6 0,oV 7 (.call zbd [([0],(.E 6)),([0],(ki 12))])]) (.block 0 (.seq (.reg [oE 9 (.bin .eql (.V 7) (ki 0)),wE 8 9]) (.cond (.E 8) (.reg [mV 10 0,oE 11 (.bslice 5 1 [iv 0] [(0,(ki 0)),(1,(ki 1)),(2,(ki 8)),(3,(ki 9)),(4,(ki (-1)))]),oE 12 (.call zd5 [([0],(.E 10)),([1],(.E 11))]),fV 13 0 3,oN (.store [0] (.E 13) (.E 12))]) (.seq (.reg [oE 15 (.bin .eql (.V 7) (ki 1)),wE 14 15]) (.cond (.E 14) (.reg [mV 16 0,oE 17 (.bslice 4 1 [iv 0] [(0,(ki (-1))),(1,(ki 0)),(2,(ki 4)),(3,(ki 5))]),oE 18 (.call zd5 [([0],(.E 16)),([1],(.E 17))]),fV 19 1 3,oN (.store [0] (.E 19) (.E 18))]) (.seq (.reg [oE 21 (.bin .eql (.V 7) (ki 2)),wE 20 21]) (.cond (.E 20) (.reg [mV 22 0,oE 23 (.bslice 4 1 [iv 0] [(0,(ki 1)),(1,(ki 2)),(2,(ki 8)),(3,(ki 9))]),oE 24 (.call zd5 [([0],(.E 22)),([1],(.E 23))]),fV 25 2 3,oN (.store [0] (.E 25) (.E 24))]) (.seq (.reg [oE 27 (.bin .eql (.V 7) (ki 3)),wE 26 27]) (.cond (.E 26) (.reg [mV 28 0,oE 29 (.bslice 5 1 [iv 0] [(0,(ki 0)),(1,(ki 1)),(2,(ki 100)),(3,(ki 101)),(4,(ki 9223372036854775807))]),oE 30 (.call zd5 [([0],(.E 28)),([1],(.E 29))]),fV 31 3 3,oN (.store [0] (.E 31) (.E 30))]) (.seq (.reg [oE 33 (.bin .eql (.V 7) (ki 4)),wE 32 33]) (.cond (.E 32) (.reg [mV 34 0,oE 35 (.bslice 4 1 [iv 0] [(0,(ki 0)),(1,(ki 1)),(2,(ki 20)),(3,(ki 21))]),oE 36 (.call zd5 [([0],(.E 34)),([1],(.E 35))]),fV 37 4 3,oN (.store [0] (.E 37) (.E 36))]) (.seq (.reg [oE 39 (.bin .eql (.V 7) (ki 5)),wE 38 39]) (.cond (.E 38) (.reg [mV 40 0,fV 41 6 3,lE 42 41,fV 43 6 3,lE 44 43,oE 45 (.bin .add (.E 44) (ki 1)),oE 46 (.bslice 5 1 [iv 0] [(0,(ki 0)),(1,(ki 1)),(2,(.E 42)),(3,(.E 45)),(4,(ki (-1)))]),oE 47 (.call zd5 [([0],(.E 40)),([1],(.E 46))]),fV 48 5 3,oN (.store [0] (.E 48) (.E 47))]) (.seq (.reg [oE 50 (.bin .eql (.V 7) (ki 6)),wE 49 50]) (.cond (.E 49) (.reg [mV 51 0,oE 52 (.bslice 5 1 [iv 0] [(0,(ki 0)),(1,(ki 1)),(2,(ki 1000)),(3,(ki 1001)),(4,(ki 9223372036854775807))]),oE 53 (.call zd5 [([0],(.E 51)),([1],(.E 52))]),fV 54 6 3,oN (.store [0] (.E 54) (.E 53))]) (.seq (.reg [oE 56 (.bin .eql (.V 7) (ki 7)),wE 55 56]) (.cond (.E 55) (.regD [(fV 57 7 3,0,2),(lE 58 57,0,2),(mV 59 0,0,0),(oE 60 (.call zbd [([0],(.E 59)),([0],(ki 5))]),0,0),(oE 61 (.bin .sub (.E 60) (ki 2)),0,0),(oE 62 (.bslice 1 1 [iv 0] [(0,(.E 61))]),0,0),(oE 63 (.app 8 1 (.E 58) (.E 62)),0,0),(fV 64 7 3,0,0),(oN (.store [1] (.E 64) (.E 63)),0,0)]) .skip)))))))))))))))))) (.seq (.reg [tV 65 8 3,oN (.store [0,0,0,0,0,0,0,1] (.V 2) (.E 65))]) .ret)))
def zf6:List RV:=[.cell [0,0,0,0,0,0,0,1] 2 true]
def ygh:List Nat:=[0,3,13,4,2]
def zgq:IC := .seq (.reg [oV 2 (.alloc [.e0,.e0])]) (.seq (.reg [mV 5 0,oE 6 (.call zkv [([0],(.E 5))]),oV 3 (.alloc [.e0,.e0]),oN (.store [1,1] (.V 3) (.E 6))]) (.seq (.reg [mV 7 0,fV 8 0 3,lE 9 8,nE 10 9,oE 11 (.call zbd [([0],(.E 7)),([0],(.E 10))]),vE 4 11]) (.seq (.seq (.reg [mV 12 0,oV 13 (.call zbd [([0],(.E 12)),([0],(ki 14))])]) (.block 0 (.seq (.reg [oE 15 (.bin .eql (.V 13) (ki 0)),wE 14 15]) (.cond (.E 14) (.regD [(fV 16 0 3,0,3),(lE 17 16,0,3),(mV 18 4,0,0),(fV 19 0 3,0,2),(lE 20 19,0,2),(mV 21 4,0,0),(iE 22 1 20 21,0,2),(lE 23 22,0,2),(mV 24 0,0,0),(oE 25 (.call zjj [([0],(.E 24))]),0,0),(oE 26 (.bslice 1 1 [iv 0] [(0,(.E 25))]),0,0),(oE 27 (.app 8 1 (.E 23) (.E 26)),0,0),(iE 28 1 17 18,0,0),(oN (.store [1] (.E 28) (.E 27)),0,0)]) (.seq (.reg [oE 30 (.bin .eql (.V 13) (ki 1)),wE 29 30]) (.cond (.E 29) (.regD [(fV 31 1 3,0,2),(lE 32 31,0,2),(mV 33 4,0,0),(iE 34 1 32 33,0,2),(lE 35 34,0,2),(mV 36 0,0,0),(oE 37 (.bslice 5 1 [iv 0] [(0,(ki 0)),(1,(ki 1)),(2,(ki (-1))),(3,(ki 8)),(4,(ki 9223372036854775807))]),0,0),(oE 38 (.call zd5 [([0],(.E 36)),([1],(.E 37))]),0,0),(oE 39 (.iaddr 1 (.E 35) (ki 0)),0,0),(oN (.store [0] (.E 39) (.E 38)),0,0)]) (.seq (.reg [oE 41 (.bin .eql (.V 13) (ki 2)),wE 40 41]) (.cond (.E 40) (.regD [(fV 42 1 3,0,2),(lE 43 42,0,2),(mV 44 4,0,0),(fV 45 1 3,0,1),(lE 46 45,0,1),(mV 47 4,0,0),(iE 48 1 46 47,0,1),(lE 49 48,0,1),(oE 50 (.bslice 1 1 [iv 0] [(0,(ki 0))]),0,0),(oE 51 (.app 8 1 (.E 49) (.E 50)),0,0),(iE 52 1 43 44,0,0),(oN (.store [1] (.E 52) (.E 51)),0,0)]) (.seq (.reg [oE 54 (.bin .eql (.V 13) (ki 3)),wE 53 54]) (.cond (.E 53) (.reg [fV 55 1 3,lE 56 55,oE 57 (.bslice 1 1 [iv 0] [(0,(ki 0))]),oE 58 (.bslice 1 1 [(.own 1 [])] [(0,(.E 57))]),oE 59 (.app 24 1 (.E 56) (.E 58)),fV 60 1 3,oN (.store [1] (.E 60) (.E 59))]) (.seq (.reg [oE 62 (.bin .eql (.V 13) (ki 4)),wE 61 62]) (.cond (.E 61) (.reg [fV 63 0 3,lE 64 63,oE 65 (.bslice 0 1 [iv 0] []),oE 66 (.bslice 1 1 [(.own 1 [])] [(0,(.E 65))]),oE 67 (.app 24 1 (.E 64) (.E 66)),fV 68 0 3,oN (.store [1] (.E 68) (.E 67))]) (.seq (.reg [oE 70 (.bin .eql (.V 13) (ki 5)),wE 69 70]) (.cond (.E 69) (.reg [oE 71 (.bslice 0 1 [(.own 1 [])] []),fV 72 1 3,oN (.store [1] (.E 72) (.E 71))]) (.seq (.reg [oE 74 (.bin .eql (.V 13) (ki 6)),wE 73 74]) (.cond (.E 73) (.regD [(fV 75 0 3,0,1),(lE 76 75,0,1),(mV 77 4,0,0),(fV 78 0 3,0,1),(lE 79 78,0,1),(mV 80 4,0,0),(iE 81 1 79 80,0,1),(lE 82 81,0,1),(mV 83 0,0,0),(fV 84 0 3,0,0),(lE 85 84,0,0),(mV 86 4,0,0),(iE 87 1 85 86,0,0),(lE 88 87,0,0),(nE 89 88,0,0),(oE 90 (.bin .add (.E 89) (ki 1)),0,0),(oE 91 (.call zbd [([0],(.E 83)),([0],(.E 90))]),0,0),(oE 92 (.slice 1 (.E 82) none (some (.E 91)) none),0,0),(iE 93 1 76 77,0,0),(oN (.store [1] (.E 93) (.E 92)),0,0)]) .skip)))))))))))))))) (.seq (.reg [tV 94 2 3,oN (.store [1,1] (.V 2) (.E 94))]) .ret))))
def zgr:List RV:=[.cell [1,1] 2 true]
def ygi:List Nat:=[0,6,4,3,2]
def z3b:IC := .seq (.seq (.reg [mV 14 4,oE 15 (.bin .lss (.E 14) (ki 8))]) (.cond (.E 15) .skip (.exit 1))) (.seq (.block 2 (.reg [mV 18 3,oE 19 (.bin .mul (.E 18) (ki 256)),mV 20 0,oE 21 (.call zgn [([0],(.E 20))]),bE 22 .add 19 21,vE 3 22])) (.reg [mV 16 4,oE 17 (.bin .add (.E 16) (ki 1)),vE 4 17]))
def zl5:IC := .seq (.reg [oV 2 (.mv (ki 0))]) (.seq (.seq (.reg [mV 5 0,oV 6 (.call zbd [([0],(.E 5)),([0],(ki 4))])]) (.block 0 (.seq (.reg [oE 8 (.bin .eql (.V 6) (ki 0)),wE 7 8]) (.cond (.E 7) (.seq (.reg [mV 9 0,oE 10 (.bslice 14 1 [iv 0] [(0,(ki 0)),(1,(ki 1)),(2,(ki (-1))),(3,(ki 9)),(4,(ki 10)),(5,(ki 999)),(6,(ki 1000)),(7,(ki 2147483647)),(8,(ki (-2147483648))),(9,(ki 3037000499)),(10,(ki 3037000500)),(11,(ki 9223372036854775807)),(12,(ki (-9223372036854775807))),(13,(ki (-9223372036854775808)))]),oE 11 (.call zd5 [([0],(.E 9)),([1],(.E 10))]),vE 2 11]) .ret) (.seq (.reg [oE 13 (.bin .eql (.V 6) (ki 1)),wE 12 13]) (.cond (.E 12) (.seq (.reg [oV 3 (.mv (ki 0))]) (.seq (.seq (.reg [oV 4 (.mv (ki 0))]) (.block 1 (.loop z3b))) (.seq (.reg [mV 23 3,vE 2 23]) .ret))) (.seq (.reg [oE 25 (.bin .eql (.V 6) (ki 2)),wE 24 25]) (.cond (.E 24) (.seq (.reg [mV 26 0,oE 27 (.call zbd [([0],(.E 26)),([0],(ki 1000000))]),oE 28 (.bin .sub (.E 27) (ki 500000)),vE 2 28]) .ret) .skip)))))))) (.seq (.reg [mV 29 0,oE 30 (.call zbd [([0],(.E 29)),([0],(ki 41))]),oE 31 (.bin .sub (.E 30) (ki 20)),vE 2 31]) .ret))
def zl6:List RV:=[.tmp [0] 2]
def ygj:List Nat:=[0,1,2,3,22,21,20,12,10,14,13,8,9]
def zl7:IC := .seq (.reg [oE 23 (.bin .lss (.V 22) (.V 21))]) (.seq (.cond (.E 23) .skip (.exit 0)) (.seq (.block 1 (.seq (.reg [oE 24 (.iaddr 1 (.V 20) (.V 22)),lE 25 24,vE 12 25]) (.seq (.seq (.reg [mV 26 12,mV 27 0,nE 28 27,mV 29 1,nE 30 29,oE 31 (.mx false (.E 28) (.E 30)),oE 32 (.bin .sub (.E 31) (ki 1)),oE 33 (.call zcf [([0],(.E 26)),([0],(ki 0)),([0],(.E 32))]),oE 34 (.un .not (.E 33)),wE 35 34,gE 36 35 .false (.mv (.V 0)),gE 37 35 .false (.mv (.V 12)),gE 38 35 .false (.iaddr 1 (.E 36) (.E 37)),gE 39 35 .false (.load false 1 (.E 38)),gE 40 35 .false (.mv (.V 3)),gE 41 35 .false (.bin .sub (.E 40) (ki 1)),gE 42 35 .false (.call zcf [([0],(.E 39)),([0],(ki 0)),([0],(.E 41))]),gE 43 35 .false (.un .not (.E 42)),oE 44 (.pick (.E 35) (kb true) (.E 43))]) (.cond (.E 44) (.seq (.reg [oV 8 (.mv (.C .e0)),oV 9 (.mv (kb false))]) .ret) .skip)) (.seq (.regD [(mV 46 10,0,0),(mV 47 0,0,0),(mV 48 12,0,0),(iE 49 1 47 48,0,0),(lE 50 49,0,0),(iE 51 2 46 50,0,0),(tE 52 2 51,0,0),(mV 53 1,0,0),(mV 54 12,0,0),(iE 55 1 53 54,0,0),(lE 56 55,0,0),(oE 57 (.build [iv 0,iv 0] [(0,1,(ki 1)),(1,1,(.E 56))]),0,0),(oE 58 (.call zjk [([0,0],(.E 52)),([0,0],(.E 57))]),0,0),(wE 45 58,0,0),(xE 59 0 45,0,0),(xE 60 1 45,0,0),(oV 13 (.allocL [iv 0,iv 0]),0,0),(oN (.store [0,0] (.V 13) (.E 59)),0,0),(vE 14 60,0,0)]) (.seq (.seq (.reg [mV 61 14,oE 62 (.un .not (.E 61))]) (.cond (.E 62) (.seq (.reg [oV 8 (.mv (.C .e0)),oV 9 (.mv (kb false))]) .ret) .skip)) (.regD [(mV 63 10,0,0),(mV 64 0,0,0),(mV 65 12,0,0),(iE 66 1 64 65,0,0),(lE 67 66,0,0),(tV 68 2 13,0,0),(iE 69 2 63 67,0,0),(oN (.store [0,0] (.E 69) (.E 68)),0,0)])))))) (.reg [oE 70 (.bin .add (.V 22) (ki 1)),vE 22 70])))
def zrm:IC := .seq (.reg [oV 8 (.mv (.C .e0)),oV 9 (.mv (kb false))]) (.seq (.seq (.reg [mV 15 3,oE 16 (.call zcf [([0],(.E 15)),([0],(ki 1)),([0],(ki 8))]),oE 17 (.un .not (.E 16))]) (.cond (.E 17) (.seq (.reg [oV 8 (.mv (.C .e0)),oV 9 (.mv (kb false))]) .ret) .skip)) (.seq (.reg [mV 18 3,oE 19 (.mksl 16 2 [iv 0,iv 0] (.E 18) (.E 18)),vE 10 19]) (.seq (.seq (.reg [oV 20 (.mv (.V 2)),oV 21 (.len (.V 20)),oV 22 (.mv (ki 0))]) (.block 0 (.loop zl7))) (.seq (.reg [mV 71 10,vE 8 71,oV 9 (.mv (kb true))]) .ret))))
def zrn:List RV:=[.tmp [2] 8,.tmp [0] 9]
def ygk:List Nat:=[0,1,2,3,4,7,9,8,10,12,11,6]
def zve:IC := .seq (.reg [oV 3 (.box (.V 0)),oV 4 (.box (.V 1)),oV 6 (.mv (kb false))]) (.seq (.reg [tV 14 6 3,mV 15 2,oE 16 (.call zjh [([0,0,0,0,0,0],(.E 14)),([0],(.E 15))]),wE 13 16,xE 17 0 13,xE 18 1 13,oV 7 (.alloc [(.v (.bool false)),(.v (.int .u64 0)),(.v (.int .u64 0)),iv 0]),oN (.store [0,0,0,0] (.V 7) (.E 17)),vE 8 18]) (.seq (.reg [tV 20 6 4,mV 21 2,oE 22 (.call zjh [([0,0,0,0,0,0],(.E 20)),([0],(.E 21))]),wE 19 22,xE 23 0 19,xE 24 1 19,oV 9 (.alloc [(.v (.bool false)),(.v (.int .u64 0)),(.v (.int .u64 0)),iv 0]),oN (.store [0,0,0,0] (.V 9) (.E 23)),vE 10 24]) (.seq (.reg [tV 26 4 7,tV 27 4 9,oE 28 (.call zk0 [([0,0,0,0],(.E 26)),([0,0,0,0],(.E 27))]),wE 25 28,xE 29 0 25,xE 30 1 25,vE 11 29,vE 12 30]) (.seq (.reg [mV 31 8,wE 32 31,gE 33 32 .true (.mv (.V 10)),oE 34 (.pick (.E 32) (.E 33) (kb false)),wE 35 34,gE 36 35 .true (.mv (.V 12)),oE 37 (.pick (.E 35) (.E 36) (kb false)),wE 38 37,gE 39 38 .true (.mv (.V 11)),gE 40 38 .true (.bin .gtr (.E 39) (ki 0)),gE 41 38 .true (.mv (.E 40)),gE 42 41 .false (.mv (.V 11)),gE 43 41 .false (.bin .eql (.E 42) (ki 0)),gE 44 41 .false (.mv (.E 43)),gE 45 44 .true (.load true 6 (.V 3)),gE 46 44 .true (.load true 6 (.V 4)),gE 47 44 .true (.call zom [([0,0,0,0,0,0],(.E 45)),([0,0,0,0,0,0],(.E 46))]),gE 48 41 .false (.pick (.E 44) (.E 47) (kb false)),gE 49 38 .true (.pick (.E 41) (kb true) (.E 48)),oE 50 (.pick (.E 38) (.E 49) (kb false)),vE 6 50]) .ret))))
def zvf:List RV:=[.tmp [0] 6]
def ygl:List Nat:=[0,14,13,12,5,7,9,8,4,2,3]
def zvg:IC := .seq (.reg [oE 15 (.bin .lss (.V 14) (.V 13))]) (.seq (.cond (.E 15) .skip (.exit 0)) (.seq (.block 1 (.seq (.reg [oE 16 (.iaddr 2 (.V 12) (.V 14)),tE 17 2 16,oV 7 (.alloc [iv 0,iv 0]),oN (.store [0,0] (.V 7) (.E 17))]) (.seq (.reg [tV 19 2 5,tV 20 2 7,oE 21 (.call zjk [([0,0],(.E 19)),([0,0],(.E 20))]),wE 18 21,xE 22 0 18,xE 23 1 18,oV 8 (.alloc [iv 0,iv 0]),oN (.store [0,0] (.V 8) (.E 22)),vE 9 23]) (.seq (.seq (.reg [mV 24 9,oE 25 (.un .not (.E 24))]) (.cond (.E 25) (.seq (.reg [oV 2 (.mv (.C .e0)),oV 3 (.mv (kb false))]) .ret) .skip)) (.regD [(tV 26 2 8,0,2),(mV 27 4,0,0),(tV 28 2 8,0,0),(oE 29 (.bslice 1 2 [iv 0,iv 0] [(0,(.E 28))]),0,0),(oE 30 (.app 16 2 (.E 27) (.E 29)),0,0),(oN (.store [0,0] (.V 5) (.E 26)),0,0),(vE 4 30,0,0)]))))) (.reg [oE 31 (.bin .add (.V 14) (ki 1)),vE 14 31])))
def zvh:IC := .seq (.reg [oV 2 (.mv (.C .e0)),oV 3 (.mv (kb false))]) (.seq (.reg [oE 10 (.bslice 0 2 [iv 0,iv 0] []),oE 11 (.build [iv 0,iv 0] []),oV 5 (.alloc [iv 0,iv 0]),vE 4 10,oN (.store [0,0] (.V 5) (.E 11))]) (.seq (.seq (.reg [oV 12 (.mv (.V 0)),oV 13 (.len (.V 12)),oV 14 (.mv (ki 0))]) (.block 0 (.loop zvg))) (.seq (.reg [mV 32 4,vE 2 32,oV 3 (.mv (kb true))]) .ret)))
def zvi:List RV:=[.tmp [2] 2,.tmp [0] 3]
def ygm:List Nat:=[0,1,2,3,7,9,4,6,8,5]
def zvj:IC := .seq (.reg [oV 2 (.box (.V 0)),oV 3 (.box (.V 1)),oV 4 (.alloc [iv 0,iv 0]),oV 5 (.mv (kb false))]) (.seq (.reg [fV 11 0 2,lE 12 11,fV 13 0 3,lE 14 13,oE 15 (.call zk6 [([0],(.E 12)),([0],(.E 14))]),wE 10 15,xE 16 0 10,xE 17 1 10,vE 6 16,vE 7 17]) (.seq (.reg [fV 19 1 2,lE 20 19,fV 21 1 3,lE 22 21,oE 23 (.call zk6 [([0],(.E 20)),([0],(.E 22))]),wE 18 23,xE 24 0 18,xE 25 1 18,vE 8 24,vE 9 25]) (.seq (.seq (.reg [mV 26 7,oE 27 (.un .not (.E 26)),wE 28 27,gE 29 28 .false (.mv (.V 9)),gE 30 28 .false (.un .not (.E 29)),oE 31 (.pick (.E 28) (kb true) (.E 30))]) (.cond (.E 31) (.seq (.reg [oE 32 (.build [iv 0,iv 0] []),oN (.store [0,0] (.V 4) (.E 32)),oV 5 (.mv (kb false))]) .ret) .skip)) (.seq (.reg [mV 33 6,mV 34 8,oE 35 (.build [iv 0,iv 0] [(0,1,(.E 33)),(1,1,(.E 34))]),oN (.store [0,0] (.V 4) (.E 35)),oV 5 (.mv (kb true))]) .ret))))
def zvk:List RV:=[.cell [0,0] 4 true,.tmp [0] 5]
def ygn:List Nat:=[0,1,2,3,10,12,13,11,15,14,8,9]
def zl8:IC := .seq (.seq (.reg [mV 23 12,mV 24 2,nE 25 24,bE 26 .lss 23 25]) (.cond (.E 26) .skip (.exit 0))) (.seq (.block 1 (.seq (.reg [mV 29 2,mV 30 12,iE 31 1 29 30,lE 32 31,vE 13 32]) (.seq (.seq (.reg [mV 33 13,mV 34 0,nE 35 34,oE 36 (.bin .sub (.E 35) (ki 1)),oE 37 (.call zbm [([0],(.E 33)),([0],(ki 0)),([0],(.E 36))]),oE 38 (.un .not (.E 37)),wE 39 38,gE 40 39 .false (.mv (.V 13)),gE 41 39 .false (.mv (.V 1)),gE 42 39 .false (.len (.E 41)),gE 43 39 .false (.bin .sub (.E 42) (ki 1)),gE 44 39 .false (.call zbm [([0],(.E 40)),([0],(ki 0)),([0],(.E 43))]),gE 45 39 .false (.un .not (.E 44)),oE 46 (.pick (.E 39) (kb true) (.E 45)),wE 47 46,gE 48 47 .false (.mv (.V 0)),gE 49 47 .false (.mv (.V 13)),gE 50 47 .false (.iaddr 1 (.E 48) (.E 49)),gE 51 47 .false (.load false 1 (.E 50)),gE 52 47 .false (.mv (.V 3)),gE 53 47 .false (.bin .sub (.E 52) (ki 1)),gE 54 47 .false (.call zbm [([0],(.E 51)),([0],(ki 0)),([0],(.E 53))]),gE 55 47 .false (.un .not (.E 54)),oE 56 (.pick (.E 47) (kb true) (.E 55))]) (.cond (.E 56) (.seq (.reg [mV 57 10,vE 8 57,oV 9 (.mv (kb false))]) .ret) .skip)) (.seq (.regD [(mV 59 11,0,0),(mV 60 0,0,0),(mV 61 13,0,0),(iE 62 1 60 61,0,0),(lE 63 62,0,0),(iE 64 2 59 63,0,0),(tE 65 2 64,0,0),(mV 66 1,0,0),(mV 67 13,0,0),(iE 68 1 66 67,0,0),(lE 69 68,0,0),(oE 70 (.build [iv 0,iv 0] [(0,1,(ki 1)),(1,1,(.E 69))]),0,0),(oE 71 (.call zjl [([0,0],(.E 65)),([0,0],(.E 70))]),0,0),(wE 58 71,0,0),(xE 72 0 58,0,0),(xE 73 1 58,0,0),(oV 14 (.allocL [iv 0,iv 0]),0,0),(oN (.store [0,0] (.V 14) (.E 72)),0,0),(vE 15 73,0,0)]) (.seq (.seq (.reg [mV 74 15,oE 75 (.un .not (.E 74))]) (.cond (.E 75) (.seq (.reg [mV 76 10,vE 8 76,oV 9 (.mv (kb false))]) .ret) .skip)) (.regD [(mV 77 11,0,0),(mV 78 0,0,0),(mV 79 13,0,0),(iE 80 1 78 79,0,0),(lE 81 80,0,0),(tV 82 2 14,0,0),(iE 83 2 77 81,0,0),(oN (.store [0,0] (.E 83) (.E 82)),0,0)])))))) (.reg [mV 27 12,oE 28 (.bin .add (.E 27) (ki 1)),vE 12 28]))
def zro:IC := .seq (.reg [oV 8 (.mv (.C .e0)),oV 9 (.mv (kb false))]) (.seq (.reg [oE 16 (.bslice 0 2 [iv 0,iv 0] []),vE 10 16]) (.seq (.seq (.reg [mV 17 3,oE 18 (.call zbm [([0],(.E 17)),([0],(ki 1)),([0],(ki 8))]),oE 19 (.un .not (.E 18))]) (.cond (.E 19) (.seq (.reg [mV 20 10,vE 8 20,oV 9 (.mv (kb false))]) .ret) .skip)) (.seq (.reg [mV 21 3,oE 22 (.mksl 16 2 [iv 0,iv 0] (.E 21) (.E 21)),vE 11 22]) (.seq (.seq (.reg [oV 12 (.mv (ki 0))]) (.block 0 (.loop zl8))) (.seq (.reg [mV 84 11,vE 8 84,oV 9 (.mv (kb true))]) .ret)))))
def zrp:List RV:=[.tmp [2] 8,.tmp [0] 9]
def ygo:List Nat:=[0,1,2,3,4,5,9,7,8,6]
def zvl:IC := .seq (.reg [oV 3 (.box (.V 0)),oV 4 (.box (.V 1)),oV 5 (.box (.V 2)),oV 6 (.mv (kb false))]) (.seq (.reg [tV 11 8 3,tV 12 2 4,tV 13 6 5,oE 14 (.call znz [([0,0,0,0,0,0,0,1],(.E 11)),([0,0],(.E 12)),([0,0,0,0,0,0],(.E 13))]),wE 10 14,xE 15 0 10,xE 16 1 10,xE 17 2 10,vE 7 15,vE 8 16,vE 9 17]) (.seq (.reg [tV 18 8 3,oE 19 (.call zkr [([0,0,0,0,0,0,0,1],(.E 18))]),wE 20 19,gE 21 20 .true (.mv (.V 9)),oE 22 (.pick (.E 20) (.E 21) (kb false)),wE 23 22,gE 24 23 .true (.faddr 2 (.V 5)),gE 25 23 .true (.faddr 0 (.E 24)),gE 26 23 .true (.load false 1 (.E 25)),gE 27 23 .true (.faddr 4 (.V 3)),gE 28 23 .true (.load false 1 (.E 27)),gE 29 23 .true (.bin .geq (.E 26) (.E 28)),oE 30 (.pick (.E 23) (.E 29) (kb false)),wE 31 30,gE 32 31 .true (.faddr 4 (.V 5)),gE 33 31 .true (.faddr 0 (.E 32)),gE 34 31 .true (.load false 1 (.E 33)),gE 35 31 .true (.faddr 4 (.V 3)),gE 36 31 .true (.load false 1 (.E 35)),gE 37 31 .true (.bin .geq (.E 34) (.E 36)),oE 38 (.pick (.E 31) (.E 37) (kb false)),wE 39 38,gE 40 39 .true (.load true 8 (.V 3)),gE 41 39 .true (.faddr 0 (.V 5)),gE 42 39 .true (.load false 1 (.E 41)),gE 43 39 .true (.call zn0 [([0,0,0,0,0,0,0,1],(.E 40)),([0],(.E 42))]),gE 44 39 .true (.mv (.V 7)),gE 45 39 .true (.mv (.V 8)),gE 46 39 .true (.call zon [([0],(.E 43)),([0],(.E 44)),([0],(.E 45))]),oE 47 (.pick (.E 39) (.E 46) (kb false)),wE 48 47,gE 49 48 .true (.load true 6 (.V 5)),gE 50 48 .true (.faddr 3 (.V 3)),gE 51 48 .true (.load false 1 (.E 50)),gE 52 48 .true (.call zoo [([0,0,0,0,0,0],(.E 49)),([0],(.E 51))]),oE 53 (.pick (.E 48) (.E 52) (kb false)),vE 6 53]) .ret))
def zvm:List RV:=[.tmp [0] 6]
def ygp:List Nat:=[0,1,2,3,4,8,10,7,9,12,11,6]
def zvn:IC := .seq (.reg [oV 3 (.box (.V 0)),oV 4 (.box (.V 1)),oV 6 (.mv (kb false))]) (.seq (.reg [tV 14 6 3,mV 15 2,oE 16 (.call zjm [([0,0,0,0,0,0],(.E 14)),([0],(.E 15))]),wE 13 16,xE 17 0 13,xE 18 1 13,oV 7 (.alloc [(.v (.bool false)),(.v (.int .u64 0)),(.v (.int .u64 0)),iv 0]),oN (.store [0,0,0,0] (.V 7) (.E 17)),vE 8 18]) (.seq (.reg [tV 20 6 4,mV 21 2,oE 22 (.call zjm [([0,0,0,0,0,0],(.E 20)),([0],(.E 21))]),wE 19 22,xE 23 0 19,xE 24 1 19,oV 9 (.alloc [(.v (.bool false)),(.v (.int .u64 0)),(.v (.int .u64 0)),iv 0]),oN (.store [0,0,0,0] (.V 9) (.E 23)),vE 10 24]) (.seq (.seq (.reg [mV 25 8,oE 26 (.un .not (.E 25)),wE 27 26,gE 28 27 .false (.mv (.V 10)),gE 29 27 .false (.un .not (.E 28)),oE 30 (.pick (.E 27) (kb true) (.E 29))]) (.cond (.E 30) (.seq (.reg [oV 6 (.mv (kb false))]) .ret) .skip)) (.seq (.reg [tV 32 4 7,tV 33 4 9,oE 34 (.call zk5 [([0,0,0,0],(.E 32)),([0,0,0,0],(.E 33))]),wE 31 34,xE 35 0 31,xE 36 1 31,vE 11 35,vE 12 36]) (.seq (.reg [mV 37 12,wE 38 37,gE 39 38 .true (.mv (.V 11)),gE 40 38 .true (.bin .gtr (.E 39) (ki 0)),gE 41 38 .true (.mv (.E 40)),gE 42 41 .false (.mv (.V 11)),gE 43 41 .false (.bin .eql (.E 42) (ki 0)),gE 44 41 .false (.mv (.E 43)),gE 45 44 .true (.load true 6 (.V 3)),gE 46 44 .true (.load true 6 (.V 4)),gE 47 44 .true (.call zop [([0,0,0,0,0,0],(.E 45)),([0,0,0,0,0,0],(.E 46))]),gE 48 41 .false (.pick (.E 44) (.E 47) (kb false)),gE 49 38 .true (.pick (.E 41) (kb true) (.E 48)),oE 50 (.pick (.E 38) (.E 49) (kb false)),vE 6 50]) .ret)))))
def zvo:List RV:=[.tmp [0] 6]
def ygq:List Nat:=[0,6,5,8,7,4,2,3]
def zvp:IC := .seq (.seq (.reg [mV 11 6,mV 12 0,nE 13 12,bE 14 .lss 11 13]) (.cond (.E 14) .skip (.exit 0))) (.seq (.block 1 (.seq (.regD [(tV 18 2 5,0,0),(mV 19 0,0,0),(mV 20 6,0,0),(iE 21 2 19 20,0,0),(tE 22 2 21,0,0),(oE 23 (.call zjl [([0,0],(.E 18)),([0,0],(.E 22))]),0,0),(wE 17 23,0,0),(xE 24 0 17,0,0),(xE 25 1 17,0,0),(oV 7 (.allocL [iv 0,iv 0]),0,0),(oN (.store [0,0] (.V 7) (.E 24)),0,0),(vE 8 25,0,0)]) (.seq (.seq (.reg [mV 26 8,oE 27 (.un .not (.E 26))]) (.cond (.E 27) (.seq (.reg [oE 28 (.bslice 0 2 [iv 0,iv 0] []),vE 2 28,oV 3 (.mv (kb false))]) .ret) .skip)) (.seq (.reg [tV 29 2 7,oN (.store [0,0] (.V 5) (.E 29))]) (.reg [mV 30 4,tV 31 2 5,oE 32 (.bslice 1 2 [iv 0,iv 0] [(0,(.E 31))]),oE 33 (.app 16 2 (.E 30) (.E 32)),vE 4 33]))))) (.reg [mV 15 6,oE 16 (.bin .add (.E 15) (ki 1)),vE 6 16]))
def zvq:IC := .seq (.reg [oV 2 (.mv (.C .e0)),oV 3 (.mv (kb false))]) (.seq (.reg [oE 9 (.bslice 0 2 [iv 0,iv 0] []),vE 4 9]) (.seq (.reg [oE 10 (.build [iv 0,iv 0] []),oV 5 (.alloc [iv 0,iv 0]),oN (.store [0,0] (.V 5) (.E 10))]) (.seq (.seq (.reg [oV 6 (.mv (ki 0))]) (.block 0 (.loop zvp))) (.seq (.reg [mV 34 4,vE 2 34,oV 3 (.mv (kb true))]) .ret))))
def zvr:List RV:=[.tmp [2] 2,.tmp [0] 3]
def ygr:List Nat:=[0,1,4,5]
def zjx:IC := .seq (.reg [oV 4 (.mv (ki 0)),oV 5 (.mv (kb false))]) (.seq (.seq (.reg [mV 6 1,oE 7 (.bin .lss (.E 6) (ki 0)),wE 8 7,gE 9 8 .true (.mv (.V 0)),gE 10 8 .true (.mv (.V 1)),gE 11 8 .true (.bin .add (ki 9223372036854775807) (.E 10)),gE 12 8 .true (.bin .gtr (.E 9) (.E 11)),oE 13 (.pick (.E 8) (.E 12) (kb false)),wE 14 13,gE 15 14 .false (.mv (.V 1)),gE 16 14 .false (.bin .gtr (.E 15) (ki 0)),gE 17 14 .false (.mv (.E 16)),gE 18 17 .true (.mv (.V 0)),gE 19 17 .true (.mv (.V 1)),gE 20 17 .true (.bin .add (ki (-9223372036854775808)) (.E 19)),gE 21 17 .true (.bin .lss (.E 18) (.E 20)),gE 22 14 .false (.pick (.E 17) (.E 21) (kb false)),oE 23 (.pick (.E 14) (kb true) (.E 22))]) (.cond (.E 23) (.seq (.reg [oV 4 (.mv (ki 0)),oV 5 (.mv (kb false))]) .ret) .skip)) (.seq (.reg [mV 24 0,mV 25 1,bE 26 .sub 24 25,vE 4 26,oV 5 (.mv (kb true))]) .ret))
def zjy:List RV:=[.tmp [0] 4,.tmp [0] 5]
def ygs:List Nat:=[0,2]
def zvs:IC := .seq (.reg [oV 2 (.mv (kb false))]) (.seq (.reg [mV 3 0,oE 4 (.call zoa [([0],(.E 3))]),oE 5 (.un .not (.E 4)),vE 2 5]) .ret)
def zvt:List RV:=[.tmp [0] 2]
def ygt:List Nat:=[0,2]
def zvu:IC := .seq (.reg [oV 2 (.mv (kb false))]) (.seq (.reg [mV 3 0,oE 4 (.call zcf [([0],(.E 3)),([0],(ki (-1))),([0],(ki 1))]),vE 2 4]) .ret)
def zvv:List RV:=[.tmp [0] 2]
def ygu:List Nat:=[0,1,2,7,9,4,6,8,5]
def zvw:IC := .seq (.reg [oV 2 (.box (.V 0)),oV 4 (.alloc [(.v (.bool false)),(.v (.int .u64 0)),(.v (.int .u64 0)),iv 0]),oV 5 (.mv (kb false))]) (.seq (.reg [fV 11 2 2,tE 12 2 11,mV 13 1,oE 14 (.call zji [([0,0],(.E 12)),([0],(.E 13))]),wE 10 14,xE 15 0 10,xE 16 1 10,oV 6 (.alloc [(.v (.bool false)),(.v (.int .u64 0)),(.v (.int .u64 0)),iv 0]),oN (.store [0,0,0,0] (.V 6) (.E 15)),vE 7 16]) (.seq (.reg [fV 18 4 2,tE 19 2 18,mV 20 1,oE 21 (.call zji [([0,0],(.E 19)),([0],(.E 20))]),wE 17 21,xE 22 0 17,xE 23 1 17,oV 8 (.alloc [(.v (.bool false)),(.v (.int .u64 0)),(.v (.int .u64 0)),iv 0]),oN (.store [0,0,0,0] (.V 8) (.E 22)),vE 9 23]) (.seq (.seq (.reg [mV 24 7,oE 25 (.un .not (.E 24)),wE 26 25,gE 27 26 .false (.mv (.V 9)),gE 28 26 .false (.un .not (.E 27)),oE 29 (.pick (.E 26) (kb true) (.E 28))]) (.cond (.E 29) (.seq (.reg [oE 30 (.build [(.v (.bool false)),(.v (.int .u64 0)),(.v (.int .u64 0)),iv 0] []),oN (.store [0,0,0,0] (.V 4) (.E 30)),oV 5 (.mv (kb false))]) .ret) .skip)) (.seq (.reg [tV 31 4 6,tV 32 4 8,oE 33 (.call zoq [([0,0,0,0],(.E 31)),([0,0,0,0],(.E 32))]),xE 34 0 33,xE 35 1 33,oN (.store [0,0,0,0] (.V 4) (.E 34)),vE 5 35]) .ret))))
def zvx:List RV:=[.cell [0,0,0,0] 4 true,.tmp [0] 5]
def ygv:List Nat:=[0,1,2,3]
def zvy:IC := .seq (.reg [oV 1 (.box (.V 0)),oV 2 (.alloc [iv 0,iv 0]),oV 3 (.mv (kb false))]) (.seq (.reg [fV 4 2 1,tE 5 2 4,fV 6 4 1,tE 7 2 6,oE 8 (.call zjk [([0,0],(.E 5)),([0,0],(.E 7))]),xE 9 0 8,xE 10 1 8,oN (.store [0,0] (.V 2) (.E 9)),vE 3 10]) .ret)
def zvz:List RV:=[.cell [0,0] 2 true,.tmp [0] 3]
def ygw:List Nat:=[0,1,2,4,5]
def zrq:IC := .seq (.reg [oV 2 (.box (.V 0)),oV 4 (.alloc [(.v (.bool false)),(.v (.int .u64 0)),(.v (.int .u64 0)),iv 0]),oV 5 (.mv (kb false))]) (.seq (.seq (.reg [fV 6 0 2,lE 7 6,mV 8 1,oE 9 (.call zk3 [([0],(.E 7)),([0],(.E 8))]),oE 10 (.un .not (.E 9))]) (.cond (.E 10) (.seq (.reg [oE 11 (.build [(.v (.bool false)),(.v (.int .u64 0)),(.v (.int .u64 0)),iv 0] []),oN (.store [0,0,0,0] (.V 4) (.E 11)),oV 5 (.mv (kb false))]) .ret) .skip)) (.seq (.reg [fV 12 1 2,lE 13 12,fV 14 0 2,lE 15 14,mV 16 1,bE 17 .add 15 16,oE 18 (.call zor [([0],(.E 13)),([0],(.E 17))]),xE 19 0 18,xE 20 1 18,oN (.store [0,0,0,0] (.V 4) (.E 19)),vE 5 20]) .ret))
def zrr:List RV:=[.cell [0,0,0,0] 4 true,.tmp [0] 5]
def ygx:List Nat:=[0,1,2,3,8,6,7,4,5]
def zv0:IC := .seq (.reg [oV 2 (.box (.V 0)),oV 3 (.box (.V 1)),oV 4 (.mv (ki 0)),oV 5 (.mv (kb false))]) (.seq (.reg [tV 10 4 2,tV 11 4 3,oE 12 (.call zk7 [([0,0,0,0],(.E 10)),([0,0,0,0],(.E 11))]),wE 9 12,xE 13 0 9,xE 14 1 9,xE 15 2 9,oV 6 (.alloc [(.v (.bool false)),(.v (.int .u64 0)),(.v (.int .u64 0))]),oV 7 (.alloc [(.v (.bool false)),(.v (.int .u64 0)),(.v (.int .u64 0))]),oN (.store [0,0,0] (.V 6) (.E 13)),oN (.store [0,0,0] (.V 7) (.E 14)),vE 8 15]) (.seq (.seq (.reg [mV 16 8,oE 17 (.un .not (.E 16))]) (.cond (.E 17) (.seq (.reg [oV 4 (.mv (ki 0)),oV 5 (.mv (kb false))]) .ret) .skip)) (.seq (.reg [tV 18 3 6,tV 19 3 7,oE 20 (.call zos [([0,0,0],(.E 18)),([0,0,0],(.E 19))]),vE 4 20,oV 5 (.mv (kb true))]) .ret)))
def zv1:List RV:=[.tmp [0] 4,.tmp [0] 5]
def ygy:List Nat:=[0,3,2]
def z3c:IC := .seq (.seq (.reg [mV 4 3,mV 5 0,nE 6 5,bE 7 .lss 4 6]) (.cond (.E 7) .skip (.exit 0))) (.seq (.block 1 (.seq (.regD [(mV 10 0,0,0),(mV 11 3,0,0),(iE 12 1 10 11,0,0),(lE 13 12,0,0),(oE 14 (.call zjn [([0],(.E 13))]),0,0),(oE 15 (.un .not (.E 14)),0,0),(wE 16 15,0,0),(gE 17 16 .false (.mv (.V 3)),0,0),(gE 18 16 .false (.bin .gtr (.E 17) (ki 0)),0,0),(gE 19 16 .false (.mv (.E 18)),0,0),(gE 20 19 .true (.mv (.V 0)),0,0),(gE 21 19 .true (.mv (.V 3)),0,0),(gE 22 19 .true (.bin .sub (.E 21) (ki 1)),0,0),(gE 23 19 .true (.iaddr 1 (.E 20) (.E 22)),0,0),(gE 24 19 .true (.load false 1 (.E 23)),0,0),(gE 25 19 .true (.mv (.V 0)),0,0),(gE 26 19 .true (.mv (.V 3)),0,0),(gE 27 19 .true (.iaddr 1 (.E 25) (.E 26)),0,0),(gE 28 19 .true (.load false 1 (.E 27)),0,0),(gE 29 19 .true (.bin .geq (.E 24) (.E 28)),0,0),(gE 30 16 .false (.pick (.E 19) (.E 29) (kb false)),0,0),(oE 31 (.pick (.E 16) (kb true) (.E 30)),0,0)]) (.cond (.E 31) (.seq (.reg [oV 2 (.mv (kb false))]) .ret) .skip))) (.reg [mV 8 3,oE 9 (.bin .add (.E 8) (ki 1)),vE 3 9]))
def zv2:IC := .seq (.reg [oV 2 (.mv (kb false))]) (.seq (.seq (.reg [oV 3 (.mv (ki 0))]) (.block 0 (.loop z3c))) (.seq (.reg [mV 32 0,nE 33 32,oE 34 (.bin .leq (.E 33) (ki 7)),vE 2 34]) .ret))
def zv3:List RV:=[.tmp [0] 2]
def ygz:List Nat:=[0,1,2]
def zv4:IC := .seq (.reg [oV 1 (.box (.V 0)),oV 2 (.mv (.C .e0))]) (.seq (.reg [fV 3 0 1,lE 4 3,fV 5 1 1,lE 6 5,fV 7 2 1,lE 8 7,fV 9 3 1,lE 10 9,fV 11 4 1,lE 12 11,oE 13 (.bslice 5 1 [iv 0] [(0,(.E 4)),(1,(.E 6)),(2,(.E 8)),(3,(.E 10)),(4,(.E 12))]),vE 2 13]) .ret)
def zv5:List RV:=[.tmp [1] 2]
def yg0:List Nat:=[0]
def zv6:IC := .seq (.reg [oV 0 (.mv (.C .e0))]) (.seq (.reg [oE 1 (.bslice 5 1 [iv 0] [(0,(ki 1)),(1,(ki 0)),(2,(ki 2)),(3,(ki 1)),(4,(ki 1))]),vE 0 1]) .ret)
def zv7:List RV:=[.tmp [1] 0]
def yg1:List Nat:=[0]
def zv8:IC := .seq (.reg [oV 0 (.mv (.C .e0))]) (.seq (.reg [oE 1 (.bslice 5 1 [iv 0] [(0,(ki 8)),(1,(ki 4)),(2,(ki 8)),(3,(ki 100)),(4,(ki 20))]),vE 0 1]) .ret)
def zv9:List RV:=[.tmp [1] 0]
def yg2:List Nat:=[0,3,2]
def z3d:IC := .seq (.seq (.reg [mV 4 3,mV 5 0,nE 6 5,bE 7 .lss 4 6]) (.cond (.E 7) .skip (.exit 0))) (.seq (.block 1 (.seq (.regD [(mV 10 0,0,0),(mV 11 3,0,0),(oE 12 (.bin .sub (.E 11) (ki 1)),0,0),(iE 13 1 10 12,0,0),(lE 14 13,0,0),(mV 15 0,0,0),(mV 16 3,0,0),(iE 17 1 15 16,0,0),(lE 18 17,0,0),(bE 19 .geq 14 18,0,0)]) (.cond (.E 19) (.seq (.reg [oV 2 (.mv (kb false))]) .ret) .skip))) (.reg [mV 8 3,oE 9 (.bin .add (.E 8) (ki 1)),vE 3 9]))
def zwa:IC := .seq (.reg [oV 2 (.mv (kb false))]) (.seq (.seq (.reg [oV 3 (.mv (ki 1))]) (.block 0 (.loop z3d))) (.seq (.reg [mV 20 0,nE 21 20,oE 22 (.bin .leq (.E 21) (ki 7)),wE 23 22,gE 24 23 .true (.mv (.V 0)),gE 25 23 .true (.call zot [([1],(.E 24))]),oE 26 (.pick (.E 23) (.E 25) (kb false)),vE 2 26]) .ret))
def zwb:List RV:=[.tmp [0] 2]
def yg3:List Nat:=[0,1,3]
def zwc:IC := .seq (.reg [oV 3 (.mv (kb false))]) (.seq (.reg [mV 4 0,oE 5 (.load false 1 (.V 1)),nE 6 5,oE 7 (.call zcf [([0],(.E 4)),([0],(ki 0)),([0],(.E 6))]),oE 8 (.un .not (.E 7)),vE 3 8]) .ret)
def zwd:List RV:=[.tmp [0] 3]
def yg4:List Nat:=[0,1,8,7,5,4]
def zz6:IC := .seq (.reg [oE 9 (.bin .lss (.V 8) (.V 7))]) (.seq (.cond (.E 9) .skip (.exit 0)) (.seq (.block 1 (.seq (.reg [mV 10 8,vE 5 10]) (.seq (.reg [mV 11 1,mV 12 0,mV 13 5,iE 14 1 12 13,lE 15 14,oE 16 (.callv (.E 11) [([0],(.E 15))])]) (.cond (.E 16) (.seq (.reg [mV 17 5,vE 4 17]) .ret) .skip)))) (.reg [oE 18 (.bin .add (.V 8) (ki 1)),vE 8 18])))
def zrs:IC := .seq (.reg [oV 4 (.mv (ki 0))]) (.seq (.seq (.reg [mV 6 0,oV 7 (.len (.E 6)),oV 8 (.mv (ki 0))]) (.block 0 (.loop zz6))) (.seq (.reg [oV 4 (.mv (ki (-1)))]) .ret))
def zrt:List RV:=[.tmp [0] 4]
def yg5:List Nat:=[0,1,4]
def zwe:IC := .seq (.reg [oV 4 (.mv (kb false))]) (.seq (.reg [mV 5 0,oE 6 (.call zcf [([0],(.E 5)),([0],(ki 0)),([0],(ki 40))]),wE 7 6,gE 8 7 .true (.mv (.V 1)),gE 9 7 .true (.call zcf [([0],(.E 8)),([0],(ki 1)),([0],(ki 100))]),oE 10 (.pick (.E 7) (.E 9) (kb false)),vE 4 10]) .ret)
def zwf:List RV:=[.tmp [0] 4]
def yg6:List Nat:=[0,1,2]
def zwg:IC := .seq (.reg [oV 1 (.box (.V 0)),oV 2 (.mv (kb false))]) (.seq (.reg [fV 3 0 1,lE 4 3,fV 5 1 1,lE 6 5,bE 7 .leq 4 6,wE 8 7,gE 9 8 .true (.faddr 0 (.V 1)),gE 10 8 .true (.load false 1 (.E 9)),gE 11 8 .true (.call zk8 [([0],(.E 10))]),oE 12 (.pick (.E 8) (.E 11) (kb false)),wE 13 12,gE 14 13 .true (.faddr 1 (.V 1)),gE 15 13 .true (.load false 1 (.E 14)),gE 16 13 .true (.call zk8 [([0],(.E 15))]),oE 17 (.pick (.E 13) (.E 16) (kb false)),vE 2 17]) .ret)
def zwh:List RV:=[.tmp [0] 2]
def yg7:List Nat:=[0,1,6,4,5]
def zwi:IC := .seq (.reg [oV 4 (.mv (ki 0)),oV 5 (.mv (kb false))]) (.seq (.seq (.reg [mV 7 1,oE 8 (.bin .eql (.E 7) (ki 0)),wE 9 8,gE 10 9 .false (.mv (.V 0)),gE 11 9 .false (.bin .eql (.E 10) (ki (-9223372036854775808))),gE 12 9 .false (.mv (.E 11)),gE 13 12 .true (.mv (.V 1)),gE 14 12 .true (.bin .eql (.E 13) (ki (-1))),gE 15 9 .false (.pick (.E 12) (.E 14) (kb false)),oE 16 (.pick (.E 9) (kb true) (.E 15))]) (.cond (.E 16) (.seq (.reg [oV 4 (.mv (ki 0)),oV 5 (.mv (kb false))]) .ret) .skip)) (.seq (.reg [mV 17 0,mV 18 1,bE 19 .quo 17 18,vE 6 19]) (.seq (.seq (.reg [mV 20 0,mV 21 1,bE 22 .rem 20 21,oE 23 (.bin .neq (.E 22) (ki 0)),wE 24 23,gE 25 24 .true (.mv (.V 0)),gE 26 24 .true (.bin .lss (.E 25) (ki 0)),gE 27 24 .true (.mv (.V 1)),gE 28 24 .true (.bin .lss (.E 27) (ki 0)),gE 29 24 .true (.eqb true [.b] (.E 26) (.E 28)),oE 30 (.pick (.E 24) (.E 29) (kb false))]) (.cond (.E 30) (.reg [mV 31 6,oE 32 (.bin .sub (.E 31) (ki 1)),vE 6 32]) .skip)) (.seq (.reg [mV 33 6,vE 4 33,oV 5 (.mv (kb true))]) .ret))))
def zwj:List RV:=[.tmp [0] 4,.tmp [0] 5]
def yg8:List Nat:=[0,1,2,6]
def zru:IC := .seq (.reg [oV 6 (.mv (ki 0))]) (.seq (.block 0 (.seq (.reg [mV 8 0,mV 9 1,bE 10 .lss 8 9,wE 7 10]) (.cond (.E 7) (.seq (.reg [mV 11 1,vE 6 11]) .ret) (.seq (.reg [mV 13 0,mV 14 2,bE 15 .gtr 13 14,wE 12 15]) (.cond (.E 12) (.seq (.reg [mV 16 2,vE 6 16]) .ret) .skip))))) (.seq (.reg [mV 17 0,vE 6 17]) .ret))
def zrv:List RV:=[.tmp [0] 6]
def yg9:List Nat:=[0,2]
def zwk:IC := .seq (.reg [oV 2 (.mv (kb false))]) (.seq (.reg [mV 3 0,oE 4 (.call zbm [([0],(.E 3)),([0],(ki (-1099511627776))),([0],(ki 1099511627776))]),vE 2 4]) .ret)
def zwl:List RV:=[.tmp [0] 2]
def yha:List Nat:=[0,1,2,3,8,6,7,4,5]
def zwm:IC := .seq (.reg [oV 2 (.box (.V 0)),oV 3 (.box (.V 1)),oV 4 (.mv (ki 0)),oV 5 (.mv (kb false))]) (.seq (.reg [tV 10 4 2,tV 11 4 3,oE 12 (.call zk9 [([0,0,0,0],(.E 10)),([0,0,0,0],(.E 11))]),wE 9 12,xE 13 0 9,xE 14 1 9,xE 15 2 9,oV 6 (.alloc [(.v (.bool false)),(.v (.int .u64 0)),(.v (.int .u64 0))]),oV 7 (.alloc [(.v (.bool false)),(.v (.int .u64 0)),(.v (.int .u64 0))]),oN (.store [0,0,0] (.V 6) (.E 13)),oN (.store [0,0,0] (.V 7) (.E 14)),vE 8 15]) (.seq (.seq (.reg [mV 16 8,oE 17 (.un .not (.E 16))]) (.cond (.E 17) (.seq (.reg [oV 4 (.mv (ki 0)),oV 5 (.mv (kb false))]) .ret) .skip)) (.seq (.reg [tV 18 3 6,tV 19 3 7,oE 20 (.call zov [([0,0,0],(.E 18)),([0,0,0],(.E 19))]),vE 4 20,oV 5 (.mv (kb true))]) .ret)))
def zwn:List RV:=[.tmp [0] 4,.tmp [0] 5]
def yhb:List Nat:=[0,1,2,5,4,6,7,10,9,8]
def zwo:IC := .seq (.seq (.reg [mV 35 10,mV 36 7,nE 37 36,bE 38 .lss 35 37]) (.cond (.E 38) .skip (.exit 2))) (.seq (.block 3 (.reg [mV 41 9,mV 42 8,mV 43 7,mV 44 10,iE 45 1 43 44,lE 46 45,oE 47 (.call zoz [([1],(.E 42)),([0],(.E 46))]),oE 48 (.bslice 1 1 [iv 0] [(0,(.E 47))]),oE 49 (.app 8 1 (.E 41) (.E 48)),vE 9 49])) (.reg [mV 39 10,oE 40 (.bin .add (.E 39) (ki 1)),vE 10 40]))
def zz7:IC := .seq (.seq (.reg [mV 21 6,fV 22 0 2,lE 23 22,nE 24 23,bE 25 .lss 21 24]) (.cond (.E 25) .skip (.exit 0))) (.seq (.block 1 (.seq (.reg [tV 28 4 2,mV 29 6,oE 30 (.call zox [([1,0,1,1],(.E 28)),([0],(.E 29))]),vE 7 30]) (.seq (.reg [mV 31 7,mV 32 1,oE 33 (.call zoy [([1],(.E 31)),([0],(.E 32))]),vE 8 33]) (.seq (.reg [oE 34 (.bslice 0 1 [iv 0] []),vE 9 34]) (.seq (.seq (.reg [oV 10 (.mv (ki 0))]) (.block 2 (.loop zwo))) (.seq (.reg [fV 50 0 5,lE 51 50,mV 52 8,oE 53 (.bslice 1 1 [(.own 1 [])] [(0,(.E 52))]),oE 54 (.app 24 1 (.E 51) (.E 53)),fV 55 0 5,oN (.store [1] (.E 55) (.E 54))]) (.reg [fV 56 1 5,lE 57 56,mV 58 9,oE 59 (.bslice 1 1 [(.own 1 [])] [(0,(.E 58))]),oE 60 (.app 24 1 (.E 57) (.E 59)),fV 61 1 5,oN (.store [1] (.E 61) (.E 60))]))))))) (.reg [mV 26 6,oE 27 (.bin .add (.E 26) (ki 1)),vE 6 27]))
def zwp:IC := .seq (.reg [oV 2 (.box (.V 0)),oV 4 (.alloc [.e0,.e0])]) (.seq (.reg [oE 11 (.build [.e0,.e0] []),oV 5 (.alloc [.e0,.e0]),oN (.store [1,1] (.V 5) (.E 11))]) (.seq (.seq (.reg [tV 12 4 2,oE 13 (.call zow [([1,0,1,1],(.E 12))]),oE 14 (.un .not (.E 13)),wE 15 14,gE 16 15 .false (.mv (.V 1)),gE 17 15 .false (.call zbm [([0],(.E 16)),([0],(ki 2)),([0],(ki 8))]),gE 18 15 .false (.un .not (.E 17)),oE 19 (.pick (.E 15) (kb true) (.E 18))]) (.cond (.E 19) (.seq (.reg [tV 20 2 5,oN (.store [1,1] (.V 4) (.E 20))]) .ret) .skip)) (.seq (.seq (.reg [oV 6 (.mv (ki 0))]) (.block 0 (.loop zz7))) (.seq (.reg [tV 62 2 5,oN (.store [1,1] (.V 4) (.E 62))]) .ret))))
def zwq:List RV:=[.cell [1,1] 4 true]
def yhc:List Nat:=[0,3,7,5,9,6,8,10,4,11,2]
def zrw:IC := .seq (.seq (.reg [mV 37 9,mV 38 3,bE 39 .lss 37 38]) (.cond (.E 39) .skip (.exit 2))) (.seq (.block 3 (.seq (.reg [mV 42 0,oE 43 (.call zjj [([0],(.E 42))]),vE 10 43]) (.seq (.seq (.reg [mV 44 6,oE 45 (.un .not (.E 44))]) (.cond (.E 45) (.reg [mV 46 0,oE 47 (.call zbd [([0],(.E 46)),([0],(ki 7))]),oE 48 (.bin .sub (.E 47) (ki 3)),oE 49 (.bin .mul (ki 500) (.E 48)),vE 10 49]) .skip)) (.reg [mV 50 8,mV 51 10,oE 52 (.bslice 1 1 [iv 0] [(0,(.E 51))]),oE 53 (.app 8 1 (.E 50) (.E 52)),vE 8 53])))) (.reg [mV 40 9,oE 41 (.bin .add (.E 40) (ki 1)),vE 9 41]))
def zwr:IC := .seq (.seq (.reg [mV 31 7,mV 32 5,bE 33 .lss 31 32]) (.cond (.E 33) .skip (.exit 0))) (.seq (.block 1 (.seq (.reg [oE 36 (.bslice 0 1 [iv 0] []),vE 8 36]) (.seq (.seq (.reg [oV 9 (.mv (ki 0))]) (.block 2 (.loop zrw))) (.seq (.reg [fV 54 2 4,lE 55 54,mV 56 8,oE 57 (.bslice 1 1 [(.own 1 [])] [(0,(.E 56))]),oE 58 (.app 24 1 (.E 55) (.E 57)),fV 59 2 4,oN (.store [1] (.E 59) (.E 58))]) (.seq (.reg [mV 60 0,oE 61 (.call zjj [([0],(.E 60))]),vE 11 61]) (.seq (.seq (.reg [mV 62 6,oE 63 (.un .not (.E 62)),wE 64 63,gE 65 64 .true (.mv (.V 0)),gE 66 64 .true (.call zc9 [([0],(.E 65)),([0],(ki 4))]),gE 67 64 .true (.un .not (.E 66)),oE 68 (.pick (.E 64) (.E 67) (kb false))]) (.cond (.E 68) (.regD [(mV 69 8,0,0),(oE 70 (.iaddr 1 (.E 69) (ki 0)),0,1),(lE 71 70,0,1),(oE 72 (.bin .mul (.E 71) (ki 2)),0,0),(mV 73 0,0,0),(oE 74 (.call zbd [([0],(.E 73)),([0],(ki 5))]),0,0),(oE 75 (.bin .mul (ki 100) (.E 74)),0,0),(bE 76 .add 72 75,0,0),(vE 11 76,0,0)]) .skip)) (.reg [fV 77 3 4,lE 78 77,mV 79 11,oE 80 (.bslice 1 1 [iv 0] [(0,(.E 79))]),oE 81 (.app 8 1 (.E 78) (.E 80)),fV 82 3 4,oN (.store [1] (.E 82) (.E 81))]))))))) (.reg [mV 34 7,oE 35 (.bin .add (.E 34) (ki 1)),vE 7 35]))
def zrx:IC := .seq (.reg [oV 2 (.alloc [.e0,(.v (.string (bs []))),.e0,.e0])]) (.seq (.reg [mV 12 0,oE 13 (.call zbd [([0],(.E 12)),([0],(ki 3))]),oE 14 (.bin .add (ki 1) (.E 13)),vE 3 14]) (.seq (.reg [oE 15 (.bslice 0 1 [(.v (.string (bs [])))] []),oE 16 (.bslice 4 1 [(.v (.string (bs [])))] [(0,(.C (.v (.string (bs [97]))))),(1,(.C (.v (.string (bs [98]))))),(2,(.C (.v (.string (bs [99,50]))))),(3,(.C (.v (.string (bs [100])))))]),mV 17 3,oE 18 (.slice 1 (.E 16) none (some (.E 17)) none),oE 19 (.app 16 1 (.E 15) (.E 18)),oE 20 (.build [.e0,(.v (.string (bs []))),.e0,.e0] [(0,1,(.E 19)),(1,1,(.C (.v (.string (bs [121])))))]),oV 4 (.alloc [.e0,(.v (.string (bs []))),.e0,.e0]),oN (.store [1,0,1,1] (.V 4) (.E 20))]) (.seq (.reg [mV 21 0,oE 22 (.call zbd [([0],(.E 21)),([0],(ki 9))]),oE 23 (.bin .add (ki 1) (.E 22)),vE 5 23]) (.seq (.seq (.reg [mV 24 0,oE 25 (.call zc9 [([0],(.E 24)),([0],(ki 10))])]) (.cond (.E 25) (.reg [mV 26 0,oE 27 (.call zbd [([0],(.E 26)),([0],(ki 40))]),oE 28 (.bin .add (ki 1) (.E 27)),vE 5 28]) .skip)) (.seq (.reg [mV 29 0,oE 30 (.call zc9 [([0],(.E 29)),([0],(ki 12))]),vE 6 30]) (.seq (.seq (.reg [oV 7 (.mv (ki 0))]) (.block 0 (.loop zwr))) (.seq (.reg [tV 83 4 4,oN (.store [1,0,1,1] (.V 2) (.E 83))]) .ret)))))))
def zjz:List RV:=[.cell [1,0,1,1] 2 true]
def yhd:List Nat:=[0,3,2]
def zry:IC := .seq (.reg [oV 2 (.mv (ki 0))]) (.seq (.reg [mV 4 0,mV 5 0,oE 6 (.nilc (.E 5)),fE 7 2 6,lE 8 7,oE 9 (.bin .mul (.E 8) (ki 6364136223846793005)),oE 10 (.bin .add (.E 9) (ki 1442695040888963407)),oE 11 (.nilc (.E 4)),fE 12 2 11,oN (.store [0] (.E 12) (.E 10))]) (.seq (.regD [(mV 13 0,0,0),(oE 14 (.nilc (.E 13)),0,0),(fE 15 2 14,0,0),(lE 16 15,0,0),(oE 17 (.bin .shr (.E 16) (.C (.v (.int .u64 33)))),0,0),(mV 18 0,0,0),(oE 19 (.nilc (.E 18)),0,0),(fE 20 2 19,0,0),(lE 21 20,0,0),(oE 22 (.bin .shr (.E 21) (.C (.v (.int .u64 45)))),0,0),(bE 23 .xor 17 22,0,0),(oE 24 (.bin .and (.E 23) (ki 255)),0,0),(vE 3 24,0,0)]) (.seq (.seq (.regD [(mV 25 0,0,0),(oE 26 (.nilc (.E 25)),0,0),(fE 27 1 26,0,0),(lE 28 27,0,0),(mV 29 0,0,0),(oE 30 (.nilc (.E 29)),0,0),(fE 31 0 30,0,0),(lE 32 31,0,0),(nE 33 32,0,0),(bE 34 .lss 28 33,0,0)]) (.cond (.E 34) (.seq (.regD [(mV 35 3,0,0),(mV 36 0,0,0),(oE 37 (.nilc (.E 36)),0,0),(fE 38 0 37,0,0),(lE 39 38,0,0),(mV 40 0,0,0),(oE 41 (.nilc (.E 40)),0,0),(fE 42 1 41,0,0),(lE 43 42,0,0),(iE 44 1 39 43,0,0),(lE 45 44,0,0),(oE 46 (.convI .i64 (.E 45)),0,0),(bE 47 .add 35 46,0,0),(oE 48 (.bin .and (.E 47) (ki 255)),0,0),(vE 3 48,0,0)]) (.reg [mV 49 0,mV 50 0,oE 51 (.nilc (.E 50)),fE 52 1 51,lE 53 52,oE 54 (.bin .add (.E 53) (ki 1)),oE 55 (.nilc (.E 49)),fE 56 1 55,oN (.store [0] (.E 56) (.E 54))])) .skip)) (.seq (.reg [mV 57 3,vE 2 57]) .ret))))
def zrz:List RV:=[.tmp [0] 2]
def yhe:List Nat:=[0,2]
def zpj:IC := .seq (.reg [oV 2 (.mv (ki 0))]) (.seq (.seq (.reg [mV 3 0,oE 4 (.call zc9 [([0],(.E 3)),([0],(ki 20))])]) (.cond (.E 4) (.seq (.reg [mV 5 0,oE 6 (.bslice 5 1 [iv 0] [(0,(ki 2147483647)),(1,(ki (-2147483647))),(2,(ki 1)),(3,(ki (-1))),(4,(ki 1000000000))]),oE 7 (.call zd5 [([0],(.E 5)),([1],(.E 6))]),vE 2 7]) .ret) .skip)) (.seq (.seq (.reg [mV 8 0,oE 9 (.call zc9 [([0],(.E 8)),([0],(ki 2))])]) (.cond (.E 9) (.seq (.reg [mV 10 0,oE 11 (.call zbd [([0],(.E 10)),([0],(ki 9))]),oE 12 (.bin .sub (.E 11) (ki 4)),oE 13 (.bin .mul (ki 1000) (.E 12)),vE 2 13]) .ret) .skip)) (.seq (.reg [mV 14 0,oE 15 (.call zbd [([0],(.E 14)),([0],(ki 41))]),oE 16 (.bin .sub (.E 15) (ki 20)),oE 17 (.bin .mul (ki 250) (.E 16)),vE 2 17]) .ret)))
def zpk:List RV:=[.tmp [0] 2]
def yhf:List Nat:=[0,1,2,3,7,9,4,6,8,5]
def zws:IC := .seq (.reg [oV 2 (.box (.V 0)),oV 3 (.box (.V 1)),oV 4 (.alloc [iv 0,iv 0]),oV 5 (.mv (kb false))]) (.seq (.reg [fV 11 0 2,lE 12 11,fV 13 0 3,lE 14 13,oE 15 (.call zla [([0],(.E 12)),([0],(.E 14))]),wE 10 15,xE 16 0 10,xE 17 1 10,vE 6 16,vE 7 17]) (.seq (.reg [fV 19 1 2,lE 20 19,fV 21 1 3,lE 22 21,oE 23 (.call zla [([0],(.E 20)),([0],(.E 22))]),wE 18 23,xE 24 0 18,xE 25 1 18,vE 8 24,vE 9 25]) (.seq (.seq (.reg [mV 26 7,oE 27 (.un .not (.E 26)),wE 28 27,gE 29 28 .false (.mv (.V 9)),gE 30 28 .false (.un .not (.E 29)),oE 31 (.pick (.E 28) (kb true) (.E 30))]) (.cond (.E 31) (.seq (.reg [oE 32 (.build [iv 0,iv 0] []),oN (.store [0,0] (.V 4) (.E 32)),oV 5 (.mv (kb false))]) .ret) .skip)) (.seq (.reg [mV 33 6,mV 34 8,oE 35 (.build [iv 0,iv 0] [(0,1,(.E 33)),(1,1,(.E 34))]),oN (.store [0,0] (.V 4) (.E 35)),oV 5 (.mv (kb true))]) .ret))))
def zwt:List RV:=[.cell [0,0] 4 true,.tmp [0] 5]
def yhg:List Nat:=[0,1,2,3,4]
def zwu:IC := .seq (.reg [oV 2 (.box (.V 0)),oV 3 (.box (.V 1)),oV 4 (.mv (kb false))]) (.seq (.regD [(fV 5 0 2,0,0),(lE 6 5,0,0),(fV 7 0 3,0,0),(lE 8 7,0,0),(oE 9 (.call zlc [([0],(.E 6)),([0],(.E 8))]),0,0),(fV 10 1 2,1,0),(lE 11 10,1,0),(fV 12 1 3,1,0),(lE 13 12,1,0),(oE 14 (.call zlc [([0],(.E 11)),([0],(.E 13))]),0,0),(oE 15 (.bslice 2 1 [iv 0] [(0,(.E 9)),(1,(.E 14))]),0,0),(oE 16 (.call zlb [([1],(.E 15))]),0,0),(oE 17 (.bin .lss (.E 16) (ki 0)),0,0),(vE 4 17,0,0)]) .ret)
def zwv:List RV:=[.tmp [0] 4]
def yhh:List Nat:=[0,1,6,4,5]
def zh9:IC := .seq (.reg [oV 4 (.mv (ki 0)),oV 5 (.mv (kb false))]) (.seq (.reg [mV 7 0,mV 8 1,bE 9 .sub 7 8,vE 6 9]) (.seq (.seq (.reg [mV 10 0,oE 11 (.bin .lss (.E 10) (ki 0)),mV 12 1,oE 13 (.bin .lss (.E 12) (ki 0)),oE 14 (.eqb true [.b] (.E 11) (.E 13)),wE 15 14,gE 16 15 .true (.mv (.V 6)),gE 17 15 .true (.bin .lss (.E 16) (ki 0)),gE 18 15 .true (.mv (.V 0)),gE 19 15 .true (.bin .lss (.E 18) (ki 0)),gE 20 15 .true (.eqb true [.b] (.E 17) (.E 19)),oE 21 (.pick (.E 15) (.E 20) (kb false))]) (.cond (.E 21) (.seq (.reg [oV 4 (.mv (ki 0)),oV 5 (.mv (kb false))]) .ret) .skip)) (.seq (.reg [mV 22 6,vE 4 22,oV 5 (.mv (kb true))]) .ret)))
def zia:List RV:=[.tmp [0] 4,.tmp [0] 5]
def yhi:List Nat:=[0,1,2,3,7,9,4,6,8,5]
def zww:IC := .seq (.reg [oV 2 (.box (.V 0)),oV 3 (.box (.V 1)),oV 4 (.alloc [iv 0,iv 0]),oV 5 (.mv (kb false))]) (.seq (.reg [fV 11 0 2,lE 12 11,fV 13 0 3,lE 14 13,oE 15 (.call zld [([0],(.E 12)),([0],(.E 14))]),wE 10 15,xE 16 0 10,xE 17 1 10,vE 6 16,vE 7 17]) (.seq (.reg [fV 19 1 2,lE 20 19,fV 21 1 3,lE 22 21,oE 23 (.call zld [([0],(.E 20)),([0],(.E 22))]),wE 18 23,xE 24 0 18,xE 25 1 18,vE 8 24,vE 9 25]) (.seq (.seq (.reg [mV 26 7,oE 27 (.un .not (.E 26)),wE 28 27,gE 29 28 .false (.mv (.V 9)),gE 30 28 .false (.un .not (.E 29)),oE 31 (.pick (.E 28) (kb true) (.E 30))]) (.cond (.E 31) (.seq (.reg [oE 32 (.build [iv 0,iv 0] []),oN (.store [0,0] (.V 4) (.E 32)),oV 5 (.mv (kb false))]) .ret) .skip)) (.seq (.reg [mV 33 6,mV 34 8,oE 35 (.build [iv 0,iv 0] [(0,1,(.E 33)),(1,1,(.E 34))]),oN (.store [0,0] (.V 4) (.E 35)),oV 5 (.mv (kb true))]) .ret))))
def zwx:List RV:=[.cell [0,0] 4 true,.tmp [0] 5]
def yhj:List Nat:=[0,1,2,6]
def zr0:IC := .seq (.reg [oV 6 (.mv (kb false))]) (.seq (.reg [mV 7 0,oE 8 (.bin .neq (.E 7) (ki 1)),wE 9 8,gE 10 9 .true (.mv (.V 0)),gE 11 9 .true (.bin .neq (.E 10) (ki (-1))),oE 12 (.pick (.E 9) (.E 11) (kb false)),wE 13 12,gE 14 13 .false (.mv (.V 0)),gE 15 13 .false (.bin .eql (.E 14) (ki 1)),gE 16 13 .false (.mv (.E 15)),gE 17 16 .true (.mv (.V 1)),gE 18 16 .true (.mv (.V 2)),gE 19 16 .true (.bin .leq (.E 17) (.E 18)),gE 20 13 .false (.pick (.E 16) (.E 19) (kb false)),oE 21 (.pick (.E 13) (kb true) (.E 20)),wE 22 21,gE 23 22 .false (.mv (.V 0)),gE 24 22 .false (.bin .eql (.E 23) (ki (-1))),gE 25 22 .false (.mv (.E 24)),gE 26 25 .true (.mv (.V 1)),gE 27 25 .true (.mv (.V 2)),gE 28 25 .true (.bin .geq (.E 26) (.E 27)),gE 29 22 .false (.pick (.E 25) (.E 28) (kb false)),oE 30 (.pick (.E 22) (kb true) (.E 29)),vE 6 30]) .ret)
def zr1:List RV:=[.tmp [0] 6]
def yhk:List Nat:=[0,1,2,5,6,8,10,7,9,12,11,4]
def zwy:IC := .seq (.reg [oV 2 (.box (.V 0)),oV 4 (.mv (kb false))]) (.seq (.reg [tV 14 6 2,oE 15 (.call zo0 [([0,0,0,0,0,0],(.E 14))]),wE 13 15,xE 16 0 13,xE 17 1 13,oV 5 (.alloc [iv 0,iv 0]),oN (.store [0,0] (.V 5) (.E 16)),vE 6 17]) (.seq (.reg [tV 19 6 2,mV 20 1,oE 21 (.call zjm [([0,0,0,0,0,0],(.E 19)),([0],(.E 20))]),wE 18 21,xE 22 0 18,xE 23 1 18,oV 7 (.alloc [(.v (.bool false)),(.v (.int .u64 0)),(.v (.int .u64 0)),iv 0]),oN (.store [0,0,0,0] (.V 7) (.E 22)),vE 8 23]) (.seq (.reg [tV 25 2 5,mV 26 1,oE 27 (.call zjo [([0,0],(.E 25)),([0],(.E 26))]),wE 24 27,xE 28 0 24,xE 29 1 24,oV 9 (.alloc [(.v (.bool false)),(.v (.int .u64 0)),(.v (.int .u64 0)),iv 0]),oN (.store [0,0,0,0] (.V 9) (.E 28)),vE 10 29]) (.seq (.seq (.reg [mV 30 6,oE 31 (.un .not (.E 30)),wE 32 31,gE 33 32 .false (.mv (.V 8)),gE 34 32 .false (.un .not (.E 33)),oE 35 (.pick (.E 32) (kb true) (.E 34)),wE 36 35,gE 37 36 .false (.mv (.V 10)),gE 38 36 .false (.un .not (.E 37)),oE 39 (.pick (.E 36) (kb true) (.E 38))]) (.cond (.E 39) (.seq (.reg [oV 4 (.mv (kb false))]) .ret) .skip)) (.seq (.reg [tV 41 4 7,tV 42 4 9,oE 43 (.call zk5 [([0,0,0,0],(.E 41)),([0,0,0,0],(.E 42))]),wE 40 43,xE 44 0 40,xE 45 1 40,vE 11 44,vE 12 45]) (.seq (.reg [mV 46 12,wE 47 46,gE 48 47 .true (.mv (.V 11)),gE 49 47 .true (.bin .gtr (.E 48) (ki 0)),oE 50 (.pick (.E 47) (.E 49) (kb false)),vE 4 50]) .ret))))))
def zwz:List RV:=[.tmp [0] 4]
def yhl:List Nat:=[0,1,2,7,9,4,6,8,5]
def zw0:IC := .seq (.reg [oV 2 (.box (.V 0)),oV 4 (.alloc [(.v (.bool false)),(.v (.int .u64 0)),(.v (.int .u64 0)),iv 0]),oV 5 (.mv (kb false))]) (.seq (.reg [fV 11 2 2,tE 12 2 11,mV 13 1,oE 14 (.call zjo [([0,0],(.E 12)),([0],(.E 13))]),wE 10 14,xE 15 0 10,xE 16 1 10,oV 6 (.alloc [(.v (.bool false)),(.v (.int .u64 0)),(.v (.int .u64 0)),iv 0]),oN (.store [0,0,0,0] (.V 6) (.E 15)),vE 7 16]) (.seq (.reg [fV 18 4 2,tE 19 2 18,mV 20 1,oE 21 (.call zjo [([0,0],(.E 19)),([0],(.E 20))]),wE 17 21,xE 22 0 17,xE 23 1 17,oV 8 (.alloc [(.v (.bool false)),(.v (.int .u64 0)),(.v (.int .u64 0)),iv 0]),oN (.store [0,0,0,0] (.V 8) (.E 22)),vE 9 23]) (.seq (.seq (.reg [mV 24 7,oE 25 (.un .not (.E 24)),wE 26 25,gE 27 26 .false (.mv (.V 9)),gE 28 26 .false (.un .not (.E 27)),oE 29 (.pick (.E 26) (kb true) (.E 28))]) (.cond (.E 29) (.seq (.reg [oE 30 (.build [(.v (.bool false)),(.v (.int .u64 0)),(.v (.int .u64 0)),iv 0] []),oN (.store [0,0,0,0] (.V 4) (.E 30)),oV 5 (.mv (kb false))]) .ret) .skip)) (.seq (.reg [tV 31 4 6,tV 32 4 8,oE 33 (.call zou [([0,0,0,0],(.E 31)),([0,0,0,0],(.E 32))]),xE 34 0 33,xE 35 1 33,oN (.store [0,0,0,0] (.V 4) (.E 34)),vE 5 35]) .ret))))
def zw1:List RV:=[.cell [0,0,0,0] 4 true,.tmp [0] 5]
def yhm:List Nat:=[0,1,2,3,4]
def zr2:IC := .seq (.reg [oV 2 (.box (.V 0)),oV 3 (.box (.V 1)),oV 4 (.mv (kb false))]) (.seq (.reg [fV 5 0 2,lE 6 5,fV 7 0 3,lE 8 7,bE 9 .lss 6 8,wE 10 9,gE 11 10 .false (.faddr 0 (.V 2)),gE 12 10 .false (.load false 1 (.E 11)),gE 13 10 .false (.faddr 0 (.V 3)),gE 14 10 .false (.load false 1 (.E 13)),gE 15 10 .false (.bin .eql (.E 12) (.E 14)),gE 16 10 .false (.mv (.E 15)),gE 17 16 .true (.faddr 1 (.V 2)),gE 18 16 .true (.load false 1 (.E 17)),gE 19 16 .true (.faddr 1 (.V 3)),gE 20 16 .true (.load false 1 (.E 19)),gE 21 16 .true (.bin .lss (.E 18) (.E 20)),gE 22 10 .false (.pick (.E 16) (.E 21) (kb false)),oE 23 (.pick (.E 10) (kb true) (.E 22)),vE 4 23]) .ret)
def zr3:List RV:=[.tmp [0] 4]
def yhn:List Nat:=[0,1,2,3,8,4,6,7,9,5]
def zr4:IC := .seq (.reg [oV 2 (.box (.V 0)),oV 3 (.box (.V 1)),oV 4 (.alloc [(.v (.bool false)),(.v (.int .u64 0)),(.v (.int .u64 0)),iv 0]),oV 5 (.mv (kb false))]) (.seq (.reg [tV 11 4 2,tV 12 4 3,oE 13 (.call zk7 [([0,0,0,0],(.E 11)),([0,0,0,0],(.E 12))]),wE 10 13,xE 14 0 10,xE 15 1 10,xE 16 2 10,oV 6 (.alloc [(.v (.bool false)),(.v (.int .u64 0)),(.v (.int .u64 0))]),oV 7 (.alloc [(.v (.bool false)),(.v (.int .u64 0)),(.v (.int .u64 0))]),oN (.store [0,0,0] (.V 6) (.E 14)),oN (.store [0,0,0] (.V 7) (.E 15)),vE 8 16]) (.seq (.seq (.reg [mV 17 8,oE 18 (.un .not (.E 17))]) (.cond (.E 18) (.seq (.reg [oE 19 (.build [(.v (.bool false)),(.v (.int .u64 0)),(.v (.int .u64 0)),iv 0] []),oN (.store [0,0,0,0] (.V 4) (.E 19)),oV 5 (.mv (kb false))]) .ret) .skip)) (.seq (.reg [tV 21 3 6,tV 22 3 7,oE 23 (.call zo1 [([0,0,0],(.E 21)),([0,0,0],(.E 22))]),wE 20 23,xE 24 0 20,xE 25 1 20,oV 9 (.alloc [(.v (.bool false)),(.v (.int .u64 0)),(.v (.int .u64 0))]),oN (.store [0,0,0] (.V 9) (.E 24)),vE 8 25]) (.seq (.seq (.reg [mV 26 8,oE 27 (.un .not (.E 26))]) (.cond (.E 27) (.seq (.reg [oE 28 (.build [(.v (.bool false)),(.v (.int .u64 0)),(.v (.int .u64 0)),iv 0] []),oN (.store [0,0,0,0] (.V 4) (.E 28)),oV 5 (.mv (kb false))]) .ret) .skip)) (.seq (.reg [tV 29 3 9,fV 30 3 2,lE 31 30,fV 32 3 3,lE 33 32,bE 34 .mul 31 33,oE 35 (.call zle [([0,0,0],(.E 29)),([0],(.E 34))]),xE 36 0 35,xE 37 1 35,oN (.store [0,0,0,0] (.V 4) (.E 36)),vE 5 37]) .ret)))))
def zr5:List RV:=[.cell [0,0,0,0] 4 true,.tmp [0] 5]
def yho:List Nat:=[0,1,4,5]
def zw2:IC := .seq (.reg [oV 4 (.alloc [(.v (.bool false)),(.v (.int .u64 0)),(.v (.int .u64 0)),iv 0]),oV 5 (.mv (kb false))]) (.seq (.reg [mV 6 0,mV 7 0,oE 8 (.call zo2 [([0],(.E 6)),([0],(.E 7))]),mV 9 1,oE 10 (.call zle [([0,0,0],(.E 8)),([0],(.E 9))]),xE 11 0 10,xE 12 1 10,oN (.store [0,0,0,0] (.V 4) (.E 11)),vE 5 12]) .ret)
def zw3:List RV:=[.cell [0,0,0,0] 4 true,.tmp [0] 5]
def yhp:List Nat:=[0,1,2,3,4,5,7,9,8,10,6]
def zw4:IC := .seq (.reg [oV 2 (.box (.V 0)),oV 3 (.box (.V 1)),oV 4 (.alloc [(.v (.bool false)),(.v (.int .u64 0)),(.v (.int .u64 0))]),oV 5 (.alloc [(.v (.bool false)),(.v (.int .u64 0)),(.v (.int .u64 0))]),oV 6 (.mv (kb false))]) (.seq (.seq (.reg [tV 11 4 2,oE 12 (.call zjp [([0,0,0,0],(.E 11))]),oE 13 (.un .not (.E 12)),wE 14 13,gE 15 14 .false (.load true 4 (.V 3)),gE 16 14 .false (.call zjp [([0,0,0,0],(.E 15))]),gE 17 14 .false (.un .not (.E 16)),oE 18 (.pick (.E 14) (kb true) (.E 17))]) (.cond (.E 18) (.seq (.reg [oE 19 (.build [(.v (.bool false)),(.v (.int .u64 0)),(.v (.int .u64 0))] []),oE 20 (.build [(.v (.bool false)),(.v (.int .u64 0)),(.v (.int .u64 0))] []),oN (.store [0,0,0] (.V 4) (.E 19)),oN (.store [0,0,0] (.V 5) (.E 20)),oV 6 (.mv (kb false))]) .ret) .skip)) (.seq (.reg [fV 22 0 2,tE 23 3 22,fV 24 3 3,lE 25 24,oE 26 (.call zlf [([0,0,0],(.E 23)),([0],(.E 25))]),wE 21 26,xE 27 0 21,xE 28 1 21,oV 7 (.alloc [(.v (.bool false)),(.v (.int .u64 0)),(.v (.int .u64 0))]),oN (.store [0,0,0] (.V 7) (.E 27)),vE 8 28]) (.seq (.reg [fV 30 0 3,tE 31 3 30,fV 32 3 2,lE 33 32,oE 34 (.call zlf [([0,0,0],(.E 31)),([0],(.E 33))]),wE 29 34,xE 35 0 29,xE 36 1 29,oV 9 (.alloc [(.v (.bool false)),(.v (.int .u64 0)),(.v (.int .u64 0))]),oN (.store [0,0,0] (.V 9) (.E 35)),vE 10 36]) (.seq (.regD [(tV 37 3 7,0,0),(tV 38 3 9,0,1),(mV 39 8,0,0),(wE 40 39,0,0),(gE 41 40 .true (.mv (.V 10)),0,0),(oE 42 (.pick (.E 40) (.E 41) (kb false)),0,0),(oN (.store [0,0,0] (.V 4) (.E 37)),0,0),(oN (.store [0,0,0] (.V 5) (.E 38)),0,0),(vE 6 42,0,0)]) .ret))))
def zw5:List RV:=[.cell [0,0,0] 4 true,.cell [0,0,0] 5 true,.tmp [0] 6]
def yhq:List Nat:=[0,1,2,3,4]
def zw6:IC := .seq (.reg [oV 2 (.box (.V 0)),oV 3 (.box (.V 1)),oV 4 (.mv (ki 0))]) (.seq (.regD [(fV 5 0 2,0,0),(lE 6 5,0,0),(fV 7 1 2,0,0),(lE 8 7,0,0),(fV 9 2 2,0,0),(lE 10 9,0,0),(oE 11 (.call zf4 [([0],(.E 6)),([0],(.E 8)),([0],(.E 10))]),0,0),(fV 12 0 3,1,0),(lE 13 12,1,0),(fV 14 1 3,1,0),(lE 15 14,1,0),(fV 16 2 3,1,0),(lE 17 16,1,0),(oE 18 (.call zf4 [([0],(.E 13)),([0],(.E 15)),([0],(.E 17))]),0,0),(oN (.store [0,0,0] (.V 2) (.E 11)),0,0),(oN (.store [0,0,0] (.V 3) (.E 18)),0,0)]) (.seq (.block 0 (.seq (.reg [fV 20 0 2,lE 21 20,wE 22 21,gE 23 22 .true (.faddr 0 (.V 3)),gE 24 22 .true (.load false 1 (.E 23)),gE 25 22 .true (.un .not (.E 24)),oE 26 (.pick (.E 22) (.E 25) (kb false)),wE 19 26]) (.cond (.E 19) (.seq (.reg [oV 4 (.mv (ki (-1)))]) .ret) (.seq (.reg [fV 28 0 3,lE 29 28,wE 30 29,gE 31 30 .true (.faddr 0 (.V 2)),gE 32 30 .true (.load false 1 (.E 31)),gE 33 30 .true (.un .not (.E 32)),oE 34 (.pick (.E 30) (.E 33) (kb false)),wE 27 34]) (.cond (.E 27) (.seq (.reg [oV 4 (.mv (ki 1))]) .ret) (.seq (.reg [fV 36 0 2,lE 37 36,wE 35 37]) (.cond (.E 35) (.seq (.reg [tV 38 3 3,tV 39 3 2,oE 40 (.call zjq [([0,0,0],(.E 38)),([0,0,0],(.E 39))]),vE 4 40]) .ret) .skip))))))) (.seq (.reg [tV 41 3 2,tV 42 3 3,oE 43 (.call zjq [([0,0,0],(.E 41)),([0,0,0],(.E 42))]),vE 4 43]) .ret)))
def zw7:List RV:=[.tmp [0] 4]
def yhr:List Nat:=[0,2]
def zw8:IC := .seq (.reg [oV 2 (.mv (kb false))]) (.seq (.reg [mV 3 0,oE 4 (.call zbm [([0],(.E 3)),([0],(ki (-2147483647))),([0],(ki 2147483647))]),vE 2 4]) .ret)
def zw9:List RV:=[.tmp [0] 2]
def yhs:List Nat:=[0,2]
def zxa:IC := .seq (.reg [oV 2 (.mv (kb false))]) (.seq (.reg [mV 3 0,oE 4 (.call zhk [([1],(.E 3)),([0],(.C (.fn zlg [])))]),oE 5 (.un .not (.E 4)),vE 2 5]) .ret)
def zxb:List RV:=[.tmp [0] 2]
def yht:List Nat:=[0,2]
def zxc:IC := .seq (.reg [oV 2 (.mv (kb false))]) (.seq (.reg [mV 3 0,oE 4 (.call zcf [([0],(.E 3)),([0],(ki (-1099511627776))),([0],(ki 1099511627776))]),vE 2 4]) .ret)
def zxd:List RV:=[.tmp [0] 2]
def yhu:List Nat:=[0,1,2,3,8,4,6,7,9,10,11,5]
def zr6:IC := .seq (.reg [oV 2 (.box (.V 0)),oV 3 (.box (.V 1)),oV 4 (.alloc [(.v (.bool false)),(.v (.int .u64 0)),(.v (.int .u64 0)),iv 0]),oV 5 (.mv (kb false))]) (.seq (.reg [tV 13 4 2,tV 14 4 3,oE 15 (.call zk9 [([0,0,0,0],(.E 13)),([0,0,0,0],(.E 14))]),wE 12 15,xE 16 0 12,xE 17 1 12,xE 18 2 12,oV 6 (.alloc [(.v (.bool false)),(.v (.int .u64 0)),(.v (.int .u64 0))]),oV 7 (.alloc [(.v (.bool false)),(.v (.int .u64 0)),(.v (.int .u64 0))]),oN (.store [0,0,0] (.V 6) (.E 16)),oN (.store [0,0,0] (.V 7) (.E 17)),vE 8 18]) (.seq (.seq (.reg [mV 19 8,oE 20 (.un .not (.E 19))]) (.cond (.E 20) (.seq (.reg [oE 21 (.build [(.v (.bool false)),(.v (.int .u64 0)),(.v (.int .u64 0)),iv 0] []),oN (.store [0,0,0,0] (.V 4) (.E 21)),oV 5 (.mv (kb false))]) .ret) .skip)) (.seq (.reg [tV 23 3 6,tV 24 3 7,oE 25 (.call zo4 [([0,0,0],(.E 23)),([0,0,0],(.E 24))]),wE 22 25,xE 26 0 22,xE 27 1 22,oV 9 (.alloc [(.v (.bool false)),(.v (.int .u64 0)),(.v (.int .u64 0))]),oN (.store [0,0,0] (.V 9) (.E 26)),vE 10 27]) (.seq (.reg [tV 28 3 9,fV 29 3 2,lE 30 29,fV 31 3 3,lE 32 31,bE 33 .mul 30 32,oE 34 (.build [(.v (.bool false)),(.v (.int .u64 0)),(.v (.int .u64 0)),iv 0] [(0,3,(.E 28)),(3,1,(.E 33))]),oV 11 (.alloc [(.v (.bool false)),(.v (.int .u64 0)),(.v (.int .u64 0)),iv 0]),oN (.store [0,0,0,0] (.V 11) (.E 34))]) (.seq (.seq (.reg [mV 35 10,oE 36 (.un .not (.E 35)),wE 37 36,gE 38 37 .false (.load true 4 (.V 11)),gE 39 37 .false (.call zh6 [([0,0,0,0],(.E 38))]),gE 40 37 .false (.un .not (.E 39)),oE 41 (.pick (.E 37) (kb true) (.E 40))]) (.cond (.E 41) (.seq (.reg [oE 42 (.build [(.v (.bool false)),(.v (.int .u64 0)),(.v (.int .u64 0)),iv 0] []),oN (.store [0,0,0,0] (.V 4) (.E 42)),oV 5 (.mv (kb false))]) .ret) .skip)) (.seq (.reg [tV 43 4 11,oN (.store [0,0,0,0] (.V 4) (.E 43)),oV 5 (.mv (kb true))]) .ret))))))
def zr7:List RV:=[.cell [0,0,0,0] 4 true,.tmp [0] 5]
def yhv:List Nat:=[0,1,2,3,4,5,7,9,8,10,6]
def zxe:IC := .seq (.reg [oV 2 (.box (.V 0)),oV 3 (.box (.V 1)),oV 4 (.alloc [(.v (.bool false)),(.v (.int .u64 0)),(.v (.int .u64 0))]),oV 5 (.alloc [(.v (.bool false)),(.v (.int .u64 0)),(.v (.int .u64 0))]),oV 6 (.mv (kb false))]) (.seq (.seq (.reg [tV 11 4 2,oE 12 (.call zh6 [([0,0,0,0],(.E 11))]),oE 13 (.un .not (.E 12)),wE 14 13,gE 15 14 .false (.load true 4 (.V 3)),gE 16 14 .false (.call zh6 [([0,0,0,0],(.E 15))]),gE 17 14 .false (.un .not (.E 16)),oE 18 (.pick (.E 14) (kb true) (.E 17))]) (.cond (.E 18) (.seq (.reg [oE 19 (.build [(.v (.bool false)),(.v (.int .u64 0)),(.v (.int .u64 0))] []),oE 20 (.build [(.v (.bool false)),(.v (.int .u64 0)),(.v (.int .u64 0))] []),oN (.store [0,0,0] (.V 4) (.E 19)),oN (.store [0,0,0] (.V 5) (.E 20)),oV 6 (.mv (kb false))]) .ret) .skip)) (.seq (.reg [fV 22 0 2,tE 23 3 22,fV 24 3 3,lE 25 24,oE 26 (.call zlh [([0,0,0],(.E 23)),([0],(.E 25))]),wE 21 26,xE 27 0 21,xE 28 1 21,oV 7 (.alloc [(.v (.bool false)),(.v (.int .u64 0)),(.v (.int .u64 0))]),oN (.store [0,0,0] (.V 7) (.E 27)),vE 8 28]) (.seq (.reg [fV 30 0 3,tE 31 3 30,fV 32 3 2,lE 33 32,oE 34 (.call zlh [([0,0,0],(.E 31)),([0],(.E 33))]),wE 29 34,xE 35 0 29,xE 36 1 29,oV 9 (.alloc [(.v (.bool false)),(.v (.int .u64 0)),(.v (.int .u64 0))]),oN (.store [0,0,0] (.V 9) (.E 35)),vE 10 36]) (.seq (.regD [(tV 37 3 7,0,0),(tV 38 3 9,0,1),(mV 39 8,0,0),(wE 40 39,0,0),(gE 41 40 .true (.mv (.V 10)),0,0),(oE 42 (.pick (.E 40) (.E 41) (kb false)),0,0),(oN (.store [0,0,0] (.V 4) (.E 37)),0,0),(oN (.store [0,0,0] (.V 5) (.E 38)),0,0),(vE 6 42,0,0)]) .ret))))
def zxf:List RV:=[.cell [0,0,0] 4 true,.cell [0,0,0] 5 true,.tmp [0] 6]
def yhw:List Nat:=[0,1,2,3,5,6,4]
def zxg:IC := .seq (.reg [oV 2 (.box (.V 0)),oV 3 (.box (.V 1)),oV 4 (.mv (ki 0))]) (.seq (.reg [fV 7 0 2,lE 8 7,wE 9 8,gE 10 9 .true (.load true 3 (.V 2)),gE 11 9 .true (.call zh7 [([0,0,0],(.E 10))]),gE 12 9 .true (.un .not (.E 11)),oE 13 (.pick (.E 9) (.E 12) (kb false)),vE 5 13]) (.seq (.reg [fV 14 0 3,lE 15 14,wE 16 15,gE 17 16 .true (.load true 3 (.V 3)),gE 18 16 .true (.call zh7 [([0,0,0],(.E 17))]),gE 19 16 .true (.un .not (.E 18)),oE 20 (.pick (.E 16) (.E 19) (kb false)),vE 6 20]) (.seq (.block 0 (.seq (.reg [mV 22 5,wE 23 22,gE 24 23 .true (.mv (.V 6)),gE 25 23 .true (.un .not (.E 24)),oE 26 (.pick (.E 23) (.E 25) (kb false)),wE 21 26]) (.cond (.E 21) (.seq (.reg [oV 4 (.mv (ki (-1)))]) .ret) (.seq (.reg [mV 28 6,wE 29 28,gE 30 29 .true (.mv (.V 5)),gE 31 29 .true (.un .not (.E 30)),oE 32 (.pick (.E 29) (.E 31) (kb false)),wE 27 32]) (.cond (.E 27) (.seq (.reg [oV 4 (.mv (ki 1))]) .ret) (.seq (.reg [mV 34 5,wE 33 34]) (.cond (.E 33) (.seq (.reg [tV 35 3 3,tV 36 3 2,oE 37 (.call zjr [([0,0,0],(.E 35)),([0,0,0],(.E 36))]),vE 4 37]) .ret) .skip))))))) (.seq (.reg [tV 38 3 2,tV 39 3 3,oE 40 (.call zjr [([0,0,0],(.E 38)),([0,0,0],(.E 39))]),vE 4 40]) .ret))))
def zxh:List RV:=[.tmp [0] 4]
def yhx:List Nat:=[0,1,3,4,5,6,2]
def zpl:IC := .seq (.seq (.reg [mV 42 4,mV 43 3,bE 44 .lss 42 43]) (.cond (.E 44) .skip (.exit 0))) (.seq (.block 1 (.seq (.regD [(fV 47 0 1,0,0),(lE 48 47,0,0),(mV 49 4,0,0),(iE 50 1 48 49,0,0),(lE 51 50,0,0),(oE 52 (.call zli [([0],(.E 51))]),0,0),(oE 53 (.un .not (.E 52)),0,0),(wE 54 53,0,0),(gE 55 54 .false (.faddr 0 (.V 1)),0,0),(gE 56 54 .false (.load false 1 (.E 55)),0,0),(gE 57 54 .false (.mv (.V 4)),0,0),(gE 58 54 .false (.slice 1 (.E 56) none (some (.E 57)) none),0,0),(gE 59 54 .false (.faddr 0 (.V 1)),0,0),(gE 60 54 .false (.load false 1 (.E 59)),0,0),(gE 61 54 .false (.mv (.V 4)),0,0),(gE 62 54 .false (.iaddr 1 (.E 60) (.E 61)),0,0),(gE 63 54 .false (.load false 1 (.E 62)),0,0),(gE 64 54 .false (.call zlj [([1],(.E 58)),([0],(.E 63))]),0,0),(oE 65 (.pick (.E 54) (kb true) (.E 64)),0,0)]) (.cond (.E 65) (.seq (.reg [oV 2 (.mv (kb false))]) .ret) .skip))) (.reg [mV 45 4,oE 46 (.bin .add (.E 45) (ki 1)),vE 4 46]))
def zr8:IC := .seq (.seq (.reg [mV 90 6,mV 91 3,bE 92 .lss 90 91]) (.cond (.E 92) .skip (.exit 4))) (.seq (.block 5 (.seq (.reg [fV 95 2 1,lE 96 95,mV 97 5,iE 98 1 96 97,lE 99 98,mV 100 6,iE 101 1 99 100,lE 102 101,oE 103 (.call zjn [([0],(.E 102))]),oE 104 (.un .not (.E 103))]) (.cond (.E 104) (.seq (.reg [oV 2 (.mv (kb false))]) .ret) .skip))) (.reg [mV 93 6,oE 94 (.bin .add (.E 93) (ki 1)),vE 6 94]))
def zpm:IC := .seq (.seq (.reg [mV 66 5,fV 67 2 1,lE 68 67,nE 69 68,bE 70 .lss 66 69]) (.cond (.E 70) .skip (.exit 2))) (.seq (.block 3 (.seq (.seq (.reg [fV 73 2 1,lE 74 73,mV 75 5,iE 76 1 74 75,lE 77 76,nE 78 77,mV 79 3,bE 80 .neq 78 79,wE 81 80,gE 82 81 .false (.faddr 3 (.V 1)),gE 83 81 .false (.load false 1 (.E 82)),gE 84 81 .false (.mv (.V 5)),gE 85 81 .false (.iaddr 1 (.E 83) (.E 84)),gE 86 81 .false (.load false 1 (.E 85)),gE 87 81 .false (.call zjn [([0],(.E 86))]),gE 88 81 .false (.un .not (.E 87)),oE 89 (.pick (.E 81) (kb true) (.E 88))]) (.cond (.E 89) (.seq (.reg [oV 2 (.mv (kb false))]) .ret) .skip)) (.seq (.reg [oV 6 (.mv (ki 0))]) (.block 4 (.loop zr8))))) (.reg [mV 71 5,oE 72 (.bin .add (.E 71) (ki 1)),vE 5 72]))
def zib:IC := .seq (.reg [oV 1 (.box (.V 0)),oV 2 (.mv (kb false))]) (.seq (.reg [fV 7 0 1,lE 8 7,nE 9 8,vE 3 9]) (.seq (.seq (.reg [mV 10 3,oE 11 (.call zbm [([0],(.E 10)),([0],(ki 1)),([0],(ki 4))]),oE 12 (.un .not (.E 11)),wE 13 12,gE 14 13 .false (.faddr 1 (.V 1)),gE 15 13 .false (.load false 1 (.E 14)),gE 16 13 .false (.call zli [([0],(.E 15))]),gE 17 13 .false (.un .not (.E 16)),oE 18 (.pick (.E 13) (kb true) (.E 17)),wE 19 18,gE 20 19 .false (.faddr 0 (.V 1)),gE 21 19 .false (.load false 1 (.E 20)),gE 22 19 .false (.faddr 1 (.V 1)),gE 23 19 .false (.load false 1 (.E 22)),gE 24 19 .false (.call zlj [([1],(.E 21)),([0],(.E 23))]),oE 25 (.pick (.E 19) (kb true) (.E 24)),wE 26 25,gE 27 26 .false (.faddr 2 (.V 1)),gE 28 26 .false (.load false 1 (.E 27)),gE 29 26 .false (.len (.E 28)),gE 30 26 .false (.call zbm [([0],(.E 29)),([0],(ki 1)),([0],(ki 40))]),gE 31 26 .false (.un .not (.E 30)),oE 32 (.pick (.E 26) (kb true) (.E 31)),wE 33 32,gE 34 33 .false (.faddr 3 (.V 1)),gE 35 33 .false (.load false 1 (.E 34)),gE 36 33 .false (.len (.E 35)),gE 37 33 .false (.faddr 2 (.V 1)),gE 38 33 .false (.load false 1 (.E 37)),gE 39 33 .false (.len (.E 38)),gE 40 33 .false (.bin .neq (.E 36) (.E 39)),oE 41 (.pick (.E 33) (kb true) (.E 40))]) (.cond (.E 41) (.seq (.reg [oV 2 (.mv (kb false))]) .ret) .skip)) (.seq (.seq (.reg [oV 4 (.mv (ki 0))]) (.block 0 (.loop zpl))) (.seq (.seq (.reg [oV 5 (.mv (ki 0))]) (.block 2 (.loop zpm))) (.seq (.reg [oV 2 (.mv (kb true))]) .ret)))))
def zic:List RV:=[.tmp [0] 2]
def yhy:List Nat:=[0,1,6,2,5,4]
def zz8:IC := .seq (.seq (.reg [mV 8 6,fV 9 2 2,lE 10 9,nE 11 10,bE 12 .lss 8 11,wE 13 12,gE 14 13 .true (.mv (.V 1)),gE 15 13 .true (.faddr 0 (.V 2)),gE 16 13 .true (.load false 1 (.E 15)),gE 17 13 .true (.len (.E 16)),gE 18 13 .true (.bin .sub (.E 17) (ki 1)),gE 19 13 .true (.call zbm [([0],(.E 14)),([0],(ki 0)),([0],(.E 18))]),oE 20 (.pick (.E 13) (.E 19) (kb false))]) (.cond (.E 20) .skip (.exit 0))) (.seq (.block 1 (.seq (.reg [mV 23 1,fV 24 2 2,lE 25 24,mV 26 6,iE 27 1 25 26,lE 28 27,nE 29 28,bE 30 .lss 23 29]) (.cond (.E 30) (.reg [mV 31 5,fV 32 2 2,lE 33 32,mV 34 6,iE 35 1 33 34,lE 36 35,mV 37 1,iE 38 1 36 37,lE 39 38,oE 40 (.bslice 1 1 [iv 0] [(0,(.E 39))]),oE 41 (.app 8 1 (.E 31) (.E 40)),vE 5 41]) (.reg [mV 42 5,oE 43 (.bslice 1 1 [iv 0] [(0,(ki 0))]),oE 44 (.app 8 1 (.E 42) (.E 43)),vE 5 44])))) (.reg [mV 21 6,oE 22 (.bin .add (.E 21) (ki 1)),vE 6 22]))
def zxi:IC := .seq (.reg [oV 2 (.box (.V 0)),oV 4 (.mv (.C .e0))]) (.seq (.reg [oE 7 (.bslice 0 1 [iv 0] []),vE 5 7]) (.seq (.seq (.reg [oV 6 (.mv (ki 0))]) (.block 0 (.loop zz8))) (.seq (.reg [mV 45 5,vE 4 45]) .ret)))
def zxj:List RV:=[.tmp [1] 4]
def yhz:List Nat:=[0,1,5,8,9,6,7,4]
def zr9:IC := .seq (.seq (.reg [mV 24 8,mV 25 1,bE 26 .lss 24 25]) (.cond (.E 26) .skip (.exit 0))) (.seq (.block 1 (.seq (.reg [mV 29 5,mV 30 8,bE 31 .mul 29 30,mV 32 1,bE 33 .quo 31 32,vE 9 33]) (.seq (.regD [(mV 34 9,0,0),(oE 35 (.bin .geq (.E 34) (ki 1)),0,0),(wE 36 35,0,0),(gE 37 36 .true (.mv (.V 6)),0,0),(gE 38 36 .true (.mv (.V 9)),0,0),(gE 39 36 .true (.bin .sub (.E 38) (ki 1)),0,0),(gE 40 36 .true (.iaddr 1 (.E 37) (.E 39)),0,0),(gE 41 36 .true (.load false 1 (.E 40)),0,0),(gE 42 36 .true (.mv (.V 6)),0,0),(gE 43 36 .true (.mv (.V 5)),0,0),(gE 44 36 .true (.bin .sub (.E 43) (ki 1)),0,0),(gE 45 36 .true (.iaddr 1 (.E 42) (.E 44)),0,0),(gE 46 36 .true (.load false 1 (.E 45)),0,0),(gE 47 36 .true (.bin .lss (.E 41) (.E 46)),0,0),(oE 48 (.pick (.E 36) (.E 47) (kb false)),0,0)]) (.cond (.E 48) (.reg [mV 49 7,mV 50 6,mV 51 9,oE 52 (.bin .sub (.E 51) (ki 1)),iE 53 1 50 52,lE 54 53,oE 55 (.bslice 1 1 [iv 0] [(0,(.E 54))]),oE 56 (.app 8 1 (.E 49) (.E 55)),vE 7 56]) .skip)))) (.reg [mV 27 8,oE 28 (.bin .add (.E 27) (ki 1)),vE 8 28]))
def zxk:IC := .seq (.reg [oV 4 (.mv (.C .e0))]) (.seq (.reg [mV 10 0,nE 11 10,vE 5 11]) (.seq (.seq (.reg [mV 12 1,oE 13 (.call zbm [([0],(.E 12)),([0],(ki 2)),([0],(ki 8))]),oE 14 (.un .not (.E 13)),wE 15 14,gE 16 15 .false (.mv (.V 5)),gE 17 15 .false (.call zbm [([0],(.E 16)),([0],(ki 1)),([0],(ki 40))]),gE 18 15 .false (.un .not (.E 17)),oE 19 (.pick (.E 15) (kb true) (.E 18))]) (.cond (.E 19) (.seq (.reg [oE 20 (.bslice 0 1 [iv 0] []),vE 4 20]) .ret) .skip)) (.seq (.reg [mV 21 0,oE 22 (.call zlk [([1],(.E 21))]),vE 6 22]) (.seq (.reg [oE 23 (.bslice 0 1 [iv 0] []),vE 7 23]) (.seq (.seq (.reg [oV 8 (.mv (ki 1))]) (.block 0 (.loop zr9))) (.seq (.reg [mV 57 7,oE 58 (.call zo6 [([1],(.E 57))]),vE 4 58]) .ret))))))
def zxl:List RV:=[.tmp [1] 4]
def yh0:List Nat:=[0,1,6,5,4]
def zxm:IC := .seq (.seq (.reg [mV 7 6,mV 8 0,nE 9 8,bE 10 .lss 7 9]) (.cond (.E 10) .skip (.exit 0))) (.seq (.block 1 (.seq (.reg [mV 13 0,mV 14 6,iE 15 1 13 14,lE 16 15,mV 17 1,bE 18 .lss 16 17]) (.cond (.E 18) (.reg [mV 19 5,oE 20 (.bin .add (.E 19) (ki 1)),vE 5 20]) .skip))) (.reg [mV 11 6,oE 12 (.bin .add (.E 11) (ki 1)),vE 6 12]))
def zxn:IC := .seq (.reg [oV 4 (.mv (ki 0))]) (.seq (.reg [oV 5 (.mv (ki 0))]) (.seq (.seq (.reg [oV 6 (.mv (ki 0))]) (.block 0 (.loop zxm))) (.seq (.reg [mV 21 5,vE 4 21]) .ret)))
def zxo:List RV:=[.tmp [0] 4]
def yh1:List Nat:=[0,1,6,4,5]
def zid:IC := .seq (.reg [oV 4 (.mv (ki 0)),oV 5 (.mv (kb false))]) (.seq (.reg [mV 7 0,mV 8 1,bE 9 .add 7 8,vE 6 9]) (.seq (.seq (.reg [mV 10 0,oE 11 (.bin .lss (.E 10) (ki 0)),mV 12 1,oE 13 (.bin .lss (.E 12) (ki 0)),oE 14 (.eqb false [.b] (.E 11) (.E 13)),wE 15 14,gE 16 15 .true (.mv (.V 6)),gE 17 15 .true (.bin .lss (.E 16) (ki 0)),gE 18 15 .true (.mv (.V 0)),gE 19 15 .true (.bin .lss (.E 18) (ki 0)),gE 20 15 .true (.eqb true [.b] (.E 17) (.E 19)),oE 21 (.pick (.E 15) (.E 20) (kb false))]) (.cond (.E 21) (.seq (.reg [oV 4 (.mv (ki 0)),oV 5 (.mv (kb false))]) .ret) .skip)) (.seq (.reg [mV 22 6,vE 4 22,oV 5 (.mv (kb true))]) .ret)))
def zie:List RV:=[.tmp [0] 4,.tmp [0] 5]
def yh2:List Nat:=[0,8,7,6,5,3,2]
def z3e:IC := .seq (.reg [oE 9 (.bin .lss (.V 8) (.V 7))]) (.seq (.cond (.E 9) .skip (.exit 0)) (.seq (.block 1 (.seq (.reg [oE 10 (.iaddr 1 (.V 6) (.V 8)),lE 11 10,vE 5 11]) (.seq (.reg [mV 12 5,mV 13 3,bE 14 .neq 12 13]) (.cond (.E 14) (.seq (.reg [mV 15 5,vE 2 15]) .ret) .skip)))) (.reg [oE 16 (.bin .add (.V 8) (ki 1)),vE 8 16])))
def zxp:IC := .seq (.reg [oV 2 (.mv (ki 0))]) (.seq (.reg [oV 3 (.mv (ki 0))]) (.seq (.seq (.reg [oV 6 (.mv (.V 0)),oV 7 (.len (.V 6)),oV 8 (.mv (ki 0))]) (.block 0 (.loop z3e))) (.seq (.reg [mV 17 3,vE 2 17]) .ret)))
def zxq:List RV:=[.tmp [0] 2]
def yh3:List Nat:=[0,1,5,6,4]
def zpn:IC := .seq (.reg [oV 4 (.mv (ki 0))]) (.seq (.reg [mV 7 0,oE 8 (.call zll [([0],(.E 7))]),vE 5 8]) (.seq (.reg [mV 9 1,oE 10 (.call zll [([0],(.E 9))]),vE 6 10]) (.seq (.seq (.reg [mV 11 5]) (.cond (.E 11) (.seq (.seq (.reg [mV 12 6]) (.cond (.E 12) (.seq (.reg [oV 4 (.mv (ki 0))]) .ret) .skip)) (.seq (.reg [oV 4 (.mv (ki (-1)))]) .ret)) .skip)) (.seq (.seq (.reg [mV 13 6]) (.cond (.E 13) (.seq (.reg [oV 4 (.mv (ki 1))]) .ret) .skip)) (.seq (.seq (.reg [mV 14 0,mV 15 1,bE 16 .lss 14 15]) (.cond (.E 16) (.seq (.reg [oV 4 (.mv (ki (-1)))]) .ret) .skip)) (.seq (.seq (.reg [mV 17 0,mV 18 1,bE 19 .gtr 17 18]) (.cond (.E 19) (.seq (.reg [oV 4 (.mv (ki 1))]) .ret) .skip)) (.seq (.reg [oV 4 (.mv (ki 0))]) .ret)))))))
def zpo:List RV:=[.tmp [0] 4]
def yh4:List Nat:=[0,1,4,5]
def zj0:IC := .seq (.reg [oV 4 (.mv (ki 0)),oV 5 (.mv (kb false))]) (.seq (.seq (.reg [mV 6 1,oE 7 (.bin .gtr (.E 6) (ki 0)),wE 8 7,gE 9 8 .true (.mv (.V 0)),gE 10 8 .true (.mv (.V 1)),gE 11 8 .true (.bin .sub (ki 9223372036854775807) (.E 10)),gE 12 8 .true (.bin .gtr (.E 9) (.E 11)),oE 13 (.pick (.E 8) (.E 12) (kb false)),wE 14 13,gE 15 14 .false (.mv (.V 1)),gE 16 14 .false (.bin .lss (.E 15) (ki 0)),gE 17 14 .false (.mv (.E 16)),gE 18 17 .true (.mv (.V 0)),gE 19 17 .true (.mv (.V 1)),gE 20 17 .true (.bin .sub (ki (-9223372036854775808)) (.E 19)),gE 21 17 .true (.bin .lss (.E 18) (.E 20)),gE 22 14 .false (.pick (.E 17) (.E 21) (kb false)),oE 23 (.pick (.E 14) (kb true) (.E 22))]) (.cond (.E 23) (.seq (.reg [oV 4 (.mv (ki 0)),oV 5 (.mv (kb false))]) .ret) .skip)) (.seq (.reg [mV 24 0,mV 25 1,bE 26 .add 24 25,vE 4 26,oV 5 (.mv (kb true))]) .ret))
def zj1:List RV:=[.tmp [0] 4,.tmp [0] 5]
def yh5:List Nat:=[0,1,2,3]
def zxr:IC := .seq (.reg [oV 1 (.box (.V 0)),oV 2 (.alloc [iv 0,iv 0]),oV 3 (.mv (kb false))]) (.seq (.reg [fV 4 2 1,tE 5 2 4,fV 6 4 1,tE 7 2 6,oE 8 (.call zjl [([0,0],(.E 5)),([0,0],(.E 7))]),xE 9 0 8,xE 10 1 8,oN (.store [0,0] (.V 2) (.E 9)),vE 3 10]) .ret)
def zxs:List RV:=[.cell [0,0] 2 true,.tmp [0] 3]
def yh6:List Nat:=[0,1,2,4,5]
def zpp:IC := .seq (.reg [oV 2 (.box (.V 0)),oV 4 (.alloc [(.v (.bool false)),(.v (.int .u64 0)),(.v (.int .u64 0)),iv 0]),oV 5 (.mv (kb false))]) (.seq (.seq (.reg [fV 6 0 2,lE 7 6,oE 8 (.call zbm [([0],(.E 7)),([0],(ki 0)),([0],(ki 40))]),oE 9 (.un .not (.E 8)),wE 10 9,gE 11 10 .false (.mv (.V 1)),gE 12 10 .false (.call zbm [([0],(.E 11)),([0],(ki 1)),([0],(ki 100))]),gE 13 10 .false (.un .not (.E 12)),oE 14 (.pick (.E 10) (kb true) (.E 13))]) (.cond (.E 14) (.seq (.reg [oE 15 (.build [(.v (.bool false)),(.v (.int .u64 0)),(.v (.int .u64 0)),iv 0] []),oN (.store [0,0,0,0] (.V 4) (.E 15)),oV 5 (.mv (kb false))]) .ret) .skip)) (.seq (.reg [fV 16 1 2,lE 17 16,fV 18 0 2,lE 19 18,mV 20 1,bE 21 .add 19 20,oE 22 (.call zo5 [([0],(.E 17)),([0],(.E 21))]),xE 23 0 22,xE 24 1 22,oN (.store [0,0,0,0] (.V 4) (.E 23)),vE 5 24]) .ret))
def zpq:List RV:=[.cell [0,0,0,0] 4 true,.tmp [0] 5]
def yh7:List Nat:=[0,1,2,3,4,7,8,6,11,12,10,14,5]
def zif:IC := .seq (.reg [oV 2 (.box (.V 0)),oV 3 (.box (.V 1)),oV 4 (.alloc [(.v (.bool false)),(.v (.int .u64 0)),(.v (.int .u64 0))]),oV 5 (.mv (kb false))]) (.seq (.seq (.reg [tV 15 3 2,oE 16 (.call zgo [([0,0,0],(.E 15))]),oE 17 (.un .not (.E 16)),wE 18 17,gE 19 18 .false (.load true 3 (.V 3)),gE 20 18 .false (.call zgo [([0,0,0],(.E 19))]),gE 21 18 .false (.un .not (.E 20)),oE 22 (.pick (.E 18) (kb true) (.E 21))]) (.cond (.E 22) (.seq (.reg [oE 23 (.build [(.v (.bool false)),(.v (.int .u64 0)),(.v (.int .u64 0))] []),oN (.store [0,0,0] (.V 4) (.E 23)),oV 5 (.mv (kb false))]) .ret) .skip)) (.seq (.seq (.reg [fV 24 0 2,lE 25 24,fV 26 0 3,lE 27 26,oE 28 (.eqb true [.b] (.E 25) (.E 27))]) (.cond (.E 28) (.seq (.seq (.reg [tV 29 3 2,tV 30 3 3,oE 31 (.call zjq [([0,0,0],(.E 29)),([0,0,0],(.E 30))]),oE 32 (.bin .lss (.E 31) (ki 0))]) (.cond (.E 32) (.reg [tV 33 3 3,tV 34 3 2,oN (.store [0,0,0] (.V 2) (.E 33)),oN (.store [0,0,0] (.V 3) (.E 34))]) .skip)) (.seq (.reg [fV 36 2 2,lE 37 36,fV 38 2 3,lE 39 38,oE 40 (.call zjs [([0],(.E 37)),([0],(.E 39)),([0],(.C (.v (.int .u64 0))))]),wE 35 40,xE 41 0 35,xE 42 1 35,vE 6 41,vE 7 42]) (.seq (.reg [fV 44 1 2,lE 45 44,fV 46 1 3,lE 47 46,mV 48 7,oE 49 (.call zjs [([0],(.E 45)),([0],(.E 47)),([0],(.E 48))]),wE 43 49,xE 50 0 43,xE 51 1 43,vE 8 50,wE 9 51]) (.seq (.reg [fV 52 0 2,lE 53 52,mV 54 8,mV 55 6,oE 56 (.call zf4 [([0],(.E 53)),([0],(.E 54)),([0],(.E 55))]),oN (.store [0,0,0] (.V 4) (.E 56)),oV 5 (.mv (kb true))]) .ret)))) .skip)) (.seq (.reg [fV 58 2 2,lE 59 58,fV 60 2 3,lE 61 60,oE 62 (.call zh8 [([0],(.E 59)),([0],(.E 61)),([0],(.C (.v (.int .u64 0))))]),wE 57 62,xE 63 0 57,xE 64 1 57,vE 10 63,vE 11 64]) (.seq (.reg [fV 66 1 2,lE 67 66,fV 68 1 3,lE 69 68,mV 70 11,oE 71 (.call zh8 [([0],(.E 67)),([0],(.E 69)),([0],(.E 70))]),wE 65 71,xE 72 0 65,xE 73 1 65,vE 12 72,wE 13 73]) (.seq (.reg [fV 74 0 2,lE 75 74,mV 76 12,mV 77 10,oE 78 (.call zf4 [([0],(.E 75)),([0],(.E 76)),([0],(.E 77))]),oV 14 (.alloc [(.v (.bool false)),(.v (.int .u64 0)),(.v (.int .u64 0))]),oN (.store [0,0,0] (.V 14) (.E 78))]) (.seq (.seq (.reg [tV 79 3 14,oE 80 (.call zgo [([0,0,0],(.E 79))]),oE 81 (.un .not (.E 80))]) (.cond (.E 81) (.seq (.reg [oE 82 (.build [(.v (.bool false)),(.v (.int .u64 0)),(.v (.int .u64 0))] []),oN (.store [0,0,0] (.V 4) (.E 82)),oV 5 (.mv (kb false))]) .ret) .skip)) (.seq (.reg [tV 83 3 14,oN (.store [0,0,0] (.V 4) (.E 83)),oV 5 (.mv (kb true))]) .ret)))))))
def zig:List RV:=[.cell [0,0,0] 4 true,.tmp [0] 5]
def yh8:List Nat:=[0,1,2,6,4,5]
def zxt:IC := .seq (.reg [oV 2 (.box (.V 0)),oV 4 (.alloc [(.v (.bool false)),(.v (.int .u64 0)),(.v (.int .u64 0)),iv 0]),oV 5 (.mv (kb false))]) (.seq (.reg [tV 7 3 2,mV 8 1,oE 9 (.build [(.v (.bool false)),(.v (.int .u64 0)),(.v (.int .u64 0)),iv 0] [(0,3,(.E 7)),(3,1,(.E 8))]),oV 6 (.alloc [(.v (.bool false)),(.v (.int .u64 0)),(.v (.int .u64 0)),iv 0]),oN (.store [0,0,0,0] (.V 6) (.E 9))]) (.seq (.seq (.reg [tV 10 4 6,oE 11 (.call zjp [([0,0,0,0],(.E 10))]),oE 12 (.un .not (.E 11))]) (.cond (.E 12) (.seq (.reg [oE 13 (.build [(.v (.bool false)),(.v (.int .u64 0)),(.v (.int .u64 0)),iv 0] []),oN (.store [0,0,0,0] (.V 4) (.E 13)),oV 5 (.mv (kb false))]) .ret) .skip)) (.seq (.reg [tV 14 4 6,oN (.store [0,0,0,0] (.V 4) (.E 14)),oV 5 (.mv (kb true))]) .ret)))
def zxu:List RV:=[.cell [0,0,0,0] 4 true,.tmp [0] 5]
def yh9:List Nat:=[0,1,5,6,4]
def zxv:IC := .seq (.reg [oV 4 (.alloc [(.v (.bool false)),(.v (.int .u64 0)),(.v (.int .u64 0))])]) (.seq (.reg [mV 8 0,oE 9 (.call zju [([0],(.E 8))]),mV 10 1,oE 11 (.call zju [([0],(.E 10))]),oE 12 (.call zjt [([0],(.E 9)),([0],(.E 11))]),wE 7 12,xE 13 0 7,xE 14 1 7,vE 5 13,vE 6 14]) (.seq (.reg [mV 15 0,oE 16 (.bin .lss (.E 15) (ki 0)),mV 17 1,oE 18 (.bin .lss (.E 17) (ki 0)),oE 19 (.eqb true [.b] (.E 16) (.E 18)),mV 20 5,mV 21 6,oE 22 (.call zf4 [([0],(.E 19)),([0],(.E 20)),([0],(.E 21))]),oN (.store [0,0,0] (.V 4) (.E 22))]) .ret))
def zxw:List RV:=[.cell [0,0,0] 4 true]
def yia:List Nat:=[0,1,2]
def zxx:IC := .seq (.reg [oV 1 (.box (.V 0)),oV 2 (.mv (kb false))]) (.seq (.reg [fV 3 0 1,tE 4 3 3,oE 5 (.call zgo [([0,0,0],(.E 4))]),wE 6 5,gE 7 6 .true (.faddr 3 (.V 1)),gE 8 6 .true (.load false 1 (.E 7)),gE 9 6 .true (.call zcf [([0],(.E 8)),([0],(ki 1)),([0],(ki 1000000))]),oE 10 (.pick (.E 6) (.E 9) (kb false)),vE 2 10]) .ret)
def zxy:List RV:=[.tmp [0] 2]
def yib:List Nat:=[0,1,2,4,6,8,9,10,7,11,12,5]
def zgs:IC := .seq (.reg [oV 2 (.box (.V 0)),oV 4 (.alloc [(.v (.bool false)),(.v (.int .u64 0)),(.v (.int .u64 0))]),oV 5 (.mv (kb false))]) (.seq (.seq (.reg [tV 13 3 2,oE 14 (.call zgo [([0,0,0],(.E 13))]),oE 15 (.un .not (.E 14))]) (.cond (.E 15) (.seq (.reg [oE 16 (.build [(.v (.bool false)),(.v (.int .u64 0)),(.v (.int .u64 0))] []),oN (.store [0,0,0] (.V 4) (.E 16)),oV 5 (.mv (kb false))]) .ret) .skip)) (.seq (.reg [mV 17 1,oE 18 (.call zju [([0],(.E 17))]),vE 6 18]) (.seq (.reg [fV 20 1 2,lE 21 20,mV 22 6,oE 23 (.call zjt [([0],(.E 21)),([0],(.E 22))]),wE 19 23,xE 24 0 19,xE 25 1 19,vE 7 24,vE 8 25]) (.seq (.reg [fV 27 2 2,lE 28 27,mV 29 6,oE 30 (.call zjt [([0],(.E 28)),([0],(.E 29))]),wE 26 30,xE 31 0 26,xE 32 1 26,vE 9 31,vE 10 32]) (.seq (.reg [mV 34 8,mV 35 9,oE 36 (.call zh8 [([0],(.E 34)),([0],(.E 35)),([0],(.C (.v (.int .u64 0))))]),wE 33 36,xE 37 0 33,xE 38 1 33,vE 8 37,vE 11 38]) (.seq (.reg [fV 39 0 2,lE 40 39,mV 41 1,oE 42 (.bin .lss (.E 41) (ki 0)),oE 43 (.eqb true [.b] (.E 40) (.E 42)),mV 44 8,mV 45 10,oE 46 (.call zf4 [([0],(.E 43)),([0],(.E 44)),([0],(.E 45))]),oV 12 (.alloc [(.v (.bool false)),(.v (.int .u64 0)),(.v (.int .u64 0))]),oN (.store [0,0,0] (.V 12) (.E 46))]) (.seq (.seq (.reg [mV 47 7,oE 48 (.bin .gtr (.E 47) (.C (.v (.int .u64 0)))),wE 49 48,gE 50 49 .false (.mv (.V 11)),gE 51 49 .false (.bin .gtr (.E 50) (.C (.v (.int .u64 0)))),oE 52 (.pick (.E 49) (kb true) (.E 51)),wE 53 52,gE 54 53 .false (.load true 3 (.V 12)),gE 55 53 .false (.call zgo [([0,0,0],(.E 54))]),gE 56 53 .false (.un .not (.E 55)),oE 57 (.pick (.E 53) (kb true) (.E 56))]) (.cond (.E 57) (.seq (.reg [oE 58 (.build [(.v (.bool false)),(.v (.int .u64 0)),(.v (.int .u64 0))] []),oN (.store [0,0,0] (.V 4) (.E 58)),oV 5 (.mv (kb false))]) .ret) .skip)) (.seq (.reg [tV 59 3 12,oN (.store [0,0,0] (.V 4) (.E 59)),oV 5 (.mv (kb true))]) .ret))))))))
def zgt:List RV:=[.cell [0,0,0] 4 true,.tmp [0] 5]
def yic:List Nat:=[0,1,2,6]
def zpr:IC := .seq (.reg [oV 6 (.alloc [(.v (.bool false)),(.v (.int .u64 0)),(.v (.int .u64 0))])]) (.seq (.reg [mV 7 0,wE 8 7,gE 9 8 .true (.mv (.V 1)),gE 10 8 .true (.bin .gtr (.E 9) (.C (.v (.int .u64 0)))),gE 11 8 .true (.mv (.E 10)),gE 12 11 .false (.mv (.V 2)),gE 13 11 .false (.bin .gtr (.E 12) (.C (.v (.int .u64 0)))),gE 14 8 .true (.pick (.E 11) (kb true) (.E 13)),oE 15 (.pick (.E 8) (.E 14) (kb false)),mV 16 1,mV 17 2,oE 18 (.build [(.v (.bool false)),(.v (.int .u64 0)),(.v (.int .u64 0))] [(0,1,(.E 15)),(1,1,(.E 16)),(2,1,(.E 17))]),oN (.store [0,0,0] (.V 6) (.E 18))]) .ret)
def zps:List RV:=[.cell [0,0,0] 6 true]
def yid:List Nat:=[0,1,2,3,4]
def zxz:IC := .seq (.reg [oV 2 (.box (.V 0)),oV 3 (.box (.V 1)),oV 4 (.mv (ki 0))]) (.seq (.regD [(fV 5 1 2,0,0),(lE 6 5,0,0),(fV 7 1 3,0,0),(lE 8 7,0,0),(oE 9 (.call zlm [([0],(.E 6)),([0],(.E 8))]),0,0),(fV 10 2 2,1,0),(lE 11 10,1,0),(fV 12 2 3,1,0),(lE 13 12,1,0),(oE 14 (.call zlm [([0],(.E 11)),([0],(.E 13))]),0,0),(oE 15 (.bslice 2 1 [iv 0] [(0,(.E 9)),(1,(.E 14))]),0,0),(oE 16 (.call zlb [([1],(.E 15))]),0,0),(vE 4 16,0,0)]) .ret)
def zx0:List RV:=[.tmp [0] 4]
def yie:List Nat:=[0,2]
def zx1:IC := .seq (.reg [oV 2 (.mv (kb false))]) (.seq (.reg [mV 3 0,oE 4 (.call zo3 [([0],(.E 3))]),oE 5 (.un .not (.E 4)),vE 2 5]) .ret)
def zx2:List RV:=[.tmp [0] 2]
def yif:List Nat:=[0,2]
def zx3:IC := .seq (.reg [oV 2 (.mv (kb false))]) (.seq (.reg [mV 3 0,oE 4 (.call zcf [([0],(.E 3)),([0],(ki (-2147483647))),([0],(ki 2147483647))]),vE 2 4]) .ret)
def zx4:List RV:=[.tmp [0] 2]
def yig:List Nat:=[0,1,2,3,4,6,7,8,9,5]
def ze4:IC := .seq (.reg [oV 2 (.box (.V 0)),oV 3 (.box (.V 1)),oV 4 (.alloc [(.v (.bool false)),(.v (.int .u64 0)),(.v (.int .u64 0))]),oV 5 (.mv (kb false))]) (.seq (.seq (.reg [tV 10 3 2,oE 11 (.call zgp [([0,0,0],(.E 10))]),oE 12 (.un .not (.E 11)),wE 13 12,gE 14 13 .false (.load true 3 (.V 3)),gE 15 13 .false (.call zgp [([0,0,0],(.E 14))]),gE 16 13 .false (.un .not (.E 15)),oE 17 (.pick (.E 13) (kb true) (.E 16))]) (.cond (.E 17) (.seq (.reg [oE 18 (.build [(.v (.bool false)),(.v (.int .u64 0)),(.v (.int .u64 0))] []),oN (.store [0,0,0] (.V 4) (.E 18)),oV 5 (.mv (kb false))]) .ret) .skip)) (.seq (.seq (.reg [fV 19 0 2,lE 20 19,fV 21 0 3,lE 22 21,oE 23 (.eqb false [.b] (.E 20) (.E 22))]) (.cond (.E 23) (.seq (.reg [fV 24 0 2,lE 25 24,fV 26 1 2,lE 27 26,fV 28 1 3,lE 29 28,bE 30 .add 27 29,fV 31 2 2,lE 32 31,fV 33 2 3,lE 34 33,bE 35 .add 32 34,oE 36 (.build [(.v (.bool false)),(.v (.int .u64 0)),(.v (.int .u64 0))] [(0,1,(.E 25)),(1,1,(.E 30)),(2,1,(.E 35))]),oV 6 (.alloc [(.v (.bool false)),(.v (.int .u64 0)),(.v (.int .u64 0))]),oN (.store [0,0,0] (.V 6) (.E 36))]) (.seq (.seq (.reg [fV 37 2 6,lE 38 37,fV 39 2 2,lE 40 39,bE 41 .lss 38 40]) (.cond (.E 41) (.reg [fV 42 1 6,lE 43 42,oE 44 (.bin .add (.E 43) (.C (.v (.int .u64 1)))),fV 45 1 6,oN (.store [0] (.E 45) (.E 44))]) .skip)) (.seq (.seq (.reg [tV 46 3 6,oE 47 (.call zgp [([0,0,0],(.E 46))]),oE 48 (.un .not (.E 47))]) (.cond (.E 48) (.seq (.reg [oE 49 (.build [(.v (.bool false)),(.v (.int .u64 0)),(.v (.int .u64 0))] []),oN (.store [0,0,0] (.V 4) (.E 49)),oV 5 (.mv (kb false))]) .ret) .skip)) (.seq (.reg [tV 50 3 6,oN (.store [0,0,0] (.V 4) (.E 50)),oV 5 (.mv (kb true))]) .ret)))) .skip)) (.seq (.reg [tV 51 3 2,oV 7 (.alloc [(.v (.bool false)),(.v (.int .u64 0)),(.v (.int .u64 0))]),oN (.store [0,0,0] (.V 7) (.E 51))]) (.seq (.reg [tV 52 3 3,oV 8 (.alloc [(.v (.bool false)),(.v (.int .u64 0)),(.v (.int .u64 0))]),oN (.store [0,0,0] (.V 8) (.E 52))]) (.seq (.seq (.reg [tV 53 3 2,tV 54 3 3,oE 55 (.call zjr [([0,0,0],(.E 53)),([0,0,0],(.E 54))]),oE 56 (.bin .lss (.E 55) (ki 0))]) (.cond (.E 56) (.seq (.reg [tV 57 3 3,oN (.store [0,0,0] (.V 7) (.E 57))]) (.reg [tV 58 3 2,oN (.store [0,0,0] (.V 8) (.E 58))])) .skip)) (.seq (.reg [fV 59 0 7,lE 60 59,fV 61 1 7,lE 62 61,fV 63 1 8,lE 64 63,bE 65 .sub 62 64,fV 66 2 7,lE 67 66,fV 68 2 8,lE 69 68,bE 70 .sub 67 69,oE 71 (.build [(.v (.bool false)),(.v (.int .u64 0)),(.v (.int .u64 0))] [(0,1,(.E 60)),(1,1,(.E 65)),(2,1,(.E 70))]),oV 9 (.alloc [(.v (.bool false)),(.v (.int .u64 0)),(.v (.int .u64 0))]),oN (.store [0,0,0] (.V 9) (.E 71))]) (.seq (.seq (.reg [fV 72 2 7,lE 73 72,fV 74 2 8,lE 75 74,bE 76 .lss 73 75]) (.cond (.E 76) (.reg [fV 77 1 9,lE 78 77,oE 79 (.bin .sub (.E 78) (.C (.v (.int .u64 1)))),fV 80 1 9,oN (.store [0] (.E 80) (.E 79))]) .skip)) (.seq (.seq (.reg [tV 81 3 9,oE 82 (.call zh7 [([0,0,0],(.E 81))])]) (.cond (.E 82) (.reg [fV 83 0 9,oN (.store [0] (.E 83) (kb false))]) .skip)) (.seq (.reg [tV 84 3 9,oN (.store [0,0,0] (.V 4) (.E 84)),oV 5 (.mv (kb true))]) .ret)))))))))
def ze5:List RV:=[.cell [0,0,0] 4 true,.tmp [0] 5]
def yih:List Nat:=[0,1,2]
def zx5:IC := .seq (.reg [oV 1 (.box (.V 0)),oV 2 (.mv (kb false))]) (.seq (.reg [fV 3 0 1,tE 4 3 3,oE 5 (.call zgp [([0,0,0],(.E 4))]),wE 6 5,gE 7 6 .true (.faddr 3 (.V 1)),gE 8 6 .true (.load false 1 (.E 7)),gE 9 6 .true (.call zbm [([0],(.E 8)),([0],(ki 1)),([0],(ki 1000000))]),oE 10 (.pick (.E 6) (.E 9) (kb false)),vE 2 10]) .ret)
def zx6:List RV:=[.tmp [0] 2]
def yii:List Nat:=[0,1,6,4,5]
def zx7:IC := .seq (.reg [oV 4 (.alloc [(.v (.bool false)),(.v (.int .u64 0)),(.v (.int .u64 0)),iv 0]),oV 5 (.mv (kb false))]) (.seq (.reg [mV 7 0,mV 8 0,oE 9 (.call zo7 [([0],(.E 7)),([0],(.E 8))]),mV 10 1,oE 11 (.build [(.v (.bool false)),(.v (.int .u64 0)),(.v (.int .u64 0)),iv 0] [(0,3,(.E 9)),(3,1,(.E 10))]),oV 6 (.alloc [(.v (.bool false)),(.v (.int .u64 0)),(.v (.int .u64 0)),iv 0]),oN (.store [0,0,0,0] (.V 6) (.E 11))]) (.seq (.seq (.reg [tV 12 4 6,oE 13 (.call zh6 [([0,0,0,0],(.E 12))]),oE 14 (.un .not (.E 13))]) (.cond (.E 14) (.seq (.reg [oE 15 (.build [(.v (.bool false)),(.v (.int .u64 0)),(.v (.int .u64 0)),iv 0] []),oN (.store [0,0,0,0] (.V 4) (.E 15)),oV 5 (.mv (kb false))]) .ret) .skip)) (.seq (.reg [tV 16 4 6,oN (.store [0,0,0,0] (.V 4) (.E 16)),oV 5 (.mv (kb true))]) .ret)))
def zx8:List RV:=[.cell [0,0,0,0] 4 true,.tmp [0] 5]
def yij:List Nat:=[0,1,2,4,6,8,9,11,10,12,7,5]
def zgu:IC := .seq (.reg [oV 2 (.box (.V 0)),oV 4 (.alloc [(.v (.bool false)),(.v (.int .u64 0)),(.v (.int .u64 0))]),oV 5 (.mv (kb false))]) (.seq (.seq (.reg [tV 13 3 2,oE 14 (.call zgp [([0,0,0],(.E 13))]),oE 15 (.un .not (.E 14))]) (.cond (.E 15) (.seq (.reg [oE 16 (.build [(.v (.bool false)),(.v (.int .u64 0)),(.v (.int .u64 0))] []),oN (.store [0,0,0] (.V 4) (.E 16)),oV 5 (.mv (kb false))]) .ret) .skip)) (.seq (.reg [mV 17 1,oE 18 (.call zjv [([0],(.E 17))]),vE 6 18]) (.seq (.reg [fV 20 1 2,lE 21 20,mV 22 6,oE 23 (.call zjw [([0],(.E 21)),([0],(.E 22))]),wE 19 23,xE 24 0 19,xE 25 1 19,vE 7 24,vE 8 25]) (.seq (.reg [fV 27 2 2,lE 28 27,mV 29 6,oE 30 (.call zjw [([0],(.E 28)),([0],(.E 29))]),wE 26 30,xE 31 0 26,xE 32 1 26,vE 9 31,vE 10 32]) (.seq (.reg [mV 33 8,mV 34 9,bE 35 .add 33 34,vE 11 35]) (.seq (.reg [fV 36 0 2,lE 37 36,mV 38 1,oE 39 (.bin .lss (.E 38) (ki 0)),oE 40 (.eqb true [.b] (.E 37) (.E 39)),mV 41 11,mV 42 10,oE 43 (.build [(.v (.bool false)),(.v (.int .u64 0)),(.v (.int .u64 0))] [(0,1,(.E 40)),(1,1,(.E 41)),(2,1,(.E 42))]),oV 12 (.alloc [(.v (.bool false)),(.v (.int .u64 0)),(.v (.int .u64 0))]),oN (.store [0,0,0] (.V 12) (.E 43))]) (.seq (.seq (.reg [tV 44 3 12,oE 45 (.call zh7 [([0,0,0],(.E 44))])]) (.cond (.E 45) (.reg [fV 46 0 12,oN (.store [0] (.E 46) (kb false))]) .skip)) (.seq (.seq (.reg [mV 47 7,oE 48 (.bin .gtr (.E 47) (.C (.v (.int .u64 0)))),wE 49 48,gE 50 49 .false (.mv (.V 11)),gE 51 49 .false (.mv (.V 8)),gE 52 49 .false (.bin .lss (.E 50) (.E 51)),oE 53 (.pick (.E 49) (kb true) (.E 52)),wE 54 53,gE 55 54 .false (.load true 3 (.V 12)),gE 56 54 .false (.call zgp [([0,0,0],(.E 55))]),gE 57 54 .false (.un .not (.E 56)),oE 58 (.pick (.E 54) (kb true) (.E 57))]) (.cond (.E 58) (.seq (.reg [oE 59 (.build [(.v (.bool false)),(.v (.int .u64 0)),(.v (.int .u64 0))] []),oN (.store [0,0,0] (.V 4) (.E 59)),oV 5 (.mv (kb false))]) .ret) .skip)) (.seq (.reg [tV 60 3 12,oN (.store [0,0,0] (.V 4) (.E 60)),oV 5 (.mv (kb true))]) .ret)))))))))
def zgv:List RV:=[.cell [0,0,0] 4 true,.tmp [0] 5]
def yik:List Nat:=[0,1,2]
def zsa:IC := .seq (.reg [oV 1 (.box (.V 0)),oV 2 (.mv (kb false))]) (.seq (.reg [fV 3 1 1,lE 4 3,oE 5 (.bin .eql (.E 4) (.C (.v (.int .u64 0)))),wE 6 5,gE 7 6 .true (.faddr 2 (.V 1)),gE 8 6 .true (.load false 1 (.E 7)),gE 9 6 .true (.bin .eql (.E 8) (.C (.v (.int .u64 0)))),oE 10 (.pick (.E 6) (.E 9) (kb false)),vE 2 10]) .ret)
def zsb:List RV:=[.tmp [0] 2]
def yil:List Nat:=[0,1,2,3,4]
def zj2:IC := .seq (.reg [oV 2 (.box (.V 0)),oV 3 (.box (.V 1)),oV 4 (.mv (ki 0))]) (.seq (.block 0 (.seq (.reg [fV 6 1 2,lE 7 6,fV 8 1 3,lE 9 8,bE 10 .lss 7 9,wE 11 10,gE 12 11 .false (.faddr 1 (.V 2)),gE 13 11 .false (.load false 1 (.E 12)),gE 14 11 .false (.faddr 1 (.V 3)),gE 15 11 .false (.load false 1 (.E 14)),gE 16 11 .false (.bin .eql (.E 13) (.E 15)),gE 17 11 .false (.mv (.E 16)),gE 18 17 .true (.faddr 2 (.V 2)),gE 19 17 .true (.load false 1 (.E 18)),gE 20 17 .true (.faddr 2 (.V 3)),gE 21 17 .true (.load false 1 (.E 20)),gE 22 17 .true (.bin .lss (.E 19) (.E 21)),gE 23 11 .false (.pick (.E 17) (.E 22) (kb false)),oE 24 (.pick (.E 11) (kb true) (.E 23)),wE 5 24]) (.cond (.E 5) (.seq (.reg [oV 4 (.mv (ki (-1)))]) .ret) (.seq (.reg [fV 26 1 2,lE 27 26,fV 28 1 3,lE 29 28,bE 30 .gtr 27 29,wE 31 30,gE 32 31 .false (.faddr 2 (.V 2)),gE 33 31 .false (.load false 1 (.E 32)),gE 34 31 .false (.faddr 2 (.V 3)),gE 35 31 .false (.load false 1 (.E 34)),gE 36 31 .false (.bin .gtr (.E 33) (.E 35)),oE 37 (.pick (.E 31) (kb true) (.E 36)),wE 25 37]) (.cond (.E 25) (.seq (.reg [oV 4 (.mv (ki 1))]) .ret) .skip))))) (.seq (.reg [oV 4 (.mv (ki 0))]) .ret))
def zj3:List RV:=[.tmp [0] 4]
def yim:List Nat:=[0,3,2]
def z3f:IC := .seq (.seq (.reg [mV 13 3,mV 14 0,oE 15 (.lenS (.E 14)),bE 16 .lss 13 15]) (.cond (.E 16) .skip (.exit 0))) (.seq (.block 1 (.seq (.reg [mV 19 0,mV 20 3,oE 21 (.idx (.E 19) (.E 20)),oE 22 (.convI .i64 (.E 21)),oE 23 (.call zbm [([0],(.E 22)),([0],(ki 97)),([0],(ki 122))]),oE 24 (.un .not (.E 23)),wE 25 24,gE 26 25 .true (.mv (.V 0)),gE 27 25 .true (.mv (.V 3)),gE 28 25 .true (.idx (.E 26) (.E 27)),gE 29 25 .true (.convI .i64 (.E 28)),gE 30 25 .true (.call zbm [([0],(.E 29)),([0],(ki 48)),([0],(ki 57))]),gE 31 25 .true (.un .not (.E 30)),oE 32 (.pick (.E 25) (.E 31) (kb false))]) (.cond (.E 32) (.seq (.reg [oV 2 (.mv (kb false))]) .ret) .skip))) (.reg [mV 17 3,oE 18 (.bin .add (.E 17) (ki 1)),vE 3 18]))
def zpt:IC := .seq (.reg [oV 2 (.mv (kb false))]) (.seq (.seq (.reg [mV 4 0,oE 5 (.lenS (.E 4)),oE 6 (.call zbm [([0],(.E 5)),([0],(ki 1)),([0],(ki 12))]),oE 7 (.un .not (.E 6)),wE 8 7,gE 9 8 .false (.mv (.V 0)),gE 10 8 .false (.idx (.E 9) (ki 0)),gE 11 8 .false (.bin .lss (.E 10) (.C (.v (.int .u8 97)))),oE 12 (.pick (.E 8) (kb true) (.E 11))]) (.cond (.E 12) (.seq (.reg [oV 2 (.mv (kb false))]) .ret) .skip)) (.seq (.seq (.reg [oV 3 (.mv (ki 0))]) (.block 0 (.loop z3f))) (.seq (.reg [oV 2 (.mv (kb true))]) .ret)))
def zpu:List RV:=[.tmp [0] 2]
def yin:List Nat:=[0,1,5,4]
def z3g:IC := .seq (.seq (.reg [mV 6 5,mV 7 0,nE 8 7,bE 9 .lss 6 8]) (.cond (.E 9) .skip (.exit 0))) (.seq (.block 1 (.seq (.reg [mV 12 0,mV 13 5,iE 14 1 12 13,lE 15 14,mV 16 1,bE 17 .eql 15 16]) (.cond (.E 17) (.seq (.reg [oV 4 (.mv (kb true))]) .ret) .skip))) (.reg [mV 10 5,oE 11 (.bin .add (.E 10) (ki 1)),vE 5 11]))
def zx9:IC := .seq (.reg [oV 4 (.mv (kb false))]) (.seq (.seq (.reg [oV 5 (.mv (ki 0))]) (.block 0 (.loop z3g))) (.seq (.reg [oV 4 (.mv (kb false))]) .ret))
def zya:List RV:=[.tmp [0] 4]
def yio:List Nat:=[0,4,3,5,6,2]
def zyb:IC := .seq (.seq (.regD [(mV 16 5,0,0),(oE 17 (.bin .gtr (.E 16) (ki 0)),0,0),(wE 18 17,0,0),(gE 19 18 .true (.mv (.V 3)),0,0),(gE 20 18 .true (.mv (.V 5)),0,0),(gE 21 18 .true (.bin .sub (.E 20) (ki 1)),0,0),(gE 22 18 .true (.iaddr 1 (.E 19) (.E 21)),0,0),(gE 23 18 .true (.load false 1 (.E 22)),0,0),(gE 24 18 .true (.mv (.V 0)),0,0),(gE 25 18 .true (.mv (.V 4)),0,0),(gE 26 18 .true (.iaddr 1 (.E 24) (.E 25)),0,0),(gE 27 18 .true (.load false 1 (.E 26)),0,0),(gE 28 18 .true (.bin .gtr (.E 23) (.E 27)),0,0),(oE 29 (.pick (.E 18) (.E 28) (kb false)),0,0)]) (.cond (.E 29) .skip (.exit 2))) (.block 3 (.reg [mV 30 5,oE 31 (.bin .sub (.E 30) (ki 1)),vE 5 31]))
def z3h:IC := .seq (.seq (.reg [mV 8 4,mV 9 0,nE 10 9,bE 11 .lss 8 10]) (.cond (.E 11) .skip (.exit 0))) (.seq (.block 1 (.seq (.reg [mV 14 3,nE 15 14,vE 5 15]) (.seq (.block 2 (.loop zyb)) (.seq (.regD [(oE 32 (.bslice 0 1 [iv 0] []),0,0),(mV 33 3,0,0),(mV 34 5,0,0),(oE 35 (.slice 1 (.E 33) none (some (.E 34)) none),1,0),(oE 36 (.app 8 1 (.E 32) (.E 35)),0,0),(mV 37 0,0,0),(mV 38 4,0,0),(iE 39 1 37 38,2,0),(lE 40 39,2,0),(oE 41 (.bsliceL 1 1 [iv 0] [(0,(.E 40))]),0,0),(oE 42 (.app 8 1 (.E 36) (.E 41)),0,0),(vE 6 42,0,0)]) (.reg [mV 43 6,mV 44 3,mV 45 5,oE 46 (.slice 1 (.E 44) (some (.E 45)) none none),oE 47 (.app 8 1 (.E 43) (.E 46)),vE 3 47]))))) (.reg [mV 12 4,oE 13 (.bin .add (.E 12) (ki 1)),vE 4 13]))
def zyc:IC := .seq (.reg [oV 2 (.mv (.C .e0))]) (.seq (.reg [oE 7 (.bslice 0 1 [iv 0] []),vE 3 7]) (.seq (.seq (.reg [oV 4 (.mv (ki 0))]) (.block 0 (.loop z3h))) (.seq (.reg [mV 48 3,vE 2 48]) .ret)))
def zyd:List RV:=[.tmp [1] 2]
def yip:List Nat:=[0,5,4,3,2]
def zsc:IC := .seq (.seq (.reg [mV 9 5,mV 10 4,nE 11 10,bE 12 .lss 9 11]) (.cond (.E 12) .skip (.exit 0))) (.seq (.block 1 (.seq (.regD [(mV 15 5,0,0),(oE 16 (.bin .eql (.E 15) (ki 0)),0,0),(wE 17 16,0,0),(gE 18 17 .false (.mv (.V 4)),0,0),(gE 19 17 .false (.mv (.V 5)),0,0),(gE 20 17 .false (.iaddr 1 (.E 18) (.E 19)),0,0),(gE 21 17 .false (.load false 1 (.E 20)),0,0),(gE 22 17 .false (.mv (.V 4)),0,0),(gE 23 17 .false (.mv (.V 5)),0,0),(gE 24 17 .false (.bin .sub (.E 23) (ki 1)),0,0),(gE 25 17 .false (.iaddr 1 (.E 22) (.E 24)),0,0),(gE 26 17 .false (.load false 1 (.E 25)),0,0),(gE 27 17 .false (.bin .neq (.E 21) (.E 26)),0,0),(oE 28 (.pick (.E 17) (kb true) (.E 27)),0,0)]) (.cond (.E 28) (.reg [mV 29 3,mV 30 4,mV 31 5,iE 32 1 30 31,lE 33 32,oE 34 (.bslice 1 1 [iv 0] [(0,(.E 33))]),oE 35 (.app 8 1 (.E 29) (.E 34)),vE 3 35]) .skip))) (.reg [mV 13 5,oE 14 (.bin .add (.E 13) (ki 1)),vE 5 14]))
def zye:IC := .seq (.reg [oV 2 (.mv (.C .e0))]) (.seq (.reg [oE 6 (.bslice 0 1 [iv 0] []),vE 3 6]) (.seq (.reg [mV 7 0,oE 8 (.call zlk [([1],(.E 7))]),vE 4 8]) (.seq (.seq (.reg [oV 5 (.mv (ki 0))]) (.block 0 (.loop zsc))) (.seq (.reg [mV 36 3,vE 2 36]) .ret))))
def zyf:List RV:=[.tmp [1] 2]
def yiq:List Nat:=[0,2]
def zyg:IC := .seq (.reg [oV 2 (.mv (kb false))]) (.seq (.reg [mV 3 0,mV 4 0,bE 5 .neq 3 4,vE 2 5]) .ret)
def zyh:List RV:=[.tmp [0] 2]
def yir:List Nat:=[0,1,2]
def zl9:IC := .seq (.reg [oV 1 (.box (.V 0)),oV 2 (.mv (kb false))]) (.seq (.reg [fV 3 1 1,lE 4 3,oE 5 (.bin .lss (.E 4) (.C (.v (.int .u64 9223372036854775808)))),wE 6 5,gE 7 6 .true (.faddr 0 (.V 1)),gE 8 6 .true (.load false 1 (.E 7)),gE 9 6 .true (.un .not (.E 8)),gE 10 6 .true (.mv (.E 9)),gE 11 10 .false (.faddr 1 (.V 1)),gE 12 10 .false (.load false 1 (.E 11)),gE 13 10 .false (.bin .gtr (.E 12) (.C (.v (.int .u64 0)))),gE 14 6 .true (.pick (.E 10) (kb true) (.E 13)),gE 15 6 .true (.mv (.E 14)),gE 16 15 .false (.faddr 2 (.V 1)),gE 17 15 .false (.load false 1 (.E 16)),gE 18 15 .false (.bin .gtr (.E 17) (.C (.v (.int .u64 0)))),gE 19 6 .true (.pick (.E 15) (kb true) (.E 18)),oE 20 (.pick (.E 6) (.E 19) (kb false)),vE 2 20]) .ret)
def zma:List RV:=[.tmp [0] 2]
def yis:List Nat:=[0,1,6,8,7,10,11,12,9,13,4,5]
def zyi:IC := .seq (.reg [oV 4 (.mv (.C (.v (.int .u64 0)))),oV 5 (.mv (.C (.v (.int .u64 0))))]) (.seq (.reg [mV 14 0,oE 15 (.bin .and (.E 14) (.C (.v (.int .u64 4294967295)))),vE 6 15]) (.seq (.reg [mV 16 0,oE 17 (.bin .shr (.E 16) (.C (.v (.int .u64 32)))),vE 7 17]) (.seq (.reg [mV 18 1,oE 19 (.bin .and (.E 18) (.C (.v (.int .u64 4294967295)))),vE 8 19]) (.seq (.reg [mV 20 1,oE 21 (.bin .shr (.E 20) (.C (.v (.int .u64 32)))),vE 9 21]) (.seq (.reg [mV 22 6,mV 23 8,bE 24 .mul 22 23,vE 10 24]) (.seq (.reg [mV 25 7,mV 26 8,bE 27 .mul 25 26,mV 28 10,oE 29 (.bin .shr (.E 28) (.C (.v (.int .u64 32)))),bE 30 .add 27 29,vE 11 30]) (.seq (.reg [mV 31 11,oE 32 (.bin .and (.E 31) (.C (.v (.int .u64 4294967295)))),vE 12 32]) (.seq (.reg [mV 33 11,oE 34 (.bin .shr (.E 33) (.C (.v (.int .u64 32)))),vE 13 34]) (.seq (.reg [mV 35 12,mV 36 6,mV 37 9,bE 38 .mul 36 37,bE 39 .add 35 38,vE 12 39]) (.seq (.reg [mV 40 7,mV 41 9,bE 42 .mul 40 41,mV 43 13,bE 44 .add 42 43,mV 45 12,oE 46 (.bin .shr (.E 45) (.C (.v (.int .u64 32)))),bE 47 .add 44 46,vE 4 47]) (.seq (.reg [mV 48 0,mV 49 1,bE 50 .mul 48 49,vE 5 50]) .ret)))))))))))
def zyj:List RV:=[.tmp [0] 4,.tmp [0] 5]
def yit:List Nat:=[0,2]
def zyk:IC := .seq (.reg [oV 2 (.mv (.C (.v (.int .u64 0))))]) (.seq (.seq (.reg [mV 3 0,oE 4 (.bin .lss (.E 3) (ki 0))]) (.cond (.E 4) (.seq (.reg [mV 5 0,oE 6 (.convI .u64 (.E 5)),oE 7 (.un .neg (.E 6)),vE 2 7]) .ret) .skip)) (.seq (.reg [mV 8 0,oE 9 (.convI .u64 (.E 8)),vE 2 9]) .ret))
def zyl:List RV:=[.tmp [0] 2]
def yiu:List Nat:=[0,1,5,6,4]
def zpv:IC := .seq (.reg [oV 4 (.mv (ki 0))]) (.seq (.reg [mV 7 0,oE 8 (.call zln [([0],(.E 7))]),vE 5 8]) (.seq (.reg [mV 9 1,oE 10 (.call zln [([0],(.E 9))]),vE 6 10]) (.seq (.seq (.reg [mV 11 5]) (.cond (.E 11) (.seq (.seq (.reg [mV 12 6]) (.cond (.E 12) (.seq (.reg [oV 4 (.mv (ki 0))]) .ret) .skip)) (.seq (.reg [oV 4 (.mv (ki (-1)))]) .ret)) .skip)) (.seq (.seq (.reg [mV 13 6]) (.cond (.E 13) (.seq (.reg [oV 4 (.mv (ki 1))]) .ret) .skip)) (.seq (.seq (.reg [mV 14 0,mV 15 1,bE 16 .lss 14 15]) (.cond (.E 16) (.seq (.reg [oV 4 (.mv (ki (-1)))]) .ret) .skip)) (.seq (.seq (.reg [mV 17 0,mV 18 1,bE 19 .gtr 17 18]) (.cond (.E 19) (.seq (.reg [oV 4 (.mv (ki 1))]) .ret) .skip)) (.seq (.reg [oV 4 (.mv (ki 0))]) .ret)))))))
def zpw:List RV:=[.tmp [0] 4]
def yiv:List Nat:=[0,1,2]
def zmb:IC := .seq (.reg [oV 1 (.box (.V 0)),oV 2 (.mv (kb false))]) (.seq (.reg [fV 3 1 1,lE 4 3,oE 5 (.bin .lss (.E 4) (.C (.v (.int .u64 9223372036854775808)))),wE 6 5,gE 7 6 .true (.faddr 0 (.V 1)),gE 8 6 .true (.load false 1 (.E 7)),gE 9 6 .true (.un .not (.E 8)),gE 10 6 .true (.mv (.E 9)),gE 11 10 .false (.faddr 1 (.V 1)),gE 12 10 .false (.load false 1 (.E 11)),gE 13 10 .false (.bin .gtr (.E 12) (.C (.v (.int .u64 0)))),gE 14 6 .true (.pick (.E 10) (kb true) (.E 13)),gE 15 6 .true (.mv (.E 14)),gE 16 15 .false (.faddr 2 (.V 1)),gE 17 15 .false (.load false 1 (.E 16)),gE 18 15 .false (.bin .gtr (.E 17) (.C (.v (.int .u64 0)))),gE 19 6 .true (.pick (.E 15) (kb true) (.E 18)),oE 20 (.pick (.E 6) (.E 19) (kb false)),vE 2 20]) .ret)
def zmc:List RV:=[.tmp [0] 2]
def yiw:List Nat:=[0,1,5,6,4]
def zym:IC := .seq (.reg [oV 4 (.alloc [(.v (.bool false)),(.v (.int .u64 0)),(.v (.int .u64 0))])]) (.seq (.reg [mV 8 0,oE 9 (.call zjv [([0],(.E 8))]),mV 10 1,oE 11 (.call zjv [([0],(.E 10))]),oE 12 (.call zjw [([0],(.E 9)),([0],(.E 11))]),wE 7 12,xE 13 0 7,xE 14 1 7,vE 5 13,vE 6 14]) (.seq (.reg [mV 15 0,oE 16 (.bin .lss (.E 15) (ki 0)),mV 17 1,oE 18 (.bin .lss (.E 17) (ki 0)),oE 19 (.eqb true [.b] (.E 16) (.E 18)),wE 20 19,gE 21 20 .true (.mv (.V 0)),gE 22 20 .true (.bin .neq (.E 21) (ki 0)),oE 23 (.pick (.E 20) (.E 22) (kb false)),wE 24 23,gE 25 24 .true (.mv (.V 1)),gE 26 24 .true (.bin .neq (.E 25) (ki 0)),oE 27 (.pick (.E 24) (.E 26) (kb false)),mV 28 5,mV 29 6,oE 30 (.build [(.v (.bool false)),(.v (.int .u64 0)),(.v (.int .u64 0))] [(0,1,(.E 27)),(1,1,(.E 28)),(2,1,(.E 29))]),oN (.store [0,0,0] (.V 4) (.E 30))]) .ret))
def zyn:List RV:=[.cell [0,0,0] 4 true]
def yix:List Nat:=[0,2]
def zyo:IC := .seq (.reg [oV 2 (.mv (.C (.v (.int .u64 0))))]) (.seq (.seq (.reg [mV 3 0,oE 4 (.bin .lss (.E 3) (ki 0))]) (.cond (.E 4) (.seq (.reg [mV 5 0,oE 6 (.bin .add (.E 5) (ki 1)),oE 7 (.un .neg (.E 6)),oE 8 (.convI .u64 (.E 7)),oE 9 (.bin .add (.E 8) (.C (.v (.int .u64 1)))),vE 2 9]) .ret) .skip)) (.seq (.reg [mV 10 0,oE 11 (.convI .u64 (.E 10)),vE 2 11]) .ret))
def zyp:List RV:=[.tmp [0] 2]
def yiy:List Nat:=[0,1,7,9,6,10,8,11,12,4,5]
def zyq:IC := .seq (.reg [oV 4 (.mv (.C (.v (.int .u64 0)))),oV 5 (.mv (.C (.v (.int .u64 0))))]) (.seq (.reg [mV 13 0,oE 14 (.bin .shr (.E 13) (.C (.v (.int .u64 32)))),vE 6 14]) (.seq (.reg [mV 15 0,oE 16 (.bin .and (.E 15) (.C (.v (.int .u64 4294967295)))),vE 7 16]) (.seq (.reg [mV 17 1,oE 18 (.bin .shr (.E 17) (.C (.v (.int .u64 32)))),vE 8 18]) (.seq (.reg [mV 19 1,oE 20 (.bin .and (.E 19) (.C (.v (.int .u64 4294967295)))),vE 9 20]) (.seq (.reg [mV 21 7,mV 22 9,bE 23 .mul 21 22,vE 10 23]) (.seq (.reg [mV 24 6,mV 25 9,bE 26 .mul 24 25,mV 27 10,oE 28 (.bin .shr (.E 27) (.C (.v (.int .u64 32)))),bE 29 .add 26 28,vE 11 29]) (.seq (.reg [mV 30 7,mV 31 8,bE 32 .mul 30 31,mV 33 11,oE 34 (.bin .and (.E 33) (.C (.v (.int .u64 4294967295)))),bE 35 .add 32 34,vE 12 35]) (.seq (.reg [mV 36 6,mV 37 8,bE 38 .mul 36 37,mV 39 11,oE 40 (.bin .shr (.E 39) (.C (.v (.int .u64 32)))),bE 41 .add 38 40,mV 42 12,oE 43 (.bin .shr (.E 42) (.C (.v (.int .u64 32)))),bE 44 .add 41 43,mV 45 12,oE 46 (.bin .shl (.E 45) (.C (.v (.int .u64 32)))),mV 47 10,oE 48 (.bin .and (.E 47) (.C (.v (.int .u64 4294967295)))),bE 49 .add 46 48,vE 4 44,vE 5 49]) .ret))))))))
def zyr:List RV:=[.tmp [0] 4,.tmp [0] 5]
def yiz:List Nat:=[0,2]
def zys:IC := .seq (.reg [oV 2 (.mv (kb false))]) (.seq (.reg [mV 3 0,mV 4 0,bE 5 .neq 3 4,vE 2 5]) .ret)
def zyt:List RV:=[.tmp [0] 2]
def tbl:List (Nat×Fun):=[
 (zqw,zaa zlo zlp []),
 (znb,zaa zto ztp []),
 (znc,zaa zqx zqy []),
 (znd,zaa zo8 zo9 []),
 (zne,zaa zpa zpb []),
 (znf,zaa ztq ztr []),
 (zng,zaa zts ztt []),
 (zjd,zaa ztu ztv []),
 (zkm,zaa ztw ztx []),
 (znh,zaa zlr zls []),
 (zni,zaa zlu zlv []),
 (zkn,zaa zpc zpd []),
 (zko,zaa zty ztz []),
 (znj,zaa zt1 zt2 []),
 (zc9,zaa zt3 zt4 [true]),
 (znk,zaa zpe zpf [true]),
 (znl,zaa zt5 zt6 [true]),
 (znm,zaa zq1 zq2 []),
 (znn,zaa zt9 zua []),
 (zno,zaa zuc zud []),
 (znp,zaa zq3 zq4 []),
 (znq,zaa zuf zug []),
 (znr,zaa zui zuj []),
 (zbm,zaa zuk zul []),
 (zns,zaa zum zun []),
 (zkp,zaa zuo zup []),
 (znt,zaa zq6 zq7 []),
 (znu,zaa zq8 zq9 []),
 (znv,zaa zuq zur []),
 (zkq,zaa zly zlz []),
 (zkr,zaa zus zut []),
 (zh4,zaa zra zrb []),
 (zks,zaa zl1 zl2 []),
 (zje,zaa zrc zrd []),
 (zhk,zaa zre zrf []),
 (zkt,zaa zuu zuv []),
 (zcf,zaa zuw zux []),
 (zku,zaa zrg zrh []),
 (znw,zaa zuy zuz []),
 (znx,zaa zu0 zu1 []),
 (zny,zaa zri zrj []),
 (znz,zaa zu2 zu3 []),
 (zn0,zaa zrk zrl []),
 (zn1,zaa zu5 zu6 []),
 (zkv,zaa zu7 zu8 [true]),
 (zbd,zaa zph zpi [true]),
 (zn2,zaa zva zvb [true]),
 (zd5,zaa zvc zvd [true,true,true]),
 (zkw,zaa zl3 zl4 [true]),
 (zn3,zaa zf5 zf6 [true]),
 (zn4,zaa zgq zgr [true]),
 (zjf,zaa zl5 zl6 [true]),
 (zn5,zaa zrm zrn []),
 (zkx,zaa zve zvf []),
 (zn6,zaa zvh zvi []),
 (zn7,zaa zvj zvk []),
 (zn8,zaa zro zrp []),
 (zh5,zaa zvl zvm []),
 (zjg,zaa zvn zvo []),
 (zn9,zaa zvq zvr []),
 (zky,zaa zjx zjy []),
 (zkz,zaa zvs zvt []),
 (zoa,zaa zvu zvv []),
 (zjh,zaa zvw zvx []),
 (zob,zaa zvy zvz []),
 (zji,zaa zrq zrr []),
 (zk0,zaa zv0 zv1 []),
 (zoc,zaa zv2 zv3 []),
 (zod,zaa zv4 zv5 []),
 (zoe,zaa zv6 zv7 []),
 (zof,zaa zv8 zv9 []),
 (zog,zaa zwa zwb []),
 (zk1,zaa zwc zwd []),
 (zk2,zaa zrs zrt []),
 (zk3,zaa zwe zwf []),
 (zoh,zaa zwg zwh []),
 (zoi,zaa zwi zwj []),
 (zoj,zaa zru zrv []),
 (zk4,zaa zwk zwl []),
 (zk5,zaa zwm zwn []),
 (zok,zaa zwp zwq []),
 (zol,zaa zrx zjz [true]),
 (zgn,zaa zry zrz [true]),
 (zjj,zaa zpj zpk [true]),
 (zjk,zaa zws zwt []),
 (zom,zaa zwu zwv []),
 (zk6,zaa zh9 zia []),
 (zjl,zaa zww zwx []),
 (zon,zaa zr0 zr1 []),
 (zoo,zaa zwy zwz []),
 (zjm,zaa zw0 zw1 []),
 (zop,zaa zr2 zr3 []),
 (zoq,zaa zr4 zr5 []),
 (zor,zaa zw2 zw3 []),
 (zk7,zaa zw4 zw5 []),
 (zos,zaa zw6 zw7 []),
 (zjn,zaa zw8 zw9 []),
 (zot,zaa zxa zxb []),
 (zk8,zaa zxc zxd []),
 (zou,zaa zr6 zr7 []),
 (zk9,zaa zxe zxf []),
 (zov,zaa zxg zxh []),
 (zow,zaa zib zic []),
 (zox,zaa zxi zxj []),
 (zoy,zaa zxk zxl []),
 (zoz,zaa zxn zxo []),
 (zla,zaa zid zie []),
 (zlb,zaa zxp zxq []),
 (zlc,zaa zpn zpo []),
 (zld,zaa zj0 zj1 []),
 (zo0,zaa zxr zxs []),
 (zjo,zaa zpp zpq []),
 (zo1,zaa zif zig []),
 (zle,zaa zxt zxu []),
 (zo2,zaa zxv zxw []),
 (zjp,zaa zxx zxy []),
 (zlf,zaa zgs zgt []),
 (zf4,zaa zpr zps []),
 (zjq,zaa zxz zx0 []),
 (zlg,zaa zx1 zx2 []),
 (zo3,zaa zx3 zx4 []),
 (zo4,zaa ze4 ze5 []),
 (zh6,zaa zx5 zx6 []),
 (zo5,zaa zx7 zx8 []),
 (zlh,zaa zgu zgv []),
 (zh7,zaa zsa zsb []),
 (zjr,zaa zj2 zj3 []),
 (zli,zaa zpt zpu []),
 (zlj,zaa zx9 zya []),
 (zlk,zaa zyc zyd []),
 (zo6,zaa zye zyf []),
 (zll,zaa zyg zyh []),
 (zgo,zaa zl9 zma []),
 (zjs,.ext zql),
 (zh8,.ext zqg),
 (zjt,zaa zyi zyj []),
 (zju,zaa zyk zyl []),
 (zlm,zaa zpv zpw []),
 (zgp,zaa zmb zmc []),
 (zo7,zaa zym zyn []),
 (zjv,zaa zyo zyp []),
 (zjw,zaa zyq zyr []),
 (zln,zaa zys zyt [])]
def T:zcg:=fun f=>(tbl.find? fun q=>q.1 == f).map fun q=>q.2
theorem zpx:T zqw=some (zaa zlo zlp []):=rfl
@[simp] theorem yvr:zad T zqw=[]:=zag zpx
theorem z3i:T znb=some (zaa zto ztp []):=rfl
@[simp] theorem yvs:zad T znb=[]:=zag z3i
theorem z3j:T znc=some (zaa zqx zqy []):=rfl
@[simp] theorem yvt:zad T znc=[]:=zag z3j
theorem z3k:T znd=some (zaa zo8 zo9 []):=rfl
@[simp] theorem yvu:zad T znd=[]:=zag z3k
theorem z3l:T zne=some (zaa zpa zpb []):=rfl
@[simp] theorem yvv:zad T zne=[]:=zag z3l
theorem z3m:T znf=some (zaa ztq ztr []):=rfl
@[simp] theorem yvw:zad T znf=[]:=zag z3m
theorem z3n:T zng=some (zaa zts ztt []):=rfl
@[simp] theorem yvx:zad T zng=[]:=zag z3n
theorem z3o:T zjd=some (zaa ztu ztv []):=rfl
@[simp] theorem yvy:zad T zjd=[]:=zag z3o
theorem z3p:T zkm=some (zaa ztw ztx []):=rfl
@[simp] theorem yvz:zad T zkm=[]:=zag z3p
theorem z3q:T znh=some (zaa zlr zls []):=rfl
@[simp] theorem yv0:zad T znh=[]:=zag z3q
theorem z3r:T zni=some (zaa zlu zlv []):=rfl
@[simp] theorem yv1:zad T zni=[]:=zag z3r
theorem z3s:T zkn=some (zaa zpc zpd []):=rfl
@[simp] theorem yv2:zad T zkn=[]:=zag z3s
theorem z3t:T zko=some (zaa zty ztz []):=rfl
@[simp] theorem yv3:zad T zko=[]:=zag z3t
theorem z3u:T znj=some (zaa zt1 zt2 []):=rfl
@[simp] theorem yv4:zad T znj=[]:=zag z3u
theorem z3v:T zc9=some (zaa zt3 zt4 [true]):=rfl
@[simp] theorem yv5:zad T zc9=[true]:=zag z3v
theorem z3w:T znk=some (zaa zpe zpf [true]):=rfl
@[simp] theorem yv6:zad T znk=[true]:=zag z3w
theorem z3x:T znl=some (zaa zt5 zt6 [true]):=rfl
@[simp] theorem yv7:zad T znl=[true]:=zag z3x
theorem z3y:T znm=some (zaa zq1 zq2 []):=rfl
@[simp] theorem yv8:zad T znm=[]:=zag z3y
theorem z3z:T znn=some (zaa zt9 zua []):=rfl
@[simp] theorem yv9:zad T znn=[]:=zag z3z
theorem z30:T zno=some (zaa zuc zud []):=rfl
@[simp] theorem ywa:zad T zno=[]:=zag z30
theorem z31:T znp=some (zaa zq3 zq4 []):=rfl
@[simp] theorem ywb:zad T znp=[]:=zag z31
theorem z32:T znq=some (zaa zuf zug []):=rfl
@[simp] theorem ywc:zad T znq=[]:=zag z32
theorem z33:T znr=some (zaa zui zuj []):=rfl
@[simp] theorem ywd:zad T znr=[]:=zag z33
theorem z34:T zbm=some (zaa zuk zul []):=rfl
@[simp] theorem ywe:zad T zbm=[]:=zag z34
theorem z35:T zns=some (zaa zum zun []):=rfl
@[simp] theorem ywf:zad T zns=[]:=zag z35
theorem z36:T zkp=some (zaa zuo zup []):=rfl
@[simp] theorem ywg:zad T zkp=[]:=zag z36
theorem z37:T znt=some (zaa zq6 zq7 []):=rfl
@[simp] theorem ywh:zad T znt=[]:=zag z37
theorem z38:T znu=some (zaa zq8 zq9 []):=rfl
@[simp] theorem ywi:zad T znu=[]:=zag z38
theorem z39:T znv=some (zaa zuq zur []):=rfl
@[simp] theorem ywj:zad T znv=[]:=zag z39
theorem z4a:T zkq=some (zaa zly zlz []):=rfl
@[simp] theorem ywk:zad T zkq=[]:=zag z4a
theorem z4b:T zkr=some (zaa zus zut []):=rfl
@[simp] theorem ywl:zad T zkr=[]:=zag z4b
theorem z4c:T zh4=some (zaa zra zrb []):=rfl
@[simp] theorem ywm:zad T zh4=[]:=zag z4c
theorem z4d:T zks=some (zaa zl1 zl2 []):=rfl
@[simp] theorem ywn:zad T zks=[]:=zag z4d
theorem z4e:T zje=some (zaa zrc zrd []):=rfl
@[simp] theorem ywo:zad T zje=[]:=zag z4e
theorem zz9:T zhk=some (zaa zre zrf []):=rfl
@[simp] theorem ywp:zad T zhk=[]:=zag zz9
theorem z4f:T zkt=some (zaa zuu zuv []):=rfl
@[simp] theorem ywq:zad T zkt=[]:=zag z4f
theorem z4g:T zcf=some (zaa zuw zux []):=rfl
@[simp] theorem ywr:zad T zcf=[]:=zag z4g
theorem z4h:T zku=some (zaa zrg zrh []):=rfl
@[simp] theorem yws:zad T zku=[]:=zag z4h
theorem z4i:T znw=some (zaa zuy zuz []):=rfl
@[simp] theorem ywt:zad T znw=[]:=zag z4i
theorem z4j:T znx=some (zaa zu0 zu1 []):=rfl
@[simp] theorem ywu:zad T znx=[]:=zag z4j
theorem z4k:T zny=some (zaa zri zrj []):=rfl
@[simp] theorem ywv:zad T zny=[]:=zag z4k
theorem z4l:T znz=some (zaa zu2 zu3 []):=rfl
@[simp] theorem yww:zad T znz=[]:=zag z4l
theorem z4m:T zn0=some (zaa zrk zrl []):=rfl
@[simp] theorem ywx:zad T zn0=[]:=zag z4m
theorem z4n:T zn1=some (zaa zu5 zu6 []):=rfl
@[simp] theorem ywy:zad T zn1=[]:=zag z4n
theorem z4o:T zkv=some (zaa zu7 zu8 [true]):=rfl
@[simp] theorem ywz:zad T zkv=[true]:=zag z4o
theorem z4p:T zbd=some (zaa zph zpi [true]):=rfl
@[simp] theorem yw0:zad T zbd=[true]:=zag z4p
theorem z4q:T zn2=some (zaa zva zvb [true]):=rfl
@[simp] theorem yw1:zad T zn2=[true]:=zag z4q
theorem z4r:T zd5=some (zaa zvc zvd [true,true,true]):=rfl
@[simp] theorem yw2:zad T zd5=[true,true,true]:=zag z4r
theorem z4s:T zkw=some (zaa zl3 zl4 [true]):=rfl
@[simp] theorem yw3:zad T zkw=[true]:=zag z4s
theorem z4t:T zn3=some (zaa zf5 zf6 [true]):=rfl
@[simp] theorem yw4:zad T zn3=[true]:=zag z4t
theorem z4u:T zn4=some (zaa zgq zgr [true]):=rfl
@[simp] theorem yw5:zad T zn4=[true]:=zag z4u
theorem z4v:T zjf=some (zaa zl5 zl6 [true]):=rfl
@[simp] theorem yw6:zad T zjf=[true]:=zag z4v
theorem z4w:T zn5=some (zaa zrm zrn []):=rfl
@[simp] theorem yw7:zad T zn5=[]:=zag z4w
theorem z4x:T zkx=some (zaa zve zvf []):=rfl
@[simp] theorem yw8:zad T zkx=[]:=zag z4x
theorem z4y:T zn6=some (zaa zvh zvi []):=rfl
@[simp] theorem yw9:zad T zn6=[]:=zag z4y
theorem z4z:T zn7=some (zaa zvj zvk []):=rfl
@[simp] theorem yxa:zad T zn7=[]:=zag z4z
theorem z40:T zn8=some (zaa zro zrp []):=rfl
@[simp] theorem yxb:zad T zn8=[]:=zag z40
theorem z41:T zh5=some (zaa zvl zvm []):=rfl
@[simp] theorem yxc:zad T zh5=[]:=zag z41
theorem z42:T zjg=some (zaa zvn zvo []):=rfl
@[simp] theorem yxd:zad T zjg=[]:=zag z42
theorem z43:T zn9=some (zaa zvq zvr []):=rfl
@[simp] theorem yxe:zad T zn9=[]:=zag z43
theorem z44:T zky=some (zaa zjx zjy []):=rfl
@[simp] theorem yxf:zad T zky=[]:=zag z44
theorem z45:T zkz=some (zaa zvs zvt []):=rfl
@[simp] theorem yxg:zad T zkz=[]:=zag z45
theorem z46:T zoa=some (zaa zvu zvv []):=rfl
@[simp] theorem yxh:zad T zoa=[]:=zag z46
theorem z47:T zjh=some (zaa zvw zvx []):=rfl
@[simp] theorem yxi:zad T zjh=[]:=zag z47
theorem z48:T zob=some (zaa zvy zvz []):=rfl
@[simp] theorem yxj:zad T zob=[]:=zag z48
theorem z49:T zji=some (zaa zrq zrr []):=rfl
@[simp] theorem yxk:zad T zji=[]:=zag z49
theorem z5a:T zk0=some (zaa zv0 zv1 []):=rfl
@[simp] theorem yxl:zad T zk0=[]:=zag z5a
theorem z5b:T zoc=some (zaa zv2 zv3 []):=rfl
@[simp] theorem yxm:zad T zoc=[]:=zag z5b
theorem z5c:T zod=some (zaa zv4 zv5 []):=rfl
@[simp] theorem yxn:zad T zod=[]:=zag z5c
theorem z5d:T zoe=some (zaa zv6 zv7 []):=rfl
@[simp] theorem yxo:zad T zoe=[]:=zag z5d
theorem z5e:T zof=some (zaa zv8 zv9 []):=rfl
@[simp] theorem yxp:zad T zof=[]:=zag z5e
theorem z5f:T zog=some (zaa zwa zwb []):=rfl
@[simp] theorem yxq:zad T zog=[]:=zag z5f
theorem z5g:T zk1=some (zaa zwc zwd []):=rfl
@[simp] theorem yxr:zad T zk1=[]:=zag z5g
theorem z0a:T zk2=some (zaa zrs zrt []):=rfl
@[simp] theorem yxs:zad T zk2=[]:=zag z0a
theorem z5h:T zk3=some (zaa zwe zwf []):=rfl
@[simp] theorem yxt:zad T zk3=[]:=zag z5h
theorem z5i:T zoh=some (zaa zwg zwh []):=rfl
@[simp] theorem yxu:zad T zoh=[]:=zag z5i
theorem z5j:T zoi=some (zaa zwi zwj []):=rfl
@[simp] theorem yxv:zad T zoi=[]:=zag z5j
theorem z5k:T zoj=some (zaa zru zrv []):=rfl
@[simp] theorem yxw:zad T zoj=[]:=zag z5k
theorem z5l:T zk4=some (zaa zwk zwl []):=rfl
@[simp] theorem yxx:zad T zk4=[]:=zag z5l
theorem z5m:T zk5=some (zaa zwm zwn []):=rfl
@[simp] theorem yxy:zad T zk5=[]:=zag z5m
theorem z5n:T zok=some (zaa zwp zwq []):=rfl
@[simp] theorem yxz:zad T zok=[]:=zag z5n
theorem z5o:T zol=some (zaa zrx zjz [true]):=rfl
@[simp] theorem yx0:zad T zol=[true]:=zag z5o
theorem z5p:T zgn=some (zaa zry zrz [true]):=rfl
@[simp] theorem yx1:zad T zgn=[true]:=zag z5p
theorem z5q:T zjj=some (zaa zpj zpk [true]):=rfl
@[simp] theorem yx2:zad T zjj=[true]:=zag z5q
theorem z5r:T zjk=some (zaa zws zwt []):=rfl
@[simp] theorem yx3:zad T zjk=[]:=zag z5r
theorem z5s:T zom=some (zaa zwu zwv []):=rfl
@[simp] theorem yx4:zad T zom=[]:=zag z5s
theorem z5t:T zk6=some (zaa zh9 zia []):=rfl
@[simp] theorem yx5:zad T zk6=[]:=zag z5t
theorem z5u:T zjl=some (zaa zww zwx []):=rfl
@[simp] theorem yx6:zad T zjl=[]:=zag z5u
theorem z5v:T zon=some (zaa zr0 zr1 []):=rfl
@[simp] theorem yx7:zad T zon=[]:=zag z5v
theorem z5w:T zoo=some (zaa zwy zwz []):=rfl
@[simp] theorem yx8:zad T zoo=[]:=zag z5w
theorem z5x:T zjm=some (zaa zw0 zw1 []):=rfl
@[simp] theorem yx9:zad T zjm=[]:=zag z5x
theorem z5y:T zop=some (zaa zr2 zr3 []):=rfl
@[simp] theorem yya:zad T zop=[]:=zag z5y
theorem z5z:T zoq=some (zaa zr4 zr5 []):=rfl
@[simp] theorem yyb:zad T zoq=[]:=zag z5z
theorem z50:T zor=some (zaa zw2 zw3 []):=rfl
@[simp] theorem yyc:zad T zor=[]:=zag z50
theorem z51:T zk7=some (zaa zw4 zw5 []):=rfl
@[simp] theorem yyd:zad T zk7=[]:=zag z51
theorem z52:T zos=some (zaa zw6 zw7 []):=rfl
@[simp] theorem yye:zad T zos=[]:=zag z52
theorem z53:T zjn=some (zaa zw8 zw9 []):=rfl
@[simp] theorem yyf:zad T zjn=[]:=zag z53
theorem z54:T zot=some (zaa zxa zxb []):=rfl
@[simp] theorem yyg:zad T zot=[]:=zag z54
theorem z55:T zk8=some (zaa zxc zxd []):=rfl
@[simp] theorem yyh:zad T zk8=[]:=zag z55
theorem z56:T zou=some (zaa zr6 zr7 []):=rfl
@[simp] theorem yyi:zad T zou=[]:=zag z56
theorem z57:T zk9=some (zaa zxe zxf []):=rfl
@[simp] theorem yyj:zad T zk9=[]:=zag z57
theorem z58:T zov=some (zaa zxg zxh []):=rfl
@[simp] theorem yyk:zad T zov=[]:=zag z58
theorem z59:T zow=some (zaa zib zic []):=rfl
@[simp] theorem yyl:zad T zow=[]:=zag z59
theorem z6a:T zox=some (zaa zxi zxj []):=rfl
@[simp] theorem yym:zad T zox=[]:=zag z6a
theorem z6b:T zoy=some (zaa zxk zxl []):=rfl
@[simp] theorem yyn:zad T zoy=[]:=zag z6b
theorem z6c:T zoz=some (zaa zxn zxo []):=rfl
@[simp] theorem yyo:zad T zoz=[]:=zag z6c
theorem z6d:T zla=some (zaa zid zie []):=rfl
@[simp] theorem yyp:zad T zla=[]:=zag z6d
theorem z6e:T zlb=some (zaa zxp zxq []):=rfl
@[simp] theorem yyq:zad T zlb=[]:=zag z6e
theorem z6f:T zlc=some (zaa zpn zpo []):=rfl
@[simp] theorem yyr:zad T zlc=[]:=zag z6f
theorem z6g:T zld=some (zaa zj0 zj1 []):=rfl
@[simp] theorem yys:zad T zld=[]:=zag z6g
theorem z6h:T zo0=some (zaa zxr zxs []):=rfl
@[simp] theorem yyt:zad T zo0=[]:=zag z6h
theorem z6i:T zjo=some (zaa zpp zpq []):=rfl
@[simp] theorem yyu:zad T zjo=[]:=zag z6i
theorem z6j:T zo1=some (zaa zif zig []):=rfl
@[simp] theorem yyv:zad T zo1=[]:=zag z6j
theorem z6k:T zle=some (zaa zxt zxu []):=rfl
@[simp] theorem yyw:zad T zle=[]:=zag z6k
theorem z6l:T zo2=some (zaa zxv zxw []):=rfl
@[simp] theorem yyx:zad T zo2=[]:=zag z6l
theorem z6m:T zjp=some (zaa zxx zxy []):=rfl
@[simp] theorem yyy:zad T zjp=[]:=zag z6m
theorem z6n:T zlf=some (zaa zgs zgt []):=rfl
@[simp] theorem yyz:zad T zlf=[]:=zag z6n
theorem z6o:T zf4=some (zaa zpr zps []):=rfl
@[simp] theorem yy0:zad T zf4=[]:=zag z6o
theorem z6p:T zjq=some (zaa zxz zx0 []):=rfl
@[simp] theorem yy1:zad T zjq=[]:=zag z6p
theorem z6q:T zlg=some (zaa zx1 zx2 []):=rfl
@[simp] theorem yy2:zad T zlg=[]:=zag z6q
theorem z6r:T zo3=some (zaa zx3 zx4 []):=rfl
@[simp] theorem yy3:zad T zo3=[]:=zag z6r
theorem z6s:T zo4=some (zaa ze4 ze5 []):=rfl
@[simp] theorem yy4:zad T zo4=[]:=zag z6s
theorem z6t:T zh6=some (zaa zx5 zx6 []):=rfl
@[simp] theorem yy5:zad T zh6=[]:=zag z6t
theorem z6u:T zo5=some (zaa zx7 zx8 []):=rfl
@[simp] theorem yy6:zad T zo5=[]:=zag z6u
theorem z6v:T zlh=some (zaa zgu zgv []):=rfl
@[simp] theorem yy7:zad T zlh=[]:=zag z6v
theorem z6w:T zh7=some (zaa zsa zsb []):=rfl
@[simp] theorem yy8:zad T zh7=[]:=zag z6w
theorem z6x:T zjr=some (zaa zj2 zj3 []):=rfl
@[simp] theorem yy9:zad T zjr=[]:=zag z6x
theorem z6y:T zli=some (zaa zpt zpu []):=rfl
@[simp] theorem yza:zad T zli=[]:=zag z6y
theorem z6z:T zlj=some (zaa zx9 zya []):=rfl
@[simp] theorem yzb:zad T zlj=[]:=zag z6z
theorem z60:T zlk=some (zaa zyc zyd []):=rfl
@[simp] theorem yzc:zad T zlk=[]:=zag z60
theorem z61:T zo6=some (zaa zye zyf []):=rfl
@[simp] theorem yzd:zad T zo6=[]:=zag z61
theorem z62:T zll=some (zaa zyg zyh []):=rfl
@[simp] theorem yze:zad T zll=[]:=zag z62
theorem z63:T zgo=some (zaa zl9 zma []):=rfl
@[simp] theorem yzf:zad T zgo=[]:=zag z63
theorem z64:T zjs=some (.ext zql):=rfl
@[simp] theorem yzg:zad T zjs=[]:=rfl
theorem z0b:T zh8=some (.ext zqg):=rfl
@[simp] theorem yzh:zad T zh8=[]:=rfl
theorem z65:T zjt=some (zaa zyi zyj []):=rfl
@[simp] theorem yzi:zad T zjt=[]:=zag z65
theorem z66:T zju=some (zaa zyk zyl []):=rfl
@[simp] theorem yzj:zad T zju=[]:=zag z66
theorem z67:T zlm=some (zaa zpv zpw []):=rfl
@[simp] theorem yzk:zad T zlm=[]:=zag z67
theorem z68:T zgp=some (zaa zmb zmc []):=rfl
@[simp] theorem yzl:zad T zgp=[]:=zag z68
theorem z69:T zo7=some (zaa zym zyn []):=rfl
@[simp] theorem yzm:zad T zo7=[]:=zag z69
theorem z7a:T zjv=some (zaa zyo zyp []):=rfl
@[simp] theorem yzn:zad T zjv=[]:=zag z7a
theorem z7b:T zjw=some (zaa zyq zyr []):=rfl
@[simp] theorem yzo:zad T zjw=[]:=zag z7b
theorem z7c:T zln=some (zaa zys zyt []):=rfl
@[simp] theorem yzp:zad T zln=[]:=zag z7c
end Go.Pe
