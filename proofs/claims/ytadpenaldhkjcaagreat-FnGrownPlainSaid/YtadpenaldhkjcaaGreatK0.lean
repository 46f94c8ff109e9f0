/- The compact texts of the functions that the law reaches; no condition. -/
import Derived.Test.YtadpenaldhkjcaaGreatEvA0
set_option linter.all false
namespace Go.Pe
open Go
abbrev gE (n g:Nat) (b:Bool) (o:IOp):zab:=⟨some (.E n),o,some (.E g,b)⟩
abbrev gV (n g:Nat) (b:Bool) (o:IOp):zab:=⟨some (.V n),o,some (.E g,b)⟩
abbrev fV (n i k:Nat):zab:=⟨some (.E n),.faddr i (.V k),none⟩
abbrev fE (n i k:Nat):zab:=⟨some (.E n),.faddr i (.E k),none⟩
abbrev lE (n k:Nat):zab:=⟨some (.E n),.load false 1 (.E k),none⟩
abbrev tV (n i k:Nat):zab:=⟨some (.E n),.load true i (.V k),none⟩
abbrev tE (n i k:Nat):zab:=⟨some (.E n),.load true i (.E k),none⟩
abbrev iE (n i a b:Nat):zab:=⟨some (.E n),.iaddr i (.E a) (.E b),none⟩
abbrev nE (n k:Nat):zab:=⟨some (.E n),.len (.E k),none⟩
abbrev bE (n:Nat) (o:BinOp) (a b:Nat):zab:=⟨some (.E n),.bin o (.E a) (.E b),none⟩
abbrev wE (n k:Nat):zab:=⟨some (.E n),.mv (.E k),none⟩
def bs (l:List UInt8):ByteArray:=⟨l.toArray⟩
def zpk:Nat:=4
def zmf:Nat:=8
def zmg:Nat:=10
def zj2:Nat:=14
def zmh:Nat:=15
def zmi:Nat:=16
def zmj:Nat:=17
def zi4:Nat:=18
def zi5:Nat:=19
def zmk:Nat:=20
def zml:Nat:=21
def zmm:Nat:=22
def zj3:Nat:=23
def zmn:Nat:=24
def zmo:Nat:=46
def zdo:Nat:=47
def zmp:Nat:=50
def zmq:Nat:=51
def zmr:Nat:=52
def zb6:Nat:=56
def zj4:Nat:=57
def zj5:Nat:=58
def zms:Nat:=59
def zj6:Nat:=60
def zmt:Nat:=61
def zmu:Nat:=62
def zmv:Nat:=63
def zh2:Nat:=64
def zj7:Nat:=65
def zh3:Nat:=66
def zhi:Nat:=67
def zj8:Nat:=68
def zbw:Nat:=69
def zmw:Nat:=70
def zmx:Nat:=71
def zi6:Nat:=72
def zmy:Nat:=73
def zmz:Nat:=74
def zm0:Nat:=75
def zm1:Nat:=76
def zm2:Nat:=77
def zm3:Nat:=78
def zm4:Nat:=95
def zj9:Nat:=96
def zbc:Nat:=97
def zm5:Nat:=98
def zd3:Nat:=99
def zka:Nat:=100
def zm6:Nat:=101
def zm7:Nat:=102
def zm8:Nat:=103
def zm9:Nat:=104
def zkb:Nat:=105
def zna:Nat:=106
def znb:Nat:=107
def zkc:Nat:=113
def znc:Nat:=114
def zi7:Nat:=115
def znd:Nat:=116
def zi8:Nat:=117
def zkd:Nat:=118
def zne:Nat:=119
def znf:Nat:=120
def zng:Nat:=121
def znh:Nat:=122
def zni:Nat:=123
def zke:Nat:=124
def zkf:Nat:=125
def zkg:Nat:=126
def zkh:Nat:=127
def znj:Nat:=128
def zki:Nat:=129
def znk:Nat:=130
def zkj:Nat:=131
def znl:Nat:=136
def znm:Nat:=137
def zgl:Nat:=138
def zi9:Nat:=139
def zja:Nat:=140
def znn:Nat:=141
def zkk:Nat:=142
def zno:Nat:=148
def znp:Nat:=149
def zkl:Nat:=150
def znq:Nat:=151
def zjb:Nat:=152
def znr:Nat:=153
def zkm:Nat:=154
def zns:Nat:=159
def znt:Nat:=160
def znu:Nat:=161
def znv:Nat:=162
def zkn:Nat:=163
def zko:Nat:=164
def zkp:Nat:=165
def znw:Nat:=169
def zkq:Nat:=170
def znx:Nat:=171
def zjc:Nat:=172
def zkr:Nat:=173
def zfw:Nat:=174
def zjd:Nat:=175
def zks:Nat:=176
def zny:Nat:=177
def zkt:Nat:=184
def zku:Nat:=185
def zkv:Nat:=186
def znz:Nat:=187
def zkw:Nat:=188
def zgm:Nat:=189
def zje:Nat:=190
def zh4:Nat:=191
def zjf:Nat:=192
def zjg:Nat:=193
def zkx:Nat:=194
def zky:Nat:=199
def ya7:List Nat:=[0,3,4,5,7,9,11,6,8,10,12,2]
def zn0:IC := .seq (.reg [oV 2 (.mv (kb false))]) (.seq (.seq (.reg [mV 14 0,oE 15 (.call zmf [([1],(.E 14))])]) (.cond (.E 15) (.seq (.reg [oV 2 (.mv (kb true))]) .ret) .skip)) (.seq (.reg [mV 17 0,oE 18 (.call zmi [([1],(.E 17))]),wE 16 18,xE 19 0 16,xE 20 1 16,xE 21 2 16,oV 3 (.alloc [.e0,.e0]),oV 5 (.alloc [iv 0,iv 0,iv 0,iv 0,iv 0,iv 0,iv 0,.e0]),oN (.store [1,1] (.V 3) (.E 19)),vE 4 20,oN (.store [0,0,0,0,0,0,0,1] (.V 5) (.E 21))]) (.seq (.seq (.reg [tV 22 2 3,mV 23 4,tV 24 8 5,oE 25 (.call zmj [([1,1],(.E 22)),([1],(.E 23)),([0,0,0,0,0,0,0,1],(.E 24))]),oE 26 (.un .not (.E 25))]) (.cond (.E 26) (.seq (.reg [tV 27 2 3,mV 28 4,tV 29 8 5,oE 30 (.call zi4 [([1,1],(.E 27)),([1],(.E 28)),([0,0,0,0,0,0,0,1],(.E 29))]),oE 31 (.un .not (.E 30)),vE 2 31]) .ret) .skip)) (.seq (.reg [fV 32 7 5,oN (.store [1] (.E 32) (.C .e0))]) (.seq (.reg [tV 34 2 3,mV 35 4,tV 36 8 5,oE 37 (.call zi5 [([1,1],(.E 34)),([1],(.E 35)),([0,0,0,0,0,0,0,1],(.E 36))]),wE 33 37,xE 38 0 33,xE 39 1 33,oV 6 (.alloc [.e0]),oN (.store [5] (.V 6) (.E 38)),vE 7 39]) (.seq (.reg [oE 40 (.bslice 4 1 [iv 0] [(0,(ki 0)),(1,(ki 0)),(2,(ki 0)),(3,(ki 0))]),fV 41 7 5,oN (.store [1] (.E 41) (.E 40))]) (.seq (.reg [tV 43 2 3,mV 44 4,tV 45 8 5,oE 46 (.call zi5 [([1,1],(.E 43)),([1],(.E 44)),([0,0,0,0,0,0,0,1],(.E 45))]),wE 42 46,xE 47 0 42,xE 48 1 42,oV 8 (.alloc [.e0]),oN (.store [5] (.V 8) (.E 47)),vE 9 48]) (.seq (.reg [fV 49 1 5,oN (.store [0] (.E 49) (ki 0))]) (.seq (.reg [tV 51 2 3,mV 52 4,tV 53 8 5,oE 54 (.call zi5 [([1,1],(.E 51)),([1],(.E 52)),([0,0,0,0,0,0,0,1],(.E 53))]),wE 50 54,xE 55 0 50,xE 56 1 50,oV 10 (.alloc [.e0]),oN (.store [5] (.V 10) (.E 55)),vE 11 56]) (.seq (.regD [(mV 58 4,0,0),(mV 59 4,0,0),(nE 60 59,0,0),(oE 61 (.call zml [([0],(.E 60))]),0,0),(oE 62 (.call zmh [([1],(.E 58)),([1],(.E 61))]),0,0),(fV 63 3 5,2,1),(lE 64 63,2,1),(oE 65 (.call zmm []),0,0),(oE 66 (.call zmk [([0,0],(.E 62)),([0],(.E 64)),([0,0],(.E 65))]),0,0),(wE 57 66,0,0),(xE 67 0 57,0,0),(xE 68 1 57,0,0),(vE 12 67,0,0),(wE 13 68,0,0)]) (.seq (.regD [(mV 69 7,0,0),(wE 70 69,0,0),(gE 71 70 .true (.mv (.V 9)),0,0),(oE 72 (.pick (.E 70) (.E 71) (kb false)),0,0),(wE 73 72,0,0),(gE 74 73 .true (.mv (.V 11)),0,0),(oE 75 (.pick (.E 73) (.E 74) (kb false)),0,0),(wE 76 75,0,0),(gE 77 76 .true (.load true 1 (.V 6)),0,0),(gE 78 76 .true (.load true 1 (.V 8)),0,0),(gE 79 76 .true (.call zj3 [([5],(.E 77)),([5],(.E 78))]),0,0),(oE 80 (.pick (.E 76) (.E 79) (kb false)),0,0),(wE 81 80,0,0),(gE 82 81 .true (.load true 1 (.V 10)),0,1),(gE 83 81 .true (.mv (.V 12)),0,0),(gE 84 81 .true (.call zmn [([0],(.E 83))]),0,0),(gE 85 81 .true (.call zj3 [([5],(.E 82)),([5],(.E 84))]),0,0),(oE 86 (.pick (.E 81) (.E 85) (kb false)),0,0),(vE 2 86,0,0)]) .ret)))))))))))
def zn1:List RV:=[.tmp [0] 2]
def ya8:List Nat:=[0,2]
def zrz:IC := .seq (.reg [oV 2 (.mv (kb false))]) (.seq (.reg [mV 3 0,nE 4 3,oE 5 (.bin .gtr (.E 4) (ki 1048576)),vE 2 5]) .ret)
def zr0:List RV:=[.tmp [0] 2]
def ya9:List Nat:=[0,1,2,3,4,5,7,10,13,9,12,11]
def zn2:IC := .seq (.reg [oV 5 (.box (.V 0)),oV 7 (.box (.V 2)),oV 9 (.box (.V 4)),oV 10 (.alloc [iv 0,iv 0,iv 0,iv 0,iv 0,iv 0]),oV 11 (.mv (kb false))]) (.seq (.seq (.reg [tV 14 2 5,mV 15 1,tV 16 8 7,oE 17 (.call zi4 [([1,1],(.E 14)),([1],(.E 15)),([0,0,0,0,0,0,0,1],(.E 16))]),oE 18 (.un .not (.E 17))]) (.cond (.E 18) (.seq (.reg [oE 19 (.build [iv 0,iv 0,iv 0,iv 0,iv 0,iv 0] []),oN (.store [0,0,0,0,0,0] (.V 10) (.E 19)),oV 11 (.mv (kb false))]) .ret) .skip)) (.seq (.reg [tV 21 2 5,mV 22 1,mV 23 3,oE 24 (.call zmp [([1,1],(.E 21)),([1],(.E 22)),([1],(.E 23))]),wE 20 24,xE 25 0 20,xE 26 1 20,vE 12 25,vE 13 26]) (.seq (.seq (.reg [mV 27 13,oE 28 (.un .not (.E 27))]) (.cond (.E 28) (.seq (.reg [oE 29 (.build [iv 0,iv 0,iv 0,iv 0,iv 0,iv 0] []),oN (.store [0,0,0,0,0,0] (.V 10) (.E 29)),oV 11 (.mv (kb false))]) .ret) .skip)) (.seq (.regD [(tV 30 8 7,0,1),(tV 31 2 9,0,1),(mV 32 12,0,0),(fV 33 4 7,0,0),(lE 34 33,0,0),(oE 35 (.call zmr [([1],(.E 32)),([0],(.E 34))]),0,0),(oE 36 (.call zmq [([0,0,0,0,0,0,0,1],(.E 30)),([0,0],(.E 31)),([6],(.E 35))]),0,0),(xE 37 0 36,0,0),(xE 38 1 36,0,0),(oN (.store [0,0,0,0,0,0] (.V 10) (.E 37)),0,0),(vE 11 38,0,0)]) .ret))))
def zn3:List RV:=[.cell [0,0,0,0,0,0] 10 true,.tmp [0] 11]
def yba:List Nat:=[0,1,2,3,4,5,9,7,8,6]
def zr1:IC := .seq (.reg [oV 3 (.box (.V 0)),oV 4 (.box (.V 1)),oV 5 (.box (.V 2)),oV 6 (.mv (kb false))]) (.seq (.reg [tV 11 8 3,tV 12 2 4,tV 13 6 5,oE 14 (.call zj4 [([0,0,0,0,0,0,0,1],(.E 11)),([0,0],(.E 12)),([0,0,0,0,0,0],(.E 13))]),wE 10 14,xE 15 0 10,xE 16 1 10,xE 17 2 10,vE 7 15,vE 8 16,vE 9 17]) (.seq (.reg [tV 18 8 3,oE 19 (.call zj5 [([0,0,0,0,0,0,0,1],(.E 18))]),wE 20 19,gE 21 20 .true (.mv (.V 9)),oE 22 (.pick (.E 20) (.E 21) (kb false)),wE 23 22,gE 24 23 .true (.faddr 2 (.V 5)),gE 25 23 .true (.faddr 0 (.E 24)),gE 26 23 .true (.load false 1 (.E 25)),gE 27 23 .true (.faddr 4 (.V 3)),gE 28 23 .true (.load false 1 (.E 27)),gE 29 23 .true (.bin .geq (.E 26) (.E 28)),oE 30 (.pick (.E 23) (.E 29) (kb false)),wE 31 30,gE 32 31 .true (.faddr 4 (.V 5)),gE 33 31 .true (.faddr 0 (.E 32)),gE 34 31 .true (.load false 1 (.E 33)),gE 35 31 .true (.faddr 4 (.V 3)),gE 36 31 .true (.load false 1 (.E 35)),gE 37 31 .true (.bin .geq (.E 34) (.E 36)),oE 38 (.pick (.E 31) (.E 37) (kb false)),wE 39 38,gE 40 39 .true (.load true 8 (.V 3)),gE 41 39 .true (.faddr 0 (.V 5)),gE 42 39 .true (.load false 1 (.E 41)),gE 43 39 .true (.call zj6 [([0,0,0,0,0,0,0,1],(.E 40)),([0],(.E 42))]),gE 44 39 .true (.mv (.V 7)),gE 45 39 .true (.mv (.V 8)),gE 46 39 .true (.call zms [([0],(.E 43)),([0],(.E 44)),([0],(.E 45))]),oE 47 (.pick (.E 39) (.E 46) (kb false)),wE 48 47,gE 49 48 .true (.load true 6 (.V 5)),gE 50 48 .true (.faddr 3 (.V 3)),gE 51 48 .true (.load false 1 (.E 50)),gE 52 48 .true (.call zmt [([0,0,0,0,0,0],(.E 49)),([0],(.E 51))]),oE 53 (.pick (.E 48) (.E 52) (kb false)),vE 6 53]) .ret))
def zr2:List RV:=[.tmp [0] 6]
def ybb:List Nat:=[0,1,6,5,4]
def zxj:IC := .seq (.seq (.reg [mV 8 6,mV 9 1,nE 10 9,bE 11 .lss 8 10]) (.cond (.E 11) .skip (.exit 0))) (.seq (.block 1 (.seq (.reg [fV 14 0 5,lE 15 14,oE 16 (.bin .add (.E 15) (ki 1)),fV 17 0 5,oN (.store [0] (.E 17) (.E 16))]) (.regD [(fV 18 1 5,0,0),(lE 19 18,0,0),(mV 20 0,0,0),(mV 21 1,0,0),(mV 22 6,0,0),(iE 23 1 21 22,0,0),(lE 24 23,0,0),(iE 25 1 20 24,0,0),(lE 26 25,0,0),(bE 27 .add 19 26,0,0),(fV 28 1 5,0,0),(oN (.store [0] (.E 28) (.E 27)),0,0)]))) (.reg [mV 12 6,oE 13 (.bin .add (.E 12) (ki 1)),vE 6 13]))
def zr3:IC := .seq (.reg [oV 4 (.alloc [iv 0,iv 0])]) (.seq (.reg [oE 7 (.build [iv 0,iv 0] []),oV 5 (.alloc [iv 0,iv 0]),oN (.store [0,0] (.V 5) (.E 7))]) (.seq (.seq (.reg [oV 6 (.mv (ki 0))]) (.block 0 (.loop zxj))) (.seq (.reg [tV 29 2 5,oN (.store [0,0] (.V 4) (.E 29))]) .ret)))
def zr4:List RV:=[.cell [0,0] 4 true]
def ybc:List Nat:=[0,6,7,8,2,4,3]
def zr5:IC := .seq (.reg [oV 2 (.alloc [.e0,.e0]),oV 3 (.mv (.C .e0)),oV 4 (.alloc [iv 0,iv 0,iv 0,iv 0,iv 0,iv 0,iv 0,.e0])]) (.seq (.reg [mV 10 0,oE 11 (.call zmo [([1],(.E 10))]),wE 9 11,xE 12 0 9,xE 13 1 9,xE 14 2 9,xE 15 3 9,oV 6 (.alloc [.e0,.e0]),oV 8 (.alloc [iv 0,iv 0,iv 0,iv 0,iv 0,iv 0,iv 0,.e0]),wE 5 12,oN (.store [1,1] (.V 6) (.E 13)),vE 7 14,oN (.store [0,0,0,0,0,0,0,1] (.V 8) (.E 15))]) (.seq (.regD [(tV 16 2 6,0,0),(mV 17 7,0,0),(tV 18 8 8,0,1),(oN (.store [1,1] (.V 2) (.E 16)),0,0),(vE 3 17,0,0),(oN (.store [0,0,0,0,0,0,0,1] (.V 4) (.E 18)),0,0)]) .ret))
def zr6:List RV:=[.cell [1,1] 2 true,.tmp [1] 3,.cell [0,0,0,0,0,0,0,1] 4 true]
def ybd:List Nat:=[0,1,2,3,5,7,6]
def z0p:IC := .seq (.seq (.reg [mV 23 7,mV 24 1,nE 25 24,bE 26 .lss 23 25]) (.cond (.E 26) .skip (.exit 0))) (.seq (.block 1 (.seq (.reg [mV 29 1,mV 30 7,iE 31 1 29 30,lE 32 31,oE 33 (.call zb6 [([0],(.E 32)),([0],(ki (-2199023255552))),([0],(ki 2199023255552))]),oE 34 (.un .not (.E 33))]) (.cond (.E 34) (.seq (.reg [oV 6 (.mv (kb false))]) .ret) .skip))) (.reg [mV 27 7,oE 28 (.bin .add (.E 27) (ki 1)),vE 7 28]))
def zkz:IC := .seq (.reg [oV 3 (.box (.V 0)),oV 5 (.box (.V 2)),oV 6 (.mv (kb false))]) (.seq (.seq (.reg [tV 8 2 3,oE 9 (.call zmu [([1,1],(.E 8))]),oE 10 (.un .not (.E 9)),wE 11 10,gE 12 11 .false (.load true 8 (.V 5)),gE 13 11 .false (.call zmv [([0,0,0,0,0,0,0,1],(.E 12))]),gE 14 11 .false (.un .not (.E 13)),oE 15 (.pick (.E 11) (kb true) (.E 14)),wE 16 15,gE 17 16 .false (.mv (.V 1)),gE 18 16 .false (.len (.E 17)),gE 19 16 .false (.load true 2 (.V 3)),gE 20 16 .false (.call zh2 [([1,1],(.E 19))]),gE 21 16 .false (.bin .neq (.E 18) (.E 20)),oE 22 (.pick (.E 16) (kb true) (.E 21))]) (.cond (.E 22) (.seq (.reg [oV 6 (.mv (kb false))]) .ret) .skip)) (.seq (.seq (.reg [oV 7 (.mv (ki 0))]) (.block 0 (.loop z0p))) (.seq (.reg [oV 6 (.mv (kb true))]) .ret)))
def zk0:List RV:=[.tmp [0] 6]
def ybe:List Nat:=[0,1,2,3,5,6]
def zk1:IC := .seq (.reg [oV 3 (.box (.V 0)),oV 5 (.box (.V 2)),oV 6 (.mv (kb false))]) (.seq (.reg [tV 7 2 3,oE 8 (.call zj7 [([1,1],(.E 7))]),wE 9 8,gE 10 9 .true (.load true 8 (.V 5)),gE 11 9 .true (.call zj5 [([0,0,0,0,0,0,0,1],(.E 10))]),oE 12 (.pick (.E 9) (.E 11) (kb false)),wE 13 12,gE 14 13 .true (.mv (.V 1)),gE 15 13 .true (.len (.E 14)),gE 16 13 .true (.load true 2 (.V 3)),gE 17 13 .true (.call zh3 [([1,1],(.E 16))]),gE 18 13 .true (.bin .eql (.E 15) (.E 17)),oE 19 (.pick (.E 13) (.E 18) (kb false)),wE 20 19,gE 21 20 .true (.mv (.V 1)),gE 22 20 .true (.call zhi [([1],(.E 21)),([0],(.C (.fn zj8 [])))]),gE 23 20 .true (.un .not (.E 22)),oE 24 (.pick (.E 20) (.E 23) (kb false)),vE 6 24]) .ret)
def zk2:List RV:=[.tmp [0] 6]
def ybf:List Nat:=[0,1,2,3,5,6,10,8,11,12,13,9,14,16,17,21,19,22,20,7]
def zh5:IC := .seq (.seq (.reg [mV 36 10,mV 37 8,nE 38 37,bE 39 .lss 36 38]) (.cond (.E 39) .skip (.exit 0))) (.seq (.block 1 (.seq (.reg [mV 42 8,mV 43 10,iE 44 4 42 43,tE 45 4 44,oV 11 (.alloc [.e0,iv 0,iv 0,iv 0]),oN (.store [1,0,0,0] (.V 11) (.E 45))]) (.seq (.reg [oE 46 (.build [iv 0,iv 0,iv 0,iv 0,iv 0,iv 0] []),oV 12 (.alloc [iv 0,iv 0,iv 0,iv 0,iv 0,iv 0]),oN (.store [0,0,0,0,0,0] (.V 12) (.E 46)),oV 13 (.mv (kb false))]) (.seq (.seq (.reg [fV 47 3 11,lE 48 47,fV 49 1 5,lE 50 49,bE 51 .lss 48 50]) (.cond (.E 51) (.reg [tV 53 2 3,mV 54 1,tV 55 8 5,fV 56 0 11,lE 57 56,fV 58 1 11,tE 59 2 58,oE 60 (.call zmg [([1,1],(.E 53)),([1],(.E 54)),([0,0,0,0,0,0,0,1],(.E 55)),([1],(.E 57)),([0,0],(.E 59))]),wE 52 60,xE 61 0 52,xE 62 1 52,oN (.store [0,0,0,0,0,0] (.V 12) (.E 61)),vE 13 62]) .skip)) (.seq (.seq (.reg [mV 63 13,oE 64 (.un .not (.E 63))]) (.cond (.E 64) (.seq (.regD [(mV 66 1,0,0),(fV 67 0 11,0,0),(lE 68 67,0,0),(oE 69 (.call zmy [([1],(.E 66)),([1],(.E 68))]),0,0),(fV 70 3 5,1,0),(lE 71 70,1,0),(fV 72 1 11,1,0),(tE 73 2 72,1,0),(oE 74 (.call zi6 [([0,0],(.E 69)),([0],(.E 71)),([0,0],(.E 73))]),0,0),(wE 65 74,0,0),(xE 75 0 65,0,0),(xE 76 1 65,0,0),(vE 14 75,0,0),(wE 15 76,0,0)]) (.seq (.reg [fV 77 0 9,lE 78 77,mV 79 14,oE 80 (.build [iv 0,iv 0,iv 0,iv 0,iv 0] [(0,1,(ki (-1))),(4,1,(.E 79))]),oE 81 (.bslice 1 5 [iv 0,iv 0,iv 0,iv 0,iv 0] [(0,(.E 80))]),oE 82 (.app 40 5 (.E 78) (.E 81)),fV 83 0 9,oN (.store [5] (.E 83) (.E 82))]) (.exit 1))) .skip)) (.seq (.reg [tV 85 8 5,fV 86 1 11,tE 87 2 86,tV 88 6 12,oE 89 (.call zj4 [([0,0,0,0,0,0,0,1],(.E 85)),([0,0],(.E 87)),([0,0,0,0,0,0],(.E 88))]),wE 84 89,xE 90 0 84,xE 91 1 84,xE 92 2 84,vE 16 90,vE 17 91,wE 18 92]) (.seq (.regD [(tV 94 8 5,0,0),(fV 95 0 12,0,0),(lE 96 95,0,0),(oE 97 (.call zj6 [([0,0,0,0,0,0,0,1],(.E 94)),([0],(.E 96))]),0,0),(fV 98 1 11,1,0),(tE 99 2 98,1,0),(mV 100 16,0,0),(mV 101 17,0,0),(oE 102 (.call zmz [([0],(.E 97)),([0,0],(.E 99)),([0],(.E 100)),([0],(.E 101))]),0,0),(wE 93 102,0,0),(xE 103 0 93,0,0),(xE 104 1 93,0,0),(oV 19 (.allocL [iv 0,iv 0]),0,0),(oV 20 (.allocL [iv 0,iv 0]),0,0),(oN (.store [0,0] (.V 19) (.E 103)),0,0),(oN (.store [0,0] (.V 20) (.E 104)),0,0)]) (.seq (.regD [(fV 106 1 3,0,0),(lE 107 106,0,0),(fV 108 0 12,0,0),(lE 109 108,0,0),(iE 110 1 107 109,0,0),(lE 111 110,0,0),(fV 112 0 11,0,0),(lE 113 112,0,0),(fV 114 1 12,0,0),(lE 115 114,0,0),(oE 116 (.call zm0 [([1],(.E 111)),([1],(.E 113)),([0],(.E 115))]),0,0),(wE 105 116,0,0),(xE 117 0 105,0,0),(xE 118 1 105,0,0),(vE 21 117,0,0),(vE 22 118,0,0)]) (.seq (.regD [(fV 119 0 9,0,1),(lE 120 119,0,1),(fV 121 0 12,0,0),(lE 122 121,0,0),(fV 123 0 3,0,0),(lE 124 123,0,0),(fV 125 0 12,0,0),(lE 126 125,0,0),(iE 127 1 124 126,0,0),(lE 128 127,0,0),(fV 129 1 12,0,0),(lE 130 129,0,0),(iE 131 1 128 130,0,0),(lE 132 131,0,0),(mV 133 8,0,0),(nE 134 133,0,0),(mV 135 8,0,0),(nE 136 135,0,0),(oE 137 (.bin .add (.E 136) (ki 1)),0,0),(oE 138 (.build [iv 0,iv 0,iv 0,iv 0,iv 0] [(0,1,(.E 122)),(1,1,(.E 132)),(2,1,(.E 134)),(3,1,(.E 137))]),0,0),(oE 139 (.bslice 1 5 [iv 0,iv 0,iv 0,iv 0,iv 0] [(0,(.E 138))]),0,0),(oE 140 (.app 40 5 (.E 120) (.E 139)),0,0),(fV 141 0 9,0,0),(oN (.store [5] (.E 141) (.E 140)),0,0)]) (.reg [mV 142 8,mV 143 21,tV 144 2 19,fV 145 3 11,lE 146 145,oE 147 (.bin .add (.E 146) (ki 1)),oE 148 (.build [.e0,iv 0,iv 0,iv 0] [(0,1,(.E 143)),(1,2,(.E 144)),(3,1,(.E 147))]),mV 149 22,tV 150 2 20,fV 151 3 11,lE 152 151,oE 153 (.bin .add (.E 152) (ki 1)),oE 154 (.build [.e0,iv 0,iv 0,iv 0] [(0,1,(.E 149)),(1,2,(.E 150)),(3,1,(.E 153))]),oE 155 (.bslice 2 4 [(.own 1 []),iv 0,iv 0,iv 0] [(0,(.E 148)),(1,(.E 154))]),oE 156 (.app 48 4 (.E 142) (.E 155)),vE 8 156])))))))))) (.reg [mV 40 10,oE 41 (.bin .add (.E 40) (ki 1)),vE 10 41]))
def zpl:IC := .seq (.reg [oV 3 (.box (.V 0)),oV 5 (.box (.V 2)),oV 6 (.alloc [.e0]),oV 7 (.mv (kb false))]) (.seq (.seq (.reg [tV 23 2 3,mV 24 1,tV 25 8 5,oE 26 (.call zi4 [([1,1],(.E 23)),([1],(.E 24)),([0,0,0,0,0,0,0,1],(.E 25))]),oE 27 (.un .not (.E 26))]) (.cond (.E 27) (.seq (.reg [oE 28 (.build [.e0] []),oN (.store [5] (.V 6) (.E 28)),oV 7 (.mv (kb false))]) .ret) .skip)) (.seq (.reg [tV 29 2 3,oE 30 (.call zh3 [([1,1],(.E 29))]),oE 31 (.call zmw [([0],(.E 30))]),oE 32 (.call zmx []),oE 33 (.build [.e0,iv 0,iv 0,iv 0] [(0,1,(.E 31)),(1,2,(.E 32))]),oE 34 (.bslice 1 4 [(.own 1 []),iv 0,iv 0,iv 0] [(0,(.E 33))]),oE 35 (.build [.e0] []),oV 9 (.alloc [.e0]),vE 8 34,oN (.store [5] (.V 9) (.E 35))]) (.seq (.seq (.reg [oV 10 (.mv (ki 0))]) (.block 0 (.loop zh5))) (.seq (.reg [tV 157 1 9,oN (.store [5] (.V 6) (.E 157)),oV 7 (.mv (kb true))]) .ret))))
def zpm:List RV:=[.cell [5] 6 true,.tmp [0] 7]
def ybg:List Nat:=[0,1,2,3,5,8,6,7]
def zn4:IC := .seq (.reg [oV 3 (.box (.V 0)),oV 5 (.box (.V 2)),oV 6 (.mv (ki 0)),oV 7 (.mv (kb false))]) (.seq (.seq (.reg [fV 10 0 3,lE 11 10,oE 12 (.call zb6 [([0],(.E 11)),([0],(ki 0)),([0],(ki 40))]),oE 13 (.un .not (.E 12)),wE 14 13,gE 15 14 .false (.mv (.V 1)),gE 16 14 .false (.call zb6 [([0],(.E 15)),([0],(ki 1)),([0],(ki 100))]),gE 17 14 .false (.un .not (.E 16)),oE 18 (.pick (.E 14) (kb true) (.E 17)),wE 19 18,gE 20 19 .false (.load true 2 (.V 5)),gE 21 19 .false (.call zm1 [([0,0],(.E 20))]),gE 22 19 .false (.un .not (.E 21)),oE 23 (.pick (.E 19) (kb true) (.E 22))]) (.cond (.E 23) (.seq (.reg [oV 6 (.mv (ki 0)),oV 7 (.mv (kb false))]) .ret) .skip)) (.seq (.reg [fV 25 1 3,lE 26 25,fV 27 0 3,lE 28 27,mV 29 1,bE 30 .add 28 29,oE 31 (.call zm2 [([0],(.E 26)),([0],(.E 30))]),wE 24 31,xE 32 0 24,xE 33 1 24,vE 8 32,wE 9 33]) (.seq (.reg [mV 34 8,fV 35 0 5,lE 36 35,fV 37 1 5,lE 38 37,oE 39 (.call zm3 [([0],(.E 34)),([0],(.E 36)),([0],(.E 38))]),vE 6 39,oV 7 (.mv (kb true))]) .ret)))
def zn5:List RV:=[.tmp [0] 6,.tmp [0] 7]
def ybh:List Nat:=[0,4,3,2]
def zxk:IC := .seq (.seq (.reg [mV 6 4,mV 7 0,bE 8 .lss 6 7,wE 9 8,gE 10 9 .true (.mv (.V 0)),gE 11 9 .true (.bin .leq (.E 10) (ki 40)),oE 12 (.pick (.E 9) (.E 11) (kb false))]) (.cond (.E 12) .skip (.exit 0))) (.seq (.block 1 (.reg [mV 15 3,mV 16 4,oE 17 (.bslice 1 1 [iv 0] [(0,(.E 16))]),oE 18 (.app 8 1 (.E 15) (.E 17)),vE 3 18])) (.reg [mV 13 4,oE 14 (.bin .add (.E 13) (ki 1)),vE 4 14]))
def zr7:IC := .seq (.reg [oV 2 (.mv (.C .e0))]) (.seq (.reg [oE 5 (.bslice 0 1 [iv 0] []),vE 3 5]) (.seq (.seq (.reg [oV 4 (.mv (ki 0))]) (.block 0 (.loop zxk))) (.seq (.reg [mV 19 3,vE 2 19]) .ret)))
def zr8:List RV:=[.tmp [1] 2]
def ybi:List Nat:=[0]
def zr9:IC := .seq (.reg [oV 0 (.alloc [iv 0,iv 0])]) (.seq (.reg [oE 1 (.build [iv 0,iv 0] [(0,1,(ki (-1099511627776))),(1,1,(ki 1099511627776))]),oN (.store [0,0] (.V 0) (.E 1))]) .ret)
def zsa:List RV:=[.cell [0,0] 0 true]
def ybj:List Nat:=[0,1,2,3,5,4]
def z0q:IC := .seq (.seq (.reg [mV 13 5,fV 14 0 2,lE 15 14,nE 16 15,bE 17 .lss 13 16]) (.cond (.E 17) .skip (.exit 0))) (.seq (.block 1 (.seq (.regD [(fV 20 0 2,0,0),(lE 21 20,0,0),(mV 22 5,0,0),(iE 23 5 21 22,0,0),(tE 24 5 23,0,0),(fV 25 0 3,0,0),(lE 26 25,0,0),(mV 27 5,0,0),(iE 28 5 26 27,0,0),(tE 29 5 28,0,0),(oE 30 (.eqb true [.i .i64,.i .i64,.i .i64,.i .i64,.i .i64] (.E 24) (.E 29)),0,0)]) (.cond (.E 30) (.seq (.reg [oV 4 (.mv (kb false))]) .ret) .skip))) (.reg [mV 18 5,oE 19 (.bin .add (.E 18) (ki 1)),vE 5 19]))
def zpn:IC := .seq (.reg [oV 2 (.box (.V 0)),oV 3 (.box (.V 1)),oV 4 (.mv (kb false))]) (.seq (.seq (.reg [fV 6 0 2,lE 7 6,nE 8 7,fV 9 0 3,lE 10 9,nE 11 10,bE 12 .neq 8 11]) (.cond (.E 12) (.seq (.reg [oV 4 (.mv (kb false))]) .ret) .skip)) (.seq (.seq (.reg [oV 5 (.mv (ki 0))]) (.block 0 (.loop z0q))) (.seq (.reg [oV 4 (.mv (kb true))]) .ret)))
def zpo:List RV:=[.tmp [0] 4]
def ybk:List Nat:=[0,2]
def zsb:IC := .seq (.reg [oV 2 (.alloc [.e0])]) (.seq (.reg [mV 3 0,oE 4 (.build [iv 0,iv 0,iv 0,iv 0,iv 0] [(0,1,(ki (-1))),(4,1,(.E 3))]),oE 5 (.bslice 1 5 [iv 0,iv 0,iv 0,iv 0,iv 0] [(0,(.E 4))]),oE 6 (.build [.e0] [(0,1,(.E 5))]),oN (.store [5] (.V 2) (.E 6))]) .ret)
def zsc:List RV:=[.cell [5] 2 true]
def ybl:List Nat:=[0,6,7,10,8,9,11,12,3,5,2,4]
def zsd:IC := .seq (.seq (.reg [mV 20 10,mV 21 8,bE 22 .lss 20 21]) (.cond (.E 22) .skip (.exit 0))) (.seq (.block 1 (.seq (.reg [mV 25 6,oE 26 (.call zbc [([0],(.E 25)),([0],(ki 41))]),oE 27 (.bin .sub (.E 26) (ki 20)),oE 28 (.bin .mul (ki 100) (.E 27)),mV 29 6,oE 30 (.call zbc [([0],(.E 29)),([0],(ki 3))]),bE 31 .add 28 30,vE 11 31]) (.seq (.seq (.reg [fV 32 1 7,lE 33 32,oE 34 (.iaddr 1 (.E 33) (ki 0)),lE 35 34,nE 36 35,mV 37 10,bE 38 .gtr 36 37,wE 39 38,gE 40 39 .true (.mv (.V 6)),gE 41 39 .true (.call zdo [([0],(.E 40)),([0],(ki 4))]),gE 42 39 .true (.un .not (.E 41)),oE 43 (.pick (.E 39) (.E 42) (kb false))]) (.cond (.E 43) (.regD [(fV 44 1 7,0,1),(lE 45 44,0,1),(oE 46 (.iaddr 1 (.E 45) (ki 0)),0,1),(lE 47 46,0,1),(mV 48 10,0,0),(iE 49 1 47 48,0,1),(lE 50 49,0,1),(oE 51 (.bin .mul (ki 300) (.E 50)),0,0),(oE 52 (.bin .sub (.E 51) (ki 400)),0,0),(mV 53 6,0,0),(oE 54 (.call zbc [([0],(.E 53)),([0],(ki 4))]),0,0),(oE 55 (.bin .mul (ki 50) (.E 54)),0,0),(bE 56 .add 52 55,0,0),(vE 11 56,0,0)]) .skip)) (.reg [mV 57 9,mV 58 11,oE 59 (.bslice 1 1 [iv 0] [(0,(.E 58))]),oE 60 (.app 8 1 (.E 57) (.E 59)),vE 9 60])))) (.reg [mV 23 10,oE 24 (.bin .add (.E 23) (ki 1)),vE 10 24]))
def zse:IC := .seq (.reg [oV 2 (.mv (.C (.v (.pointer none)))),oV 3 (.alloc [.e0,.e0]),oV 4 (.mv (.C .e0)),oV 5 (.alloc [iv 0,iv 0,iv 0,iv 0,iv 0,iv 0,iv 0,.e0])]) (.seq (.reg [mV 13 0,oE 14 (.call zm4 [([1],(.E 13))]),vE 6 14]) (.seq (.reg [mV 15 6,oE 16 (.call zj9 [([0],(.E 15))]),oV 7 (.alloc [.e0,.e0]),oN (.store [1,1] (.V 7) (.E 16))]) (.seq (.reg [tV 17 2 7,oE 18 (.call zh2 [([1,1],(.E 17))]),vE 8 18]) (.seq (.reg [oE 19 (.bslice 0 1 [iv 0] []),vE 9 19]) (.seq (.seq (.reg [oV 10 (.mv (ki 0))]) (.block 0 (.loop zsd))) (.seq (.seq (.reg [mV 61 6,oE 62 (.call zdo [([0],(.E 61)),([0],(ki 12))])]) (.cond (.E 62) (.reg [mV 63 6,mV 64 8,oE 65 (.call zm5 [([0],(.E 63)),([0],(.E 64))]),vE 9 65]) .skip)) (.seq (.seq (.reg [mV 66 6,oE 67 (.call zdo [([0],(.E 66)),([0],(ki 20))])]) (.cond (.E 67) (.reg [mV 68 9,mV 69 6,oE 70 (.bslice 3 1 [iv 0] [(0,(ki 0)),(1,(ki 2199023255552)),(2,(ki 2199023255553))]),oE 71 (.call zd3 [([0],(.E 69)),([1],(.E 70))]),oE 72 (.bslice 1 1 [iv 0] [(0,(.E 71))]),oE 73 (.app 8 1 (.E 68) (.E 72)),vE 9 73]) .skip)) (.seq (.seq (.reg [mV 74 8,oE 75 (.bin .gtr (.E 74) (ki 0)),wE 76 75,gE 77 76 .true (.mv (.V 6)),gE 78 76 .true (.call zdo [([0],(.E 77)),([0],(ki 20))]),oE 79 (.pick (.E 76) (.E 78) (kb false))]) (.cond (.E 79) (.reg [mV 80 9,mV 81 6,oE 82 (.bslice 4 1 [iv 0] [(0,(ki 2199023255552)),(1,(ki 2199023255553)),(2,(ki (-2199023255552))),(3,(ki (-2199023255553)))]),oE 83 (.call zd3 [([0],(.E 81)),([1],(.E 82))]),oE 84 (.iaddr 1 (.E 80) (ki 0)),oN (.store [0] (.E 84) (.E 83))]) .skip)) (.seq (.reg [mV 85 6,oE 86 (.call zka [([0],(.E 85))]),oV 12 (.alloc [iv 0,iv 0,iv 0,iv 0,iv 0,iv 0,iv 0,.e0]),oN (.store [0,0,0,0,0,0,0,1] (.V 12) (.E 86))]) (.seq (.seq (.reg [mV 87 6,oE 88 (.call zdo [([0],(.E 87)),([0],(ki 20))])]) (.cond (.E 88) (.reg [mV 89 6,oE 90 (.call zm6 [([0],(.E 89))]),oN (.store [0,0,0,0,0,0,0,1] (.V 12) (.E 90))]) .skip)) (.seq (.seq (.reg [mV 91 6,oE 92 (.call zdo [([0],(.E 91)),([0],(ki 20))])]) (.cond (.E 92) (.reg [mV 93 6,oE 94 (.call zm7 [([0],(.E 93))]),oN (.store [1,1] (.V 7) (.E 94))]) .skip)) (.seq (.regD [(mV 95 6,0,0),(tV 96 2 7,0,0),(mV 97 9,0,0),(tV 98 8 12,0,1),(vE 2 95,0,0),(oN (.store [1,1] (.V 3) (.E 96)),0,0),(vE 4 97,0,0),(oN (.store [0,0,0,0,0,0,0,1] (.V 5) (.E 98)),0,0)]) .ret))))))))))))
def zsf:List RV:=[.tmp [0] 2,.cell [1,1] 3 true,.tmp [1] 4,.cell [0,0,0,0,0,0,0,1] 5 true]
def ybm:List Nat:=[0,1,4]
def zsg:IC := .seq (.reg [oV 4 (.mv (kb false))]) (.seq (.reg [mV 5 0,mV 6 1,oE 7 (.call zbc [([0],(.E 5)),([0],(.E 6))]),oE 8 (.bin .eql (.E 7) (ki 0)),vE 4 8]) .ret)
def zsh:List RV:=[.tmp [0] 4]
def ybn:List Nat:=[0,1,2,3,20,19,18,9,10,12,8,11,6,7]
def zsi:IC := .seq (.reg [oE 21 (.bin .lss (.V 20) (.V 19))]) (.seq (.cond (.E 21) .skip (.exit 0)) (.seq (.block 1 (.seq (.reg [mV 22 20,oE 23 (.iaddr 1 (.V 18) (.V 20)),lE 24 23,vE 9 22,vE 10 24]) (.seq (.reg [fV 26 1 3,lE 27 26,mV 28 9,iE 29 1 27 28,lE 30 29,mV 31 1,mV 32 2,mV 33 10,nE 34 33,oE 35 (.bin .add (.E 34) (ki 1)),oE 36 (.call zm9 [([1],(.E 30)),([1],(.E 31)),([1],(.E 32)),([0],(.E 35))]),wE 25 36,xE 37 0 25,xE 38 1 25,vE 11 37,vE 12 38]) (.seq (.seq (.reg [mV 39 12,oE 40 (.un .not (.E 39))]) (.cond (.E 40) (.seq (.reg [oV 6 (.mv (.C .e0)),oV 7 (.mv (kb false))]) .ret) .skip)) (.reg [mV 41 8,mV 42 11,oE 43 (.bslice 1 1 [(.own 2 [])] [(0,(.E 42))]),oE 44 (.app 24 1 (.E 41) (.E 43)),vE 8 44]))))) (.reg [oE 45 (.bin .add (.V 20) (ki 1)),vE 20 45])))
def zpp:IC := .seq (.reg [oV 3 (.box (.V 0)),oV 6 (.mv (.C .e0)),oV 7 (.mv (kb false))]) (.seq (.seq (.reg [tV 13 2 3,oE 14 (.call zj7 [([1,1],(.E 13))]),oE 15 (.un .not (.E 14))]) (.cond (.E 15) (.seq (.reg [oV 6 (.mv (.C .e0)),oV 7 (.mv (kb false))]) .ret) .skip)) (.seq (.reg [oE 16 (.bslice 0 1 [(.own 2 [])] []),vE 8 16]) (.seq (.seq (.reg [fV 17 0 3,oV 18 (.load false 1 (.E 17)),oV 19 (.len (.V 18)),oV 20 (.mv (ki 0))]) (.block 0 (.loop zsi))) (.seq (.reg [mV 46 8,vE 6 46,oV 7 (.mv (kb true))]) .ret))))
def zpq:List RV:=[.tmp [1] 6,.tmp [0] 7]
def ybo:List Nat:=[0,1,2,19,18,17,3,4,10,8,34,33,32,41,40,39,13,14,11,15,12,6,7]
def zsj:IC := .seq (.reg [oE 20 (.bin .lss (.V 19) (.V 18))]) (.seq (.cond (.E 20) .skip (.exit 0)) (.seq (.block 1 (.seq (.reg [oE 21 (.iaddr 6 (.V 17) (.V 19)),tE 22 6 21,oV 10 (.alloc [iv 0,iv 0,iv 0,iv 0,iv 0,iv 0]),oN (.store [0,0,0,0,0,0] (.V 10) (.E 22))]) (.seq (.reg [tV 23 8 3,tV 24 2 4,tV 25 6 10,oE 26 (.call zj2 [([0,0,0,0,0,0,0,1],(.E 23)),([0,0],(.E 24)),([0,0,0,0,0,0],(.E 25))])]) (.cond (.E 26) (.reg [mV 27 8,tV 28 6 10,oE 29 (.bslice 1 6 [iv 0,iv 0,iv 0,iv 0,iv 0,iv 0] [(0,(.E 28))]),oE 30 (.app 48 6 (.E 27) (.E 29)),vE 8 30]) .skip)))) (.reg [oE 31 (.bin .add (.V 19) (ki 1)),vE 19 31])))
def zk3:IC := .seq (.reg [oE 42 (.bin .lss (.V 41) (.V 40))]) (.seq (.cond (.E 42) .skip (.exit 4)) (.seq (.block 5 (.seq (.reg [mV 43 41,oE 44 (.iaddr 6 (.V 39) (.V 41)),tE 45 6 44,oV 15 (.alloc [iv 0,iv 0,iv 0,iv 0,iv 0,iv 0]),vE 14 43,oN (.store [0,0,0,0,0,0] (.V 15) (.E 45))]) (.reg [mV 46 13,wE 47 46,gE 48 47 .true (.mv (.V 14)),gE 49 47 .true (.mv (.V 11)),gE 50 47 .true (.bin .eql (.E 48) (.E 49)),gE 51 47 .true (.mv (.E 50)),gE 52 51 .false (.load true 6 (.V 15)),gE 53 51 .false (.load true 6 (.V 12)),gE 54 51 .false (.faddr 3 (.V 3)),gE 55 51 .false (.load false 1 (.E 54)),gE 56 51 .false (.call zkb [([0,0,0,0,0,0],(.E 52)),([0,0,0,0,0,0],(.E 53)),([0],(.E 55))]),gE 57 51 .false (.un .not (.E 56)),gE 58 47 .true (.pick (.E 51) (kb true) (.E 57)),oE 59 (.pick (.E 47) (.E 58) (kb false)),vE 13 59]))) (.reg [oE 60 (.bin .add (.V 41) (ki 1)),vE 41 60])))
def zxl:IC := .seq (.reg [oE 35 (.bin .lss (.V 34) (.V 33))]) (.seq (.cond (.E 35) .skip (.exit 2)) (.seq (.block 3 (.seq (.reg [mV 36 34,oE 37 (.iaddr 6 (.V 32) (.V 34)),tE 38 6 37,oV 12 (.alloc [iv 0,iv 0,iv 0,iv 0,iv 0,iv 0]),vE 11 36,oN (.store [0,0,0,0,0,0] (.V 12) (.E 38))]) (.seq (.reg [oV 13 (.mv (kb true))]) (.seq (.seq (.reg [oV 39 (.mv (.V 8)),oV 40 (.len (.V 39)),oV 41 (.mv (ki 0))]) (.block 4 (.loop zk3))) (.seq (.reg [mV 61 13]) (.cond (.E 61) (.seq (.reg [tV 62 6 12,oN (.store [0,0,0,0,0,0] (.V 6) (.E 62)),oV 7 (.mv (kb true))]) .ret) .skip)))))) (.reg [oE 63 (.bin .add (.V 34) (ki 1)),vE 34 63])))
def zsk:IC := .seq (.reg [oV 3 (.box (.V 0)),oV 4 (.box (.V 1)),oV 6 (.alloc [iv 0,iv 0,iv 0,iv 0,iv 0,iv 0]),oV 7 (.mv (kb false))]) (.seq (.reg [oE 16 (.bslice 0 6 [iv 0,iv 0,iv 0,iv 0,iv 0,iv 0] []),vE 8 16]) (.seq (.seq (.reg [oV 17 (.mv (.V 2)),oV 18 (.len (.V 17)),oV 19 (.mv (ki 0))]) (.block 0 (.loop zsj))) (.seq (.seq (.reg [oV 32 (.mv (.V 8)),oV 33 (.len (.V 32)),oV 34 (.mv (ki 0))]) (.block 2 (.loop zxl))) (.seq (.reg [oE 64 (.build [iv 0,iv 0,iv 0,iv 0,iv 0,iv 0] []),oN (.store [0,0,0,0,0,0] (.V 6) (.E 64)),oV 7 (.mv (kb false))]) .ret))))
def zsl:List RV:=[.cell [0,0,0,0,0,0] 6 true,.tmp [0] 7]
def ybp:List Nat:=[0,1,16,15,14,7,9,10,8,12,11,5,6,4]
def zn6:IC := .seq (.seq (.reg [mV 28 10,mV 29 8,nE 30 29,oE 31 (.bin .sub (.E 30) (ki 1)),bE 32 .lss 28 31]) (.cond (.E 32) .skip (.exit 2))) (.seq (.block 3 (.seq (.regD [(mV 36 8,0,0),(mV 37 8,0,0),(nE 38 37,0,0),(oE 39 (.bin .sub (.E 38) (ki 1)),0,0),(iE 40 2 36 39,0,0),(tE 41 2 40,0,0),(mV 42 8,0,0),(mV 43 10,0,0),(iE 44 2 42 43,0,0),(tE 45 2 44,0,0),(oE 46 (.call znb [([0,0],(.E 41)),([0,0],(.E 45))]),0,0),(wE 35 46,0,0),(xE 47 0 35,0,0),(xE 48 1 35,0,0),(oV 11 (.allocL [iv 0,iv 0]),0,0),(oN (.store [0,0] (.V 11) (.E 47)),0,0),(vE 12 48,0,0)]) (.seq (.seq (.reg [mV 49 12,oE 50 (.un .not (.E 49))]) (.cond (.E 50) (.seq (.reg [oV 4 (.mv (.C .e0))]) .ret) .skip)) (.seq (.reg [mV 51 8,mV 52 10,iE 53 2 51 52,fE 54 0 53,lE 55 54,mV 56 1,bE 57 .geq 55 56,wE 58 57,gE 59 58 .true (.faddr 0 (.V 11)),gE 60 58 .true (.load false 1 (.E 59)),gE 61 58 .true (.mv (.V 1)),gE 62 58 .true (.bin .geq (.E 60) (.E 61)),oE 63 (.pick (.E 58) (.E 62) (kb false))]) (.cond (.E 63) (.regD [(mV 64 5,0,0),(mV 65 6,0,0),(mV 66 10,0,0),(mV 67 8,0,0),(mV 68 10,0,0),(iE 69 2 67 68,0,0),(tE 70 2 69,0,0),(tV 71 2 11,0,0),(oE 72 (.build [iv 0,iv 0,iv 0,iv 0,iv 0,iv 0] [(0,1,(.E 65)),(1,1,(.E 66)),(2,2,(.E 70)),(4,2,(.E 71))]),0,0),(oE 73 (.bslice 1 6 [iv 0,iv 0,iv 0,iv 0,iv 0,iv 0] [(0,(.E 72))]),0,0),(oE 74 (.app 48 6 (.E 64) (.E 73)),0,0),(vE 5 74,0,0)]) .skip))))) (.reg [mV 33 10,oE 34 (.bin .add (.E 33) (ki 1)),vE 10 34]))
def zsm:IC := .seq (.reg [oE 17 (.bin .lss (.V 16) (.V 15))]) (.seq (.cond (.E 17) .skip (.exit 0)) (.seq (.block 1 (.seq (.reg [mV 18 16,oE 19 (.iaddr 1 (.V 14) (.V 16)),lE 20 19,vE 6 18,vE 7 20]) (.seq (.reg [mV 22 7,oE 23 (.call zna [([2],(.E 22))]),wE 21 23,xE 24 0 21,xE 25 1 21,vE 8 24,vE 9 25]) (.seq (.seq (.reg [mV 26 9,oE 27 (.un .not (.E 26))]) (.cond (.E 27) (.seq (.reg [oV 4 (.mv (.C .e0))]) .ret) .skip)) (.seq (.reg [oV 10 (.mv (ki 0))]) (.block 2 (.loop zn6))))))) (.reg [oE 75 (.bin .add (.V 16) (ki 1)),vE 16 75])))
def zsn:IC := .seq (.reg [oV 4 (.mv (.C .e0))]) (.seq (.reg [oE 13 (.bslice 0 6 [iv 0,iv 0,iv 0,iv 0,iv 0,iv 0] []),vE 5 13]) (.seq (.seq (.reg [oV 14 (.mv (.V 0)),oV 15 (.len (.V 14)),oV 16 (.mv (ki 0))]) (.block 0 (.loop zsm))) (.seq (.reg [mV 76 5,vE 4 76]) .ret)))
def zso:List RV:=[.tmp [6] 4]
def ybq:List Nat:=[0,1,2,6]
def zsp:IC := .seq (.reg [oV 6 (.mv (kb false))]) (.seq (.reg [mV 7 0,mV 8 1,bE 9 .geq 7 8,wE 10 9,gE 11 10 .true (.mv (.V 0)),gE 12 10 .true (.mv (.V 2)),gE 13 10 .true (.bin .leq (.E 11) (.E 12)),oE 14 (.pick (.E 10) (.E 13) (kb false)),vE 6 14]) .ret)
def zsq:List RV:=[.tmp [0] 6]
def ybr:List Nat:=[0,1,2,5,3,4,10,12,9,11,6,7,8]
def zsr:IC := .seq (.reg [oV 3 (.box (.V 0)),oV 4 (.box (.V 1)),oV 5 (.box (.V 2)),oV 6 (.mv (ki 0)),oV 7 (.mv (ki 0)),oV 8 (.mv (kb false))]) (.seq (.reg [fV 14 2 5,tE 15 2 14,fV 16 3 3,lE 17 16,tV 18 2 4,oE 19 (.call zi6 [([0,0],(.E 15)),([0],(.E 17)),([0,0],(.E 18))]),wE 13 19,xE 20 0 13,xE 21 1 13,vE 9 20,vE 10 21]) (.seq (.reg [fV 23 4 5,tE 24 2 23,fV 25 3 3,lE 26 25,tV 27 2 4,oE 28 (.call zi6 [([0,0],(.E 24)),([0],(.E 26)),([0,0],(.E 27))]),wE 22 28,xE 29 0 22,xE 30 1 22,vE 11 29,vE 12 30]) (.seq (.seq (.reg [mV 31 10,oE 32 (.un .not (.E 31)),wE 33 32,gE 34 33 .false (.mv (.V 12)),gE 35 33 .false (.un .not (.E 34)),oE 36 (.pick (.E 33) (kb true) (.E 35))]) (.cond (.E 36) (.seq (.reg [oV 6 (.mv (ki 0)),oV 7 (.mv (ki 0)),oV 8 (.mv (kb false))]) .ret) .skip)) (.seq (.reg [mV 37 9,mV 38 11,vE 6 37,vE 7 38,oV 8 (.mv (kb true))]) .ret))))
def zss:List RV:=[.tmp [0] 6,.tmp [0] 7,.tmp [0] 8]
def ybs:List Nat:=[0,1,2]
def zst:IC := .seq (.reg [oV 1 (.box (.V 0)),oV 2 (.mv (kb false))]) (.seq (.reg [fV 3 0 1,lE 4 3,oE 5 (.call zbw [([0],(.E 4)),([0],(ki 1)),([0],(ki 8))]),wE 6 5,gE 7 6 .true (.faddr 1 (.V 1)),gE 8 6 .true (.load false 1 (.E 7)),gE 9 6 .true (.call zbw [([0],(.E 8)),([0],(ki 0)),([0],(ki 4))]),oE 10 (.pick (.E 6) (.E 9) (kb false)),wE 11 10,gE 12 11 .true (.faddr 2 (.V 1)),gE 13 11 .true (.load false 1 (.E 12)),gE 14 11 .true (.call zbw [([0],(.E 13)),([0],(ki 2)),([0],(ki 8))]),oE 15 (.pick (.E 11) (.E 14) (kb false)),wE 16 15,gE 17 16 .true (.faddr 3 (.V 1)),gE 18 16 .true (.load false 1 (.E 17)),gE 19 16 .true (.call zbw [([0],(.E 18)),([0],(ki 1)),([0],(ki 100))]),oE 20 (.pick (.E 16) (.E 19) (kb false)),wE 21 20,gE 22 21 .true (.faddr 4 (.V 1)),gE 23 21 .true (.load false 1 (.E 22)),gE 24 21 .true (.call zbw [([0],(.E 23)),([0],(ki 1)),([0],(ki 20))]),oE 25 (.pick (.E 21) (.E 24) (kb false)),wE 26 25,gE 27 26 .true (.faddr 6 (.V 1)),gE 28 26 .true (.load false 1 (.E 27)),gE 29 26 .true (.call zbw [([0],(.E 28)),([0],(ki 1)),([0],(ki 1000))]),oE 30 (.pick (.E 26) (.E 29) (kb false)),wE 31 30,gE 32 31 .true (.faddr 5 (.V 1)),gE 33 31 .true (.load false 1 (.E 32)),gE 34 31 .true (.faddr 6 (.V 1)),gE 35 31 .true (.load false 1 (.E 34)),gE 36 31 .true (.call zbw [([0],(.E 33)),([0],(ki 1)),([0],(.E 35))]),oE 37 (.pick (.E 31) (.E 36) (kb false)),wE 38 37,gE 39 38 .true (.faddr 7 (.V 1)),gE 40 38 .true (.load false 1 (.E 39)),gE 41 38 .true (.len (.E 40)),gE 42 38 .true (.bin .leq (.E 41) (ki 4)),oE 43 (.pick (.E 38) (.E 42) (kb false)),wE 44 43,gE 45 44 .true (.faddr 7 (.V 1)),gE 46 44 .true (.load false 1 (.E 45)),gE 47 44 .true (.call zhi [([1],(.E 46)),([0],(.C (.fn zkc [])))]),gE 48 44 .true (.un .not (.E 47)),oE 49 (.pick (.E 44) (.E 48) (kb false)),vE 2 49]) .ret)
def zsu:List RV:=[.tmp [0] 2]
def ybt:List Nat:=[0,1,2,7,6]
def zpr:IC := .seq (.reg [oV 6 (.mv (kb false))]) (.seq (.seq (.reg [oV 7 (.mv (.V 0))]) (.block 0 (.seq (.reg [oE 9 (.bin .eql (.V 7) (ki 1)),wE 8 9]) (.cond (.E 8) (.seq (.reg [mV 10 1,mV 11 2,bE 12 .leq 10 11,vE 6 12]) .ret) (.seq (.reg [oE 14 (.bin .eql (.V 7) (ki (-1))),wE 13 14]) (.cond (.E 13) (.seq (.reg [mV 15 1,mV 16 2,bE 17 .geq 15 16,vE 6 17]) .ret) .skip)))))) (.seq (.reg [oV 6 (.mv (kb true))]) .ret))
def zps:List RV:=[.tmp [0] 6]
def ybu:List Nat:=[0,1,2,4]
def zpt:IC := .seq (.reg [oV 2 (.box (.V 0)),oV 4 (.mv (ki 0))]) (.seq (.seq (.reg [mV 5 1,fV 6 7 2,lE 7 6,nE 8 7,oE 9 (.bin .sub (.E 8) (ki 1)),oE 10 (.call zbw [([0],(.E 5)),([0],(ki 0)),([0],(.E 9))]),oE 11 (.un .not (.E 10))]) (.cond (.E 11) (.seq (.reg [oV 4 (.mv (ki 0))]) .ret) .skip)) (.seq (.reg [fV 12 7 2,lE 13 12,mV 14 1,iE 15 1 13 14,lE 16 15,vE 4 16]) .ret))
def zpu:List RV:=[.tmp [0] 4]
def ybv:List Nat:=[0,1,2,7,5,9,6,8,10,12,11,4]
def zsv:IC := .seq (.reg [oV 2 (.box (.V 0)),oV 4 (.mv (kb false))]) (.seq (.reg [tV 14 6 2,mV 15 1,oE 16 (.call zi7 [([0,0,0,0,0,0],(.E 14)),([0],(.E 15))]),wE 13 16,xE 17 0 13,xE 18 1 13,oV 5 (.alloc [(.v (.bool false)),(.v (.int .u64 0)),(.v (.int .u64 0)),iv 0]),oN (.store [0,0,0,0] (.V 5) (.E 17)),vE 6 18]) (.seq (.reg [tV 20 6 2,oE 21 (.call znd [([0,0,0,0,0,0],(.E 20))]),wE 19 21,xE 22 0 19,xE 23 1 19,oV 7 (.alloc [iv 0,iv 0]),oN (.store [0,0] (.V 7) (.E 22)),vE 8 23]) (.seq (.reg [tV 25 2 7,mV 26 1,oE 27 (.call zi8 [([0,0],(.E 25)),([0],(.E 26))]),wE 24 27,xE 28 0 24,xE 29 1 24,oV 9 (.alloc [(.v (.bool false)),(.v (.int .u64 0)),(.v (.int .u64 0)),iv 0]),oN (.store [0,0,0,0] (.V 9) (.E 28)),vE 10 29]) (.seq (.reg [tV 31 4 5,tV 32 4 9,oE 33 (.call zkd [([0,0,0,0],(.E 31)),([0,0,0,0],(.E 32))]),wE 30 33,xE 34 0 30,xE 35 1 30,vE 11 34,vE 12 35]) (.seq (.reg [mV 36 6,wE 37 36,gE 38 37 .true (.mv (.V 8)),oE 39 (.pick (.E 37) (.E 38) (kb false)),wE 40 39,gE 41 40 .true (.mv (.V 10)),oE 42 (.pick (.E 40) (.E 41) (kb false)),wE 43 42,gE 44 43 .true (.mv (.V 12)),oE 45 (.pick (.E 43) (.E 44) (kb false)),wE 46 45,gE 47 46 .true (.mv (.V 11)),gE 48 46 .true (.bin .gtr (.E 47) (ki 0)),oE 49 (.pick (.E 46) (.E 48) (kb false)),vE 4 49]) .ret)))))
def zsw:List RV:=[.tmp [0] 4]
def ybw:List Nat:=[0,1,3,4,2]
def z0r:IC := .seq (.seq (.reg [mV 50 4,fV 51 1 1,lE 52 51,mV 53 3,iE 54 1 52 53,lE 55 54,nE 56 55,bE 57 .lss 50 56]) (.cond (.E 57) .skip (.exit 2))) (.seq (.block 3 (.seq (.regD [(fV 60 1 1,0,0),(lE 61 60,0,0),(mV 62 3,0,0),(iE 63 1 61 62,0,0),(lE 64 63,0,0),(mV 65 4,0,0),(iE 66 1 64 65,0,0),(lE 67 66,0,0),(fV 68 0 1,0,0),(lE 69 68,0,0),(mV 70 3,0,0),(iE 71 1 69 70,0,0),(lE 72 71,0,0),(nE 73 72,0,0),(oE 74 (.call zb6 [([0],(.E 67)),([0],(ki 0)),([0],(.E 73))]),0,0),(oE 75 (.un .not (.E 74)),0,0)]) (.cond (.E 75) (.seq (.reg [oV 2 (.mv (kb false))]) .ret) .skip))) (.reg [mV 58 4,oE 59 (.bin .add (.E 58) (ki 1)),vE 4 59]))
def z0s:IC := .seq (.seq (.reg [mV 25 3,fV 26 0 1,lE 27 26,nE 28 27,bE 29 .lss 25 28]) (.cond (.E 29) .skip (.exit 0))) (.seq (.block 1 (.seq (.seq (.regD [(fV 32 0 1,0,0),(lE 33 32,0,0),(mV 34 3,0,0),(iE 35 1 33 34,0,0),(lE 36 35,0,0),(oE 37 (.call zne [([1],(.E 36))]),0,0),(oE 38 (.un .not (.E 37)),0,0),(wE 39 38,0,0),(gE 40 39 .false (.faddr 1 (.V 1)),0,1),(gE 41 39 .false (.load false 1 (.E 40)),0,1),(gE 42 39 .false (.mv (.V 3)),0,0),(gE 43 39 .false (.iaddr 1 (.E 41) (.E 42)),0,1),(gE 44 39 .false (.load false 1 (.E 43)),0,1),(gE 45 39 .false (.len (.E 44)),0,1),(gE 46 39 .false (.load true 2 (.V 1)),0,0),(gE 47 39 .false (.call zh2 [([1,1],(.E 46))]),0,0),(gE 48 39 .false (.bin .neq (.E 45) (.E 47)),0,0),(oE 49 (.pick (.E 39) (kb true) (.E 48)),0,0)]) (.cond (.E 49) (.seq (.reg [oV 2 (.mv (kb false))]) .ret) .skip)) (.seq (.reg [oV 4 (.mv (ki 0))]) (.block 2 (.loop z0r))))) (.reg [mV 30 3,oE 31 (.bin .add (.E 30) (ki 1)),vE 3 31]))
def zk4:IC := .seq (.reg [oV 1 (.box (.V 0)),oV 2 (.mv (kb false))]) (.seq (.seq (.reg [fV 5 0 1,lE 6 5,nE 7 6,oE 8 (.call zb6 [([0],(.E 7)),([0],(ki 1)),([0],(ki 4))]),oE 9 (.un .not (.E 8)),wE 10 9,gE 11 10 .false (.faddr 1 (.V 1)),gE 12 10 .false (.load false 1 (.E 11)),gE 13 10 .false (.len (.E 12)),gE 14 10 .false (.faddr 0 (.V 1)),gE 15 10 .false (.load false 1 (.E 14)),gE 16 10 .false (.len (.E 15)),gE 17 10 .false (.bin .neq (.E 13) (.E 16)),oE 18 (.pick (.E 10) (kb true) (.E 17)),wE 19 18,gE 20 19 .false (.load true 2 (.V 1)),gE 21 19 .false (.call zh2 [([1,1],(.E 20))]),gE 22 19 .false (.call zb6 [([0],(.E 21)),([0],(ki 1)),([0],(ki 40))]),gE 23 19 .false (.un .not (.E 22)),oE 24 (.pick (.E 19) (kb true) (.E 23))]) (.cond (.E 24) (.seq (.reg [oV 2 (.mv (kb false))]) .ret) .skip)) (.seq (.seq (.reg [oV 3 (.mv (ki 0))]) (.block 0 (.loop z0s))) (.seq (.reg [oV 2 (.mv (kb true))]) .ret)))
def zk5:List RV:=[.tmp [0] 2]
def ybx:List Nat:=[0,1,4,3,5,2]
def zk6:IC := .seq (.seq (.reg [mV 8 4,oE 9 (.bin .lss (.E 8) (ki 5))]) (.cond (.E 9) .skip (.exit 0))) (.seq (.block 1 (.seq (.regD [(mV 12 3,0,0),(mV 13 4,0,0),(iE 14 1 12 13,0,2),(lE 15 14,0,2),(oE 16 (.call zng []),0,0),(mV 17 4,0,0),(iE 18 1 16 17,0,1),(lE 19 18,0,1),(oE 20 (.call znh []),0,0),(mV 21 4,0,0),(iE 22 1 20 21,0,0),(lE 23 22,0,0),(oE 24 (.call zb6 [([0],(.E 15)),([0],(.E 19)),([0],(.E 23))]),0,0),(oE 25 (.un .not (.E 24)),0,0)]) (.cond (.E 25) (.seq (.reg [oV 2 (.mv (kb false))]) .ret) .skip))) (.reg [mV 10 4,oE 11 (.bin .add (.E 10) (ki 1)),vE 4 11]))
def z0t:IC := .seq (.seq (.reg [mV 26 5,fV 27 7 1,lE 28 27,nE 29 28,bE 30 .lss 26 29]) (.cond (.E 30) .skip (.exit 2))) (.seq (.block 3 (.seq (.reg [fV 33 7 1,lE 34 33,mV 35 5,iE 36 1 34 35,lE 37 36,oE 38 (.call zb6 [([0],(.E 37)),([0],(ki (-1))),([0],(ki 1))]),oE 39 (.un .not (.E 38))]) (.cond (.E 39) (.seq (.reg [oV 2 (.mv (kb false))]) .ret) .skip))) (.reg [mV 31 5,oE 32 (.bin .add (.E 31) (ki 1)),vE 5 32]))
def zsx:IC := .seq (.reg [oV 1 (.box (.V 0)),oV 2 (.mv (kb false))]) (.seq (.reg [tV 6 8 1,oE 7 (.call znf [([0,0,0,0,0,0,0,1],(.E 6))]),vE 3 7]) (.seq (.seq (.reg [oV 4 (.mv (ki 0))]) (.block 0 (.loop zk6))) (.seq (.seq (.reg [oV 5 (.mv (ki 0))]) (.block 2 (.loop z0t))) (.seq (.reg [fV 40 6 1,lE 41 40,oE 42 (.call zb6 [([0],(.E 41)),([0],(ki 1)),([0],(ki 1000))]),wE 43 42,gE 44 43 .true (.faddr 5 (.V 1)),gE 45 43 .true (.load false 1 (.E 44)),gE 46 43 .true (.faddr 6 (.V 1)),gE 47 43 .true (.load false 1 (.E 46)),gE 48 43 .true (.call zb6 [([0],(.E 45)),([0],(ki 1)),([0],(.E 47))]),oE 49 (.pick (.E 43) (.E 48) (kb false)),wE 50 49,gE 51 50 .true (.faddr 7 (.V 1)),gE 52 50 .true (.load false 1 (.E 51)),gE 53 50 .true (.len (.E 52)),gE 54 50 .true (.bin .leq (.E 53) (ki 4)),oE 55 (.pick (.E 50) (.E 54) (kb false)),vE 2 55]) .ret))))
def zsy:List RV:=[.tmp [0] 2]
def yby:List Nat:=[0,1,2]
def zpv:IC := .seq (.reg [oV 1 (.box (.V 0)),oV 2 (.mv (ki 0))]) (.seq (.seq (.reg [fV 3 1 1,lE 4 3,nE 5 4,oE 6 (.bin .eql (.E 5) (ki 0))]) (.cond (.E 6) (.seq (.reg [oV 2 (.mv (ki 0))]) .ret) .skip)) (.seq (.reg [fV 7 1 1,lE 8 7,oE 9 (.iaddr 1 (.E 8) (ki 0)),lE 10 9,nE 11 10,vE 2 11]) .ret))
def zpw:List RV:=[.tmp [0] 2]
def ybz:List Nat:=[0,1,28,27,26,4,3,2]
def z0u:IC := .seq (.reg [oE 29 (.bin .lss (.V 28) (.V 27))]) (.seq (.cond (.E 29) .skip (.exit 0)) (.seq (.block 1 (.seq (.reg [mV 30 28,oE 31 (.iaddr 1 (.V 26) (.V 28)),lE 32 31,oV 4 (.alloc [.e0]),vE 3 30,oN (.store [1] (.V 4) (.E 32))]) (.seq (.regD [(oE 33 (.load false 1 (.V 4)),0,0),(oE 34 (.call zni [([1],(.E 33))]),0,0),(oE 35 (.un .not (.E 34)),0,0),(wE 36 35,0,0),(gE 37 36 .false (.faddr 1 (.V 1)),0,1),(gE 38 36 .false (.load false 1 (.E 37)),0,1),(gE 39 36 .false (.mv (.V 3)),0,0),(gE 40 36 .false (.iaddr 1 (.E 38) (.E 39)),0,1),(gE 41 36 .false (.load false 1 (.E 40)),0,1),(gE 42 36 .false (.len (.E 41)),0,1),(gE 43 36 .false (.load true 2 (.V 1)),0,0),(gE 44 36 .false (.call zh3 [([1,1],(.E 43))]),0,0),(gE 45 36 .false (.bin .neq (.E 42) (.E 44)),0,0),(oE 46 (.pick (.E 36) (kb true) (.E 45)),0,0),(wE 47 46,0,0),(gE 48 47 .false (.faddr 1 (.V 1)),0,0),(gE 49 47 .false (.load false 1 (.E 48)),0,0),(gE 50 47 .false (.mv (.V 3)),0,0),(gE 51 47 .false (.iaddr 1 (.E 49) (.E 50)),0,0),(gE 52 47 .false (.load false 1 (.E 51)),0,0),(gE 53 47 .false (.mkfn zke [(.V 4)]),0,0),(gE 54 47 .false (.call zhi [([1],(.E 52)),([0],(.E 53))]),0,0),(oE 55 (.pick (.E 47) (kb true) (.E 54)),0,0)]) (.cond (.E 55) (.seq (.reg [oV 2 (.mv (kb false))]) .ret) .skip)))) (.reg [oE 56 (.bin .add (.V 28) (ki 1)),vE 28 56])))
def zk7:IC := .seq (.reg [oV 1 (.box (.V 0)),oV 2 (.mv (kb false))]) (.seq (.seq (.reg [fV 5 0 1,lE 6 5,nE 7 6,oE 8 (.call zbw [([0],(.E 7)),([0],(ki 1)),([0],(ki 4))]),oE 9 (.un .not (.E 8)),wE 10 9,gE 11 10 .false (.faddr 1 (.V 1)),gE 12 10 .false (.load false 1 (.E 11)),gE 13 10 .false (.len (.E 12)),gE 14 10 .false (.faddr 0 (.V 1)),gE 15 10 .false (.load false 1 (.E 14)),gE 16 10 .false (.len (.E 15)),gE 17 10 .false (.bin .neq (.E 13) (.E 16)),oE 18 (.pick (.E 10) (kb true) (.E 17)),wE 19 18,gE 20 19 .false (.load true 2 (.V 1)),gE 21 19 .false (.call zh3 [([1,1],(.E 20))]),gE 22 19 .false (.call zbw [([0],(.E 21)),([0],(ki 1)),([0],(ki 40))]),gE 23 19 .false (.un .not (.E 22)),oE 24 (.pick (.E 19) (kb true) (.E 23))]) (.cond (.E 24) (.seq (.reg [oV 2 (.mv (kb false))]) .ret) .skip)) (.seq (.seq (.reg [fV 25 0 1,oV 26 (.load false 1 (.E 25)),oV 27 (.len (.V 26)),oV 28 (.mv (ki 0))]) (.block 0 (.loop z0u))) (.seq (.reg [oV 2 (.mv (kb true))]) .ret)))
def zk8:List RV:=[.tmp [0] 2]
def yb0:List Nat:=[0,1,2]
def zpx:IC := .seq (.reg [oV 1 (.box (.V 0)),oV 2 (.mv (ki 0))]) (.seq (.seq (.reg [fV 3 1 1,lE 4 3,nE 5 4,oE 6 (.bin .eql (.E 5) (ki 0))]) (.cond (.E 6) (.seq (.reg [oV 2 (.mv (ki 0))]) .ret) .skip)) (.seq (.reg [fV 7 1 1,lE 8 7,oE 9 (.iaddr 1 (.E 8) (ki 0)),lE 10 9,nE 11 10,vE 2 11]) .ret))
def zpy:List RV:=[.tmp [0] 2]
def yb1:List Nat:=[0,1,4]
def zpz:IC := .seq (.reg [oV 4 (.mv (kb false))]) (.seq (.reg [mV 5 0,mV 6 1,oE 7 (.call zkf [([1],(.E 5)),([0],(.E 6))]),oE 8 (.bin .geq (.E 7) (ki 0)),vE 4 8]) .ret)
def zp0:List RV:=[.tmp [0] 4]
def yb2:List Nat:=[0,2]
def zsz:IC := .seq (.reg [oV 2 (.mv (kb false))]) (.seq (.reg [mV 3 0,oE 4 (.call zbw [([0],(.E 3)),([0],(ki (-2199023255552))),([0],(ki 2199023255552))]),oE 5 (.un .not (.E 4)),vE 2 5]) .ret)
def zs0:List RV:=[.tmp [0] 2]
def yb3:List Nat:=[0,1,2,6]
def zs1:IC := .seq (.reg [oV 6 (.mv (kb false))]) (.seq (.reg [mV 7 0,mV 8 1,bE 9 .geq 7 8,wE 10 9,gE 11 10 .true (.mv (.V 0)),gE 12 10 .true (.mv (.V 2)),gE 13 10 .true (.bin .leq (.E 11) (.E 12)),oE 14 (.pick (.E 10) (.E 13) (kb false)),vE 6 14]) .ret)
def zs2:List RV:=[.tmp [0] 6]
def yb4:List Nat:=[0,3,11,10,4,2]
def zxm:IC := .seq (.reg [oE 12 (.bin .lss (.V 11) (.V 10))]) (.seq (.cond (.E 12) .skip (.exit 0)) (.seq (.block 1 (.seq (.reg [mV 13 11,vE 4 13]) (.reg [mV 14 3,mV 15 4,oE 16 (.bslice 1 1 [iv 0] [(0,(.E 15))]),oE 17 (.app 8 1 (.E 14) (.E 16)),vE 3 17]))) (.reg [oE 18 (.bin .add (.V 11) (ki 1)),vE 11 18])))
def zs3:IC := .seq (.reg [oV 2 (.mv (.C .e0))]) (.seq (.reg [oE 5 (.bslice 0 1 [iv 0] []),vE 3 5]) (.seq (.seq (.reg [mV 6 0,oE 7 (.call zbw [([0],(.E 6)),([0],(ki 1)),([0],(ki 40))]),oE 8 (.un .not (.E 7))]) (.cond (.E 8) (.seq (.reg [mV 9 3,vE 2 9]) .ret) .skip)) (.seq (.seq (.reg [oV 10 (.mv (.V 0)),oV 11 (.mv (ki 0))]) (.block 0 (.loop zxm))) (.seq (.reg [mV 19 3,vE 2 19]) .ret))))
def zs4:List RV:=[.tmp [1] 2]
def yb5:List Nat:=[0]
def zs5:IC := .seq (.reg [oV 0 (.alloc [iv 0,iv 0])]) (.seq (.reg [oE 1 (.build [iv 0,iv 0] [(0,1,(ki (-1099511627776))),(1,1,(ki 1099511627776))]),oN (.store [0,0] (.V 0) (.E 1))]) .ret)
def zs6:List RV:=[.cell [0,0] 0 true]
def yb6:List Nat:=[0,1,2,3,5,8,6,7]
def zp1:IC := .seq (.reg [oV 3 (.box (.V 0)),oV 5 (.box (.V 2)),oV 6 (.mv (ki 0)),oV 7 (.mv (kb false))]) (.seq (.seq (.reg [fV 10 0 3,lE 11 10,mV 12 1,oE 13 (.call zkg [([0],(.E 11)),([0],(.E 12))]),oE 14 (.un .not (.E 13)),wE 15 14,gE 16 15 .false (.load true 2 (.V 5)),gE 17 15 .false (.call zkh [([0,0],(.E 16))]),gE 18 15 .false (.un .not (.E 17)),oE 19 (.pick (.E 15) (kb true) (.E 18))]) (.cond (.E 19) (.seq (.reg [oV 6 (.mv (ki 0)),oV 7 (.mv (kb false))]) .ret) .skip)) (.seq (.reg [fV 21 1 3,lE 22 21,fV 23 0 3,lE 24 23,mV 25 1,bE 26 .add 24 25,oE 27 (.call znj [([0],(.E 22)),([0],(.E 26))]),wE 20 27,xE 28 0 20,xE 29 1 20,vE 8 28,wE 9 29]) (.seq (.reg [mV 30 8,fV 31 0 5,lE 32 31,fV 33 1 5,lE 34 33,oE 35 (.call zki [([0],(.E 30)),([0],(.E 32)),([0],(.E 34))]),vE 6 35,oV 7 (.mv (kb true))]) .ret)))
def zp2:List RV:=[.tmp [0] 6,.tmp [0] 7]
def yb7:List Nat:=[0,1,13,12,11,5,7,4]
def zxn:IC := .seq (.reg [oE 14 (.bin .lss (.V 13) (.V 12))]) (.seq (.cond (.E 14) .skip (.exit 0)) (.seq (.block 1 (.seq (.reg [oE 15 (.iaddr 1 (.V 11) (.V 13)),lE 16 15,vE 7 16]) (.regD [(fV 17 1 5,0,0),(lE 18 17,0,0),(mV 19 0,0,0),(mV 20 7,0,0),(iE 21 1 19 20,0,0),(lE 22 21,0,0),(bE 23 .add 18 22,0,0),(fV 24 1 5,0,0),(oN (.store [0] (.E 24) (.E 23)),0,0)]))) (.reg [oE 25 (.bin .add (.V 13) (ki 1)),vE 13 25])))
def zs7:IC := .seq (.reg [oV 4 (.alloc [iv 0,iv 0])]) (.seq (.reg [mV 8 1,nE 9 8,oE 10 (.build [iv 0,iv 0] [(0,1,(.E 9))]),oV 5 (.alloc [iv 0,iv 0]),oN (.store [0,0] (.V 5) (.E 10))]) (.seq (.seq (.reg [oV 11 (.mv (.V 1)),oV 12 (.len (.V 11)),oV 13 (.mv (ki 0))]) (.block 0 (.loop zxn))) (.seq (.reg [tV 26 2 5,oN (.store [0,0] (.V 4) (.E 26))]) .ret)))
def zs8:List RV:=[.cell [0,0] 4 true]
def yb8:List Nat:=[0,1,2,3,5,10,8,9,11,12]
def zn7:IC := .seq (.reg [oV 5 (.box (.V 1)),oV 8 (.alloc [iv 0,iv 0]),oV 9 (.alloc [iv 0,iv 0])]) (.seq (.regD [(mV 13 2,0,0),(mV 14 3,0,0),(oE 15 (.call znk [([0],(.E 13)),([0],(.E 14))]),0,0),(fV 16 0 5,1,0),(lE 17 16,1,0),(fV 18 1 5,1,0),(lE 19 18,1,0),(oE 20 (.call zki [([0],(.E 15)),([0],(.E 17)),([0],(.E 19))]),0,0),(vE 10 20,0,0)]) (.seq (.regD [(fV 21 0 5,0,1),(lE 22 21,0,1),(mV 23 10,0,0),(oE 24 (.build [iv 0,iv 0] [(0,1,(.E 22)),(1,1,(.E 23))]),0,0),(mV 25 10,0,0),(fV 26 1 5,0,3),(lE 27 26,0,3),(oE 28 (.build [iv 0,iv 0] [(0,1,(.E 25)),(1,1,(.E 27))]),0,0),(oV 11 (.alloc [iv 0,iv 0]),0,0),(oV 12 (.allocL [iv 0,iv 0]),0,0),(oN (.store [0,0] (.V 11) (.E 24)),0,0),(oN (.store [0,0] (.V 12) (.E 28)),0,0)]) (.seq (.block 0 (.seq (.reg [tV 30 2 5,oE 31 (.call zkh [([0,0],(.E 30))]),oE 32 (.un .not (.E 31)),wE 29 32]) (.cond (.E 29) (.seq (.regD [(tV 33 2 5,0,0),(tV 34 2 5,0,1),(oN (.store [0,0] (.V 8) (.E 33)),0,0),(oN (.store [0,0] (.V 9) (.E 34)),0,0)]) .ret) (.seq (.reg [mV 36 0,oE 37 (.bin .eql (.E 36) (ki 1)),wE 35 37]) (.cond (.E 35) (.seq (.regD [(tV 38 2 11,0,0),(tV 39 2 12,0,1),(oN (.store [0,0] (.V 8) (.E 38)),0,0),(oN (.store [0,0] (.V 9) (.E 39)),0,0)]) .ret) (.seq (.reg [mV 41 0,oE 42 (.bin .eql (.E 41) (ki (-1))),wE 40 42]) (.cond (.E 40) (.seq (.regD [(tV 43 2 12,0,0),(tV 44 2 11,0,1),(oN (.store [0,0] (.V 8) (.E 43)),0,0),(oN (.store [0,0] (.V 9) (.E 44)),0,0)]) .ret) .skip))))))) (.seq (.regD [(tV 45 2 5,0,0),(tV 46 2 5,0,1),(oN (.store [0,0] (.V 8) (.E 45)),0,0),(oN (.store [0,0] (.V 9) (.E 46)),0,0)]) .ret))))
def zn8:List RV:=[.cell [0,0] 8 true,.cell [0,0] 9 true]
def yb9:List Nat:=[0,1,2,16,15,14,11,8,9,6,7]
def zp3:IC := .seq (.reg [oE 17 (.bin .lss (.V 16) (.V 15))]) (.seq (.cond (.E 17) .skip (.exit 0)) (.seq (.block 1 (.seq (.reg [oE 18 (.iaddr 1 (.V 14) (.V 16)),lE 19 18,vE 11 19]) (.block 2 (.seq (.reg [mV 25 11,mV 26 0,nE 27 26,oE 28 (.bin .sub (.E 27) (ki 1)),oE 29 (.call zbw [([0],(.E 25)),([0],(ki 0)),([0],(.E 28))]),oE 30 (.un .not (.E 29)),wE 24 30]) (.cond (.E 24) .skip (.seq (.reg [mV 32 0,mV 33 11,iE 34 1 32 33,lE 35 34,mV 36 2,bE 37 .leq 35 36,wE 31 37]) (.cond (.E 31) (.reg [mV 38 8,mV 39 11,oE 40 (.bslice 1 1 [iv 0] [(0,(.E 39))]),oE 41 (.app 8 1 (.E 38) (.E 40)),vE 8 41]) (.reg [mV 20 9,mV 21 11,oE 22 (.bslice 1 1 [iv 0] [(0,(.E 21))]),oE 23 (.app 8 1 (.E 20) (.E 22)),vE 9 23])))))))) (.reg [oE 42 (.bin .add (.V 16) (ki 1)),vE 16 42])))
def zs9:IC := .seq (.reg [oV 6 (.mv (.C .e0)),oV 7 (.mv (.C .e0))]) (.seq (.reg [oE 12 (.bslice 0 1 [iv 0] []),oE 13 (.bslice 0 1 [iv 0] []),vE 8 12,vE 9 13]) (.seq (.seq (.reg [oV 14 (.mv (.V 1)),oV 15 (.len (.V 14)),oV 16 (.mv (ki 0))]) (.block 0 (.loop zp3))) (.seq (.reg [mV 43 8,mV 44 9,vE 6 43,vE 7 44]) .ret)))
def zta:List RV:=[.tmp [1] 6,.tmp [1] 7]
def yca:List Nat:=[0,1,2]
def ztb:IC := .seq (.reg [oV 1 (.box (.V 0)),oV 2 (.mv (kb false))]) (.seq (.reg [fV 3 0 1,lE 4 3,fV 5 1 1,lE 6 5,bE 7 .leq 4 6,wE 8 7,gE 9 8 .true (.faddr 0 (.V 1)),gE 10 8 .true (.load false 1 (.E 9)),gE 11 8 .true (.call zkj [([0],(.E 10))]),oE 12 (.pick (.E 8) (.E 11) (kb false)),wE 13 12,gE 14 13 .true (.faddr 1 (.V 1)),gE 15 13 .true (.load false 1 (.E 14)),gE 16 13 .true (.call zkj [([0],(.E 15))]),oE 17 (.pick (.E 13) (.E 16) (kb false)),vE 2 17]) .ret)
def ztc:List RV:=[.tmp [0] 2]
def ycb:List Nat:=[0,1,6,4,5]
def ztd:IC := .seq (.reg [oV 4 (.mv (ki 0)),oV 5 (.mv (kb false))]) (.seq (.seq (.reg [mV 7 1,oE 8 (.bin .eql (.E 7) (ki 0)),wE 9 8,gE 10 9 .false (.mv (.V 1)),gE 11 9 .false (.bin .eql (.E 10) (ki (-1))),gE 12 9 .false (.mv (.E 11)),gE 13 12 .true (.mv (.V 0)),gE 14 12 .true (.bin .eql (.E 13) (ki (-9223372036854775808))),gE 15 9 .false (.pick (.E 12) (.E 14) (kb false)),oE 16 (.pick (.E 9) (kb true) (.E 15))]) (.cond (.E 16) (.seq (.reg [oV 4 (.mv (ki 0)),oV 5 (.mv (kb false))]) .ret) .skip)) (.seq (.reg [mV 17 0,mV 18 1,bE 19 .quo 17 18,vE 6 19]) (.seq (.seq (.reg [mV 20 0,mV 21 1,bE 22 .rem 20 21,oE 23 (.bin .neq (.E 22) (ki 0)),wE 24 23,gE 25 24 .true (.mv (.V 0)),gE 26 24 .true (.bin .lss (.E 25) (ki 0)),gE 27 24 .true (.mv (.V 1)),gE 28 24 .true (.bin .lss (.E 27) (ki 0)),gE 29 24 .true (.eqb true [.b] (.E 26) (.E 28)),oE 30 (.pick (.E 24) (.E 29) (kb false))]) (.cond (.E 30) (.reg [mV 31 6,oE 32 (.bin .sub (.E 31) (ki 1)),vE 6 32]) .skip)) (.seq (.reg [mV 33 6,vE 4 33,oV 5 (.mv (kb true))]) .ret))))
def zte:List RV:=[.tmp [0] 4,.tmp [0] 5]
def ycc:List Nat:=[0,1,2,6]
def zp4:IC := .seq (.reg [oV 6 (.mv (ki 0))]) (.seq (.seq (.reg [mV 7 0,mV 8 1,bE 9 .lss 7 8]) (.cond (.E 9) (.seq (.reg [mV 10 1,vE 6 10]) .ret) .skip)) (.seq (.seq (.reg [mV 11 0,mV 12 2,bE 13 .gtr 11 12]) (.cond (.E 13) (.seq (.reg [mV 14 2,vE 6 14]) .ret) .skip)) (.seq (.reg [mV 15 0,vE 6 15]) .ret)))
def zp5:List RV:=[.tmp [0] 6]
def ycd:List Nat:=[0,4,3,2]
def ztf:IC := .seq (.seq (.reg [mV 8 4,mV 9 0,nE 10 9,bE 11 .lss 8 10,wE 12 11,gE 13 12 .true (.mv (.V 4)),gE 14 12 .true (.bin .lss (.E 13) (ki 4000)),oE 15 (.pick (.E 12) (.E 14) (kb false))]) (.cond (.E 15) .skip (.exit 0))) (.seq (.block 1 (.reg [mV 18 3,oE 19 (.bin .mul (.E 18) (ki 131)),mV 20 0,mV 21 4,iE 22 1 20 21,lE 23 22,oE 24 (.convI .i64 (.E 23)),bE 25 .add 19 24,oE 26 (.bin .add (.E 25) (ki 7)),oE 27 (.bin .and (.E 26) (ki 1073741823)),vE 3 27])) (.reg [mV 16 4,oE 17 (.bin .add (.E 16) (ki 1)),vE 4 17]))
def ztg:IC := .seq (.reg [oV 2 (.mv (.C (.v (.pointer none))))]) (.seq (.reg [mV 5 0,nE 6 5,oE 7 (.bin .add (ki 28507) (.E 6)),vE 3 7]) (.seq (.seq (.reg [oV 4 (.mv (ki 0))]) (.block 0 (.loop ztf))) (.seq (.reg [mV 28 0,mV 29 3,oE 30 (.build [.e0,iv 0,iv 0] [(0,1,(.E 28)),(2,1,(.E 29))]),oE 31 (.box (.E 30)),vE 2 31]) .ret)))
def zth:List RV:=[.tmp [0] 2]
def yce:List Nat:=[0,2]
def zti:IC := .seq (.reg [oV 2 (.alloc [.e0,.e0])]) (.seq (.reg [mV 3 0,oE 4 (.call znm [([0],(.E 3))]),mV 5 0,oE 6 (.call zbc [([0],(.E 5)),([0],(ki 5))]),oE 7 (.bin .add (ki 2) (.E 6)),oE 8 (.call znl [([1,0,1,1],(.E 4)),([0],(.E 7))]),oN (.store [1,1] (.V 2) (.E 8))]) .ret)
def ztj:List RV:=[.cell [1,1] 2 true]
def ycf:List Nat:=[0,1,5,6,7,8,4]
def zn9:IC := .seq (.reg [oV 4 (.mv (ki 0))]) (.seq (.seq (.reg [mV 9 1,oE 10 (.bin .leq (.E 9) (ki 0))]) (.cond (.E 10) (.seq (.reg [oV 4 (.mv (ki 0))]) .ret) .skip)) (.seq (.seq (.reg [mV 11 1,oE 12 (.bin .leq (.E 11) (ki 256))]) (.cond (.E 12) (.seq (.reg [mV 13 0,oE 14 (.call zgl [([0],(.E 13))]),mV 15 1,bE 16 .rem 14 15,vE 4 16]) .ret) .skip)) (.seq (.reg [mV 17 0,oE 18 (.call zgl [([0],(.E 17))]),vE 5 18]) (.seq (.reg [mV 19 0,oE 20 (.call zgl [([0],(.E 19))]),vE 6 20]) (.seq (.reg [mV 21 0,oE 22 (.call zgl [([0],(.E 21))]),vE 7 22]) (.seq (.reg [mV 23 0,oE 24 (.call zgl [([0],(.E 23))]),vE 8 24]) (.seq (.reg [mV 25 5,oE 26 (.bin .mul (.E 25) (ki 16777216)),mV 27 6,oE 28 (.bin .mul (.E 27) (ki 65536)),bE 29 .add 26 28,mV 30 7,oE 31 (.bin .mul (.E 30) (ki 256)),bE 32 .add 29 31,mV 33 8,bE 34 .add 32 33,mV 35 1,bE 36 .rem 34 35,vE 4 36]) .ret)))))))
def zoa:List RV:=[.tmp [0] 4]
def ycg:List Nat:=[0,1,7,6,5,4]
def ztk:IC := .seq (.seq (.reg [mV 11 7,mV 12 1,bE 13 .lss 11 12]) (.cond (.E 13) .skip (.exit 0))) (.seq (.block 1 (.seq (.reg [mV 16 6]) (.cond (.E 16) (.reg [mV 17 5,mV 18 0,oE 19 (.call zm8 [([0],(.E 18))]),oE 20 (.bslice 1 1 [iv 0] [(0,(.E 19))]),oE 21 (.app 8 1 (.E 17) (.E 20)),vE 5 21]) (.reg [mV 22 5,mV 23 0,oE 24 (.call zbc [([0],(.E 23)),([0],(ki 41))]),oE 25 (.bin .sub (.E 24) (ki 20)),oE 26 (.bin .mul (ki 100) (.E 25)),mV 27 0,oE 28 (.call zbc [([0],(.E 27)),([0],(ki 3))]),bE 29 .add 26 28,oE 30 (.bslice 1 1 [iv 0] [(0,(.E 29))]),oE 31 (.app 8 1 (.E 22) (.E 30)),vE 5 31])))) (.reg [mV 14 7,oE 15 (.bin .add (.E 14) (ki 1)),vE 7 15]))
def ztl:IC := .seq (.reg [oV 4 (.mv (.C .e0))]) (.seq (.reg [oE 8 (.bslice 0 1 [iv 0] []),vE 5 8]) (.seq (.reg [mV 9 0,oE 10 (.call zdo [([0],(.E 9)),([0],(ki 20))]),vE 6 10]) (.seq (.seq (.reg [oV 7 (.mv (ki 0))]) (.block 0 (.loop ztk))) (.seq (.reg [mV 32 5,vE 4 32]) .ret))))
def ztm:List RV:=[.tmp [1] 4]
def ych:List Nat:=[0,1,4]
def ztn:IC := .seq (.reg [oV 4 (.mv (ki 0))]) (.seq (.reg [mV 5 1,mV 6 0,mV 7 1,nE 8 7,oE 9 (.call zbc [([0],(.E 6)),([0],(.E 8))]),iE 10 1 5 9,lE 11 10,vE 4 11]) .ret)
def zto:List RV:=[.tmp [0] 4]
def yci:List Nat:=[0,3,5,4,2]
def zxo:IC := .seq (.seq (.reg [mV 40 5,mV 41 4,bE 42 .lss 40 41]) (.cond (.E 42) .skip (.exit 0))) (.seq (.block 1 (.regD [(fV 45 7 3,0,2),(lE 46 45,0,2),(mV 47 0,0,0),(oE 48 (.call zbc [([0],(.E 47)),([0],(ki 3))]),0,0),(oE 49 (.bin .sub (.E 48) (ki 1)),0,0),(oE 50 (.bslice 1 1 [iv 0] [(0,(.E 49))]),0,0),(oE 51 (.app 8 1 (.E 46) (.E 50)),0,0),(fV 52 7 3,0,0),(oN (.store [1] (.E 52) (.E 51)),0,0)])) (.reg [mV 43 5,oE 44 (.bin .add (.E 43) (ki 1)),vE 5 44]))
def zk9:IC := .seq (.reg [oV 2 (.alloc [iv 0,iv 0,iv 0,iv 0,iv 0,iv 0,iv 0,.e0])]) (.seq (.reg [mV 6 0,oE 7 (.call zbc [([0],(.E 6)),([0],(ki 4))]),oE 8 (.bin .add (ki 1) (.E 7)),mV 9 0,oE 10 (.call zbc [([0],(.E 9)),([0],(ki 4))]),mV 11 0,oE 12 (.call zbc [([0],(.E 11)),([0],(ki 5))]),oE 13 (.bin .add (ki 2) (.E 12)),mV 14 0,oE 15 (.call zbc [([0],(.E 14)),([0],(ki 3))]),oE 16 (.bin .add (ki 1) (.E 15)),mV 17 0,oE 18 (.call zbc [([0],(.E 17)),([0],(ki 3))]),oE 19 (.bin .add (ki 1) (.E 18)),mV 20 0,oE 21 (.call zbc [([0],(.E 20)),([0],(ki 3))]),oE 22 (.bin .add (ki 1) (.E 21)),oE 23 (.build [iv 0,iv 0,iv 0,iv 0,iv 0,iv 0,iv 0,.e0] [(0,1,(.E 8)),(1,1,(.E 10)),(2,1,(.E 13)),(3,1,(.E 16)),(4,1,(.E 19)),(5,1,(ki 1)),(6,1,(.E 22))]),oV 3 (.alloc [iv 0,iv 0,iv 0,iv 0,iv 0,iv 0,iv 0,.e0]),oN (.store [0,0,0,0,0,0,0,1] (.V 3) (.E 23))]) (.seq (.seq (.reg [mV 24 0,oE 25 (.call zdo [([0],(.E 24)),([0],(ki 8))])]) (.cond (.E 25) (.reg [mV 26 0,oE 27 (.call zbc [([0],(.E 26)),([0],(ki 100))]),oE 28 (.bin .add (ki 1) (.E 27)),fV 29 3 3,oN (.store [0] (.E 29) (.E 28))]) .skip)) (.seq (.seq (.reg [mV 30 0,oE 31 (.call zdo [([0],(.E 30)),([0],(ki 4))])]) (.cond (.E 31) (.reg [mV 32 0,fV 33 6 3,lE 34 33,oE 35 (.call zbc [([0],(.E 32)),([0],(.E 34))]),oE 36 (.bin .add (ki 1) (.E 35)),fV 37 5 3,oN (.store [0] (.E 37) (.E 36))]) .skip)) (.seq (.reg [mV 38 0,oE 39 (.call zbc [([0],(.E 38)),([0],(ki 5))]),vE 4 39]) (.seq (.seq (.reg [oV 5 (.mv (ki 0))]) (.block 0 (.loop zxo))) (.seq (.reg [tV 53 8 3,oN (.store [0,0,0,0,0,0,0,1] (.V 2) (.E 53))]) .ret))))))
def zla:List RV:=[.cell [0,0,0,0,0,0,0,1] 2 true]
def ycj:List Nat:=[0,7,3,2]
def zfx:IC := .seq (.reg [oV 2 (.alloc [iv 0,iv 0,iv 0,iv 0,iv 0,iv 0,iv 0,.e0])]) (.seq (.reg [mV 4 0,oE 5 (.call zka [([0],(.E 4))]),oV 3 (.alloc [iv 0,iv 0,iv 0,iv 0,iv 0,iv 0,iv 0,.e0]),oN (.store [0,0,0,0,0,0,0,1] (.V 3) (.E 5))]) (.seq (.seq (.reg [mV 6 0,oV 7 (.call zbc [([0],(.E 6)),([0],(ki 12))])]) (.block 0 (.seq (.reg [oE 9 (.bin .eql (.V 7) (ki 0)),wE 8 9]) (.cond (.E 8) (.reg [mV 10 0,oE 11 (.bslice 5 1 [iv 0] [(0,(ki 0)),(1,(ki 1)),(2,(ki 8)),(3,(ki 9)),(4,(ki (-1)))]),oE 12 (.call zd3 [([0],(.E 10)),([1],(.E 11))]),fV 13 0 3,oN (.store [0] (.E 13) (.E 12))]) (.seq (.reg [oE 15 (.bin .eql (.V 7) (ki 1)),wE 14 15]) (.cond (.E 14) (.reg [mV 16 0,oE 17 (.bslice 4 1 [iv 0] [(0,(ki (-1))),(1,(ki 0)),(2,(ki 4)),(3,(ki 5))]),oE 18 (.call zd3 [([0],(.E 16)),([1],(.E 17))]),fV 19 1 3,oN (.store [0] (.E 19) (.E 18))]) (.seq (.reg [oE 21 (.bin .eql (.V 7) (ki 2)),wE 20 21]) (.cond (.E 20) (.reg [mV 22 0,oE 23 (.bslice 4 1 [iv 0] [(0,(ki 1)),(1,(ki 2)),(2,(ki 8)),(3,(ki 9))]),oE 24 (.call zd3 [([0],(.E 22)),([1],(.E 23))]),fV 25 2 3,oN (.store [0] (.E 25) (.E 24))]) (.seq (.reg [oE 27 (.bin .eql (.V 7) (ki 3)),wE 26 27]) (.cond (.E 26) (.reg [mV 28 0,oE 29 (.bslice 5 1 [iv 0] [(0,(ki 0)),(1,(ki 1)),(2,(ki 100)),(3,(ki 101)),(4,(ki 9223372036854775807))]),oE 30 (.call zd3 [([0],(.E 28)),([1],(.E 29))]),fV 31 3 3,oN (.store [0] (.E 31) (.E 30))]) (.seq (.reg [oE 33 (.bin .eql (.V 7) (ki 4)),wE 32 33]) (.cond (.E 32) (.reg [mV 34 0,oE 35 (.bslice 4 1 [iv 0] [(0,(ki 0)),(1,(ki 1)),(2,(ki 20)),(3,(ki 21))]),oE 36 (.call zd3 [([0],(.E 34)),([1],(.E 35))]),fV 37 4 3,oN (.store [0] (.E 37) (.E 36))]) (.seq (.reg [oE 39 (.bin .eql (.V 7) (ki 5)),wE 38 39]) (.cond (.E 38) (.reg [mV 40 0,fV 41 6 3,lE 42 41,fV 43 6 3,lE 44 43,oE 45 (.bin .add (.E 44) (ki 1)),oE 46 (.bslice 5 1 [iv 0] [(0,(ki 0)),(1,(ki 1)),(2,(.E 42)),(3,(.E 45)),(4,(ki (-1)))]),oE 47 (.call zd3 [([0],(.E 40)),([1],(.E 46))]),fV 48 5 3,oN (.store [0] (.E 48) (.E 47))]) (.seq (.reg [oE 50 (.bin .eql (.V 7) (ki 6)),wE 49 50]) (.cond (.E 49) (.reg [mV 51 0,oE 52 (.bslice 5 1 [iv 0] [(0,(ki 0)),(1,(ki 1)),(2,(ki 1000)),(3,(ki 1001)),(4,(ki 9223372036854775807))]),oE 53 (.call zd3 [([0],(.E 51)),([1],(.E 52))]),fV 54 6 3,oN (.store [0] (.E 54) (.E 53))]) (.seq (.reg [oE 56 (.bin .eql (.V 7) (ki 7)),wE 55 56]) (.cond (.E 55) (.regD [(fV 57 7 3,0,2),(lE 58 57,0,2),(mV 59 0,0,0),(oE 60 (.call zbc [([0],(.E 59)),([0],(ki 5))]),0,0),(oE 61 (.bin .sub (.E 60) (ki 2)),0,0),(oE 62 (.bslice 1 1 [iv 0] [(0,(.E 61))]),0,0),(oE 63 (.app 8 1 (.E 58) (.E 62)),0,0),(fV 64 7 3,0,0),(oN (.store [1] (.E 64) (.E 63)),0,0)]) .skip)))))))))))))))))) (.seq (.reg [tV 65 8 3,oN (.store [0,0,0,0,0,0,0,1] (.V 2) (.E 65))]) .ret)))
def zfy:List RV:=[.cell [0,0,0,0,0,0,0,1] 2 true]
def yck:List Nat:=[0,3,13,4,2]
def zgn:IC := .seq (.reg [oV 2 (.alloc [.e0,.e0])]) (.seq (.reg [mV 5 0,oE 6 (.call zj9 [([0],(.E 5))]),oV 3 (.alloc [.e0,.e0]),oN (.store [1,1] (.V 3) (.E 6))]) (.seq (.reg [mV 7 0,fV 8 0 3,lE 9 8,nE 10 9,oE 11 (.call zbc [([0],(.E 7)),([0],(.E 10))]),vE 4 11]) (.seq (.seq (.reg [mV 12 0,oV 13 (.call zbc [([0],(.E 12)),([0],(ki 14))])]) (.block 0 (.seq (.reg [oE 15 (.bin .eql (.V 13) (ki 0)),wE 14 15]) (.cond (.E 14) (.regD [(fV 16 0 3,0,3),(lE 17 16,0,3),(mV 18 4,0,0),(fV 19 0 3,0,2),(lE 20 19,0,2),(mV 21 4,0,0),(iE 22 1 20 21,0,2),(lE 23 22,0,2),(mV 24 0,0,0),(oE 25 (.call zi9 [([0],(.E 24))]),0,0),(oE 26 (.bslice 1 1 [iv 0] [(0,(.E 25))]),0,0),(oE 27 (.app 8 1 (.E 23) (.E 26)),0,0),(iE 28 1 17 18,0,0),(oN (.store [1] (.E 28) (.E 27)),0,0)]) (.seq (.reg [oE 30 (.bin .eql (.V 13) (ki 1)),wE 29 30]) (.cond (.E 29) (.regD [(fV 31 1 3,0,2),(lE 32 31,0,2),(mV 33 4,0,0),(iE 34 1 32 33,0,2),(lE 35 34,0,2),(mV 36 0,0,0),(oE 37 (.bslice 5 1 [iv 0] [(0,(ki 0)),(1,(ki 1)),(2,(ki (-1))),(3,(ki 8)),(4,(ki 9223372036854775807))]),0,0),(oE 38 (.call zd3 [([0],(.E 36)),([1],(.E 37))]),0,0),(oE 39 (.iaddr 1 (.E 35) (ki 0)),0,0),(oN (.store [0] (.E 39) (.E 38)),0,0)]) (.seq (.reg [oE 41 (.bin .eql (.V 13) (ki 2)),wE 40 41]) (.cond (.E 40) (.regD [(fV 42 1 3,0,2),(lE 43 42,0,2),(mV 44 4,0,0),(fV 45 1 3,0,1),(lE 46 45,0,1),(mV 47 4,0,0),(iE 48 1 46 47,0,1),(lE 49 48,0,1),(oE 50 (.bslice 1 1 [iv 0] [(0,(ki 0))]),0,0),(oE 51 (.app 8 1 (.E 49) (.E 50)),0,0),(iE 52 1 43 44,0,0),(oN (.store [1] (.E 52) (.E 51)),0,0)]) (.seq (.reg [oE 54 (.bin .eql (.V 13) (ki 3)),wE 53 54]) (.cond (.E 53) (.reg [fV 55 1 3,lE 56 55,oE 57 (.bslice 1 1 [iv 0] [(0,(ki 0))]),oE 58 (.bslice 1 1 [(.own 1 [])] [(0,(.E 57))]),oE 59 (.app 24 1 (.E 56) (.E 58)),fV 60 1 3,oN (.store [1] (.E 60) (.E 59))]) (.seq (.reg [oE 62 (.bin .eql (.V 13) (ki 4)),wE 61 62]) (.cond (.E 61) (.reg [fV 63 0 3,lE 64 63,oE 65 (.bslice 0 1 [iv 0] []),oE 66 (.bslice 1 1 [(.own 1 [])] [(0,(.E 65))]),oE 67 (.app 24 1 (.E 64) (.E 66)),fV 68 0 3,oN (.store [1] (.E 68) (.E 67))]) (.seq (.reg [oE 70 (.bin .eql (.V 13) (ki 5)),wE 69 70]) (.cond (.E 69) (.reg [oE 71 (.bslice 0 1 [(.own 1 [])] []),fV 72 1 3,oN (.store [1] (.E 72) (.E 71))]) (.seq (.reg [oE 74 (.bin .eql (.V 13) (ki 6)),wE 73 74]) (.cond (.E 73) (.regD [(fV 75 0 3,0,1),(lE 76 75,0,1),(mV 77 4,0,0),(fV 78 0 3,0,1),(lE 79 78,0,1),(mV 80 4,0,0),(iE 81 1 79 80,0,1),(lE 82 81,0,1),(mV 83 0,0,0),(fV 84 0 3,0,0),(lE 85 84,0,0),(mV 86 4,0,0),(iE 87 1 85 86,0,0),(lE 88 87,0,0),(nE 89 88,0,0),(oE 90 (.bin .add (.E 89) (ki 1)),0,0),(oE 91 (.call zbc [([0],(.E 83)),([0],(.E 90))]),0,0),(oE 92 (.slice 1 (.E 82) none (some (.E 91)) none),0,0),(iE 93 1 76 77,0,0),(oN (.store [1] (.E 93) (.E 92)),0,0)]) .skip)))))))))))))))) (.seq (.reg [tV 94 2 3,oN (.store [1,1] (.V 2) (.E 94))]) .ret))))
def zgo:List RV:=[.cell [1,1] 2 true]
def ycl:List Nat:=[0,6,4,3,2]
def z0v:IC := .seq (.seq (.reg [mV 14 4,oE 15 (.bin .lss (.E 14) (ki 8))]) (.cond (.E 15) .skip (.exit 1))) (.seq (.block 2 (.reg [mV 18 3,oE 19 (.bin .mul (.E 18) (ki 256)),mV 20 0,oE 21 (.call zgl [([0],(.E 20))]),bE 22 .add 19 21,vE 3 22])) (.reg [mV 16 4,oE 17 (.bin .add (.E 16) (ki 1)),vE 4 17]))
def zlb:IC := .seq (.reg [oV 2 (.mv (ki 0))]) (.seq (.seq (.reg [mV 5 0,oV 6 (.call zbc [([0],(.E 5)),([0],(ki 4))])]) (.block 0 (.seq (.reg [oE 8 (.bin .eql (.V 6) (ki 0)),wE 7 8]) (.cond (.E 7) (.seq (.reg [mV 9 0,oE 10 (.bslice 14 1 [iv 0] [(0,(ki 0)),(1,(ki 1)),(2,(ki (-1))),(3,(ki 9)),(4,(ki 10)),(5,(ki 999)),(6,(ki 1000)),(7,(ki 2147483647)),(8,(ki (-2147483648))),(9,(ki 3037000499)),(10,(ki 3037000500)),(11,(ki 9223372036854775807)),(12,(ki (-9223372036854775807))),(13,(ki (-9223372036854775808)))]),oE 11 (.call zd3 [([0],(.E 9)),([1],(.E 10))]),vE 2 11]) .ret) (.seq (.reg [oE 13 (.bin .eql (.V 6) (ki 1)),wE 12 13]) (.cond (.E 12) (.seq (.reg [oV 3 (.mv (ki 0))]) (.seq (.seq (.reg [oV 4 (.mv (ki 0))]) (.block 1 (.loop z0v))) (.seq (.reg [mV 23 3,vE 2 23]) .ret))) (.seq (.reg [oE 25 (.bin .eql (.V 6) (ki 2)),wE 24 25]) (.cond (.E 24) (.seq (.reg [mV 26 0,oE 27 (.call zbc [([0],(.E 26)),([0],(ki 1000000))]),oE 28 (.bin .sub (.E 27) (ki 500000)),vE 2 28]) .ret) .skip)))))))) (.seq (.reg [mV 29 0,oE 30 (.call zbc [([0],(.E 29)),([0],(ki 41))]),oE 31 (.bin .sub (.E 30) (ki 20)),vE 2 31]) .ret))
def zlc:List RV:=[.tmp [0] 2]
def ycm:List Nat:=[0,1,2,3,22,21,20,12,10,14,13,8,9]
def zld:IC := .seq (.reg [oE 23 (.bin .lss (.V 22) (.V 21))]) (.seq (.cond (.E 23) .skip (.exit 0)) (.seq (.block 1 (.seq (.reg [oE 24 (.iaddr 1 (.V 20) (.V 22)),lE 25 24,vE 12 25]) (.seq (.seq (.reg [mV 26 12,mV 27 0,nE 28 27,mV 29 1,nE 30 29,oE 31 (.mx false (.E 28) (.E 30)),oE 32 (.bin .sub (.E 31) (ki 1)),oE 33 (.call zbw [([0],(.E 26)),([0],(ki 0)),([0],(.E 32))]),oE 34 (.un .not (.E 33)),wE 35 34,gE 36 35 .false (.mv (.V 0)),gE 37 35 .false (.mv (.V 12)),gE 38 35 .false (.iaddr 1 (.E 36) (.E 37)),gE 39 35 .false (.load false 1 (.E 38)),gE 40 35 .false (.mv (.V 3)),gE 41 35 .false (.bin .sub (.E 40) (ki 1)),gE 42 35 .false (.call zbw [([0],(.E 39)),([0],(ki 0)),([0],(.E 41))]),gE 43 35 .false (.un .not (.E 42)),oE 44 (.pick (.E 35) (kb true) (.E 43))]) (.cond (.E 44) (.seq (.reg [oV 8 (.mv (.C .e0)),oV 9 (.mv (kb false))]) .ret) .skip)) (.seq (.regD [(mV 46 10,0,0),(mV 47 0,0,0),(mV 48 12,0,0),(iE 49 1 47 48,0,0),(lE 50 49,0,0),(iE 51 2 46 50,0,0),(tE 52 2 51,0,0),(mV 53 1,0,0),(mV 54 12,0,0),(iE 55 1 53 54,0,0),(lE 56 55,0,0),(oE 57 (.build [iv 0,iv 0] [(0,1,(ki 1)),(1,1,(.E 56))]),0,0),(oE 58 (.call zja [([0,0],(.E 52)),([0,0],(.E 57))]),0,0),(wE 45 58,0,0),(xE 59 0 45,0,0),(xE 60 1 45,0,0),(oV 13 (.allocL [iv 0,iv 0]),0,0),(oN (.store [0,0] (.V 13) (.E 59)),0,0),(vE 14 60,0,0)]) (.seq (.seq (.reg [mV 61 14,oE 62 (.un .not (.E 61))]) (.cond (.E 62) (.seq (.reg [oV 8 (.mv (.C .e0)),oV 9 (.mv (kb false))]) .ret) .skip)) (.regD [(mV 63 10,0,0),(mV 64 0,0,0),(mV 65 12,0,0),(iE 66 1 64 65,0,0),(lE 67 66,0,0),(tV 68 2 13,0,0),(iE 69 2 63 67,0,0),(oN (.store [0,0] (.E 69) (.E 68)),0,0)])))))) (.reg [oE 70 (.bin .add (.V 22) (ki 1)),vE 22 70])))
def zp6:IC := .seq (.reg [oV 8 (.mv (.C .e0)),oV 9 (.mv (kb false))]) (.seq (.seq (.reg [mV 15 3,oE 16 (.call zbw [([0],(.E 15)),([0],(ki 1)),([0],(ki 8))]),oE 17 (.un .not (.E 16))]) (.cond (.E 17) (.seq (.reg [oV 8 (.mv (.C .e0)),oV 9 (.mv (kb false))]) .ret) .skip)) (.seq (.reg [mV 18 3,oE 19 (.mksl 16 2 [iv 0,iv 0] (.E 18) (.E 18)),vE 10 19]) (.seq (.seq (.reg [oV 20 (.mv (.V 2)),oV 21 (.len (.V 20)),oV 22 (.mv (ki 0))]) (.block 0 (.loop zld))) (.seq (.reg [mV 71 10,vE 8 71,oV 9 (.mv (kb true))]) .ret))))
def zp7:List RV:=[.tmp [2] 8,.tmp [0] 9]
def ycn:List Nat:=[0,1,2,3,4,7,9,8,10,12,11,6]
def ztp:IC := .seq (.reg [oV 3 (.box (.V 0)),oV 4 (.box (.V 1)),oV 6 (.mv (kb false))]) (.seq (.reg [tV 14 6 3,mV 15 2,oE 16 (.call zi7 [([0,0,0,0,0,0],(.E 14)),([0],(.E 15))]),wE 13 16,xE 17 0 13,xE 18 1 13,oV 7 (.alloc [(.v (.bool false)),(.v (.int .u64 0)),(.v (.int .u64 0)),iv 0]),oN (.store [0,0,0,0] (.V 7) (.E 17)),vE 8 18]) (.seq (.reg [tV 20 6 4,mV 21 2,oE 22 (.call zi7 [([0,0,0,0,0,0],(.E 20)),([0],(.E 21))]),wE 19 22,xE 23 0 19,xE 24 1 19,oV 9 (.alloc [(.v (.bool false)),(.v (.int .u64 0)),(.v (.int .u64 0)),iv 0]),oN (.store [0,0,0,0] (.V 9) (.E 23)),vE 10 24]) (.seq (.reg [tV 26 4 7,tV 27 4 9,oE 28 (.call zkd [([0,0,0,0],(.E 26)),([0,0,0,0],(.E 27))]),wE 25 28,xE 29 0 25,xE 30 1 25,vE 11 29,vE 12 30]) (.seq (.reg [mV 31 8,wE 32 31,gE 33 32 .true (.mv (.V 10)),oE 34 (.pick (.E 32) (.E 33) (kb false)),wE 35 34,gE 36 35 .true (.mv (.V 12)),oE 37 (.pick (.E 35) (.E 36) (kb false)),wE 38 37,gE 39 38 .true (.mv (.V 11)),gE 40 38 .true (.bin .gtr (.E 39) (ki 0)),gE 41 38 .true (.mv (.E 40)),gE 42 41 .false (.mv (.V 11)),gE 43 41 .false (.bin .eql (.E 42) (ki 0)),gE 44 41 .false (.mv (.E 43)),gE 45 44 .true (.load true 6 (.V 3)),gE 46 44 .true (.load true 6 (.V 4)),gE 47 44 .true (.call znn [([0,0,0,0,0,0],(.E 45)),([0,0,0,0,0,0],(.E 46))]),gE 48 41 .false (.pick (.E 44) (.E 47) (kb false)),gE 49 38 .true (.pick (.E 41) (kb true) (.E 48)),oE 50 (.pick (.E 38) (.E 49) (kb false)),vE 6 50]) .ret))))
def ztq:List RV:=[.tmp [0] 6]
def yco:List Nat:=[0,14,13,12,5,7,9,8,4,2,3]
def ztr:IC := .seq (.reg [oE 15 (.bin .lss (.V 14) (.V 13))]) (.seq (.cond (.E 15) .skip (.exit 0)) (.seq (.block 1 (.seq (.reg [oE 16 (.iaddr 2 (.V 12) (.V 14)),tE 17 2 16,oV 7 (.alloc [iv 0,iv 0]),oN (.store [0,0] (.V 7) (.E 17))]) (.seq (.reg [tV 19 2 5,tV 20 2 7,oE 21 (.call zja [([0,0],(.E 19)),([0,0],(.E 20))]),wE 18 21,xE 22 0 18,xE 23 1 18,oV 8 (.alloc [iv 0,iv 0]),oN (.store [0,0] (.V 8) (.E 22)),vE 9 23]) (.seq (.seq (.reg [mV 24 9,oE 25 (.un .not (.E 24))]) (.cond (.E 25) (.seq (.reg [oV 2 (.mv (.C .e0)),oV 3 (.mv (kb false))]) .ret) .skip)) (.regD [(tV 26 2 8,0,2),(mV 27 4,0,0),(tV 28 2 8,0,0),(oE 29 (.bslice 1 2 [iv 0,iv 0] [(0,(.E 28))]),0,0),(oE 30 (.app 16 2 (.E 27) (.E 29)),0,0),(oN (.store [0,0] (.V 5) (.E 26)),0,0),(vE 4 30,0,0)]))))) (.reg [oE 31 (.bin .add (.V 14) (ki 1)),vE 14 31])))
def zts:IC := .seq (.reg [oV 2 (.mv (.C .e0)),oV 3 (.mv (kb false))]) (.seq (.reg [oE 10 (.bslice 0 2 [iv 0,iv 0] []),oE 11 (.build [iv 0,iv 0] []),oV 5 (.alloc [iv 0,iv 0]),vE 4 10,oN (.store [0,0] (.V 5) (.E 11))]) (.seq (.seq (.reg [oV 12 (.mv (.V 0)),oV 13 (.len (.V 12)),oV 14 (.mv (ki 0))]) (.block 0 (.loop ztr))) (.seq (.reg [mV 32 4,vE 2 32,oV 3 (.mv (kb true))]) .ret)))
def ztt:List RV:=[.tmp [2] 2,.tmp [0] 3]
def ycp:List Nat:=[0,1,2,3,7,9,4,6,8,5]
def ztu:IC := .seq (.reg [oV 2 (.box (.V 0)),oV 3 (.box (.V 1)),oV 4 (.alloc [iv 0,iv 0]),oV 5 (.mv (kb false))]) (.seq (.reg [fV 11 0 2,lE 12 11,fV 13 0 3,lE 14 13,oE 15 (.call zkk [([0],(.E 12)),([0],(.E 14))]),wE 10 15,xE 16 0 10,xE 17 1 10,vE 6 16,vE 7 17]) (.seq (.reg [fV 19 1 2,lE 20 19,fV 21 1 3,lE 22 21,oE 23 (.call zkk [([0],(.E 20)),([0],(.E 22))]),wE 18 23,xE 24 0 18,xE 25 1 18,vE 8 24,vE 9 25]) (.seq (.seq (.reg [mV 26 7,oE 27 (.un .not (.E 26)),wE 28 27,gE 29 28 .false (.mv (.V 9)),gE 30 28 .false (.un .not (.E 29)),oE 31 (.pick (.E 28) (kb true) (.E 30))]) (.cond (.E 31) (.seq (.reg [oE 32 (.build [iv 0,iv 0] []),oN (.store [0,0] (.V 4) (.E 32)),oV 5 (.mv (kb false))]) .ret) .skip)) (.seq (.reg [mV 33 6,mV 34 8,oE 35 (.build [iv 0,iv 0] [(0,1,(.E 33)),(1,1,(.E 34))]),oN (.store [0,0] (.V 4) (.E 35)),oV 5 (.mv (kb true))]) .ret))))
def ztv:List RV:=[.cell [0,0] 4 true,.tmp [0] 5]
def ycq:List Nat:=[0,2]
def ztw:IC := .seq (.reg [oV 2 (.mv (kb false))]) (.seq (.reg [mV 3 0,oE 4 (.call znc [([0],(.E 3))]),oE 5 (.un .not (.E 4)),vE 2 5]) .ret)
def ztx:List RV:=[.tmp [0] 2]
def ycr:List Nat:=[0,2]
def zty:IC := .seq (.reg [oV 2 (.mv (kb false))]) (.seq (.reg [mV 3 0,oE 4 (.call zbw [([0],(.E 3)),([0],(ki (-1))),([0],(ki 1))]),vE 2 4]) .ret)
def ztz:List RV:=[.tmp [0] 2]
def ycs:List Nat:=[0,1,2,7,9,4,6,8,5]
def zt0:IC := .seq (.reg [oV 2 (.box (.V 0)),oV 4 (.alloc [(.v (.bool false)),(.v (.int .u64 0)),(.v (.int .u64 0)),iv 0]),oV 5 (.mv (kb false))]) (.seq (.reg [fV 11 2 2,tE 12 2 11,mV 13 1,oE 14 (.call zi8 [([0,0],(.E 12)),([0],(.E 13))]),wE 10 14,xE 15 0 10,xE 16 1 10,oV 6 (.alloc [(.v (.bool false)),(.v (.int .u64 0)),(.v (.int .u64 0)),iv 0]),oN (.store [0,0,0,0] (.V 6) (.E 15)),vE 7 16]) (.seq (.reg [fV 18 4 2,tE 19 2 18,mV 20 1,oE 21 (.call zi8 [([0,0],(.E 19)),([0],(.E 20))]),wE 17 21,xE 22 0 17,xE 23 1 17,oV 8 (.alloc [(.v (.bool false)),(.v (.int .u64 0)),(.v (.int .u64 0)),iv 0]),oN (.store [0,0,0,0] (.V 8) (.E 22)),vE 9 23]) (.seq (.seq (.reg [mV 24 7,oE 25 (.un .not (.E 24)),wE 26 25,gE 27 26 .false (.mv (.V 9)),gE 28 26 .false (.un .not (.E 27)),oE 29 (.pick (.E 26) (kb true) (.E 28))]) (.cond (.E 29) (.seq (.reg [oE 30 (.build [(.v (.bool false)),(.v (.int .u64 0)),(.v (.int .u64 0)),iv 0] []),oN (.store [0,0,0,0] (.V 4) (.E 30)),oV 5 (.mv (kb false))]) .ret) .skip)) (.seq (.reg [tV 31 4 6,tV 32 4 8,oE 33 (.call zno [([0,0,0,0],(.E 31)),([0,0,0,0],(.E 32))]),xE 34 0 33,xE 35 1 33,oN (.store [0,0,0,0] (.V 4) (.E 34)),vE 5 35]) .ret))))
def zt1:List RV:=[.cell [0,0,0,0] 4 true,.tmp [0] 5]
def yct:List Nat:=[0,1,2,3]
def zt2:IC := .seq (.reg [oV 1 (.box (.V 0)),oV 2 (.alloc [iv 0,iv 0]),oV 3 (.mv (kb false))]) (.seq (.reg [fV 4 2 1,tE 5 2 4,fV 6 4 1,tE 7 2 6,oE 8 (.call zja [([0,0],(.E 5)),([0,0],(.E 7))]),xE 9 0 8,xE 10 1 8,oN (.store [0,0] (.V 2) (.E 9)),vE 3 10]) .ret)
def zt3:List RV:=[.cell [0,0] 2 true,.tmp [0] 3]
def ycu:List Nat:=[0,1,2,4,5]
def zp8:IC := .seq (.reg [oV 2 (.box (.V 0)),oV 4 (.alloc [(.v (.bool false)),(.v (.int .u64 0)),(.v (.int .u64 0)),iv 0]),oV 5 (.mv (kb false))]) (.seq (.seq (.reg [fV 6 0 2,lE 7 6,mV 8 1,oE 9 (.call zkg [([0],(.E 7)),([0],(.E 8))]),oE 10 (.un .not (.E 9))]) (.cond (.E 10) (.seq (.reg [oE 11 (.build [(.v (.bool false)),(.v (.int .u64 0)),(.v (.int .u64 0)),iv 0] []),oN (.store [0,0,0,0] (.V 4) (.E 11)),oV 5 (.mv (kb false))]) .ret) .skip)) (.seq (.reg [fV 12 1 2,lE 13 12,fV 14 0 2,lE 15 14,mV 16 1,bE 17 .add 15 16,oE 18 (.call znp [([0],(.E 13)),([0],(.E 17))]),xE 19 0 18,xE 20 1 18,oN (.store [0,0,0,0] (.V 4) (.E 19)),vE 5 20]) .ret))
def zp9:List RV:=[.cell [0,0,0,0] 4 true,.tmp [0] 5]
def ycv:List Nat:=[0,1,2,3,8,6,7,4,5]
def zt4:IC := .seq (.reg [oV 2 (.box (.V 0)),oV 3 (.box (.V 1)),oV 4 (.mv (ki 0)),oV 5 (.mv (kb false))]) (.seq (.reg [tV 10 4 2,tV 11 4 3,oE 12 (.call zkl [([0,0,0,0],(.E 10)),([0,0,0,0],(.E 11))]),wE 9 12,xE 13 0 9,xE 14 1 9,xE 15 2 9,oV 6 (.alloc [(.v (.bool false)),(.v (.int .u64 0)),(.v (.int .u64 0))]),oV 7 (.alloc [(.v (.bool false)),(.v (.int .u64 0)),(.v (.int .u64 0))]),oN (.store [0,0,0] (.V 6) (.E 13)),oN (.store [0,0,0] (.V 7) (.E 14)),vE 8 15]) (.seq (.seq (.reg [mV 16 8,oE 17 (.un .not (.E 16))]) (.cond (.E 17) (.seq (.reg [oV 4 (.mv (ki 0)),oV 5 (.mv (kb false))]) .ret) .skip)) (.seq (.reg [tV 18 3 6,tV 19 3 7,oE 20 (.call znq [([0,0,0],(.E 18)),([0,0,0],(.E 19))]),vE 4 20,oV 5 (.mv (kb true))]) .ret)))
def zt5:List RV:=[.tmp [0] 4,.tmp [0] 5]
def ycw:List Nat:=[0,3,2]
def z0w:IC := .seq (.seq (.reg [mV 4 3,mV 5 0,nE 6 5,bE 7 .lss 4 6]) (.cond (.E 7) .skip (.exit 0))) (.seq (.block 1 (.seq (.regD [(mV 10 0,0,0),(mV 11 3,0,0),(iE 12 1 10 11,0,0),(lE 13 12,0,0),(oE 14 (.call zjb [([0],(.E 13))]),0,0),(oE 15 (.un .not (.E 14)),0,0),(wE 16 15,0,0),(gE 17 16 .false (.mv (.V 3)),0,0),(gE 18 16 .false (.bin .gtr (.E 17) (ki 0)),0,0),(gE 19 16 .false (.mv (.E 18)),0,0),(gE 20 19 .true (.mv (.V 0)),0,0),(gE 21 19 .true (.mv (.V 3)),0,0),(gE 22 19 .true (.bin .sub (.E 21) (ki 1)),0,0),(gE 23 19 .true (.iaddr 1 (.E 20) (.E 22)),0,0),(gE 24 19 .true (.load false 1 (.E 23)),0,0),(gE 25 19 .true (.mv (.V 0)),0,0),(gE 26 19 .true (.mv (.V 3)),0,0),(gE 27 19 .true (.iaddr 1 (.E 25) (.E 26)),0,0),(gE 28 19 .true (.load false 1 (.E 27)),0,0),(gE 29 19 .true (.bin .geq (.E 24) (.E 28)),0,0),(gE 30 16 .false (.pick (.E 19) (.E 29) (kb false)),0,0),(oE 31 (.pick (.E 16) (kb true) (.E 30)),0,0)]) (.cond (.E 31) (.seq (.reg [oV 2 (.mv (kb false))]) .ret) .skip))) (.reg [mV 8 3,oE 9 (.bin .add (.E 8) (ki 1)),vE 3 9]))
def zt6:IC := .seq (.reg [oV 2 (.mv (kb false))]) (.seq (.seq (.reg [oV 3 (.mv (ki 0))]) (.block 0 (.loop z0w))) (.seq (.reg [mV 32 0,nE 33 32,oE 34 (.bin .leq (.E 33) (ki 7)),vE 2 34]) .ret))
def zt7:List RV:=[.tmp [0] 2]
def ycx:List Nat:=[0,1,2]
def zt8:IC := .seq (.reg [oV 1 (.box (.V 0)),oV 2 (.mv (.C .e0))]) (.seq (.reg [fV 3 0 1,lE 4 3,fV 5 1 1,lE 6 5,fV 7 2 1,lE 8 7,fV 9 3 1,lE 10 9,fV 11 4 1,lE 12 11,oE 13 (.bslice 5 1 [iv 0] [(0,(.E 4)),(1,(.E 6)),(2,(.E 8)),(3,(.E 10)),(4,(.E 12))]),vE 2 13]) .ret)
def zt9:List RV:=[.tmp [1] 2]
def ycy:List Nat:=[0]
def zua:IC := .seq (.reg [oV 0 (.mv (.C .e0))]) (.seq (.reg [oE 1 (.bslice 5 1 [iv 0] [(0,(ki 1)),(1,(ki 0)),(2,(ki 2)),(3,(ki 1)),(4,(ki 1))]),vE 0 1]) .ret)
def zub:List RV:=[.tmp [1] 0]
def ycz:List Nat:=[0]
def zuc:IC := .seq (.reg [oV 0 (.mv (.C .e0))]) (.seq (.reg [oE 1 (.bslice 5 1 [iv 0] [(0,(ki 8)),(1,(ki 4)),(2,(ki 8)),(3,(ki 100)),(4,(ki 20))]),vE 0 1]) .ret)
def zud:List RV:=[.tmp [1] 0]
def yc0:List Nat:=[0,3,2]
def z0x:IC := .seq (.seq (.reg [mV 4 3,mV 5 0,nE 6 5,bE 7 .lss 4 6]) (.cond (.E 7) .skip (.exit 0))) (.seq (.block 1 (.seq (.regD [(mV 10 0,0,0),(mV 11 3,0,0),(oE 12 (.bin .sub (.E 11) (ki 1)),0,0),(iE 13 1 10 12,0,0),(lE 14 13,0,0),(mV 15 0,0,0),(mV 16 3,0,0),(iE 17 1 15 16,0,0),(lE 18 17,0,0),(bE 19 .geq 14 18,0,0)]) (.cond (.E 19) (.seq (.reg [oV 2 (.mv (kb false))]) .ret) .skip))) (.reg [mV 8 3,oE 9 (.bin .add (.E 8) (ki 1)),vE 3 9]))
def zue:IC := .seq (.reg [oV 2 (.mv (kb false))]) (.seq (.seq (.reg [oV 3 (.mv (ki 1))]) (.block 0 (.loop z0x))) (.seq (.reg [mV 20 0,nE 21 20,oE 22 (.bin .leq (.E 21) (ki 7)),wE 23 22,gE 24 23 .true (.mv (.V 0)),gE 25 23 .true (.call znr [([1],(.E 24))]),oE 26 (.pick (.E 23) (.E 25) (kb false)),vE 2 26]) .ret))
def zuf:List RV:=[.tmp [0] 2]
def yc1:List Nat:=[0,1,3]
def zug:IC := .seq (.reg [oV 3 (.mv (kb false))]) (.seq (.reg [mV 4 0,oE 5 (.load false 1 (.V 1)),nE 6 5,oE 7 (.call zbw [([0],(.E 4)),([0],(ki 0)),([0],(.E 6))]),oE 8 (.un .not (.E 7)),vE 3 8]) .ret)
def zuh:List RV:=[.tmp [0] 3]
def yc2:List Nat:=[0,1,8,7,5,4]
def zxp:IC := .seq (.reg [oE 9 (.bin .lss (.V 8) (.V 7))]) (.seq (.cond (.E 9) .skip (.exit 0)) (.seq (.block 1 (.seq (.reg [mV 10 8,vE 5 10]) (.seq (.reg [mV 11 1,mV 12 0,mV 13 5,iE 14 1 12 13,lE 15 14,oE 16 (.callv (.E 11) [([0],(.E 15))])]) (.cond (.E 16) (.seq (.reg [mV 17 5,vE 4 17]) .ret) .skip)))) (.reg [oE 18 (.bin .add (.V 8) (ki 1)),vE 8 18])))
def zqa:IC := .seq (.reg [oV 4 (.mv (ki 0))]) (.seq (.seq (.reg [mV 6 0,oV 7 (.len (.E 6)),oV 8 (.mv (ki 0))]) (.block 0 (.loop zxp))) (.seq (.reg [oV 4 (.mv (ki (-1)))]) .ret))
def zqb:List RV:=[.tmp [0] 4]
def yc3:List Nat:=[0,1,4]
def zui:IC := .seq (.reg [oV 4 (.mv (kb false))]) (.seq (.reg [mV 5 0,oE 6 (.call zbw [([0],(.E 5)),([0],(ki 0)),([0],(ki 40))]),wE 7 6,gE 8 7 .true (.mv (.V 1)),gE 9 7 .true (.call zbw [([0],(.E 8)),([0],(ki 1)),([0],(ki 100))]),oE 10 (.pick (.E 7) (.E 9) (kb false)),vE 4 10]) .ret)
def zuj:List RV:=[.tmp [0] 4]
def yc4:List Nat:=[0,1,2]
def zuk:IC := .seq (.reg [oV 1 (.box (.V 0)),oV 2 (.mv (kb false))]) (.seq (.reg [fV 3 0 1,lE 4 3,fV 5 1 1,lE 6 5,bE 7 .leq 4 6,wE 8 7,gE 9 8 .true (.faddr 0 (.V 1)),gE 10 8 .true (.load false 1 (.E 9)),gE 11 8 .true (.call zkm [([0],(.E 10))]),oE 12 (.pick (.E 8) (.E 11) (kb false)),wE 13 12,gE 14 13 .true (.faddr 1 (.V 1)),gE 15 13 .true (.load false 1 (.E 14)),gE 16 13 .true (.call zkm [([0],(.E 15))]),oE 17 (.pick (.E 13) (.E 16) (kb false)),vE 2 17]) .ret)
def zul:List RV:=[.tmp [0] 2]
def yc5:List Nat:=[0,1,6,4,5]
def zum:IC := .seq (.reg [oV 4 (.mv (ki 0)),oV 5 (.mv (kb false))]) (.seq (.seq (.reg [mV 7 1,oE 8 (.bin .eql (.E 7) (ki 0)),wE 9 8,gE 10 9 .false (.mv (.V 0)),gE 11 9 .false (.bin .eql (.E 10) (ki (-9223372036854775808))),gE 12 9 .false (.mv (.E 11)),gE 13 12 .true (.mv (.V 1)),gE 14 12 .true (.bin .eql (.E 13) (ki (-1))),gE 15 9 .false (.pick (.E 12) (.E 14) (kb false)),oE 16 (.pick (.E 9) (kb true) (.E 15))]) (.cond (.E 16) (.seq (.reg [oV 4 (.mv (ki 0)),oV 5 (.mv (kb false))]) .ret) .skip)) (.seq (.reg [mV 17 0,mV 18 1,bE 19 .quo 17 18,vE 6 19]) (.seq (.seq (.reg [mV 20 0,mV 21 1,bE 22 .rem 20 21,oE 23 (.bin .neq (.E 22) (ki 0)),wE 24 23,gE 25 24 .true (.mv (.V 0)),gE 26 24 .true (.bin .lss (.E 25) (ki 0)),gE 27 24 .true (.mv (.V 1)),gE 28 24 .true (.bin .lss (.E 27) (ki 0)),gE 29 24 .true (.eqb true [.b] (.E 26) (.E 28)),oE 30 (.pick (.E 24) (.E 29) (kb false))]) (.cond (.E 30) (.reg [mV 31 6,oE 32 (.bin .sub (.E 31) (ki 1)),vE 6 32]) .skip)) (.seq (.reg [mV 33 6,vE 4 33,oV 5 (.mv (kb true))]) .ret))))
def zun:List RV:=[.tmp [0] 4,.tmp [0] 5]
def yc6:List Nat:=[0,1,2,6]
def zqc:IC := .seq (.reg [oV 6 (.mv (ki 0))]) (.seq (.block 0 (.seq (.reg [mV 8 0,mV 9 1,bE 10 .lss 8 9,wE 7 10]) (.cond (.E 7) (.seq (.reg [mV 11 1,vE 6 11]) .ret) (.seq (.reg [mV 13 0,mV 14 2,bE 15 .gtr 13 14,wE 12 15]) (.cond (.E 12) (.seq (.reg [mV 16 2,vE 6 16]) .ret) .skip))))) (.seq (.reg [mV 17 0,vE 6 17]) .ret))
def zqd:List RV:=[.tmp [0] 6]
def yc7:List Nat:=[0,1,4]
def zuo:IC := .seq (.reg [oV 4 (.mv (ki 0))]) (.seq (.reg [mV 5 0,oE 6 (.bin .shr (.E 5) (.C (.v (.int .u64 1)))),mV 7 1,oE 8 (.bin .shr (.E 7) (.C (.v (.int .u64 1)))),bE 9 .add 6 8,mV 10 0,mV 11 1,bE 12 .and 10 11,oE 13 (.bin .and (.E 12) (ki 1)),bE 14 .add 9 13,vE 4 14]) .ret)
def zup:List RV:=[.tmp [0] 4]
def yc8:List Nat:=[0,2]
def zuq:IC := .seq (.reg [oV 2 (.mv (kb false))]) (.seq (.reg [mV 3 0,oE 4 (.call zb6 [([0],(.E 3)),([0],(ki (-1099511627776))),([0],(ki 1099511627776))]),vE 2 4]) .ret)
def zur:List RV:=[.tmp [0] 2]
def yc9:List Nat:=[0,1,2,5,4,6,7,10,9,8]
def zus:IC := .seq (.seq (.reg [mV 35 10,mV 36 7,nE 37 36,bE 38 .lss 35 37]) (.cond (.E 38) .skip (.exit 2))) (.seq (.block 3 (.reg [mV 41 9,mV 42 8,mV 43 7,mV 44 10,iE 45 1 43 44,lE 46 45,oE 47 (.call znv [([1],(.E 42)),([0],(.E 46))]),oE 48 (.bslice 1 1 [iv 0] [(0,(.E 47))]),oE 49 (.app 8 1 (.E 41) (.E 48)),vE 9 49])) (.reg [mV 39 10,oE 40 (.bin .add (.E 39) (ki 1)),vE 10 40]))
def zxq:IC := .seq (.seq (.reg [mV 21 6,fV 22 0 2,lE 23 22,nE 24 23,bE 25 .lss 21 24]) (.cond (.E 25) .skip (.exit 0))) (.seq (.block 1 (.seq (.reg [tV 28 4 2,mV 29 6,oE 30 (.call znt [([1,0,1,1],(.E 28)),([0],(.E 29))]),vE 7 30]) (.seq (.reg [mV 31 7,mV 32 1,oE 33 (.call znu [([1],(.E 31)),([0],(.E 32))]),vE 8 33]) (.seq (.reg [oE 34 (.bslice 0 1 [iv 0] []),vE 9 34]) (.seq (.seq (.reg [oV 10 (.mv (ki 0))]) (.block 2 (.loop zus))) (.seq (.reg [fV 50 0 5,lE 51 50,mV 52 8,oE 53 (.bslice 1 1 [(.own 1 [])] [(0,(.E 52))]),oE 54 (.app 24 1 (.E 51) (.E 53)),fV 55 0 5,oN (.store [1] (.E 55) (.E 54))]) (.reg [fV 56 1 5,lE 57 56,mV 58 9,oE 59 (.bslice 1 1 [(.own 1 [])] [(0,(.E 58))]),oE 60 (.app 24 1 (.E 57) (.E 59)),fV 61 1 5,oN (.store [1] (.E 61) (.E 60))]))))))) (.reg [mV 26 6,oE 27 (.bin .add (.E 26) (ki 1)),vE 6 27]))
def zut:IC := .seq (.reg [oV 2 (.box (.V 0)),oV 4 (.alloc [.e0,.e0])]) (.seq (.reg [oE 11 (.build [.e0,.e0] []),oV 5 (.alloc [.e0,.e0]),oN (.store [1,1] (.V 5) (.E 11))]) (.seq (.seq (.reg [tV 12 4 2,oE 13 (.call zns [([1,0,1,1],(.E 12))]),oE 14 (.un .not (.E 13)),wE 15 14,gE 16 15 .false (.mv (.V 1)),gE 17 15 .false (.call zb6 [([0],(.E 16)),([0],(ki 2)),([0],(ki 8))]),gE 18 15 .false (.un .not (.E 17)),oE 19 (.pick (.E 15) (kb true) (.E 18))]) (.cond (.E 19) (.seq (.reg [tV 20 2 5,oN (.store [1,1] (.V 4) (.E 20))]) .ret) .skip)) (.seq (.seq (.reg [oV 6 (.mv (ki 0))]) (.block 0 (.loop zxq))) (.seq (.reg [tV 62 2 5,oN (.store [1,1] (.V 4) (.E 62))]) .ret))))
def zuu:List RV:=[.cell [1,1] 4 true]
def yda:List Nat:=[0,3,7,5,9,6,8,10,4,11,2]
def zqe:IC := .seq (.seq (.reg [mV 37 9,mV 38 3,bE 39 .lss 37 38]) (.cond (.E 39) .skip (.exit 2))) (.seq (.block 3 (.seq (.reg [mV 42 0,oE 43 (.call zi9 [([0],(.E 42))]),vE 10 43]) (.seq (.seq (.reg [mV 44 6,oE 45 (.un .not (.E 44))]) (.cond (.E 45) (.reg [mV 46 0,oE 47 (.call zbc [([0],(.E 46)),([0],(ki 7))]),oE 48 (.bin .sub (.E 47) (ki 3)),oE 49 (.bin .mul (ki 500) (.E 48)),vE 10 49]) .skip)) (.reg [mV 50 8,mV 51 10,oE 52 (.bslice 1 1 [iv 0] [(0,(.E 51))]),oE 53 (.app 8 1 (.E 50) (.E 52)),vE 8 53])))) (.reg [mV 40 9,oE 41 (.bin .add (.E 40) (ki 1)),vE 9 41]))
def zuv:IC := .seq (.seq (.reg [mV 31 7,mV 32 5,bE 33 .lss 31 32]) (.cond (.E 33) .skip (.exit 0))) (.seq (.block 1 (.seq (.reg [oE 36 (.bslice 0 1 [iv 0] []),vE 8 36]) (.seq (.seq (.reg [oV 9 (.mv (ki 0))]) (.block 2 (.loop zqe))) (.seq (.reg [fV 54 2 4,lE 55 54,mV 56 8,oE 57 (.bslice 1 1 [(.own 1 [])] [(0,(.E 56))]),oE 58 (.app 24 1 (.E 55) (.E 57)),fV 59 2 4,oN (.store [1] (.E 59) (.E 58))]) (.seq (.reg [mV 60 0,oE 61 (.call zi9 [([0],(.E 60))]),vE 11 61]) (.seq (.seq (.reg [mV 62 6,oE 63 (.un .not (.E 62)),wE 64 63,gE 65 64 .true (.mv (.V 0)),gE 66 64 .true (.call zdo [([0],(.E 65)),([0],(ki 4))]),gE 67 64 .true (.un .not (.E 66)),oE 68 (.pick (.E 64) (.E 67) (kb false))]) (.cond (.E 68) (.regD [(mV 69 8,0,0),(oE 70 (.iaddr 1 (.E 69) (ki 0)),0,1),(lE 71 70,0,1),(oE 72 (.bin .mul (.E 71) (ki 2)),0,0),(mV 73 0,0,0),(oE 74 (.call zbc [([0],(.E 73)),([0],(ki 5))]),0,0),(oE 75 (.bin .mul (ki 100) (.E 74)),0,0),(bE 76 .add 72 75,0,0),(vE 11 76,0,0)]) .skip)) (.reg [fV 77 3 4,lE 78 77,mV 79 11,oE 80 (.bslice 1 1 [iv 0] [(0,(.E 79))]),oE 81 (.app 8 1 (.E 78) (.E 80)),fV 82 3 4,oN (.store [1] (.E 82) (.E 81))]))))))) (.reg [mV 34 7,oE 35 (.bin .add (.E 34) (ki 1)),vE 7 35]))
def zqf:IC := .seq (.reg [oV 2 (.alloc [.e0,(.v (.string (bs []))),.e0,.e0])]) (.seq (.reg [mV 12 0,oE 13 (.call zbc [([0],(.E 12)),([0],(ki 3))]),oE 14 (.bin .add (ki 1) (.E 13)),vE 3 14]) (.seq (.reg [oE 15 (.bslice 0 1 [(.v (.string (bs [])))] []),oE 16 (.bslice 4 1 [(.v (.string (bs [])))] [(0,(.C (.v (.string (bs [97]))))),(1,(.C (.v (.string (bs [98]))))),(2,(.C (.v (.string (bs [99,50]))))),(3,(.C (.v (.string (bs [100])))))]),mV 17 3,oE 18 (.slice 1 (.E 16) none (some (.E 17)) none),oE 19 (.app 16 1 (.E 15) (.E 18)),oE 20 (.build [.e0,(.v (.string (bs []))),.e0,.e0] [(0,1,(.E 19)),(1,1,(.C (.v (.string (bs [121])))))]),oV 4 (.alloc [.e0,(.v (.string (bs []))),.e0,.e0]),oN (.store [1,0,1,1] (.V 4) (.E 20))]) (.seq (.reg [mV 21 0,oE 22 (.call zbc [([0],(.E 21)),([0],(ki 9))]),oE 23 (.bin .add (ki 1) (.E 22)),vE 5 23]) (.seq (.seq (.reg [mV 24 0,oE 25 (.call zdo [([0],(.E 24)),([0],(ki 10))])]) (.cond (.E 25) (.reg [mV 26 0,oE 27 (.call zbc [([0],(.E 26)),([0],(ki 40))]),oE 28 (.bin .add (ki 1) (.E 27)),vE 5 28]) .skip)) (.seq (.reg [mV 29 0,oE 30 (.call zdo [([0],(.E 29)),([0],(ki 12))]),vE 6 30]) (.seq (.seq (.reg [oV 7 (.mv (ki 0))]) (.block 0 (.loop zuv))) (.seq (.reg [tV 83 4 4,oN (.store [1,0,1,1] (.V 2) (.E 83))]) .ret)))))))
def zjh:List RV:=[.cell [1,0,1,1] 2 true]
def ydb:List Nat:=[0,3,2]
def zqg:IC := .seq (.reg [oV 2 (.mv (ki 0))]) (.seq (.reg [mV 4 0,mV 5 0,oE 6 (.nilc (.E 5)),fE 7 2 6,lE 8 7,oE 9 (.bin .mul (.E 8) (ki 6364136223846793005)),oE 10 (.bin .add (.E 9) (ki 1442695040888963407)),oE 11 (.nilc (.E 4)),fE 12 2 11,oN (.store [0] (.E 12) (.E 10))]) (.seq (.regD [(mV 13 0,0,0),(oE 14 (.nilc (.E 13)),0,0),(fE 15 2 14,0,0),(lE 16 15,0,0),(oE 17 (.bin .shr (.E 16) (.C (.v (.int .u64 33)))),0,0),(mV 18 0,0,0),(oE 19 (.nilc (.E 18)),0,0),(fE 20 2 19,0,0),(lE 21 20,0,0),(oE 22 (.bin .shr (.E 21) (.C (.v (.int .u64 45)))),0,0),(bE 23 .xor 17 22,0,0),(oE 24 (.bin .and (.E 23) (ki 255)),0,0),(vE 3 24,0,0)]) (.seq (.seq (.regD [(mV 25 0,0,0),(oE 26 (.nilc (.E 25)),0,0),(fE 27 1 26,0,0),(lE 28 27,0,0),(mV 29 0,0,0),(oE 30 (.nilc (.E 29)),0,0),(fE 31 0 30,0,0),(lE 32 31,0,0),(nE 33 32,0,0),(bE 34 .lss 28 33,0,0)]) (.cond (.E 34) (.seq (.regD [(mV 35 3,0,0),(mV 36 0,0,0),(oE 37 (.nilc (.E 36)),0,0),(fE 38 0 37,0,0),(lE 39 38,0,0),(mV 40 0,0,0),(oE 41 (.nilc (.E 40)),0,0),(fE 42 1 41,0,0),(lE 43 42,0,0),(iE 44 1 39 43,0,0),(lE 45 44,0,0),(oE 46 (.convI .i64 (.E 45)),0,0),(bE 47 .add 35 46,0,0),(oE 48 (.bin .and (.E 47) (ki 255)),0,0),(vE 3 48,0,0)]) (.reg [mV 49 0,mV 50 0,oE 51 (.nilc (.E 50)),fE 52 1 51,lE 53 52,oE 54 (.bin .add (.E 53) (ki 1)),oE 55 (.nilc (.E 49)),fE 56 1 55,oN (.store [0] (.E 56) (.E 54))])) .skip)) (.seq (.reg [mV 57 3,vE 2 57]) .ret))))
def zqh:List RV:=[.tmp [0] 2]
def ydc:List Nat:=[0,2]
def zob:IC := .seq (.reg [oV 2 (.mv (ki 0))]) (.seq (.seq (.reg [mV 3 0,oE 4 (.call zdo [([0],(.E 3)),([0],(ki 20))])]) (.cond (.E 4) (.seq (.reg [mV 5 0,oE 6 (.bslice 5 1 [iv 0] [(0,(ki 2147483647)),(1,(ki (-2147483647))),(2,(ki 1)),(3,(ki (-1))),(4,(ki 1000000000))]),oE 7 (.call zd3 [([0],(.E 5)),([1],(.E 6))]),vE 2 7]) .ret) .skip)) (.seq (.seq (.reg [mV 8 0,oE 9 (.call zdo [([0],(.E 8)),([0],(ki 2))])]) (.cond (.E 9) (.seq (.reg [mV 10 0,oE 11 (.call zbc [([0],(.E 10)),([0],(ki 9))]),oE 12 (.bin .sub (.E 11) (ki 4)),oE 13 (.bin .mul (ki 1000) (.E 12)),vE 2 13]) .ret) .skip)) (.seq (.reg [mV 14 0,oE 15 (.call zbc [([0],(.E 14)),([0],(ki 41))]),oE 16 (.bin .sub (.E 15) (ki 20)),oE 17 (.bin .mul (ki 250) (.E 16)),vE 2 17]) .ret)))
def zoc:List RV:=[.tmp [0] 2]
def ydd:List Nat:=[0,1,2,3,7,9,4,6,8,5]
def zuw:IC := .seq (.reg [oV 2 (.box (.V 0)),oV 3 (.box (.V 1)),oV 4 (.alloc [iv 0,iv 0]),oV 5 (.mv (kb false))]) (.seq (.reg [fV 11 0 2,lE 12 11,fV 13 0 3,lE 14 13,oE 15 (.call zkn [([0],(.E 12)),([0],(.E 14))]),wE 10 15,xE 16 0 10,xE 17 1 10,vE 6 16,vE 7 17]) (.seq (.reg [fV 19 1 2,lE 20 19,fV 21 1 3,lE 22 21,oE 23 (.call zkn [([0],(.E 20)),([0],(.E 22))]),wE 18 23,xE 24 0 18,xE 25 1 18,vE 8 24,vE 9 25]) (.seq (.seq (.reg [mV 26 7,oE 27 (.un .not (.E 26)),wE 28 27,gE 29 28 .false (.mv (.V 9)),gE 30 28 .false (.un .not (.E 29)),oE 31 (.pick (.E 28) (kb true) (.E 30))]) (.cond (.E 31) (.seq (.reg [oE 32 (.build [iv 0,iv 0] []),oN (.store [0,0] (.V 4) (.E 32)),oV 5 (.mv (kb false))]) .ret) .skip)) (.seq (.reg [mV 33 6,mV 34 8,oE 35 (.build [iv 0,iv 0] [(0,1,(.E 33)),(1,1,(.E 34))]),oN (.store [0,0] (.V 4) (.E 35)),oV 5 (.mv (kb true))]) .ret))))
def zux:List RV:=[.cell [0,0] 4 true,.tmp [0] 5]
def yde:List Nat:=[0,1,2,3,4]
def zuy:IC := .seq (.reg [oV 2 (.box (.V 0)),oV 3 (.box (.V 1)),oV 4 (.mv (kb false))]) (.seq (.regD [(fV 5 0 2,0,0),(lE 6 5,0,0),(fV 7 0 3,0,0),(lE 8 7,0,0),(oE 9 (.call zkp [([0],(.E 6)),([0],(.E 8))]),0,0),(fV 10 1 2,1,0),(lE 11 10,1,0),(fV 12 1 3,1,0),(lE 13 12,1,0),(oE 14 (.call zkp [([0],(.E 11)),([0],(.E 13))]),0,0),(oE 15 (.bslice 2 1 [iv 0] [(0,(.E 9)),(1,(.E 14))]),0,0),(oE 16 (.call zko [([1],(.E 15))]),0,0),(oE 17 (.bin .lss (.E 16) (ki 0)),0,0),(vE 4 17,0,0)]) .ret)
def zuz:List RV:=[.tmp [0] 4]
def ydf:List Nat:=[0,1,6,4,5]
def zh6:IC := .seq (.reg [oV 4 (.mv (ki 0)),oV 5 (.mv (kb false))]) (.seq (.reg [mV 7 0,mV 8 1,bE 9 .sub 7 8,vE 6 9]) (.seq (.seq (.reg [mV 10 0,oE 11 (.bin .lss (.E 10) (ki 0)),mV 12 1,oE 13 (.bin .lss (.E 12) (ki 0)),oE 14 (.eqb true [.b] (.E 11) (.E 13)),wE 15 14,gE 16 15 .true (.mv (.V 6)),gE 17 15 .true (.bin .lss (.E 16) (ki 0)),gE 18 15 .true (.mv (.V 0)),gE 19 15 .true (.bin .lss (.E 18) (ki 0)),gE 20 15 .true (.eqb true [.b] (.E 17) (.E 19)),oE 21 (.pick (.E 15) (.E 20) (kb false))]) (.cond (.E 21) (.seq (.reg [oV 4 (.mv (ki 0)),oV 5 (.mv (kb false))]) .ret) .skip)) (.seq (.reg [mV 22 6,vE 4 22,oV 5 (.mv (kb true))]) .ret)))
def zh7:List RV:=[.tmp [0] 4,.tmp [0] 5]
def ydg:List Nat:=[0,1,2,3,8,4,6,7,9,5]
def zqi:IC := .seq (.reg [oV 2 (.box (.V 0)),oV 3 (.box (.V 1)),oV 4 (.alloc [(.v (.bool false)),(.v (.int .u64 0)),(.v (.int .u64 0)),iv 0]),oV 5 (.mv (kb false))]) (.seq (.reg [tV 11 4 2,tV 12 4 3,oE 13 (.call zkl [([0,0,0,0],(.E 11)),([0,0,0,0],(.E 12))]),wE 10 13,xE 14 0 10,xE 15 1 10,xE 16 2 10,oV 6 (.alloc [(.v (.bool false)),(.v (.int .u64 0)),(.v (.int .u64 0))]),oV 7 (.alloc [(.v (.bool false)),(.v (.int .u64 0)),(.v (.int .u64 0))]),oN (.store [0,0,0] (.V 6) (.E 14)),oN (.store [0,0,0] (.V 7) (.E 15)),vE 8 16]) (.seq (.seq (.reg [mV 17 8,oE 18 (.un .not (.E 17))]) (.cond (.E 18) (.seq (.reg [oE 19 (.build [(.v (.bool false)),(.v (.int .u64 0)),(.v (.int .u64 0)),iv 0] []),oN (.store [0,0,0,0] (.V 4) (.E 19)),oV 5 (.mv (kb false))]) .ret) .skip)) (.seq (.reg [tV 21 3 6,tV 22 3 7,oE 23 (.call znw [([0,0,0],(.E 21)),([0,0,0],(.E 22))]),wE 20 23,xE 24 0 20,xE 25 1 20,oV 9 (.alloc [(.v (.bool false)),(.v (.int .u64 0)),(.v (.int .u64 0))]),oN (.store [0,0,0] (.V 9) (.E 24)),vE 8 25]) (.seq (.seq (.reg [mV 26 8,oE 27 (.un .not (.E 26))]) (.cond (.E 27) (.seq (.reg [oE 28 (.build [(.v (.bool false)),(.v (.int .u64 0)),(.v (.int .u64 0)),iv 0] []),oN (.store [0,0,0,0] (.V 4) (.E 28)),oV 5 (.mv (kb false))]) .ret) .skip)) (.seq (.reg [tV 29 3 9,fV 30 3 2,lE 31 30,fV 32 3 3,lE 33 32,bE 34 .mul 31 33,oE 35 (.call zkq [([0,0,0],(.E 29)),([0],(.E 34))]),xE 36 0 35,xE 37 1 35,oN (.store [0,0,0,0] (.V 4) (.E 36)),vE 5 37]) .ret)))))
def zqj:List RV:=[.cell [0,0,0,0] 4 true,.tmp [0] 5]
def ydh:List Nat:=[0,1,4,5]
def zu0:IC := .seq (.reg [oV 4 (.alloc [(.v (.bool false)),(.v (.int .u64 0)),(.v (.int .u64 0)),iv 0]),oV 5 (.mv (kb false))]) (.seq (.reg [mV 6 0,mV 7 0,oE 8 (.call znx [([0],(.E 6)),([0],(.E 7))]),mV 9 1,oE 10 (.call zkq [([0,0,0],(.E 8)),([0],(.E 9))]),xE 11 0 10,xE 12 1 10,oN (.store [0,0,0,0] (.V 4) (.E 11)),vE 5 12]) .ret)
def zu1:List RV:=[.cell [0,0,0,0] 4 true,.tmp [0] 5]
def ydi:List Nat:=[0,1,2,3,4,5,7,9,8,10,6]
def zu2:IC := .seq (.reg [oV 2 (.box (.V 0)),oV 3 (.box (.V 1)),oV 4 (.alloc [(.v (.bool false)),(.v (.int .u64 0)),(.v (.int .u64 0))]),oV 5 (.alloc [(.v (.bool false)),(.v (.int .u64 0)),(.v (.int .u64 0))]),oV 6 (.mv (kb false))]) (.seq (.seq (.reg [tV 11 4 2,oE 12 (.call zjc [([0,0,0,0],(.E 11))]),oE 13 (.un .not (.E 12)),wE 14 13,gE 15 14 .false (.load true 4 (.V 3)),gE 16 14 .false (.call zjc [([0,0,0,0],(.E 15))]),gE 17 14 .false (.un .not (.E 16)),oE 18 (.pick (.E 14) (kb true) (.E 17))]) (.cond (.E 18) (.seq (.reg [oE 19 (.build [(.v (.bool false)),(.v (.int .u64 0)),(.v (.int .u64 0))] []),oE 20 (.build [(.v (.bool false)),(.v (.int .u64 0)),(.v (.int .u64 0))] []),oN (.store [0,0,0] (.V 4) (.E 19)),oN (.store [0,0,0] (.V 5) (.E 20)),oV 6 (.mv (kb false))]) .ret) .skip)) (.seq (.reg [fV 22 0 2,tE 23 3 22,fV 24 3 3,lE 25 24,oE 26 (.call zkr [([0,0,0],(.E 23)),([0],(.E 25))]),wE 21 26,xE 27 0 21,xE 28 1 21,oV 7 (.alloc [(.v (.bool false)),(.v (.int .u64 0)),(.v (.int .u64 0))]),oN (.store [0,0,0] (.V 7) (.E 27)),vE 8 28]) (.seq (.reg [fV 30 0 3,tE 31 3 30,fV 32 3 2,lE 33 32,oE 34 (.call zkr [([0,0,0],(.E 31)),([0],(.E 33))]),wE 29 34,xE 35 0 29,xE 36 1 29,oV 9 (.alloc [(.v (.bool false)),(.v (.int .u64 0)),(.v (.int .u64 0))]),oN (.store [0,0,0] (.V 9) (.E 35)),vE 10 36]) (.seq (.regD [(tV 37 3 7,0,0),(tV 38 3 9,0,1),(mV 39 8,0,0),(wE 40 39,0,0),(gE 41 40 .true (.mv (.V 10)),0,0),(oE 42 (.pick (.E 40) (.E 41) (kb false)),0,0),(oN (.store [0,0,0] (.V 4) (.E 37)),0,0),(oN (.store [0,0,0] (.V 5) (.E 38)),0,0),(vE 6 42,0,0)]) .ret))))
def zu3:List RV:=[.cell [0,0,0] 4 true,.cell [0,0,0] 5 true,.tmp [0] 6]
def ydj:List Nat:=[0,1,2,3,4]
def zu4:IC := .seq (.reg [oV 2 (.box (.V 0)),oV 3 (.box (.V 1)),oV 4 (.mv (ki 0))]) (.seq (.regD [(fV 5 0 2,0,0),(lE 6 5,0,0),(fV 7 1 2,0,0),(lE 8 7,0,0),(fV 9 2 2,0,0),(lE 10 9,0,0),(oE 11 (.call zfw [([0],(.E 6)),([0],(.E 8)),([0],(.E 10))]),0,0),(fV 12 0 3,1,0),(lE 13 12,1,0),(fV 14 1 3,1,0),(lE 15 14,1,0),(fV 16 2 3,1,0),(lE 17 16,1,0),(oE 18 (.call zfw [([0],(.E 13)),([0],(.E 15)),([0],(.E 17))]),0,0),(oN (.store [0,0,0] (.V 2) (.E 11)),0,0),(oN (.store [0,0,0] (.V 3) (.E 18)),0,0)]) (.seq (.block 0 (.seq (.reg [fV 20 0 2,lE 21 20,wE 22 21,gE 23 22 .true (.faddr 0 (.V 3)),gE 24 22 .true (.load false 1 (.E 23)),gE 25 22 .true (.un .not (.E 24)),oE 26 (.pick (.E 22) (.E 25) (kb false)),wE 19 26]) (.cond (.E 19) (.seq (.reg [oV 4 (.mv (ki (-1)))]) .ret) (.seq (.reg [fV 28 0 3,lE 29 28,wE 30 29,gE 31 30 .true (.faddr 0 (.V 2)),gE 32 30 .true (.load false 1 (.E 31)),gE 33 30 .true (.un .not (.E 32)),oE 34 (.pick (.E 30) (.E 33) (kb false)),wE 27 34]) (.cond (.E 27) (.seq (.reg [oV 4 (.mv (ki 1))]) .ret) (.seq (.reg [fV 36 0 2,lE 37 36,wE 35 37]) (.cond (.E 35) (.seq (.reg [tV 38 3 3,tV 39 3 2,oE 40 (.call zjd [([0,0,0],(.E 38)),([0,0,0],(.E 39))]),vE 4 40]) .ret) .skip))))))) (.seq (.reg [tV 41 3 2,tV 42 3 3,oE 43 (.call zjd [([0,0,0],(.E 41)),([0,0,0],(.E 42))]),vE 4 43]) .ret)))
def zu5:List RV:=[.tmp [0] 4]
def ydk:List Nat:=[0,2]
def zu6:IC := .seq (.reg [oV 2 (.mv (kb false))]) (.seq (.reg [mV 3 0,oE 4 (.call zb6 [([0],(.E 3)),([0],(ki (-2147483647))),([0],(ki 2147483647))]),vE 2 4]) .ret)
def zu7:List RV:=[.tmp [0] 2]
def ydl:List Nat:=[0,2]
def zu8:IC := .seq (.reg [oV 2 (.mv (kb false))]) (.seq (.reg [mV 3 0,oE 4 (.call zhi [([1],(.E 3)),([0],(.C (.fn zks [])))]),oE 5 (.un .not (.E 4)),vE 2 5]) .ret)
def zu9:List RV:=[.tmp [0] 2]
def ydm:List Nat:=[0,2]
def zva:IC := .seq (.reg [oV 2 (.mv (kb false))]) (.seq (.reg [mV 3 0,oE 4 (.call zbw [([0],(.E 3)),([0],(ki (-1099511627776))),([0],(ki 1099511627776))]),vE 2 4]) .ret)
def zvb:List RV:=[.tmp [0] 2]
def ydn:List Nat:=[0,1,3,4,5,6,2]
def zod:IC := .seq (.seq (.reg [mV 42 4,mV 43 3,bE 44 .lss 42 43]) (.cond (.E 44) .skip (.exit 0))) (.seq (.block 1 (.seq (.regD [(fV 47 0 1,0,0),(lE 48 47,0,0),(mV 49 4,0,0),(iE 50 1 48 49,0,0),(lE 51 50,0,0),(oE 52 (.call zkt [([0],(.E 51))]),0,0),(oE 53 (.un .not (.E 52)),0,0),(wE 54 53,0,0),(gE 55 54 .false (.faddr 0 (.V 1)),0,0),(gE 56 54 .false (.load false 1 (.E 55)),0,0),(gE 57 54 .false (.mv (.V 4)),0,0),(gE 58 54 .false (.slice 1 (.E 56) none (some (.E 57)) none),0,0),(gE 59 54 .false (.faddr 0 (.V 1)),0,0),(gE 60 54 .false (.load false 1 (.E 59)),0,0),(gE 61 54 .false (.mv (.V 4)),0,0),(gE 62 54 .false (.iaddr 1 (.E 60) (.E 61)),0,0),(gE 63 54 .false (.load false 1 (.E 62)),0,0),(gE 64 54 .false (.call zku [([1],(.E 58)),([0],(.E 63))]),0,0),(oE 65 (.pick (.E 54) (kb true) (.E 64)),0,0)]) (.cond (.E 65) (.seq (.reg [oV 2 (.mv (kb false))]) .ret) .skip))) (.reg [mV 45 4,oE 46 (.bin .add (.E 45) (ki 1)),vE 4 46]))
def zqk:IC := .seq (.seq (.reg [mV 90 6,mV 91 3,bE 92 .lss 90 91]) (.cond (.E 92) .skip (.exit 4))) (.seq (.block 5 (.seq (.reg [fV 95 2 1,lE 96 95,mV 97 5,iE 98 1 96 97,lE 99 98,mV 100 6,iE 101 1 99 100,lE 102 101,oE 103 (.call zjb [([0],(.E 102))]),oE 104 (.un .not (.E 103))]) (.cond (.E 104) (.seq (.reg [oV 2 (.mv (kb false))]) .ret) .skip))) (.reg [mV 93 6,oE 94 (.bin .add (.E 93) (ki 1)),vE 6 94]))
def zoe:IC := .seq (.seq (.reg [mV 66 5,fV 67 2 1,lE 68 67,nE 69 68,bE 70 .lss 66 69]) (.cond (.E 70) .skip (.exit 2))) (.seq (.block 3 (.seq (.seq (.reg [fV 73 2 1,lE 74 73,mV 75 5,iE 76 1 74 75,lE 77 76,nE 78 77,mV 79 3,bE 80 .neq 78 79,wE 81 80,gE 82 81 .false (.faddr 3 (.V 1)),gE 83 81 .false (.load false 1 (.E 82)),gE 84 81 .false (.mv (.V 5)),gE 85 81 .false (.iaddr 1 (.E 83) (.E 84)),gE 86 81 .false (.load false 1 (.E 85)),gE 87 81 .false (.call zjb [([0],(.E 86))]),gE 88 81 .false (.un .not (.E 87)),oE 89 (.pick (.E 81) (kb true) (.E 88))]) (.cond (.E 89) (.seq (.reg [oV 2 (.mv (kb false))]) .ret) .skip)) (.seq (.reg [oV 6 (.mv (ki 0))]) (.block 4 (.loop zqk))))) (.reg [mV 71 5,oE 72 (.bin .add (.E 71) (ki 1)),vE 5 72]))
def zh8:IC := .seq (.reg [oV 1 (.box (.V 0)),oV 2 (.mv (kb false))]) (.seq (.reg [fV 7 0 1,lE 8 7,nE 9 8,vE 3 9]) (.seq (.seq (.reg [mV 10 3,oE 11 (.call zb6 [([0],(.E 10)),([0],(ki 1)),([0],(ki 4))]),oE 12 (.un .not (.E 11)),wE 13 12,gE 14 13 .false (.faddr 1 (.V 1)),gE 15 13 .false (.load false 1 (.E 14)),gE 16 13 .false (.call zkt [([0],(.E 15))]),gE 17 13 .false (.un .not (.E 16)),oE 18 (.pick (.E 13) (kb true) (.E 17)),wE 19 18,gE 20 19 .false (.faddr 0 (.V 1)),gE 21 19 .false (.load false 1 (.E 20)),gE 22 19 .false (.faddr 1 (.V 1)),gE 23 19 .false (.load false 1 (.E 22)),gE 24 19 .false (.call zku [([1],(.E 21)),([0],(.E 23))]),oE 25 (.pick (.E 19) (kb true) (.E 24)),wE 26 25,gE 27 26 .false (.faddr 2 (.V 1)),gE 28 26 .false (.load false 1 (.E 27)),gE 29 26 .false (.len (.E 28)),gE 30 26 .false (.call zb6 [([0],(.E 29)),([0],(ki 1)),([0],(ki 40))]),gE 31 26 .false (.un .not (.E 30)),oE 32 (.pick (.E 26) (kb true) (.E 31)),wE 33 32,gE 34 33 .false (.faddr 3 (.V 1)),gE 35 33 .false (.load false 1 (.E 34)),gE 36 33 .false (.len (.E 35)),gE 37 33 .false (.faddr 2 (.V 1)),gE 38 33 .false (.load false 1 (.E 37)),gE 39 33 .false (.len (.E 38)),gE 40 33 .false (.bin .neq (.E 36) (.E 39)),oE 41 (.pick (.E 33) (kb true) (.E 40))]) (.cond (.E 41) (.seq (.reg [oV 2 (.mv (kb false))]) .ret) .skip)) (.seq (.seq (.reg [oV 4 (.mv (ki 0))]) (.block 0 (.loop zod))) (.seq (.seq (.reg [oV 5 (.mv (ki 0))]) (.block 2 (.loop zoe))) (.seq (.reg [oV 2 (.mv (kb true))]) .ret)))))
def zh9:List RV:=[.tmp [0] 2]
def ydo:List Nat:=[0,1,6,2,5,4]
def zxr:IC := .seq (.seq (.reg [mV 8 6,fV 9 2 2,lE 10 9,nE 11 10,bE 12 .lss 8 11,wE 13 12,gE 14 13 .true (.mv (.V 1)),gE 15 13 .true (.faddr 0 (.V 2)),gE 16 13 .true (.load false 1 (.E 15)),gE 17 13 .true (.len (.E 16)),gE 18 13 .true (.bin .sub (.E 17) (ki 1)),gE 19 13 .true (.call zb6 [([0],(.E 14)),([0],(ki 0)),([0],(.E 18))]),oE 20 (.pick (.E 13) (.E 19) (kb false))]) (.cond (.E 20) .skip (.exit 0))) (.seq (.block 1 (.seq (.reg [mV 23 1,fV 24 2 2,lE 25 24,mV 26 6,iE 27 1 25 26,lE 28 27,nE 29 28,bE 30 .lss 23 29]) (.cond (.E 30) (.reg [mV 31 5,fV 32 2 2,lE 33 32,mV 34 6,iE 35 1 33 34,lE 36 35,mV 37 1,iE 38 1 36 37,lE 39 38,oE 40 (.bslice 1 1 [iv 0] [(0,(.E 39))]),oE 41 (.app 8 1 (.E 31) (.E 40)),vE 5 41]) (.reg [mV 42 5,oE 43 (.bslice 1 1 [iv 0] [(0,(ki 0))]),oE 44 (.app 8 1 (.E 42) (.E 43)),vE 5 44])))) (.reg [mV 21 6,oE 22 (.bin .add (.E 21) (ki 1)),vE 6 22]))
def zvc:IC := .seq (.reg [oV 2 (.box (.V 0)),oV 4 (.mv (.C .e0))]) (.seq (.reg [oE 7 (.bslice 0 1 [iv 0] []),vE 5 7]) (.seq (.seq (.reg [oV 6 (.mv (ki 0))]) (.block 0 (.loop zxr))) (.seq (.reg [mV 45 5,vE 4 45]) .ret)))
def zvd:List RV:=[.tmp [1] 4]
def ydp:List Nat:=[0,1,5,8,9,6,7,4]
def zql:IC := .seq (.seq (.reg [mV 24 8,mV 25 1,bE 26 .lss 24 25]) (.cond (.E 26) .skip (.exit 0))) (.seq (.block 1 (.seq (.reg [mV 29 5,mV 30 8,bE 31 .mul 29 30,mV 32 1,bE 33 .quo 31 32,vE 9 33]) (.seq (.regD [(mV 34 9,0,0),(oE 35 (.bin .geq (.E 34) (ki 1)),0,0),(wE 36 35,0,0),(gE 37 36 .true (.mv (.V 6)),0,0),(gE 38 36 .true (.mv (.V 9)),0,0),(gE 39 36 .true (.bin .sub (.E 38) (ki 1)),0,0),(gE 40 36 .true (.iaddr 1 (.E 37) (.E 39)),0,0),(gE 41 36 .true (.load false 1 (.E 40)),0,0),(gE 42 36 .true (.mv (.V 6)),0,0),(gE 43 36 .true (.mv (.V 5)),0,0),(gE 44 36 .true (.bin .sub (.E 43) (ki 1)),0,0),(gE 45 36 .true (.iaddr 1 (.E 42) (.E 44)),0,0),(gE 46 36 .true (.load false 1 (.E 45)),0,0),(gE 47 36 .true (.bin .lss (.E 41) (.E 46)),0,0),(oE 48 (.pick (.E 36) (.E 47) (kb false)),0,0)]) (.cond (.E 48) (.reg [mV 49 7,mV 50 6,mV 51 9,oE 52 (.bin .sub (.E 51) (ki 1)),iE 53 1 50 52,lE 54 53,oE 55 (.bslice 1 1 [iv 0] [(0,(.E 54))]),oE 56 (.app 8 1 (.E 49) (.E 55)),vE 7 56]) .skip)))) (.reg [mV 27 8,oE 28 (.bin .add (.E 27) (ki 1)),vE 8 28]))
def zve:IC := .seq (.reg [oV 4 (.mv (.C .e0))]) (.seq (.reg [mV 10 0,nE 11 10,vE 5 11]) (.seq (.seq (.reg [mV 12 1,oE 13 (.call zb6 [([0],(.E 12)),([0],(ki 2)),([0],(ki 8))]),oE 14 (.un .not (.E 13)),wE 15 14,gE 16 15 .false (.mv (.V 5)),gE 17 15 .false (.call zb6 [([0],(.E 16)),([0],(ki 1)),([0],(ki 40))]),gE 18 15 .false (.un .not (.E 17)),oE 19 (.pick (.E 15) (kb true) (.E 18))]) (.cond (.E 19) (.seq (.reg [oE 20 (.bslice 0 1 [iv 0] []),vE 4 20]) .ret) .skip)) (.seq (.reg [mV 21 0,oE 22 (.call zkv [([1],(.E 21))]),vE 6 22]) (.seq (.reg [oE 23 (.bslice 0 1 [iv 0] []),vE 7 23]) (.seq (.seq (.reg [oV 8 (.mv (ki 1))]) (.block 0 (.loop zql))) (.seq (.reg [mV 57 7,oE 58 (.call znz [([1],(.E 57))]),vE 4 58]) .ret))))))
def zvf:List RV:=[.tmp [1] 4]
def ydq:List Nat:=[0,1,6,5,4]
def zvg:IC := .seq (.seq (.reg [mV 7 6,mV 8 0,nE 9 8,bE 10 .lss 7 9]) (.cond (.E 10) .skip (.exit 0))) (.seq (.block 1 (.seq (.reg [mV 13 0,mV 14 6,iE 15 1 13 14,lE 16 15,mV 17 1,bE 18 .lss 16 17]) (.cond (.E 18) (.reg [mV 19 5,oE 20 (.bin .add (.E 19) (ki 1)),vE 5 20]) .skip))) (.reg [mV 11 6,oE 12 (.bin .add (.E 11) (ki 1)),vE 6 12]))
def zvh:IC := .seq (.reg [oV 4 (.mv (ki 0))]) (.seq (.reg [oV 5 (.mv (ki 0))]) (.seq (.seq (.reg [oV 6 (.mv (ki 0))]) (.block 0 (.loop zvg))) (.seq (.reg [mV 21 5,vE 4 21]) .ret)))
def zvi:List RV:=[.tmp [0] 4]
def ydr:List Nat:=[0,1,6,4,5]
def zia:IC := .seq (.reg [oV 4 (.mv (ki 0)),oV 5 (.mv (kb false))]) (.seq (.reg [mV 7 0,mV 8 1,bE 9 .add 7 8,vE 6 9]) (.seq (.seq (.reg [mV 10 0,oE 11 (.bin .lss (.E 10) (ki 0)),mV 12 1,oE 13 (.bin .lss (.E 12) (ki 0)),oE 14 (.eqb false [.b] (.E 11) (.E 13)),wE 15 14,gE 16 15 .true (.mv (.V 6)),gE 17 15 .true (.bin .lss (.E 16) (ki 0)),gE 18 15 .true (.mv (.V 0)),gE 19 15 .true (.bin .lss (.E 18) (ki 0)),gE 20 15 .true (.eqb true [.b] (.E 17) (.E 19)),oE 21 (.pick (.E 15) (.E 20) (kb false))]) (.cond (.E 21) (.seq (.reg [oV 4 (.mv (ki 0)),oV 5 (.mv (kb false))]) .ret) .skip)) (.seq (.reg [mV 22 6,vE 4 22,oV 5 (.mv (kb true))]) .ret)))
def zib:List RV:=[.tmp [0] 4,.tmp [0] 5]
def yds:List Nat:=[0,8,7,6,5,3,2]
def z0y:IC := .seq (.reg [oE 9 (.bin .lss (.V 8) (.V 7))]) (.seq (.cond (.E 9) .skip (.exit 0)) (.seq (.block 1 (.seq (.reg [oE 10 (.iaddr 1 (.V 6) (.V 8)),lE 11 10,vE 5 11]) (.seq (.reg [mV 12 5,mV 13 3,bE 14 .neq 12 13]) (.cond (.E 14) (.seq (.reg [mV 15 5,vE 2 15]) .ret) .skip)))) (.reg [oE 16 (.bin .add (.V 8) (ki 1)),vE 8 16])))
def zvj:IC := .seq (.reg [oV 2 (.mv (ki 0))]) (.seq (.reg [oV 3 (.mv (ki 0))]) (.seq (.seq (.reg [oV 6 (.mv (.V 0)),oV 7 (.len (.V 6)),oV 8 (.mv (ki 0))]) (.block 0 (.loop z0y))) (.seq (.reg [mV 17 3,vE 2 17]) .ret)))
def zvk:List RV:=[.tmp [0] 2]
def ydt:List Nat:=[0,1,5,6,4]
def zof:IC := .seq (.reg [oV 4 (.mv (ki 0))]) (.seq (.reg [mV 7 0,oE 8 (.call zkw [([0],(.E 7))]),vE 5 8]) (.seq (.reg [mV 9 1,oE 10 (.call zkw [([0],(.E 9))]),vE 6 10]) (.seq (.seq (.reg [mV 11 5]) (.cond (.E 11) (.seq (.seq (.reg [mV 12 6]) (.cond (.E 12) (.seq (.reg [oV 4 (.mv (ki 0))]) .ret) .skip)) (.seq (.reg [oV 4 (.mv (ki (-1)))]) .ret)) .skip)) (.seq (.seq (.reg [mV 13 6]) (.cond (.E 13) (.seq (.reg [oV 4 (.mv (ki 1))]) .ret) .skip)) (.seq (.seq (.reg [mV 14 0,mV 15 1,bE 16 .lss 14 15]) (.cond (.E 16) (.seq (.reg [oV 4 (.mv (ki (-1)))]) .ret) .skip)) (.seq (.seq (.reg [mV 17 0,mV 18 1,bE 19 .gtr 17 18]) (.cond (.E 19) (.seq (.reg [oV 4 (.mv (ki 1))]) .ret) .skip)) (.seq (.reg [oV 4 (.mv (ki 0))]) .ret)))))))
def zog:List RV:=[.tmp [0] 4]
def ydu:List Nat:=[0,1,2,3,4,7,8,6,11,12,10,14,5]
def zic:IC := .seq (.reg [oV 2 (.box (.V 0)),oV 3 (.box (.V 1)),oV 4 (.alloc [(.v (.bool false)),(.v (.int .u64 0)),(.v (.int .u64 0))]),oV 5 (.mv (kb false))]) (.seq (.seq (.reg [tV 15 3 2,oE 16 (.call zgm [([0,0,0],(.E 15))]),oE 17 (.un .not (.E 16)),wE 18 17,gE 19 18 .false (.load true 3 (.V 3)),gE 20 18 .false (.call zgm [([0,0,0],(.E 19))]),gE 21 18 .false (.un .not (.E 20)),oE 22 (.pick (.E 18) (kb true) (.E 21))]) (.cond (.E 22) (.seq (.reg [oE 23 (.build [(.v (.bool false)),(.v (.int .u64 0)),(.v (.int .u64 0))] []),oN (.store [0,0,0] (.V 4) (.E 23)),oV 5 (.mv (kb false))]) .ret) .skip)) (.seq (.seq (.reg [fV 24 0 2,lE 25 24,fV 26 0 3,lE 27 26,oE 28 (.eqb true [.b] (.E 25) (.E 27))]) (.cond (.E 28) (.seq (.seq (.reg [tV 29 3 2,tV 30 3 3,oE 31 (.call zjd [([0,0,0],(.E 29)),([0,0,0],(.E 30))]),oE 32 (.bin .lss (.E 31) (ki 0))]) (.cond (.E 32) (.reg [tV 33 3 3,tV 34 3 2,oN (.store [0,0,0] (.V 2) (.E 33)),oN (.store [0,0,0] (.V 3) (.E 34))]) .skip)) (.seq (.reg [fV 36 2 2,lE 37 36,fV 38 2 3,lE 39 38,oE 40 (.call zje [([0],(.E 37)),([0],(.E 39)),([0],(.C (.v (.int .u64 0))))]),wE 35 40,xE 41 0 35,xE 42 1 35,vE 6 41,vE 7 42]) (.seq (.reg [fV 44 1 2,lE 45 44,fV 46 1 3,lE 47 46,mV 48 7,oE 49 (.call zje [([0],(.E 45)),([0],(.E 47)),([0],(.E 48))]),wE 43 49,xE 50 0 43,xE 51 1 43,vE 8 50,wE 9 51]) (.seq (.reg [fV 52 0 2,lE 53 52,mV 54 8,mV 55 6,oE 56 (.call zfw [([0],(.E 53)),([0],(.E 54)),([0],(.E 55))]),oN (.store [0,0,0] (.V 4) (.E 56)),oV 5 (.mv (kb true))]) .ret)))) .skip)) (.seq (.reg [fV 58 2 2,lE 59 58,fV 60 2 3,lE 61 60,oE 62 (.call zh4 [([0],(.E 59)),([0],(.E 61)),([0],(.C (.v (.int .u64 0))))]),wE 57 62,xE 63 0 57,xE 64 1 57,vE 10 63,vE 11 64]) (.seq (.reg [fV 66 1 2,lE 67 66,fV 68 1 3,lE 69 68,mV 70 11,oE 71 (.call zh4 [([0],(.E 67)),([0],(.E 69)),([0],(.E 70))]),wE 65 71,xE 72 0 65,xE 73 1 65,vE 12 72,wE 13 73]) (.seq (.reg [fV 74 0 2,lE 75 74,mV 76 12,mV 77 10,oE 78 (.call zfw [([0],(.E 75)),([0],(.E 76)),([0],(.E 77))]),oV 14 (.alloc [(.v (.bool false)),(.v (.int .u64 0)),(.v (.int .u64 0))]),oN (.store [0,0,0] (.V 14) (.E 78))]) (.seq (.seq (.reg [tV 79 3 14,oE 80 (.call zgm [([0,0,0],(.E 79))]),oE 81 (.un .not (.E 80))]) (.cond (.E 81) (.seq (.reg [oE 82 (.build [(.v (.bool false)),(.v (.int .u64 0)),(.v (.int .u64 0))] []),oN (.store [0,0,0] (.V 4) (.E 82)),oV 5 (.mv (kb false))]) .ret) .skip)) (.seq (.reg [tV 83 3 14,oN (.store [0,0,0] (.V 4) (.E 83)),oV 5 (.mv (kb true))]) .ret)))))))
def zid:List RV:=[.cell [0,0,0] 4 true,.tmp [0] 5]
def ydv:List Nat:=[0,1,2,6,4,5]
def zvl:IC := .seq (.reg [oV 2 (.box (.V 0)),oV 4 (.alloc [(.v (.bool false)),(.v (.int .u64 0)),(.v (.int .u64 0)),iv 0]),oV 5 (.mv (kb false))]) (.seq (.reg [tV 7 3 2,mV 8 1,oE 9 (.build [(.v (.bool false)),(.v (.int .u64 0)),(.v (.int .u64 0)),iv 0] [(0,3,(.E 7)),(3,1,(.E 8))]),oV 6 (.alloc [(.v (.bool false)),(.v (.int .u64 0)),(.v (.int .u64 0)),iv 0]),oN (.store [0,0,0,0] (.V 6) (.E 9))]) (.seq (.seq (.reg [tV 10 4 6,oE 11 (.call zjc [([0,0,0,0],(.E 10))]),oE 12 (.un .not (.E 11))]) (.cond (.E 12) (.seq (.reg [oE 13 (.build [(.v (.bool false)),(.v (.int .u64 0)),(.v (.int .u64 0)),iv 0] []),oN (.store [0,0,0,0] (.V 4) (.E 13)),oV 5 (.mv (kb false))]) .ret) .skip)) (.seq (.reg [tV 14 4 6,oN (.store [0,0,0,0] (.V 4) (.E 14)),oV 5 (.mv (kb true))]) .ret)))
def zvm:List RV:=[.cell [0,0,0,0] 4 true,.tmp [0] 5]
def ydw:List Nat:=[0,1,5,6,4]
def zvn:IC := .seq (.reg [oV 4 (.alloc [(.v (.bool false)),(.v (.int .u64 0)),(.v (.int .u64 0))])]) (.seq (.reg [mV 8 0,oE 9 (.call zjg [([0],(.E 8))]),mV 10 1,oE 11 (.call zjg [([0],(.E 10))]),oE 12 (.call zjf [([0],(.E 9)),([0],(.E 11))]),wE 7 12,xE 13 0 7,xE 14 1 7,vE 5 13,vE 6 14]) (.seq (.reg [mV 15 0,oE 16 (.bin .lss (.E 15) (ki 0)),mV 17 1,oE 18 (.bin .lss (.E 17) (ki 0)),oE 19 (.eqb true [.b] (.E 16) (.E 18)),mV 20 5,mV 21 6,oE 22 (.call zfw [([0],(.E 19)),([0],(.E 20)),([0],(.E 21))]),oN (.store [0,0,0] (.V 4) (.E 22))]) .ret))
def zvo:List RV:=[.cell [0,0,0] 4 true]
def ydx:List Nat:=[0,1,2]
def zvp:IC := .seq (.reg [oV 1 (.box (.V 0)),oV 2 (.mv (kb false))]) (.seq (.reg [fV 3 0 1,tE 4 3 3,oE 5 (.call zgm [([0,0,0],(.E 4))]),wE 6 5,gE 7 6 .true (.faddr 3 (.V 1)),gE 8 6 .true (.load false 1 (.E 7)),gE 9 6 .true (.call zbw [([0],(.E 8)),([0],(ki 1)),([0],(ki 1000000))]),oE 10 (.pick (.E 6) (.E 9) (kb false)),vE 2 10]) .ret)
def zvq:List RV:=[.tmp [0] 2]
def ydy:List Nat:=[0,1,2,4,6,8,9,10,7,11,12,5]
def zgp:IC := .seq (.reg [oV 2 (.box (.V 0)),oV 4 (.alloc [(.v (.bool false)),(.v (.int .u64 0)),(.v (.int .u64 0))]),oV 5 (.mv (kb false))]) (.seq (.seq (.reg [tV 13 3 2,oE 14 (.call zgm [([0,0,0],(.E 13))]),oE 15 (.un .not (.E 14))]) (.cond (.E 15) (.seq (.reg [oE 16 (.build [(.v (.bool false)),(.v (.int .u64 0)),(.v (.int .u64 0))] []),oN (.store [0,0,0] (.V 4) (.E 16)),oV 5 (.mv (kb false))]) .ret) .skip)) (.seq (.reg [mV 17 1,oE 18 (.call zjg [([0],(.E 17))]),vE 6 18]) (.seq (.reg [fV 20 1 2,lE 21 20,mV 22 6,oE 23 (.call zjf [([0],(.E 21)),([0],(.E 22))]),wE 19 23,xE 24 0 19,xE 25 1 19,vE 7 24,vE 8 25]) (.seq (.reg [fV 27 2 2,lE 28 27,mV 29 6,oE 30 (.call zjf [([0],(.E 28)),([0],(.E 29))]),wE 26 30,xE 31 0 26,xE 32 1 26,vE 9 31,vE 10 32]) (.seq (.reg [mV 34 8,mV 35 9,oE 36 (.call zh4 [([0],(.E 34)),([0],(.E 35)),([0],(.C (.v (.int .u64 0))))]),wE 33 36,xE 37 0 33,xE 38 1 33,vE 8 37,vE 11 38]) (.seq (.reg [fV 39 0 2,lE 40 39,mV 41 1,oE 42 (.bin .lss (.E 41) (ki 0)),oE 43 (.eqb true [.b] (.E 40) (.E 42)),mV 44 8,mV 45 10,oE 46 (.call zfw [([0],(.E 43)),([0],(.E 44)),([0],(.E 45))]),oV 12 (.alloc [(.v (.bool false)),(.v (.int .u64 0)),(.v (.int .u64 0))]),oN (.store [0,0,0] (.V 12) (.E 46))]) (.seq (.seq (.reg [mV 47 7,oE 48 (.bin .gtr (.E 47) (.C (.v (.int .u64 0)))),wE 49 48,gE 50 49 .false (.mv (.V 11)),gE 51 49 .false (.bin .gtr (.E 50) (.C (.v (.int .u64 0)))),oE 52 (.pick (.E 49) (kb true) (.E 51)),wE 53 52,gE 54 53 .false (.load true 3 (.V 12)),gE 55 53 .false (.call zgm [([0,0,0],(.E 54))]),gE 56 53 .false (.un .not (.E 55)),oE 57 (.pick (.E 53) (kb true) (.E 56))]) (.cond (.E 57) (.seq (.reg [oE 58 (.build [(.v (.bool false)),(.v (.int .u64 0)),(.v (.int .u64 0))] []),oN (.store [0,0,0] (.V 4) (.E 58)),oV 5 (.mv (kb false))]) .ret) .skip)) (.seq (.reg [tV 59 3 12,oN (.store [0,0,0] (.V 4) (.E 59)),oV 5 (.mv (kb true))]) .ret))))))))
def zgq:List RV:=[.cell [0,0,0] 4 true,.tmp [0] 5]
def ydz:List Nat:=[0,1,2,6]
def zoh:IC := .seq (.reg [oV 6 (.alloc [(.v (.bool false)),(.v (.int .u64 0)),(.v (.int .u64 0))])]) (.seq (.reg [mV 7 0,wE 8 7,gE 9 8 .true (.mv (.V 1)),gE 10 8 .true (.bin .gtr (.E 9) (.C (.v (.int .u64 0)))),gE 11 8 .true (.mv (.E 10)),gE 12 11 .false (.mv (.V 2)),gE 13 11 .false (.bin .gtr (.E 12) (.C (.v (.int .u64 0)))),gE 14 8 .true (.pick (.E 11) (kb true) (.E 13)),oE 15 (.pick (.E 8) (.E 14) (kb false)),mV 16 1,mV 17 2,oE 18 (.build [(.v (.bool false)),(.v (.int .u64 0)),(.v (.int .u64 0))] [(0,1,(.E 15)),(1,1,(.E 16)),(2,1,(.E 17))]),oN (.store [0,0,0] (.V 6) (.E 18))]) .ret)
def zoi:List RV:=[.cell [0,0,0] 6 true]
def yd0:List Nat:=[0,1,2,3,4]
def zvr:IC := .seq (.reg [oV 2 (.box (.V 0)),oV 3 (.box (.V 1)),oV 4 (.mv (ki 0))]) (.seq (.regD [(fV 5 1 2,0,0),(lE 6 5,0,0),(fV 7 1 3,0,0),(lE 8 7,0,0),(oE 9 (.call zkx [([0],(.E 6)),([0],(.E 8))]),0,0),(fV 10 2 2,1,0),(lE 11 10,1,0),(fV 12 2 3,1,0),(lE 13 12,1,0),(oE 14 (.call zkx [([0],(.E 11)),([0],(.E 13))]),0,0),(oE 15 (.bslice 2 1 [iv 0] [(0,(.E 9)),(1,(.E 14))]),0,0),(oE 16 (.call zko [([1],(.E 15))]),0,0),(vE 4 16,0,0)]) .ret)
def zvs:List RV:=[.tmp [0] 4]
def yd1:List Nat:=[0,2]
def zvt:IC := .seq (.reg [oV 2 (.mv (kb false))]) (.seq (.reg [mV 3 0,oE 4 (.call zny [([0],(.E 3))]),oE 5 (.un .not (.E 4)),vE 2 5]) .ret)
def zvu:List RV:=[.tmp [0] 2]
def yd2:List Nat:=[0,2]
def zvv:IC := .seq (.reg [oV 2 (.mv (kb false))]) (.seq (.reg [mV 3 0,oE 4 (.call zbw [([0],(.E 3)),([0],(ki (-2147483647))),([0],(ki 2147483647))]),vE 2 4]) .ret)
def zvw:List RV:=[.tmp [0] 2]
def yd3:List Nat:=[0,3,2]
def z0z:IC := .seq (.seq (.reg [mV 13 3,mV 14 0,oE 15 (.lenS (.E 14)),bE 16 .lss 13 15]) (.cond (.E 16) .skip (.exit 0))) (.seq (.block 1 (.seq (.reg [mV 19 0,mV 20 3,oE 21 (.idx (.E 19) (.E 20)),oE 22 (.convI .i64 (.E 21)),oE 23 (.call zb6 [([0],(.E 22)),([0],(ki 97)),([0],(ki 122))]),oE 24 (.un .not (.E 23)),wE 25 24,gE 26 25 .true (.mv (.V 0)),gE 27 25 .true (.mv (.V 3)),gE 28 25 .true (.idx (.E 26) (.E 27)),gE 29 25 .true (.convI .i64 (.E 28)),gE 30 25 .true (.call zb6 [([0],(.E 29)),([0],(ki 48)),([0],(ki 57))]),gE 31 25 .true (.un .not (.E 30)),oE 32 (.pick (.E 25) (.E 31) (kb false))]) (.cond (.E 32) (.seq (.reg [oV 2 (.mv (kb false))]) .ret) .skip))) (.reg [mV 17 3,oE 18 (.bin .add (.E 17) (ki 1)),vE 3 18]))
def zoj:IC := .seq (.reg [oV 2 (.mv (kb false))]) (.seq (.seq (.reg [mV 4 0,oE 5 (.lenS (.E 4)),oE 6 (.call zb6 [([0],(.E 5)),([0],(ki 1)),([0],(ki 12))]),oE 7 (.un .not (.E 6)),wE 8 7,gE 9 8 .false (.mv (.V 0)),gE 10 8 .false (.idx (.E 9) (ki 0)),gE 11 8 .false (.bin .lss (.E 10) (.C (.v (.int .u8 97)))),oE 12 (.pick (.E 8) (kb true) (.E 11))]) (.cond (.E 12) (.seq (.reg [oV 2 (.mv (kb false))]) .ret) .skip)) (.seq (.seq (.reg [oV 3 (.mv (ki 0))]) (.block 0 (.loop z0z))) (.seq (.reg [oV 2 (.mv (kb true))]) .ret)))
def zok:List RV:=[.tmp [0] 2]
def yd4:List Nat:=[0,1,5,4]
def z00:IC := .seq (.seq (.reg [mV 6 5,mV 7 0,nE 8 7,bE 9 .lss 6 8]) (.cond (.E 9) .skip (.exit 0))) (.seq (.block 1 (.seq (.reg [mV 12 0,mV 13 5,iE 14 1 12 13,lE 15 14,mV 16 1,bE 17 .eql 15 16]) (.cond (.E 17) (.seq (.reg [oV 4 (.mv (kb true))]) .ret) .skip))) (.reg [mV 10 5,oE 11 (.bin .add (.E 10) (ki 1)),vE 5 11]))
def zvx:IC := .seq (.reg [oV 4 (.mv (kb false))]) (.seq (.seq (.reg [oV 5 (.mv (ki 0))]) (.block 0 (.loop z00))) (.seq (.reg [oV 4 (.mv (kb false))]) .ret))
def zvy:List RV:=[.tmp [0] 4]
def yd5:List Nat:=[0,4,3,5,6,2]
def zvz:IC := .seq (.seq (.regD [(mV 16 5,0,0),(oE 17 (.bin .gtr (.E 16) (ki 0)),0,0),(wE 18 17,0,0),(gE 19 18 .true (.mv (.V 3)),0,0),(gE 20 18 .true (.mv (.V 5)),0,0),(gE 21 18 .true (.bin .sub (.E 20) (ki 1)),0,0),(gE 22 18 .true (.iaddr 1 (.E 19) (.E 21)),0,0),(gE 23 18 .true (.load false 1 (.E 22)),0,0),(gE 24 18 .true (.mv (.V 0)),0,0),(gE 25 18 .true (.mv (.V 4)),0,0),(gE 26 18 .true (.iaddr 1 (.E 24) (.E 25)),0,0),(gE 27 18 .true (.load false 1 (.E 26)),0,0),(gE 28 18 .true (.bin .gtr (.E 23) (.E 27)),0,0),(oE 29 (.pick (.E 18) (.E 28) (kb false)),0,0)]) (.cond (.E 29) .skip (.exit 2))) (.block 3 (.reg [mV 30 5,oE 31 (.bin .sub (.E 30) (ki 1)),vE 5 31]))
def z01:IC := .seq (.seq (.reg [mV 8 4,mV 9 0,nE 10 9,bE 11 .lss 8 10]) (.cond (.E 11) .skip (.exit 0))) (.seq (.block 1 (.seq (.reg [mV 14 3,nE 15 14,vE 5 15]) (.seq (.block 2 (.loop zvz)) (.seq (.regD [(oE 32 (.bslice 0 1 [iv 0] []),0,0),(mV 33 3,0,0),(mV 34 5,0,0),(oE 35 (.slice 1 (.E 33) none (some (.E 34)) none),1,0),(oE 36 (.app 8 1 (.E 32) (.E 35)),0,0),(mV 37 0,0,0),(mV 38 4,0,0),(iE 39 1 37 38,2,0),(lE 40 39,2,0),(oE 41 (.bsliceL 1 1 [iv 0] [(0,(.E 40))]),0,0),(oE 42 (.app 8 1 (.E 36) (.E 41)),0,0),(vE 6 42,0,0)]) (.reg [mV 43 6,mV 44 3,mV 45 5,oE 46 (.slice 1 (.E 44) (some (.E 45)) none none),oE 47 (.app 8 1 (.E 43) (.E 46)),vE 3 47]))))) (.reg [mV 12 4,oE 13 (.bin .add (.E 12) (ki 1)),vE 4 13]))
def zv0:IC := .seq (.reg [oV 2 (.mv (.C .e0))]) (.seq (.reg [oE 7 (.bslice 0 1 [iv 0] []),vE 3 7]) (.seq (.seq (.reg [oV 4 (.mv (ki 0))]) (.block 0 (.loop z01))) (.seq (.reg [mV 48 3,vE 2 48]) .ret)))
def zv1:List RV:=[.tmp [1] 2]
def yd6:List Nat:=[0,5,4,3,2]
def zqm:IC := .seq (.seq (.reg [mV 9 5,mV 10 4,nE 11 10,bE 12 .lss 9 11]) (.cond (.E 12) .skip (.exit 0))) (.seq (.block 1 (.seq (.regD [(mV 15 5,0,0),(oE 16 (.bin .eql (.E 15) (ki 0)),0,0),(wE 17 16,0,0),(gE 18 17 .false (.mv (.V 4)),0,0),(gE 19 17 .false (.mv (.V 5)),0,0),(gE 20 17 .false (.iaddr 1 (.E 18) (.E 19)),0,0),(gE 21 17 .false (.load false 1 (.E 20)),0,0),(gE 22 17 .false (.mv (.V 4)),0,0),(gE 23 17 .false (.mv (.V 5)),0,0),(gE 24 17 .false (.bin .sub (.E 23) (ki 1)),0,0),(gE 25 17 .false (.iaddr 1 (.E 22) (.E 24)),0,0),(gE 26 17 .false (.load false 1 (.E 25)),0,0),(gE 27 17 .false (.bin .neq (.E 21) (.E 26)),0,0),(oE 28 (.pick (.E 17) (kb true) (.E 27)),0,0)]) (.cond (.E 28) (.reg [mV 29 3,mV 30 4,mV 31 5,iE 32 1 30 31,lE 33 32,oE 34 (.bslice 1 1 [iv 0] [(0,(.E 33))]),oE 35 (.app 8 1 (.E 29) (.E 34)),vE 3 35]) .skip))) (.reg [mV 13 5,oE 14 (.bin .add (.E 13) (ki 1)),vE 5 14]))
def zv2:IC := .seq (.reg [oV 2 (.mv (.C .e0))]) (.seq (.reg [oE 6 (.bslice 0 1 [iv 0] []),vE 3 6]) (.seq (.reg [mV 7 0,oE 8 (.call zkv [([1],(.E 7))]),vE 4 8]) (.seq (.seq (.reg [oV 5 (.mv (ki 0))]) (.block 0 (.loop zqm))) (.seq (.reg [mV 36 3,vE 2 36]) .ret))))
def zv3:List RV:=[.tmp [1] 2]
def yd7:List Nat:=[0,2]
def zv4:IC := .seq (.reg [oV 2 (.mv (kb false))]) (.seq (.reg [mV 3 0,mV 4 0,bE 5 .neq 3 4,vE 2 5]) .ret)
def zv5:List RV:=[.tmp [0] 2]
def yd8:List Nat:=[0,1,2]
def zle:IC := .seq (.reg [oV 1 (.box (.V 0)),oV 2 (.mv (kb false))]) (.seq (.reg [fV 3 1 1,lE 4 3,oE 5 (.bin .lss (.E 4) (.C (.v (.int .u64 9223372036854775808)))),wE 6 5,gE 7 6 .true (.faddr 0 (.V 1)),gE 8 6 .true (.load false 1 (.E 7)),gE 9 6 .true (.un .not (.E 8)),gE 10 6 .true (.mv (.E 9)),gE 11 10 .false (.faddr 1 (.V 1)),gE 12 10 .false (.load false 1 (.E 11)),gE 13 10 .false (.bin .gtr (.E 12) (.C (.v (.int .u64 0)))),gE 14 6 .true (.pick (.E 10) (kb true) (.E 13)),gE 15 6 .true (.mv (.E 14)),gE 16 15 .false (.faddr 2 (.V 1)),gE 17 15 .false (.load false 1 (.E 16)),gE 18 15 .false (.bin .gtr (.E 17) (.C (.v (.int .u64 0)))),gE 19 6 .true (.pick (.E 15) (kb true) (.E 18)),oE 20 (.pick (.E 6) (.E 19) (kb false)),vE 2 20]) .ret)
def zlf:List RV:=[.tmp [0] 2]
def yd9:List Nat:=[0,1,6,8,7,10,11,12,9,13,4,5]
def zv6:IC := .seq (.reg [oV 4 (.mv (.C (.v (.int .u64 0)))),oV 5 (.mv (.C (.v (.int .u64 0))))]) (.seq (.reg [mV 14 0,oE 15 (.bin .and (.E 14) (.C (.v (.int .u64 4294967295)))),vE 6 15]) (.seq (.reg [mV 16 0,oE 17 (.bin .shr (.E 16) (.C (.v (.int .u64 32)))),vE 7 17]) (.seq (.reg [mV 18 1,oE 19 (.bin .and (.E 18) (.C (.v (.int .u64 4294967295)))),vE 8 19]) (.seq (.reg [mV 20 1,oE 21 (.bin .shr (.E 20) (.C (.v (.int .u64 32)))),vE 9 21]) (.seq (.reg [mV 22 6,mV 23 8,bE 24 .mul 22 23,vE 10 24]) (.seq (.reg [mV 25 7,mV 26 8,bE 27 .mul 25 26,mV 28 10,oE 29 (.bin .shr (.E 28) (.C (.v (.int .u64 32)))),bE 30 .add 27 29,vE 11 30]) (.seq (.reg [mV 31 11,oE 32 (.bin .and (.E 31) (.C (.v (.int .u64 4294967295)))),vE 12 32]) (.seq (.reg [mV 33 11,oE 34 (.bin .shr (.E 33) (.C (.v (.int .u64 32)))),vE 13 34]) (.seq (.reg [mV 35 12,mV 36 6,mV 37 9,bE 38 .mul 36 37,bE 39 .add 35 38,vE 12 39]) (.seq (.reg [mV 40 7,mV 41 9,bE 42 .mul 40 41,mV 43 13,bE 44 .add 42 43,mV 45 12,oE 46 (.bin .shr (.E 45) (.C (.v (.int .u64 32)))),bE 47 .add 44 46,vE 4 47]) (.seq (.reg [mV 48 0,mV 49 1,bE 50 .mul 48 49,vE 5 50]) .ret)))))))))))
def zv7:List RV:=[.tmp [0] 4,.tmp [0] 5]
def yea:List Nat:=[0,2]
def zv8:IC := .seq (.reg [oV 2 (.mv (.C (.v (.int .u64 0))))]) (.seq (.seq (.reg [mV 3 0,oE 4 (.bin .lss (.E 3) (ki 0))]) (.cond (.E 4) (.seq (.reg [mV 5 0,oE 6 (.convI .u64 (.E 5)),oE 7 (.un .neg (.E 6)),vE 2 7]) .ret) .skip)) (.seq (.reg [mV 8 0,oE 9 (.convI .u64 (.E 8)),vE 2 9]) .ret))
def zv9:List RV:=[.tmp [0] 2]
def yeb:List Nat:=[0,1,5,6,4]
def zol:IC := .seq (.reg [oV 4 (.mv (ki 0))]) (.seq (.reg [mV 7 0,oE 8 (.call zky [([0],(.E 7))]),vE 5 8]) (.seq (.reg [mV 9 1,oE 10 (.call zky [([0],(.E 9))]),vE 6 10]) (.seq (.seq (.reg [mV 11 5]) (.cond (.E 11) (.seq (.seq (.reg [mV 12 6]) (.cond (.E 12) (.seq (.reg [oV 4 (.mv (ki 0))]) .ret) .skip)) (.seq (.reg [oV 4 (.mv (ki (-1)))]) .ret)) .skip)) (.seq (.seq (.reg [mV 13 6]) (.cond (.E 13) (.seq (.reg [oV 4 (.mv (ki 1))]) .ret) .skip)) (.seq (.seq (.reg [mV 14 0,mV 15 1,bE 16 .lss 14 15]) (.cond (.E 16) (.seq (.reg [oV 4 (.mv (ki (-1)))]) .ret) .skip)) (.seq (.seq (.reg [mV 17 0,mV 18 1,bE 19 .gtr 17 18]) (.cond (.E 19) (.seq (.reg [oV 4 (.mv (ki 1))]) .ret) .skip)) (.seq (.reg [oV 4 (.mv (ki 0))]) .ret)))))))
def zom:List RV:=[.tmp [0] 4]
def yec:List Nat:=[0,2]
def zwa:IC := .seq (.reg [oV 2 (.mv (kb false))]) (.seq (.reg [mV 3 0,mV 4 0,bE 5 .neq 3 4,vE 2 5]) .ret)
def zwb:List RV:=[.tmp [0] 2]
def tbl:List (Nat×Fun):=[
 (zpk,zaa zn0 zn1 []),
 (zmf,zaa zrz zr0 []),
 (zmg,zaa zn2 zn3 []),
 (zj2,zaa zr1 zr2 []),
 (zmh,zaa zr3 zr4 []),
 (zmi,zaa zr5 zr6 []),
 (zmj,zaa zkz zk0 []),
 (zi4,zaa zk1 zk2 []),
 (zi5,zaa zpl zpm []),
 (zmk,zaa zn4 zn5 []),
 (zml,zaa zr7 zr8 []),
 (zmm,zaa zr9 zsa []),
 (zj3,zaa zpn zpo []),
 (zmn,zaa zsb zsc []),
 (zmo,zaa zse zsf []),
 (zdo,zaa zsg zsh [true]),
 (zmp,zaa zpp zpq []),
 (zmq,zaa zsk zsl []),
 (zmr,zaa zsn zso []),
 (zb6,zaa zsp zsq []),
 (zj4,zaa zsr zss []),
 (zj5,zaa zst zsu []),
 (zms,zaa zpr zps []),
 (zj6,zaa zpt zpu []),
 (zmt,zaa zsv zsw []),
 (zmu,zaa zk4 zk5 []),
 (zmv,zaa zsx zsy []),
 (zh2,zaa zpv zpw []),
 (zj7,zaa zk7 zk8 []),
 (zh3,zaa zpx zpy []),
 (zhi,zaa zpz zp0 []),
 (zj8,zaa zsz zs0 []),
 (zbw,zaa zs1 zs2 []),
 (zmw,zaa zs3 zs4 []),
 (zmx,zaa zs5 zs6 []),
 (zi6,zaa zp1 zp2 []),
 (zmy,zaa zs7 zs8 []),
 (zmz,zaa zn7 zn8 []),
 (zm0,zaa zs9 zta []),
 (zm1,zaa ztb ztc []),
 (zm2,zaa ztd zte []),
 (zm3,zaa zp4 zp5 []),
 (zm4,zaa ztg zth []),
 (zj9,zaa zti ztj [true]),
 (zbc,zaa zn9 zoa [true]),
 (zm5,zaa ztl ztm [true]),
 (zd3,zaa ztn zto [true,true,true]),
 (zka,zaa zk9 zla [true]),
 (zm6,zaa zfx zfy [true]),
 (zm7,zaa zgn zgo [true]),
 (zm8,zaa zlb zlc [true]),
 (zm9,zaa zp6 zp7 []),
 (zkb,zaa ztp ztq []),
 (zna,zaa zts ztt []),
 (znb,zaa ztu ztv []),
 (zkc,zaa ztw ztx []),
 (znc,zaa zty ztz []),
 (zi7,zaa zt0 zt1 []),
 (znd,zaa zt2 zt3 []),
 (zi8,zaa zp8 zp9 []),
 (zkd,zaa zt4 zt5 []),
 (zne,zaa zt6 zt7 []),
 (znf,zaa zt8 zt9 []),
 (zng,zaa zua zub []),
 (znh,zaa zuc zud []),
 (zni,zaa zue zuf []),
 (zke,zaa zug zuh []),
 (zkf,zaa zqa zqb []),
 (zkg,zaa zui zuj []),
 (zkh,zaa zuk zul []),
 (znj,zaa zum zun []),
 (zki,zaa zqc zqd []),
 (znk,zaa zuo zup []),
 (zkj,zaa zuq zur []),
 (znl,zaa zut zuu []),
 (znm,zaa zqf zjh [true]),
 (zgl,zaa zqg zqh [true]),
 (zi9,zaa zob zoc [true]),
 (zja,zaa zuw zux []),
 (znn,zaa zuy zuz []),
 (zkk,zaa zh6 zh7 []),
 (zno,zaa zqi zqj []),
 (znp,zaa zu0 zu1 []),
 (zkl,zaa zu2 zu3 []),
 (znq,zaa zu4 zu5 []),
 (zjb,zaa zu6 zu7 []),
 (znr,zaa zu8 zu9 []),
 (zkm,zaa zva zvb []),
 (zns,zaa zh8 zh9 []),
 (znt,zaa zvc zvd []),
 (znu,zaa zve zvf []),
 (znv,zaa zvh zvi []),
 (zkn,zaa zia zib []),
 (zko,zaa zvj zvk []),
 (zkp,zaa zof zog []),
 (znw,zaa zic zid []),
 (zkq,zaa zvl zvm []),
 (znx,zaa zvn zvo []),
 (zjc,zaa zvp zvq []),
 (zkr,zaa zgp zgq []),
 (zfw,zaa zoh zoi []),
 (zjd,zaa zvr zvs []),
 (zks,zaa zvt zvu []),
 (zny,zaa zvv zvw []),
 (zkt,zaa zoj zok []),
 (zku,zaa zvx zvy []),
 (zkv,zaa zv0 zv1 []),
 (znz,zaa zv2 zv3 []),
 (zkw,zaa zv4 zv5 []),
 (zgm,zaa zle zlf []),
 (zje,.ext zo4),
 (zh4,.ext zor),
 (zjf,zaa zv6 zv7 []),
 (zjg,zaa zv8 zv9 []),
 (zkx,zaa zol zom []),
 (zky,zaa zwa zwb [])]
def T:zb8:=fun f=>(tbl.find? fun q=>q.1 == f).map fun q=>q.2
theorem zqn:T zpk=some (zaa zn0 zn1 []):=rfl
@[simp] theorem yq3:zae T zpk=[]:=zah zqn
theorem z02:T zmf=some (zaa zrz zr0 []):=rfl
@[simp] theorem yq4:zae T zmf=[]:=zah z02
theorem z03:T zmg=some (zaa zn2 zn3 []):=rfl
@[simp] theorem yq5:zae T zmg=[]:=zah z03
theorem z04:T zj2=some (zaa zr1 zr2 []):=rfl
@[simp] theorem yq6:zae T zj2=[]:=zah z04
theorem z05:T zmh=some (zaa zr3 zr4 []):=rfl
@[simp] theorem yq7:zae T zmh=[]:=zah z05
theorem z06:T zmi=some (zaa zr5 zr6 []):=rfl
@[simp] theorem yq8:zae T zmi=[]:=zah z06
theorem z07:T zmj=some (zaa zkz zk0 []):=rfl
@[simp] theorem yq9:zae T zmj=[]:=zah z07
theorem z08:T zi4=some (zaa zk1 zk2 []):=rfl
@[simp] theorem yra:zae T zi4=[]:=zah z08
theorem zxs:T zi5=some (zaa zpl zpm []):=rfl
@[simp] theorem yrb:zae T zi5=[]:=zah zxs
theorem z09:T zmk=some (zaa zn4 zn5 []):=rfl
@[simp] theorem yrc:zae T zmk=[]:=zah z09
theorem z1a:T zml=some (zaa zr7 zr8 []):=rfl
@[simp] theorem yrd:zae T zml=[]:=zah z1a
theorem z1b:T zmm=some (zaa zr9 zsa []):=rfl
@[simp] theorem yre:zae T zmm=[]:=zah z1b
theorem z1c:T zj3=some (zaa zpn zpo []):=rfl
@[simp] theorem yrf:zae T zj3=[]:=zah z1c
theorem z1d:T zmn=some (zaa zsb zsc []):=rfl
@[simp] theorem yrg:zae T zmn=[]:=zah z1d
theorem z1e:T zmo=some (zaa zse zsf []):=rfl
@[simp] theorem yrh:zae T zmo=[]:=zah z1e
theorem z1f:T zdo=some (zaa zsg zsh [true]):=rfl
@[simp] theorem yri:zae T zdo=[true]:=zah z1f
theorem z1g:T zmp=some (zaa zpp zpq []):=rfl
@[simp] theorem yrj:zae T zmp=[]:=zah z1g
theorem z1h:T zmq=some (zaa zsk zsl []):=rfl
@[simp] theorem yrk:zae T zmq=[]:=zah z1h
theorem z1i:T zmr=some (zaa zsn zso []):=rfl
@[simp] theorem yrl:zae T zmr=[]:=zah z1i
theorem z1j:T zb6=some (zaa zsp zsq []):=rfl
@[simp] theorem yrm:zae T zb6=[]:=zah z1j
theorem z1k:T zj4=some (zaa zsr zss []):=rfl
@[simp] theorem yrn:zae T zj4=[]:=zah z1k
theorem z1l:T zj5=some (zaa zst zsu []):=rfl
@[simp] theorem yro:zae T zj5=[]:=zah z1l
theorem z1m:T zms=some (zaa zpr zps []):=rfl
@[simp] theorem yrp:zae T zms=[]:=zah z1m
theorem z1n:T zj6=some (zaa zpt zpu []):=rfl
@[simp] theorem yrq:zae T zj6=[]:=zah z1n
theorem z1o:T zmt=some (zaa zsv zsw []):=rfl
@[simp] theorem yrr:zae T zmt=[]:=zah z1o
theorem z1p:T zmu=some (zaa zk4 zk5 []):=rfl
@[simp] theorem yrs:zae T zmu=[]:=zah z1p
theorem z1q:T zmv=some (zaa zsx zsy []):=rfl
@[simp] theorem yrt:zae T zmv=[]:=zah z1q
theorem z1r:T zh2=some (zaa zpv zpw []):=rfl
@[simp] theorem yru:zae T zh2=[]:=zah z1r
theorem z1s:T zj7=some (zaa zk7 zk8 []):=rfl
@[simp] theorem yrv:zae T zj7=[]:=zah z1s
theorem z1t:T zh3=some (zaa zpx zpy []):=rfl
@[simp] theorem yrw:zae T zh3=[]:=zah z1t
theorem zxt:T zhi=some (zaa zpz zp0 []):=rfl
@[simp] theorem yrx:zae T zhi=[]:=zah zxt
theorem z1u:T zj8=some (zaa zsz zs0 []):=rfl
@[simp] theorem yry:zae T zj8=[]:=zah z1u
theorem z1v:T zbw=some (zaa zs1 zs2 []):=rfl
@[simp] theorem yrz:zae T zbw=[]:=zah z1v
theorem z1w:T zmw=some (zaa zs3 zs4 []):=rfl
@[simp] theorem yr0:zae T zmw=[]:=zah z1w
theorem z1x:T zmx=some (zaa zs5 zs6 []):=rfl
@[simp] theorem yr1:zae T zmx=[]:=zah z1x
theorem z1y:T zi6=some (zaa zp1 zp2 []):=rfl
@[simp] theorem yr2:zae T zi6=[]:=zah z1y
theorem z1z:T zmy=some (zaa zs7 zs8 []):=rfl
@[simp] theorem yr3:zae T zmy=[]:=zah z1z
theorem z10:T zmz=some (zaa zn7 zn8 []):=rfl
@[simp] theorem yr4:zae T zmz=[]:=zah z10
theorem z11:T zm0=some (zaa zs9 zta []):=rfl
@[simp] theorem yr5:zae T zm0=[]:=zah z11
theorem z12:T zm1=some (zaa ztb ztc []):=rfl
@[simp] theorem yr6:zae T zm1=[]:=zah z12
theorem z13:T zm2=some (zaa ztd zte []):=rfl
@[simp] theorem yr7:zae T zm2=[]:=zah z13
theorem z14:T zm3=some (zaa zp4 zp5 []):=rfl
@[simp] theorem yr8:zae T zm3=[]:=zah z14
theorem z15:T zm4=some (zaa ztg zth []):=rfl
@[simp] theorem yr9:zae T zm4=[]:=zah z15
theorem z16:T zj9=some (zaa zti ztj [true]):=rfl
@[simp] theorem ysa:zae T zj9=[true]:=zah z16
theorem z17:T zbc=some (zaa zn9 zoa [true]):=rfl
@[simp] theorem ysb:zae T zbc=[true]:=zah z17
theorem z18:T zm5=some (zaa ztl ztm [true]):=rfl
@[simp] theorem ysc:zae T zm5=[true]:=zah z18
theorem z19:T zd3=some (zaa ztn zto [true,true,true]):=rfl
@[simp] theorem ysd:zae T zd3=[true,true,true]:=zah z19
theorem z2a:T zka=some (zaa zk9 zla [true]):=rfl
@[simp] theorem yse:zae T zka=[true]:=zah z2a
theorem z2b:T zm6=some (zaa zfx zfy [true]):=rfl
@[simp] theorem ysf:zae T zm6=[true]:=zah z2b
theorem z2c:T zm7=some (zaa zgn zgo [true]):=rfl
@[simp] theorem ysg:zae T zm7=[true]:=zah z2c
theorem z2d:T zm8=some (zaa zlb zlc [true]):=rfl
@[simp] theorem ysh:zae T zm8=[true]:=zah z2d
theorem z2e:T zm9=some (zaa zp6 zp7 []):=rfl
@[simp] theorem ysi:zae T zm9=[]:=zah z2e
theorem z2f:T zkb=some (zaa ztp ztq []):=rfl
@[simp] theorem ysj:zae T zkb=[]:=zah z2f
theorem z2g:T zna=some (zaa zts ztt []):=rfl
@[simp] theorem ysk:zae T zna=[]:=zah z2g
theorem z2h:T znb=some (zaa ztu ztv []):=rfl
@[simp] theorem ysl:zae T znb=[]:=zah z2h
theorem z2i:T zkc=some (zaa ztw ztx []):=rfl
@[simp] theorem ysm:zae T zkc=[]:=zah z2i
theorem z2j:T znc=some (zaa zty ztz []):=rfl
@[simp] theorem ysn:zae T znc=[]:=zah z2j
theorem z2k:T zi7=some (zaa zt0 zt1 []):=rfl
@[simp] theorem yso:zae T zi7=[]:=zah z2k
theorem z2l:T znd=some (zaa zt2 zt3 []):=rfl
@[simp] theorem ysp:zae T znd=[]:=zah z2l
theorem z2m:T zi8=some (zaa zp8 zp9 []):=rfl
@[simp] theorem ysq:zae T zi8=[]:=zah z2m
theorem z2n:T zkd=some (zaa zt4 zt5 []):=rfl
@[simp] theorem ysr:zae T zkd=[]:=zah z2n
theorem z2o:T zne=some (zaa zt6 zt7 []):=rfl
@[simp] theorem yss:zae T zne=[]:=zah z2o
theorem z2p:T znf=some (zaa zt8 zt9 []):=rfl
@[simp] theorem yst:zae T znf=[]:=zah z2p
theorem z2q:T zng=some (zaa zua zub []):=rfl
@[simp] theorem ysu:zae T zng=[]:=zah z2q
theorem z2r:T znh=some (zaa zuc zud []):=rfl
@[simp] theorem ysv:zae T znh=[]:=zah z2r
theorem z2s:T zni=some (zaa zue zuf []):=rfl
@[simp] theorem ysw:zae T zni=[]:=zah z2s
theorem z2t:T zke=some (zaa zug zuh []):=rfl
@[simp] theorem ysx:zae T zke=[]:=zah z2t
theorem zxu:T zkf=some (zaa zqa zqb []):=rfl
@[simp] theorem ysy:zae T zkf=[]:=zah zxu
theorem z2u:T zkg=some (zaa zui zuj []):=rfl
@[simp] theorem ysz:zae T zkg=[]:=zah z2u
theorem z2v:T zkh=some (zaa zuk zul []):=rfl
@[simp] theorem ys0:zae T zkh=[]:=zah z2v
theorem z2w:T znj=some (zaa zum zun []):=rfl
@[simp] theorem ys1:zae T znj=[]:=zah z2w
theorem z2x:T zki=some (zaa zqc zqd []):=rfl
@[simp] theorem ys2:zae T zki=[]:=zah z2x
theorem z2y:T znk=some (zaa zuo zup []):=rfl
@[simp] theorem ys3:zae T znk=[]:=zah z2y
theorem z2z:T zkj=some (zaa zuq zur []):=rfl
@[simp] theorem ys4:zae T zkj=[]:=zah z2z
theorem z20:T znl=some (zaa zut zuu []):=rfl
@[simp] theorem ys5:zae T znl=[]:=zah z20
theorem z21:T znm=some (zaa zqf zjh [true]):=rfl
@[simp] theorem ys6:zae T znm=[true]:=zah z21
theorem z22:T zgl=some (zaa zqg zqh [true]):=rfl
@[simp] theorem ys7:zae T zgl=[true]:=zah z22
theorem z23:T zi9=some (zaa zob zoc [true]):=rfl
@[simp] theorem ys8:zae T zi9=[true]:=zah z23
theorem z24:T zja=some (zaa zuw zux []):=rfl
@[simp] theorem ys9:zae T zja=[]:=zah z24
theorem z25:T znn=some (zaa zuy zuz []):=rfl
@[simp] theorem yta:zae T znn=[]:=zah z25
theorem z26:T zkk=some (zaa zh6 zh7 []):=rfl
@[simp] theorem ytb:zae T zkk=[]:=zah z26
theorem z27:T zno=some (zaa zqi zqj []):=rfl
@[simp] theorem ytc:zae T zno=[]:=zah z27
theorem z28:T znp=some (zaa zu0 zu1 []):=rfl
@[simp] theorem ytd:zae T znp=[]:=zah z28
theorem z29:T zkl=some (zaa zu2 zu3 []):=rfl
@[simp] theorem yte:zae T zkl=[]:=zah z29
theorem z3a:T znq=some (zaa zu4 zu5 []):=rfl
@[simp] theorem ytf:zae T znq=[]:=zah z3a
theorem z3b:T zjb=some (zaa zu6 zu7 []):=rfl
@[simp] theorem ytg:zae T zjb=[]:=zah z3b
theorem z3c:T znr=some (zaa zu8 zu9 []):=rfl
@[simp] theorem yth:zae T znr=[]:=zah z3c
theorem z3d:T zkm=some (zaa zva zvb []):=rfl
@[simp] theorem yti:zae T zkm=[]:=zah z3d
theorem z3e:T zns=some (zaa zh8 zh9 []):=rfl
@[simp] theorem ytj:zae T zns=[]:=zah z3e
theorem z3f:T znt=some (zaa zvc zvd []):=rfl
@[simp] theorem ytk:zae T znt=[]:=zah z3f
theorem z3g:T znu=some (zaa zve zvf []):=rfl
@[simp] theorem ytl:zae T znu=[]:=zah z3g
theorem z3h:T znv=some (zaa zvh zvi []):=rfl
@[simp] theorem ytm:zae T znv=[]:=zah z3h
theorem z3i:T zkn=some (zaa zia zib []):=rfl
@[simp] theorem ytn:zae T zkn=[]:=zah z3i
theorem z3j:T zko=some (zaa zvj zvk []):=rfl
@[simp] theorem yto:zae T zko=[]:=zah z3j
theorem z3k:T zkp=some (zaa zof zog []):=rfl
@[simp] theorem ytp:zae T zkp=[]:=zah z3k
theorem z3l:T znw=some (zaa zic zid []):=rfl
@[simp] theorem ytq:zae T znw=[]:=zah z3l
theorem z3m:T zkq=some (zaa zvl zvm []):=rfl
@[simp] theorem ytr:zae T zkq=[]:=zah z3m
theorem z3n:T znx=some (zaa zvn zvo []):=rfl
@[simp] theorem yts:zae T znx=[]:=zah z3n
theorem z3o:T zjc=some (zaa zvp zvq []):=rfl
@[simp] theorem ytt:zae T zjc=[]:=zah z3o
theorem z3p:T zkr=some (zaa zgp zgq []):=rfl
@[simp] theorem ytu:zae T zkr=[]:=zah z3p
theorem z3q:T zfw=some (zaa zoh zoi []):=rfl
@[simp] theorem ytv:zae T zfw=[]:=zah z3q
theorem z3r:T zjd=some (zaa zvr zvs []):=rfl
@[simp] theorem ytw:zae T zjd=[]:=zah z3r
theorem z3s:T zks=some (zaa zvt zvu []):=rfl
@[simp] theorem ytx:zae T zks=[]:=zah z3s
theorem z3t:T zny=some (zaa zvv zvw []):=rfl
@[simp] theorem yty:zae T zny=[]:=zah z3t
theorem z3u:T zkt=some (zaa zoj zok []):=rfl
@[simp] theorem ytz:zae T zkt=[]:=zah z3u
theorem z3v:T zku=some (zaa zvx zvy []):=rfl
@[simp] theorem yt0:zae T zku=[]:=zah z3v
theorem z3w:T zkv=some (zaa zv0 zv1 []):=rfl
@[simp] theorem yt1:zae T zkv=[]:=zah z3w
theorem z3x:T znz=some (zaa zv2 zv3 []):=rfl
@[simp] theorem yt2:zae T znz=[]:=zah z3x
theorem z3y:T zkw=some (zaa zv4 zv5 []):=rfl
@[simp] theorem yt3:zae T zkw=[]:=zah z3y
theorem z3z:T zgm=some (zaa zle zlf []):=rfl
@[simp] theorem yt4:zae T zgm=[]:=zah z3z
theorem z30:T zje=some (.ext zo4):=rfl
@[simp] theorem yt5:zae T zje=[]:=rfl
theorem zxv:T zh4=some (.ext zor):=rfl
@[simp] theorem yt6:zae T zh4=[]:=rfl
theorem z31:T zjf=some (zaa zv6 zv7 []):=rfl
@[simp] theorem yt7:zae T zjf=[]:=zah z31
theorem z32:T zjg=some (zaa zv8 zv9 []):=rfl
@[simp] theorem yt8:zae T zjg=[]:=zah z32
theorem z33:T zkx=some (zaa zol zom []):=rfl
@[simp] theorem yt9:zae T zkx=[]:=zah z33
theorem z34:T zky=some (zaa zwa zwb []):=rfl
@[simp] theorem yua:zae T zky=[]:=zah z34
end Go.Pe
