/- The compact texts of the functions that the law reaches; no condition. -/
import Derived.Test.YtpcphbbcnmhcnaaGreatEvA0
set_option linter.all false
namespace Go.Pe
open Go
abbrev gE (n g:Nat) (b:Bool) (o:IOp):zab:=⟨some (.E n),o,some (.E g,b)⟩
abbrev gV (n g:Nat) (b:Bool) (o:IOp):zab:=⟨some (.V n),o,some (.E g,b)⟩
abbrev fV (n i k:Nat):zab:=⟨some (.E n),.faddr i (.V k),none⟩
abbrev fE (n i k:Nat):zab:=⟨some (.E n),.faddr i (.E k),none⟩
abbrev lE (n k:Nat):zab:=⟨some (.E n),.load false 1 (.E k),none⟩
abbrev tV (n i k:Nat):zab:=⟨some (.E n),.load true i (.V k),none⟩
abbrev tE (n i k:Nat):zab:=⟨some (.E n),.load true i (.E k),none⟩
abbrev iE (n i a b:Nat):zab:=⟨some (.E n),.iaddr i (.E a) (.E b),none⟩
abbrev nE (n k:Nat):zab:=⟨some (.E n),.len (.E k),none⟩
abbrev bE (n:Nat) (o:BinOp) (a b:Nat):zab:=⟨some (.E n),.bin o (.E a) (.E b),none⟩
abbrev wE (n k:Nat):zab:=⟨some (.E n),.mv (.E k),none⟩
def bs (l:List UInt8):ByteArray:=⟨l.toArray⟩
def zrn:Nat:=3
def znz:Nat:=10
def zn0:Nat:=11
def zli:Nat:=12
def zn1:Nat:=13
def zn2:Nat:=14
def zn3:Nat:=15
def zn4:Nat:=25
def zn5:Nat:=26
def zn6:Nat:=28
def zn7:Nat:=49
def zn8:Nat:=50
def zez:Nat:=51
def zlj:Nat:=52
def zlk:Nat:=53
def zll:Nat:=54
def zn9:Nat:=55
def zoa:Nat:=56
def zob:Nat:=57
def zfp:Nat:=58
def zki:Nat:=61
def zja:Nat:=62
def zoc:Nat:=63
def zod:Nat:=64
def zoe:Nat:=65
def zof:Nat:=72
def zbi:Nat:=78
def zog:Nat:=79
def zii:Nat:=80
def zoh:Nat:=82
def zoi:Nat:=83
def zjb:Nat:=87
def zkj:Nat:=88
def zoj:Nat:=89
def zbu:Nat:=90
def zok:Nat:=92
def zol:Nat:=93
def zlm:Nat:=94
def zom:Nat:=95
def zon:Nat:=96
def zoo:Nat:=97
def zop:Nat:=125
def zln:Nat:=126
def zlo:Nat:=127
def zoq:Nat:=128
def zor:Nat:=129
def zos:Nat:=130
def ze8:Nat:=132
def zkk:Nat:=133
def zot:Nat:=134
def zlp:Nat:=135
def zlq:Nat:=136
def zlr:Nat:=137
def zou:Nat:=145
def zov:Nat:=146
def zls:Nat:=147
def zlu:Nat:=150
def zow:Nat:=153
def zhh:Nat:=154
def zlv:Nat:=156
def zlw:Nat:=157
def zox:Nat:=158
def zoy:Nat:=159
def zoz:Nat:=160
def zkl:Nat:=161
def zlx:Nat:=162
def zo0:Nat:=163
def zjc:Nat:=164
def zo1:Nat:=165
def zo2:Nat:=166
def zkm:Nat:=167
def zo3:Nat:=168
def zly:Nat:=169
def zo4:Nat:=170
def zlz:Nat:=171
def zo5:Nat:=172
def zo6:Nat:=173
def zo7:Nat:=174
def zl0:Nat:=200
def zl1:Nat:=204
def zo8:Nat:=205
def zo9:Nat:=206
def zpa:Nat:=209
def zkn:Nat:=210
def zpb:Nat:=213
def zko:Nat:=214
def zpc:Nat:=215
def zpd:Nat:=216
def zl2:Nat:=217
def zl3:Nat:=218
def zpe:Nat:=219
def zpf:Nat:=220
def zpg:Nat:=221
def zl4:Nat:=222
def zl5:Nat:=223
def zl6:Nat:=224
def zph:Nat:=225
def zpi:Nat:=240
def zpj:Nat:=241
def zl7:Nat:=242
def zpk:Nat:=243
def zl8:Nat:=244
def zl9:Nat:=245
def zpl:Nat:=246
def zpm:Nat:=247
def zkp:Nat:=257
def zpn:Nat:=258
def zpo:Nat:=259
def zkq:Nat:=260
def zma:Nat:=261
def zpp:Nat:=262
def zpq:Nat:=280
def zkr:Nat:=281
def zpr:Nat:=282
def zmb:Nat:=283
def zps:Nat:=284
def zmc:Nat:=285
def zmd:Nat:=286
def zme:Nat:=297
def zpt:Nat:=298
def zpu:Nat:=299
def zmf:Nat:=300
def zks:Nat:=301
def zmg:Nat:=302
def zgr:Nat:=303
def zkt:Nat:=304
def zpv:Nat:=312
def zhi:Nat:=313
def zku:Nat:=314
def zjd:Nat:=315
def zkv:Nat:=316
def zkw:Nat:=317
def zmh:Nat:=318
def zmi:Nat:=323
def yg7:List Nat:=[0,3,4,6,8,7,5,9,2]
def z0u:IC := .seq (.seq (.reg [mV 60 9,fV 61 1 7,lE 62 61,nE 63 62,bE 64 .lss 60 63]) (.cond (.E 64) .skip (.exit 0))) (.seq (.block 1 (.seq (.regD [(fV 67 1 7,0,0),(lE 68 67,0,0),(mV 69 9,0,0),(iE 70 1 68 69,0,0),(tE 71 1 70,0,0),(fV 72 1 5,0,0),(lE 73 72,0,0),(mV 74 9,0,0),(iE 75 1 73 74,0,0),(tE 76 1 75,0,0),(oE 77 (.call zn3 [([5],(.E 71)),([5],(.E 76))]),0,0),(oE 78 (.un .not (.E 77)),0,0)]) (.cond (.E 78) (.seq (.reg [oV 2 (.mv (kb false))]) .ret) .skip))) (.reg [mV 65 9,oE 66 (.bin .add (.E 65) (ki 1)),vE 9 66]))
def zkx:IC := .seq (.reg [oV 2 (.mv (kb false))]) (.seq (.seq (.reg [mV 10 0,oE 11 (.call znz [([1],(.E 10))])]) (.cond (.E 11) (.seq (.reg [oV 2 (.mv (kb true))]) .ret) .skip)) (.seq (.reg [mV 13 0,oE 14 (.call zn0 [([1],(.E 13))]),wE 12 14,xE 15 0 12,xE 16 1 12,oV 3 (.alloc [.e0,(.v (.string (bs []))),.e0,.e0]),oV 4 (.alloc [iv 0,iv 0,iv 0,iv 0,iv 0,iv 0,iv 0,.e0]),oN (.store [1,0,1,1] (.V 3) (.E 15)),oN (.store [0,0,0,0,0,0,0,1] (.V 4) (.E 16))]) (.seq (.reg [tV 18 4 3,tV 19 8 4,oE 20 (.call zli [([1,0,1,1],(.E 18)),([0,0,0,0,0,0,0,1],(.E 19))]),wE 17 20,xE 21 0 17,xE 22 1 17,oV 5 (.alloc [.e0,.e0]),oN (.store [1,1] (.V 5) (.E 21)),vE 6 22]) (.seq (.seq (.reg [mV 23 6,tV 24 4 3,oE 25 (.call zn1 [([1,0,1,1],(.E 24))]),wE 26 25,gE 27 26 .true (.load true 8 (.V 4)),gE 28 26 .true (.call zn2 [([0,0,0,0,0,0,0,1],(.E 27))]),oE 29 (.pick (.E 26) (.E 28) (kb false)),oE 30 (.eqb true [.b] (.E 23) (.E 29))]) (.cond (.E 30) (.seq (.reg [oV 2 (.mv (kb false))]) .ret) .skip)) (.seq (.seq (.reg [mV 31 6,oE 32 (.un .not (.E 31)),wE 33 32,gE 34 33 .false (.faddr 0 (.V 4)),gE 35 33 .false (.load false 1 (.E 34)),gE 36 33 .false (.bin .lss (.E 35) (ki 2)),oE 37 (.pick (.E 33) (kb true) (.E 36))]) (.cond (.E 37) (.seq (.reg [oV 2 (.mv (kb true))]) .ret) .skip)) (.seq (.reg [fV 38 0 4,lE 39 38,oE 40 (.bin .sub (.E 39) (ki 1)),fV 41 0 4,oN (.store [0] (.E 41) (.E 40))]) (.seq (.reg [tV 43 4 3,tV 44 8 4,oE 45 (.call zli [([1,0,1,1],(.E 43)),([0,0,0,0,0,0,0,1],(.E 44))]),wE 42 45,xE 46 0 42,xE 47 1 42,oV 7 (.alloc [.e0,.e0]),oN (.store [1,1] (.V 7) (.E 46)),vE 8 47]) (.seq (.seq (.reg [mV 48 8,oE 49 (.un .not (.E 48)),wE 50 49,gE 51 50 .false (.faddr 1 (.V 7)),gE 52 50 .false (.load false 1 (.E 51)),gE 53 50 .false (.len (.E 52)),gE 54 50 .false (.bin .add (.E 53) (ki 1)),gE 55 50 .false (.faddr 1 (.V 5)),gE 56 50 .false (.load false 1 (.E 55)),gE 57 50 .false (.len (.E 56)),gE 58 50 .false (.bin .neq (.E 54) (.E 57)),oE 59 (.pick (.E 50) (kb true) (.E 58))]) (.cond (.E 59) (.seq (.reg [oV 2 (.mv (kb false))]) .ret) .skip)) (.seq (.seq (.reg [oV 9 (.mv (ki 0))]) (.block 0 (.loop z0u))) (.seq (.reg [oV 2 (.mv (kb true))]) .ret))))))))))
def zky:List RV:=[.tmp [0] 2]
def yg8:List Nat:=[0,2]
def zub:IC := .seq (.reg [oV 2 (.mv (kb false))]) (.seq (.reg [mV 3 0,nE 4 3,oE 5 (.bin .gtr (.E 4) (ki 1048576)),vE 2 5]) .ret)
def zuc:List RV:=[.tmp [0] 2]
def yg9:List Nat:=[0,5,6,2,3]
def zud:IC := .seq (.reg [oV 2 (.alloc [.e0,(.v (.string (bs []))),.e0,.e0]),oV 3 (.alloc [iv 0,iv 0,iv 0,iv 0,iv 0,iv 0,iv 0,.e0])]) (.seq (.reg [mV 8 0,oE 9 (.call zn7 [([1],(.E 8))]),wE 7 9,xE 10 0 7,xE 11 1 7,xE 12 2 7,oV 5 (.alloc [.e0,(.v (.string (bs []))),.e0,.e0]),oV 6 (.alloc [iv 0,iv 0,iv 0,iv 0,iv 0,iv 0,iv 0,.e0]),wE 4 10,oN (.store [1,0,1,1] (.V 5) (.E 11)),oN (.store [0,0,0,0,0,0,0,1] (.V 6) (.E 12))]) (.seq (.regD [(tV 13 4 5,0,0),(tV 14 8 6,0,1),(oN (.store [1,0,1,1] (.V 2) (.E 13)),0,0),(oN (.store [0,0,0,0,0,0,0,1] (.V 3) (.E 14)),0,0)]) .ret))
def zue:List RV:=[.cell [1,0,1,1] 2 true,.cell [0,0,0,0,0,0,0,1] 3 true]
def yha:List Nat:=[0,1,2,3,7,4,6,5]
def zro:IC := .seq (.reg [oV 2 (.box (.V 0)),oV 3 (.box (.V 1)),oV 4 (.alloc [.e0,.e0]),oV 5 (.mv (kb false))]) (.seq (.reg [tV 9 4 2,tV 10 8 3,oE 11 (.call zn8 [([1,0,1,1],(.E 9)),([0,0,0,0,0,0,0,1],(.E 10))]),wE 8 11,xE 12 0 8,xE 13 1 8,vE 6 12,vE 7 13]) (.seq (.seq (.reg [mV 14 7,oE 15 (.un .not (.E 14))]) (.cond (.E 15) (.seq (.reg [oE 16 (.build [.e0,.e0] []),oN (.store [1,1] (.V 4) (.E 16)),oV 5 (.mv (kb false))]) .ret) .skip)) (.seq (.reg [mV 17 6,mV 18 6,nE 19 18,oE 20 (.bin .sub (.E 19) (ki 1)),iE 21 2 17 20,tE 22 2 21,oN (.store [1,1] (.V 4) (.E 22)),oV 5 (.mv (kb true))]) .ret)))
def zrp:List RV:=[.pl,.cell [1,1] 4 true,.tmp [0] 5]
def yhb:List Nat:=[0,1,3,4,5,6,2]
def zpw:IC := .seq (.seq (.reg [mV 42 4,mV 43 3,bE 44 .lss 42 43]) (.cond (.E 44) .skip (.exit 0))) (.seq (.block 1 (.seq (.regD [(fV 47 0 1,0,0),(lE 48 47,0,0),(mV 49 4,0,0),(iE 50 1 48 49,0,0),(lE 51 50,0,0),(oE 52 (.call zlj [([0],(.E 51))]),0,0),(oE 53 (.un .not (.E 52)),0,0),(wE 54 53,0,0),(gE 55 54 .false (.faddr 0 (.V 1)),0,0),(gE 56 54 .false (.load false 1 (.E 55)),0,0),(gE 57 54 .false (.mv (.V 4)),0,0),(gE 58 54 .false (.slice 1 (.E 56) none (some (.E 57)) none),0,0),(gE 59 54 .false (.faddr 0 (.V 1)),0,0),(gE 60 54 .false (.load false 1 (.E 59)),0,0),(gE 61 54 .false (.mv (.V 4)),0,0),(gE 62 54 .false (.iaddr 1 (.E 60) (.E 61)),0,0),(gE 63 54 .false (.load false 1 (.E 62)),0,0),(gE 64 54 .false (.call zlk [([1],(.E 58)),([0],(.E 63))]),0,0),(oE 65 (.pick (.E 54) (kb true) (.E 64)),0,0)]) (.cond (.E 65) (.seq (.reg [oV 2 (.mv (kb false))]) .ret) .skip))) (.reg [mV 45 4,oE 46 (.bin .add (.E 45) (ki 1)),vE 4 46]))
def zrq:IC := .seq (.seq (.reg [mV 90 6,mV 91 3,bE 92 .lss 90 91]) (.cond (.E 92) .skip (.exit 4))) (.seq (.block 5 (.seq (.reg [fV 95 2 1,lE 96 95,mV 97 5,iE 98 1 96 97,lE 99 98,mV 100 6,iE 101 1 99 100,lE 102 101,oE 103 (.call zll [([0],(.E 102))]),oE 104 (.un .not (.E 103))]) (.cond (.E 104) (.seq (.reg [oV 2 (.mv (kb false))]) .ret) .skip))) (.reg [mV 93 6,oE 94 (.bin .add (.E 93) (ki 1)),vE 6 94]))
def zpx:IC := .seq (.seq (.reg [mV 66 5,fV 67 2 1,lE 68 67,nE 69 68,bE 70 .lss 66 69]) (.cond (.E 70) .skip (.exit 2))) (.seq (.block 3 (.seq (.seq (.reg [fV 73 2 1,lE 74 73,mV 75 5,iE 76 1 74 75,lE 77 76,nE 78 77,mV 79 3,bE 80 .neq 78 79,wE 81 80,gE 82 81 .false (.faddr 3 (.V 1)),gE 83 81 .false (.load false 1 (.E 82)),gE 84 81 .false (.mv (.V 5)),gE 85 81 .false (.iaddr 1 (.E 83) (.E 84)),gE 86 81 .false (.load false 1 (.E 85)),gE 87 81 .false (.call zll [([0],(.E 86))]),gE 88 81 .false (.un .not (.E 87)),oE 89 (.pick (.E 81) (kb true) (.E 88))]) (.cond (.E 89) (.seq (.reg [oV 2 (.mv (kb false))]) .ret) .skip)) (.seq (.reg [oV 6 (.mv (ki 0))]) (.block 4 (.loop zrq))))) (.reg [mV 71 5,oE 72 (.bin .add (.E 71) (ki 1)),vE 5 72]))
def zje:IC := .seq (.reg [oV 1 (.box (.V 0)),oV 2 (.mv (kb false))]) (.seq (.reg [fV 7 0 1,lE 8 7,nE 9 8,vE 3 9]) (.seq (.seq (.reg [mV 10 3,oE 11 (.call zez [([0],(.E 10)),([0],(ki 1)),([0],(ki 4))]),oE 12 (.un .not (.E 11)),wE 13 12,gE 14 13 .false (.faddr 1 (.V 1)),gE 15 13 .false (.load false 1 (.E 14)),gE 16 13 .false (.call zlj [([0],(.E 15))]),gE 17 13 .false (.un .not (.E 16)),oE 18 (.pick (.E 13) (kb true) (.E 17)),wE 19 18,gE 20 19 .false (.faddr 0 (.V 1)),gE 21 19 .false (.load false 1 (.E 20)),gE 22 19 .false (.faddr 1 (.V 1)),gE 23 19 .false (.load false 1 (.E 22)),gE 24 19 .false (.call zlk [([1],(.E 21)),([0],(.E 23))]),oE 25 (.pick (.E 19) (kb true) (.E 24)),wE 26 25,gE 27 26 .false (.faddr 2 (.V 1)),gE 28 26 .false (.load false 1 (.E 27)),gE 29 26 .false (.len (.E 28)),gE 30 26 .false (.call zez [([0],(.E 29)),([0],(ki 1)),([0],(ki 40))]),gE 31 26 .false (.un .not (.E 30)),oE 32 (.pick (.E 26) (kb true) (.E 31)),wE 33 32,gE 34 33 .false (.faddr 3 (.V 1)),gE 35 33 .false (.load false 1 (.E 34)),gE 36 33 .false (.len (.E 35)),gE 37 33 .false (.faddr 2 (.V 1)),gE 38 33 .false (.load false 1 (.E 37)),gE 39 33 .false (.len (.E 38)),gE 40 33 .false (.bin .neq (.E 36) (.E 39)),oE 41 (.pick (.E 33) (kb true) (.E 40))]) (.cond (.E 41) (.seq (.reg [oV 2 (.mv (kb false))]) .ret) .skip)) (.seq (.seq (.reg [oV 4 (.mv (ki 0))]) (.block 0 (.loop zpw))) (.seq (.seq (.reg [oV 5 (.mv (ki 0))]) (.block 2 (.loop zpx))) (.seq (.reg [oV 2 (.mv (kb true))]) .ret)))))
def zjf:List RV:=[.tmp [0] 2]
def yhc:List Nat:=[0,1,4,3,5,2]
def zmj:IC := .seq (.seq (.reg [mV 8 4,oE 9 (.bin .lss (.E 8) (ki 5))]) (.cond (.E 9) .skip (.exit 0))) (.seq (.block 1 (.seq (.regD [(mV 12 3,0,0),(mV 13 4,0,0),(iE 14 1 12 13,0,2),(lE 15 14,0,2),(oE 16 (.call zoa []),0,0),(mV 17 4,0,0),(iE 18 1 16 17,0,1),(lE 19 18,0,1),(oE 20 (.call zob []),0,0),(mV 21 4,0,0),(iE 22 1 20 21,0,0),(lE 23 22,0,0),(oE 24 (.call zez [([0],(.E 15)),([0],(.E 19)),([0],(.E 23))]),0,0),(oE 25 (.un .not (.E 24)),0,0)]) (.cond (.E 25) (.seq (.reg [oV 2 (.mv (kb false))]) .ret) .skip))) (.reg [mV 10 4,oE 11 (.bin .add (.E 10) (ki 1)),vE 4 11]))
def z4x:IC := .seq (.seq (.reg [mV 26 5,fV 27 7 1,lE 28 27,nE 29 28,bE 30 .lss 26 29]) (.cond (.E 30) .skip (.exit 2))) (.seq (.block 3 (.seq (.reg [fV 33 7 1,lE 34 33,mV 35 5,iE 36 1 34 35,lE 37 36,oE 38 (.call zez [([0],(.E 37)),([0],(ki (-1))),([0],(ki 1))]),oE 39 (.un .not (.E 38))]) (.cond (.E 39) (.seq (.reg [oV 2 (.mv (kb false))]) .ret) .skip))) (.reg [mV 31 5,oE 32 (.bin .add (.E 31) (ki 1)),vE 5 32]))
def zuf:IC := .seq (.reg [oV 1 (.box (.V 0)),oV 2 (.mv (kb false))]) (.seq (.reg [tV 6 8 1,oE 7 (.call zn9 [([0,0,0,0,0,0,0,1],(.E 6))]),vE 3 7]) (.seq (.seq (.reg [oV 4 (.mv (ki 0))]) (.block 0 (.loop zmj))) (.seq (.seq (.reg [oV 5 (.mv (ki 0))]) (.block 2 (.loop z4x))) (.seq (.reg [fV 40 6 1,lE 41 40,oE 42 (.call zez [([0],(.E 41)),([0],(ki 1)),([0],(ki 1000))]),wE 43 42,gE 44 43 .true (.faddr 5 (.V 1)),gE 45 43 .true (.load false 1 (.E 44)),gE 46 43 .true (.faddr 6 (.V 1)),gE 47 43 .true (.load false 1 (.E 46)),gE 48 43 .true (.call zez [([0],(.E 45)),([0],(ki 1)),([0],(.E 47))]),oE 49 (.pick (.E 43) (.E 48) (kb false)),wE 50 49,gE 51 50 .true (.faddr 7 (.V 1)),gE 52 50 .true (.load false 1 (.E 51)),gE 53 50 .true (.len (.E 52)),gE 54 50 .true (.bin .leq (.E 53) (ki 4)),oE 55 (.pick (.E 50) (.E 54) (kb false)),vE 2 55]) .ret))))
def zug:List RV:=[.tmp [0] 2]
def yhd:List Nat:=[0,1,2,3,5,4]
def z4y:IC := .seq (.seq (.reg [mV 13 5,fV 14 0 2,lE 15 14,nE 16 15,bE 17 .lss 13 16]) (.cond (.E 17) .skip (.exit 0))) (.seq (.block 1 (.seq (.regD [(fV 20 0 2,0,0),(lE 21 20,0,0),(mV 22 5,0,0),(iE 23 5 21 22,0,0),(tE 24 5 23,0,0),(fV 25 0 3,0,0),(lE 26 25,0,0),(mV 27 5,0,0),(iE 28 5 26 27,0,0),(tE 29 5 28,0,0),(oE 30 (.eqb true [.i .i64,.i .i64,.i .i64,.i .i64,.i .i64] (.E 24) (.E 29)),0,0)]) (.cond (.E 30) (.seq (.reg [oV 4 (.mv (kb false))]) .ret) .skip))) (.reg [mV 18 5,oE 19 (.bin .add (.E 18) (ki 1)),vE 5 19]))
def zrr:IC := .seq (.reg [oV 2 (.box (.V 0)),oV 3 (.box (.V 1)),oV 4 (.mv (kb false))]) (.seq (.seq (.reg [fV 6 0 2,lE 7 6,nE 8 7,fV 9 0 3,lE 10 9,nE 11 10,bE 12 .neq 8 11]) (.cond (.E 12) (.seq (.reg [oV 4 (.mv (kb false))]) .ret) .skip)) (.seq (.seq (.reg [oV 5 (.mv (ki 0))]) (.block 0 (.loop z4y))) (.seq (.reg [oV 4 (.mv (kb true))]) .ret)))
def zrs:List RV:=[.tmp [0] 4]
def yhe:List Nat:=[0,11,10,9,4,6,8,7,2,3]
def z4z:IC := .seq (.reg [oE 12 (.bin .lss (.V 11) (.V 10))]) (.seq (.cond (.E 12) .skip (.exit 0)) (.seq (.block 1 (.seq (.reg [oE 13 (.iaddr 1 (.V 9) (.V 11)),lE 14 13,vE 6 14]) (.seq (.reg [mV 16 4,mV 17 6,oE 18 (.call zjb [([0],(.E 16)),([0],(.E 17))]),wE 15 18,xE 19 0 15,xE 20 1 15,vE 7 19,vE 8 20]) (.seq (.seq (.reg [mV 21 8,oE 22 (.un .not (.E 21))]) (.cond (.E 22) (.seq (.reg [oV 2 (.mv (ki 0)),oV 3 (.mv (kb false))]) .ret) .skip)) (.reg [mV 23 7,vE 4 23]))))) (.reg [oE 24 (.bin .add (.V 11) (ki 1)),vE 11 24])))
def zuh:IC := .seq (.reg [oV 2 (.mv (ki 0)),oV 3 (.mv (kb false))]) (.seq (.reg [oV 4 (.mv (ki 0))]) (.seq (.seq (.reg [oV 9 (.mv (.V 0)),oV 10 (.len (.V 9)),oV 11 (.mv (ki 0))]) (.block 0 (.loop z4z))) (.seq (.reg [mV 25 4,mV 26 0,nE 27 26,oE 28 (.call zkj [([0],(.E 25)),([0],(.E 27))]),xE 29 0 28,xE 30 1 28,vE 2 29,vE 3 30]) .ret)))
def zui:List RV:=[.tmp [0] 2,.tmp [0] 3]
def yhf:List Nat:=[0,1,2,5,4]
def zuj:IC := .seq (.reg [oV 2 (.box (.V 0)),oV 4 (.mv (ki 0))]) (.seq (.reg [tV 6 1 2,mV 7 1,oE 8 (.call zoj [([5],(.E 6)),([1],(.E 7))]),vE 5 8]) (.seq (.seq (.reg [mV 9 5,oE 10 (.bin .lss (.E 9) (ki 0))]) (.cond (.E 10) (.seq (.reg [oV 4 (.mv (ki 0))]) .ret) .skip)) (.seq (.reg [fV 11 0 2,lE 12 11,mV 13 5,iE 14 5 12 13,fE 15 4 14,lE 16 15,vE 4 16]) .ret)))
def zuk:List RV:=[.tmp [0] 4]
def yhg:List Nat:=[0,1,2,3,4,5,6,8,7,11,10,12,13,72,71,70,16,15,18,14,17,9]
def zpy:IC := .seq (.reg [oE 73 (.bin .lss (.V 72) (.V 71))]) (.seq (.cond (.E 73) .skip (.exit 0)) (.seq (.block 1 (.seq (.reg [mV 74 72,oE 75 (.iaddr 1 (.V 70) (.V 72)),lE 76 75,vE 15 74,vE 16 76]) (.seq (.regD [(mV 78 16,0,0),(tV 79 1 13,0,0),(fV 80 2 4,0,0),(lE 81 80,0,0),(mV 82 15,0,0),(iE 83 1 81 82,0,0),(lE 84 83,0,0),(oE 85 (.call zn5 [([5],(.E 79)),([1],(.E 84))]),0,0),(oE 86 (.call zjb [([0],(.E 78)),([0],(.E 85))]),0,0),(wE 77 86,0,0),(xE 87 0 77,0,0),(xE 88 1 77,0,0),(vE 17 87,0,0),(vE 18 88,0,0)]) (.seq (.seq (.reg [mV 89 18,oE 90 (.un .not (.E 89))]) (.cond (.E 90) (.seq (.reg [oE 91 (.build [.e0,.e0] []),oN (.store [1,1] (.V 8) (.E 91)),oV 9 (.mv (kb false))]) .ret) .skip)) (.reg [fV 92 0 14,lE 93 92,mV 94 17,oE 95 (.bslice 1 1 [iv 0] [(0,(.E 94))]),oE 96 (.app 8 1 (.E 93) (.E 95)),fV 97 0 14,oN (.store [1] (.E 97) (.E 96))]))))) (.reg [oE 98 (.bin .add (.V 72) (ki 1)),vE 72 98])))
def zjg:IC := .seq (.reg [oV 4 (.box (.V 0)),oV 5 (.box (.V 1)),oV 6 (.box (.V 2)),oV 7 (.box (.V 3)),oV 8 (.alloc [.e0,.e0]),oV 9 (.mv (kb false))]) (.seq (.seq (.regD [(tV 19 4 4,0,0),(oE 20 (.call zki [([1,0,1,1],(.E 19))]),0,0),(oE 21 (.un .not (.E 20)),0,0),(wE 22 21,0,0),(gE 23 22 .false (.load true 2 (.V 5)),0,1),(gE 24 22 .false (.load true 4 (.V 4)),0,0),(gE 25 22 .false (.faddr 2 (.V 6)),0,0),(gE 26 22 .false (.load false 1 (.E 25)),0,0),(gE 27 22 .false (.call zlm [([1,0,1,1],(.E 24)),([0],(.E 26))]),0,0),(gE 28 22 .false (.call zol [([1,1],(.E 23)),([1,1],(.E 27))]),0,0),(gE 29 22 .false (.un .not (.E 28)),0,0),(oE 30 (.pick (.E 22) (kb true) (.E 29)),0,0)]) (.cond (.E 30) (.seq (.reg [oE 31 (.build [.e0,.e0] []),oN (.store [1,1] (.V 8) (.E 31)),oV 9 (.mv (kb false))]) .ret) .skip)) (.seq (.reg [fV 33 3 4,lE 34 33,fV 35 0 7,lE 36 35,oE 37 (.call zom [([1],(.E 34)),([1],(.E 36))]),wE 32 37,xE 38 0 32,xE 39 1 32,vE 10 38,vE 11 39]) (.seq (.seq (.reg [mV 40 11,oE 41 (.un .not (.E 40))]) (.cond (.E 41) (.seq (.reg [oE 42 (.build [.e0,.e0] []),oN (.store [1,1] (.V 8) (.E 42)),oV 9 (.mv (kb false))]) .ret) .skip)) (.seq (.reg [tV 44 2 5,mV 45 10,tV 46 8 6,oE 47 (.call zon [([1,1],(.E 44)),([1],(.E 45)),([0,0,0,0,0,0,0,1],(.E 46))]),wE 43 47,xE 48 0 43,xE 49 1 43,oV 12 (.alloc [.e0]),oN (.store [5] (.V 12) (.E 48)),vE 11 49]) (.seq (.seq (.reg [mV 50 11,oE 51 (.un .not (.E 50))]) (.cond (.E 51) (.seq (.reg [oE 52 (.build [.e0,.e0] []),oN (.store [1,1] (.V 8) (.E 52)),oV 9 (.mv (kb false))]) .ret) .skip)) (.seq (.reg [tV 54 1 12,tV 55 8 6,oE 56 (.call zoo [([5],(.E 54)),([0,0,0,0,0,0,0,1],(.E 55))]),wE 53 56,xE 57 0 53,xE 58 1 53,oV 13 (.alloc [.e0]),oN (.store [5] (.V 13) (.E 57)),vE 11 58]) (.seq (.seq (.reg [mV 59 11,oE 60 (.un .not (.E 59))]) (.cond (.E 60) (.seq (.reg [oE 61 (.build [.e0,.e0] []),oN (.store [1,1] (.V 8) (.E 61)),oV 9 (.mv (kb false))]) .ret) .skip)) (.seq (.regD [(fV 62 1 7,0,0),(lE 63 62,0,0),(oE 64 (.call zoe [([1],(.E 63))]),0,0),(tV 65 1 13,1,0),(oE 66 (.bsliceL 1 1 [(.own 5 [])] [(0,(.E 65))]),0,0),(oE 67 (.app 24 1 (.E 64) (.E 66)),0,0),(oE 68 (.build [.e0,.e0] [(1,1,(.E 67))]),0,0),(oV 14 (.allocL [.e0,.e0]),0,0),(oN (.store [1,1] (.V 14) (.E 68)),0,0)]) (.seq (.seq (.reg [fV 69 0 7,oV 70 (.load false 1 (.E 69)),oV 71 (.len (.V 70)),oV 72 (.mv (ki 0))]) (.block 0 (.loop zpy))) (.seq (.reg [tV 99 2 14,oN (.store [1,1] (.V 8) (.E 99)),oV 9 (.mv (kb true))]) .ret))))))))))
def zjh:List RV:=[.cell [1,1] 8 true,.tmp [0] 9]
def yhh:List Nat:=[0,5,6,7,3,4,2]
def zmk:IC := .seq (.reg [oV 2 (.mv (.C (.v (.pointer none)))),oV 3 (.alloc [.e0,(.v (.string (bs []))),.e0,.e0]),oV 4 (.alloc [iv 0,iv 0,iv 0,iv 0,iv 0,iv 0,iv 0,.e0])]) (.seq (.reg [mV 8 0,oE 9 (.call zop [([1],(.E 8))]),vE 5 9]) (.seq (.reg [mV 10 5,oE 11 (.call zln [([0],(.E 10))]),oV 6 (.alloc [.e0,(.v (.string (bs []))),.e0,.e0]),oN (.store [1,0,1,1] (.V 6) (.E 11))]) (.seq (.reg [mV 12 5,oE 13 (.call zlo [([0],(.E 12))]),oV 7 (.alloc [iv 0,iv 0,iv 0,iv 0,iv 0,iv 0,iv 0,.e0]),oN (.store [0,0,0,0,0,0,0,1] (.V 7) (.E 13))]) (.seq (.seq (.reg [mV 14 5,oE 15 (.call zfp [([0],(.E 14)),([0],(ki 16))])]) (.cond (.E 15) (.reg [mV 16 5,oE 17 (.call zoq [([0],(.E 16))]),oN (.store [1,0,1,1] (.V 6) (.E 17))]) .skip)) (.seq (.seq (.reg [mV 18 5,oE 19 (.call zfp [([0],(.E 18)),([0],(ki 16))])]) (.cond (.E 19) (.reg [mV 20 5,oE 21 (.call zor [([0],(.E 20))]),oN (.store [0,0,0,0,0,0,0,1] (.V 7) (.E 21))]) .skip)) (.seq (.regD [(mV 22 5,0,0),(tV 23 4 6,0,0),(tV 24 8 7,0,1),(vE 2 22,0,0),(oN (.store [1,0,1,1] (.V 3) (.E 23)),0,0),(oN (.store [0,0,0,0,0,0,0,1] (.V 4) (.E 24)),0,0)]) .ret))))))
def zml:List RV:=[.tmp [0] 2,.cell [1,0,1,1] 3 true,.cell [0,0,0,0,0,0,0,1] 4 true]
def yhi:List Nat:=[0,1,2,7,3,6,32,31,9,11,10,8,4,5]
def z0v:IC := .seq (.reg [oE 33 (.bin .lss (.V 32) (.V 31))]) (.seq (.cond (.E 33) .skip (.exit 0)) (.seq (.block 1 (.seq (.reg [tV 35 4 2,tV 36 2 9,tV 37 8 3,tV 38 2 6,oE 39 (.call zn6 [([1,0,1,1],(.E 35)),([1,1],(.E 36)),([0,0,0,0,0,0,0,1],(.E 37)),([1,1],(.E 38))]),wE 34 39,xE 40 0 34,xE 41 1 34,oV 10 (.alloc [.e0,.e0]),oN (.store [1,1] (.V 10) (.E 40)),vE 11 41]) (.seq (.seq (.reg [mV 42 11,oE 43 (.un .not (.E 42))]) (.cond (.E 43) (.seq (.reg [oV 4 (.mv (.C .e0)),oV 5 (.mv (kb false))]) .ret) .skip)) (.regD [(tV 44 2 10,0,2),(mV 45 8,0,0),(tV 46 2 10,0,0),(oE 47 (.bslice 1 2 [(.own 1 []),(.own 1 [])] [(0,(.E 46))]),0,0),(oE 48 (.app 48 2 (.E 45) (.E 47)),0,0),(oN (.store [1,1] (.V 6) (.E 44)),0,0),(vE 8 48,0,0)])))) (.reg [oE 49 (.bin .add (.V 32) (ki 1)),vE 32 49])))
def zpz:IC := .seq (.reg [oV 2 (.box (.V 0)),oV 3 (.box (.V 1)),oV 4 (.mv (.C .e0)),oV 5 (.mv (kb false))]) (.seq (.reg [tV 13 4 2,oE 14 (.call zos [([1,0,1,1],(.E 13))]),wE 12 14,xE 15 0 12,xE 16 1 12,oV 6 (.alloc [.e0,.e0]),oN (.store [1,1] (.V 6) (.E 15)),vE 7 16]) (.seq (.seq (.reg [mV 17 7,oE 18 (.un .not (.E 17)),wE 19 18,gE 20 19 .false (.load true 8 (.V 3)),gE 21 19 .false (.call zja [([0,0,0,0,0,0,0,1],(.E 20))]),gE 22 19 .false (.un .not (.E 21)),oE 23 (.pick (.E 19) (kb true) (.E 22))]) (.cond (.E 23) (.seq (.reg [oV 4 (.mv (.C .e0)),oV 5 (.mv (kb false))]) .ret) .skip)) (.seq (.regD [(tV 24 2 6,0,1),(tV 26 4 2,0,0),(fV 27 2 3,0,0),(lE 28 27,0,0),(oE 29 (.call zlm [([1,0,1,1],(.E 26)),([0],(.E 28))]),0,0),(oV 9 (.allocL [.e0,.e0]),0,0),(oE 25 (.bsliceL 1 2 [(.own 1 []),(.own 1 [])] [(0,(.E 24))]),0,0),(oV 8 (.mvL (.E 25)),0,0),(oN (.store [1,1] (.V 9) (.E 29)),0,0)]) (.seq (.seq (.reg [fV 30 0 3,oV 31 (.load false 1 (.E 30)),oV 32 (.mv (ki 0))]) (.block 0 (.loop z0v))) (.seq (.reg [mV 50 8,vE 4 50,oV 5 (.mv (kb true))]) .ret)))))
def zp0:List RV:=[.tmp [2] 4,.tmp [0] 5]
def yhj:List Nat:=[0,1,2,6]
def zul:IC := .seq (.reg [oV 6 (.mv (kb false))]) (.seq (.reg [mV 7 0,mV 8 1,bE 9 .geq 7 8,wE 10 9,gE 11 10 .true (.mv (.V 0)),gE 12 10 .true (.mv (.V 2)),gE 13 10 .true (.bin .leq (.E 11) (.E 12)),oE 14 (.pick (.E 10) (.E 13) (kb false)),vE 6 14]) .ret)
def zum:List RV:=[.tmp [0] 6]
def yhk:List Nat:=[0,3,2]
def z40:IC := .seq (.seq (.reg [mV 13 3,mV 14 0,oE 15 (.lenS (.E 14)),bE 16 .lss 13 15]) (.cond (.E 16) .skip (.exit 0))) (.seq (.block 1 (.seq (.reg [mV 19 0,mV 20 3,oE 21 (.idx (.E 19) (.E 20)),oE 22 (.convI .i64 (.E 21)),oE 23 (.call zez [([0],(.E 22)),([0],(ki 97)),([0],(ki 122))]),oE 24 (.un .not (.E 23)),wE 25 24,gE 26 25 .true (.mv (.V 0)),gE 27 25 .true (.mv (.V 3)),gE 28 25 .true (.idx (.E 26) (.E 27)),gE 29 25 .true (.convI .i64 (.E 28)),gE 30 25 .true (.call zez [([0],(.E 29)),([0],(ki 48)),([0],(ki 57))]),gE 31 25 .true (.un .not (.E 30)),oE 32 (.pick (.E 25) (.E 31) (kb false))]) (.cond (.E 32) (.seq (.reg [oV 2 (.mv (kb false))]) .ret) .skip))) (.reg [mV 17 3,oE 18 (.bin .add (.E 17) (ki 1)),vE 3 18]))
def zp1:IC := .seq (.reg [oV 2 (.mv (kb false))]) (.seq (.seq (.reg [mV 4 0,oE 5 (.lenS (.E 4)),oE 6 (.call zez [([0],(.E 5)),([0],(ki 1)),([0],(ki 12))]),oE 7 (.un .not (.E 6)),wE 8 7,gE 9 8 .false (.mv (.V 0)),gE 10 8 .false (.idx (.E 9) (ki 0)),gE 11 8 .false (.bin .lss (.E 10) (.C (.v (.int .u8 97)))),oE 12 (.pick (.E 8) (kb true) (.E 11))]) (.cond (.E 12) (.seq (.reg [oV 2 (.mv (kb false))]) .ret) .skip)) (.seq (.seq (.reg [oV 3 (.mv (ki 0))]) (.block 0 (.loop z40))) (.seq (.reg [oV 2 (.mv (kb true))]) .ret)))
def zp2:List RV:=[.tmp [0] 2]
def yhl:List Nat:=[0,1,5,4]
def z41:IC := .seq (.seq (.reg [mV 6 5,mV 7 0,nE 8 7,bE 9 .lss 6 8]) (.cond (.E 9) .skip (.exit 0))) (.seq (.block 1 (.seq (.reg [mV 12 0,mV 13 5,iE 14 1 12 13,lE 15 14,mV 16 1,bE 17 .eql 15 16]) (.cond (.E 17) (.seq (.reg [oV 4 (.mv (kb true))]) .ret) .skip))) (.reg [mV 10 5,oE 11 (.bin .add (.E 10) (ki 1)),vE 5 11]))
def zun:IC := .seq (.reg [oV 4 (.mv (kb false))]) (.seq (.seq (.reg [oV 5 (.mv (ki 0))]) (.block 0 (.loop z41))) (.seq (.reg [oV 4 (.mv (kb false))]) .ret))
def zuo:List RV:=[.tmp [0] 4]
def yhm:List Nat:=[0,2]
def zup:IC := .seq (.reg [oV 2 (.mv (kb false))]) (.seq (.reg [mV 3 0,oE 4 (.call zez [([0],(.E 3)),([0],(ki (-2147483647))),([0],(ki 2147483647))]),vE 2 4]) .ret)
def zuq:List RV:=[.tmp [0] 2]
def yhn:List Nat:=[0,1,2]
def zur:IC := .seq (.reg [oV 1 (.box (.V 0)),oV 2 (.mv (.C .e0))]) (.seq (.reg [fV 3 0 1,lE 4 3,fV 5 1 1,lE 6 5,fV 7 2 1,lE 8 7,fV 9 3 1,lE 10 9,fV 11 4 1,lE 12 11,oE 13 (.bslice 5 1 [iv 0] [(0,(.E 4)),(1,(.E 6)),(2,(.E 8)),(3,(.E 10)),(4,(.E 12))]),vE 2 13]) .ret)
def zus:List RV:=[.tmp [1] 2]
def yho:List Nat:=[0]
def zut:IC := .seq (.reg [oV 0 (.mv (.C .e0))]) (.seq (.reg [oE 1 (.bslice 5 1 [iv 0] [(0,(ki 1)),(1,(ki 0)),(2,(ki 2)),(3,(ki 1)),(4,(ki 1))]),vE 0 1]) .ret)
def zuu:List RV:=[.tmp [1] 0]
def yhp:List Nat:=[0]
def zuv:IC := .seq (.reg [oV 0 (.mv (.C .e0))]) (.seq (.reg [oE 1 (.bslice 5 1 [iv 0] [(0,(ki 8)),(1,(ki 4)),(2,(ki 8)),(3,(ki 100)),(4,(ki 20))]),vE 0 1]) .ret)
def zuw:List RV:=[.tmp [1] 0]
def yhq:List Nat:=[0,1,4]
def zux:IC := .seq (.reg [oV 4 (.mv (kb false))]) (.seq (.reg [mV 5 0,mV 6 1,oE 7 (.call zbu [([0],(.E 5)),([0],(.E 6))]),oE 8 (.bin .eql (.E 7) (ki 0)),vE 4 8]) .ret)
def zuy:List RV:=[.tmp [0] 4]
def yhr:List Nat:=[0,1,2]
def zji:IC := .seq (.reg [oV 1 (.box (.V 0)),oV 2 (.mv (kb false))]) (.seq (.seq (.regD [(fV 3 0 1,0,0),(lE 4 3,0,0),(nE 5 4,0,0),(oE 6 (.call zbi [([0],(.E 5)),([0],(ki 1)),([0],(ki 4))]),0,0),(oE 7 (.un .not (.E 6)),0,0),(wE 8 7,0,0),(gE 9 8 .false (.faddr 0 (.V 1)),0,0),(gE 10 8 .false (.load false 1 (.E 9)),0,0),(gE 11 8 .false (.call zoc [([1],(.E 10))]),0,0),(gE 12 8 .false (.faddr 1 (.V 1)),1,0),(gE 13 8 .false (.load false 1 (.E 12)),1,0),(gE 14 8 .false (.bsliceL 1 1 [(.v (.string (bs [])))] [(0,(.E 13))]),0,0),(gE 15 8 .false (.app 16 1 (.E 11) (.E 14)),0,0),(gE 16 8 .false (.call zog [([1],(.E 15))]),0,0),(gE 17 8 .false (.un .not (.E 16)),0,0),(oE 18 (.pick (.E 8) (kb true) (.E 17)),0,0),(wE 19 18,0,0),(gE 20 19 .false (.faddr 2 (.V 1)),0,0),(gE 21 19 .false (.load false 1 (.E 20)),0,0),(gE 22 19 .false (.len (.E 21)),0,0),(gE 23 19 .false (.call zbi [([0],(.E 22)),([0],(ki 1)),([0],(ki 40))]),0,0),(gE 24 19 .false (.un .not (.E 23)),0,0),(oE 25 (.pick (.E 19) (kb true) (.E 24)),0,0),(wE 26 25,0,0),(gE 27 26 .false (.faddr 3 (.V 1)),0,0),(gE 28 26 .false (.load false 1 (.E 27)),0,0),(gE 29 26 .false (.len (.E 28)),0,0),(gE 30 26 .false (.faddr 2 (.V 1)),0,0),(gE 31 26 .false (.load false 1 (.E 30)),0,0),(gE 32 26 .false (.len (.E 31)),0,0),(gE 33 26 .false (.bin .neq (.E 29) (.E 32)),0,0),(oE 34 (.pick (.E 26) (kb true) (.E 33)),0,0),(wE 35 34,0,0),(gE 36 35 .false (.faddr 3 (.V 1)),0,0),(gE 37 35 .false (.load false 1 (.E 36)),0,0),(gE 38 35 .false (.call zkk [([1],(.E 37))]),0,0),(gE 39 35 .false (.un .not (.E 38)),0,0),(oE 40 (.pick (.E 35) (kb true) (.E 39)),0,0)]) (.cond (.E 40) (.seq (.reg [oV 2 (.mv (kb false))]) .ret) .skip)) (.seq (.reg [fV 41 2 1,lE 42 41,oE 43 (.mkfn zlp [(.V 1)]),oE 44 (.call zot [([1],(.E 42)),([0],(.E 43))]),oE 45 (.un .not (.E 44)),vE 2 45]) .ret))
def zjj:List RV:=[.tmp [0] 2]
def yhs:List Nat:=[0,1,2]
def zuz:IC := .seq (.reg [oV 1 (.box (.V 0)),oV 2 (.mv (kb false))]) (.seq (.reg [fV 3 0 1,lE 4 3,oE 5 (.call zbi [([0],(.E 4)),([0],(ki 1)),([0],(ki 8))]),wE 6 5,gE 7 6 .true (.faddr 1 (.V 1)),gE 8 6 .true (.load false 1 (.E 7)),gE 9 6 .true (.call zbi [([0],(.E 8)),([0],(ki 0)),([0],(ki 4))]),oE 10 (.pick (.E 6) (.E 9) (kb false)),wE 11 10,gE 12 11 .true (.faddr 2 (.V 1)),gE 13 11 .true (.load false 1 (.E 12)),gE 14 11 .true (.call zbi [([0],(.E 13)),([0],(ki 2)),([0],(ki 8))]),oE 15 (.pick (.E 11) (.E 14) (kb false)),wE 16 15,gE 17 16 .true (.faddr 3 (.V 1)),gE 18 16 .true (.load false 1 (.E 17)),gE 19 16 .true (.call zbi [([0],(.E 18)),([0],(ki 1)),([0],(ki 100))]),oE 20 (.pick (.E 16) (.E 19) (kb false)),wE 21 20,gE 22 21 .true (.faddr 4 (.V 1)),gE 23 21 .true (.load false 1 (.E 22)),gE 24 21 .true (.call zbi [([0],(.E 23)),([0],(ki 1)),([0],(ki 20))]),oE 25 (.pick (.E 21) (.E 24) (kb false)),wE 26 25,gE 27 26 .true (.faddr 6 (.V 1)),gE 28 26 .true (.load false 1 (.E 27)),gE 29 26 .true (.call zbi [([0],(.E 28)),([0],(ki 1)),([0],(ki 1000))]),oE 30 (.pick (.E 26) (.E 29) (kb false)),wE 31 30,gE 32 31 .true (.faddr 5 (.V 1)),gE 33 31 .true (.load false 1 (.E 32)),gE 34 31 .true (.faddr 6 (.V 1)),gE 35 31 .true (.load false 1 (.E 34)),gE 36 31 .true (.call zbi [([0],(.E 33)),([0],(ki 1)),([0],(.E 35))]),oE 37 (.pick (.E 31) (.E 36) (kb false)),wE 38 37,gE 39 38 .true (.faddr 7 (.V 1)),gE 40 38 .true (.load false 1 (.E 39)),gE 41 38 .true (.len (.E 40)),gE 42 38 .true (.bin .leq (.E 41) (ki 4)),oE 43 (.pick (.E 38) (.E 42) (kb false)),wE 44 43,gE 45 44 .true (.faddr 7 (.V 1)),gE 46 44 .true (.load false 1 (.E 45)),gE 47 44 .true (.call zii [([1],(.E 46)),([0],(.C (.fn zlq [])))]),gE 48 44 .true (.un .not (.E 47)),oE 49 (.pick (.E 44) (.E 48) (kb false)),vE 2 49]) .ret)
def zu0:List RV:=[.tmp [0] 2]
def yht:List Nat:=[0,9,8,7,3,5,2]
def z0w:IC := .seq (.reg [oE 10 (.bin .lss (.V 9) (.V 8))]) (.seq (.cond (.E 10) .skip (.exit 0)) (.seq (.block 1 (.seq (.reg [oE 11 (.iaddr 1 (.V 7) (.V 9)),tE 12 1 11,oV 5 (.alloc [.e0]),oN (.store [5] (.V 5) (.E 12))]) (.reg [mV 13 3,tV 14 1 5,oE 15 (.call zlr [([5],(.E 14))]),oE 16 (.bslice 1 1 [(.own 5 [])] [(0,(.E 15))]),oE 17 (.app 24 1 (.E 13) (.E 16)),vE 3 17]))) (.reg [oE 18 (.bin .add (.V 9) (ki 1)),vE 9 18])))
def zu1:IC := .seq (.reg [oV 2 (.mv (.C .e0))]) (.seq (.reg [oE 6 (.bslice 0 1 [(.own 5 [])] []),vE 3 6]) (.seq (.seq (.reg [oV 7 (.mv (.V 0)),oV 8 (.len (.V 7)),oV 9 (.mv (ki 0))]) (.block 0 (.loop z0w))) (.seq (.reg [mV 19 3,vE 2 19]) .ret)))
def zu2:List RV:=[.tmp [1] 2]
def yhu:List Nat:=[0,1,13,12,5,4]
def z42:IC := .seq (.reg [oE 14 (.bin .lss (.V 13) (.V 12))]) (.seq (.cond (.E 14) .skip (.exit 0)) (.seq (.block 1 (.seq (.reg [mV 15 13,vE 5 15]) (.seq (.regD [(mV 16 0,0,0),(mV 17 5,0,0),(iE 18 1 16 17,0,0),(lE 19 18,0,0),(mV 20 1,0,0),(mV 21 5,0,0),(iE 22 1 20 21,0,0),(lE 23 22,0,0),(bE 24 .neq 19 23,0,0)]) (.cond (.E 24) (.seq (.reg [oV 4 (.mv (kb false))]) .ret) .skip)))) (.reg [oE 25 (.bin .add (.V 13) (ki 1)),vE 13 25])))
def zrt:IC := .seq (.reg [oV 4 (.mv (kb false))]) (.seq (.seq (.reg [mV 6 0,nE 7 6,mV 8 1,nE 9 8,bE 10 .neq 7 9]) (.cond (.E 10) (.seq (.reg [oV 4 (.mv (kb false))]) .ret) .skip)) (.seq (.seq (.reg [mV 11 0,oV 12 (.len (.E 11)),oV 13 (.mv (ki 0))]) (.block 0 (.loop z42))) (.seq (.reg [oV 4 (.mv (kb true))]) .ret)))
def zru:List RV:=[.tmp [0] 4]
def yhv:List Nat:=[0,1,2,6]
def zu3:IC := .seq (.reg [oV 6 (.mv (kb false))]) (.seq (.reg [mV 7 0,mV 8 1,bE 9 .geq 7 8,wE 10 9,gE 11 10 .true (.mv (.V 0)),gE 12 10 .true (.mv (.V 2)),gE 13 10 .true (.bin .leq (.E 11) (.E 12)),oE 14 (.pick (.E 10) (.E 13) (kb false)),vE 6 14]) .ret)
def zu4:List RV:=[.tmp [0] 6]
def yhw:List Nat:=[0,7,6,5,4,3,2]
def z43:IC := .seq (.reg [oE 8 (.bin .lss (.V 7) (.V 6))]) (.seq (.cond (.E 8) .skip (.exit 0)) (.seq (.block 1 (.seq (.reg [mV 9 7,oE 10 (.iaddr 1 (.V 5) (.V 7)),lE 11 10,vE 3 9,vE 4 11]) (.seq (.reg [mV 12 4,oE 13 (.call zou [([0],(.E 12))]),oE 14 (.un .not (.E 13)),wE 15 14,gE 16 15 .false (.mv (.V 0)),gE 17 15 .false (.mv (.V 3)),gE 18 15 .false (.slice 1 (.E 16) none (some (.E 17)) none),gE 19 15 .false (.mv (.V 4)),gE 20 15 .false (.call zov [([1],(.E 18)),([0],(.E 19))]),oE 21 (.pick (.E 15) (kb true) (.E 20))]) (.cond (.E 21) (.seq (.reg [oV 2 (.mv (kb false))]) .ret) .skip)))) (.reg [oE 22 (.bin .add (.V 7) (ki 1)),vE 7 22])))
def zu5:IC := .seq (.reg [oV 2 (.mv (kb false))]) (.seq (.seq (.reg [oV 5 (.mv (.V 0)),oV 6 (.len (.V 5)),oV 7 (.mv (ki 0))]) (.block 0 (.loop z43))) (.seq (.reg [oV 2 (.mv (kb true))]) .ret))
def zu6:List RV:=[.tmp [0] 2]
def yhx:List Nat:=[0,1,4]
def zrv:IC := .seq (.reg [oV 4 (.mv (kb false))]) (.seq (.reg [mV 5 0,mV 6 1,oE 7 (.call zls [([1],(.E 5)),([0],(.E 6))]),oE 8 (.bin .geq (.E 7) (ki 0)),vE 4 8]) .ret)
def zrw:List RV:=[.tmp [0] 4]
def yhy:List Nat:=[0,2]
def zu7:IC := .seq (.reg [oV 2 (.mv (kb false))]) (.seq (.reg [mV 3 0,oE 4 (.call zbi [([0],(.E 3)),([0],(ki (-1))),([0],(ki 1))]),vE 2 4]) .ret)
def zu8:List RV:=[.tmp [0] 2]
def yhz:List Nat:=[0,2]
def zu9:IC := .seq (.reg [oV 2 (.mv (kb false))]) (.seq (.reg [mV 3 0,oE 4 (.call zbi [([0],(.E 3)),([0],(ki (-2147483647))),([0],(ki 2147483647))]),vE 2 4]) .ret)
def zva:List RV:=[.tmp [0] 2]
def yh0:List Nat:=[0,1,6,4,5]
def zjk:IC := .seq (.reg [oV 4 (.mv (ki 0)),oV 5 (.mv (kb false))]) (.seq (.reg [mV 7 0,mV 8 1,bE 9 .add 7 8,vE 6 9]) (.seq (.seq (.reg [mV 10 0,oE 11 (.bin .lss (.E 10) (ki 0)),mV 12 1,oE 13 (.bin .lss (.E 12) (ki 0)),oE 14 (.eqb false [.b] (.E 11) (.E 13)),wE 15 14,gE 16 15 .true (.mv (.V 6)),gE 17 15 .true (.bin .lss (.E 16) (ki 0)),gE 18 15 .true (.mv (.V 0)),gE 19 15 .true (.bin .lss (.E 18) (ki 0)),gE 20 15 .true (.eqb true [.b] (.E 17) (.E 19)),oE 21 (.pick (.E 15) (.E 20) (kb false))]) (.cond (.E 21) (.seq (.reg [oV 4 (.mv (ki 0)),oV 5 (.mv (kb false))]) .ret) .skip)) (.seq (.reg [mV 22 6,vE 4 22,oV 5 (.mv (kb true))]) .ret)))
def zjl:List RV:=[.tmp [0] 4,.tmp [0] 5]
def yh1:List Nat:=[0,1,6,4,5]
def zvb:IC := .seq (.reg [oV 4 (.mv (ki 0)),oV 5 (.mv (kb false))]) (.seq (.seq (.reg [mV 7 1,oE 8 (.bin .eql (.E 7) (ki 0)),wE 9 8,gE 10 9 .false (.mv (.V 0)),gE 11 9 .false (.bin .eql (.E 10) (ki (-9223372036854775808))),gE 12 9 .false (.mv (.E 11)),gE 13 12 .true (.mv (.V 1)),gE 14 12 .true (.bin .eql (.E 13) (ki (-1))),gE 15 9 .false (.pick (.E 12) (.E 14) (kb false)),oE 16 (.pick (.E 9) (kb true) (.E 15))]) (.cond (.E 16) (.seq (.reg [oV 4 (.mv (ki 0)),oV 5 (.mv (kb false))]) .ret) .skip)) (.seq (.reg [mV 17 0,mV 18 1,bE 19 .quo 17 18,vE 6 19]) (.seq (.seq (.reg [mV 20 0,mV 21 1,bE 22 .rem 20 21,oE 23 (.bin .neq (.E 22) (ki 0)),wE 24 23,gE 25 24 .true (.mv (.V 0)),gE 26 24 .true (.bin .lss (.E 25) (ki 0)),gE 27 24 .true (.mv (.V 1)),gE 28 24 .true (.bin .lss (.E 27) (ki 0)),gE 29 24 .true (.eqb true [.b] (.E 26) (.E 28)),oE 30 (.pick (.E 24) (.E 29) (kb false))]) (.cond (.E 30) (.reg [mV 31 6,oE 32 (.bin .sub (.E 31) (ki 1)),vE 6 32]) .skip)) (.seq (.reg [mV 33 6,vE 4 33,oV 5 (.mv (kb true))]) .ret))))
def zvc:List RV:=[.tmp [0] 4,.tmp [0] 5]
def yh2:List Nat:=[0,1,2,5,4]
def zvd:IC := .seq (.reg [oV 2 (.box (.V 0)),oV 4 (.mv (ki 0))]) (.seq (.reg [tV 6 1 2,mV 7 1,oE 8 (.call zow [([5],(.E 6)),([1],(.E 7))]),vE 5 8]) (.seq (.seq (.reg [mV 9 5,nE 10 9,oE 11 (.bin .eql (.E 10) (ki 0))]) (.cond (.E 11) (.seq (.reg [oV 4 (.mv (ki (-1)))]) .ret) .skip)) (.seq (.reg [mV 12 5,mV 13 5,nE 14 13,oE 15 (.bin .sub (.E 14) (ki 1)),iE 16 1 12 15,lE 17 16,vE 4 17]) .ret)))
def zve:List RV:=[.tmp [0] 4]
def yh3:List Nat:=[0,1,5,6,7,8,4]
def zp3:IC := .seq (.reg [oV 4 (.mv (ki 0))]) (.seq (.seq (.reg [mV 9 1,oE 10 (.bin .leq (.E 9) (ki 0))]) (.cond (.E 10) (.seq (.reg [oV 4 (.mv (ki 0))]) .ret) .skip)) (.seq (.seq (.reg [mV 11 1,oE 12 (.bin .leq (.E 11) (ki 256))]) (.cond (.E 12) (.seq (.reg [mV 13 0,oE 14 (.call zhh [([0],(.E 13))]),mV 15 1,bE 16 .rem 14 15,vE 4 16]) .ret) .skip)) (.seq (.reg [mV 17 0,oE 18 (.call zhh [([0],(.E 17))]),vE 5 18]) (.seq (.reg [mV 19 0,oE 20 (.call zhh [([0],(.E 19))]),vE 6 20]) (.seq (.reg [mV 21 0,oE 22 (.call zhh [([0],(.E 21))]),vE 7 22]) (.seq (.reg [mV 23 0,oE 24 (.call zhh [([0],(.E 23))]),vE 8 24]) (.seq (.reg [mV 25 5,oE 26 (.bin .mul (.E 25) (ki 16777216)),mV 27 6,oE 28 (.bin .mul (.E 27) (ki 65536)),bE 29 .add 26 28,mV 30 7,oE 31 (.bin .mul (.E 30) (ki 256)),bE 32 .add 29 31,mV 33 8,bE 34 .add 32 33,mV 35 1,bE 36 .rem 34 35,vE 4 36]) .ret)))))))
def zp4:List RV:=[.tmp [0] 4]
def yh4:List Nat:=[0,6,4,3,2]
def z44:IC := .seq (.seq (.reg [mV 14 4,oE 15 (.bin .lss (.E 14) (ki 8))]) (.cond (.E 15) .skip (.exit 1))) (.seq (.block 2 (.reg [mV 18 3,oE 19 (.bin .mul (.E 18) (ki 256)),mV 20 0,oE 21 (.call zhh [([0],(.E 20))]),bE 22 .add 19 21,vE 3 22])) (.reg [mV 16 4,oE 17 (.bin .add (.E 16) (ki 1)),vE 4 17]))
def zmm:IC := .seq (.reg [oV 2 (.mv (ki 0))]) (.seq (.seq (.reg [mV 5 0,oV 6 (.call zbu [([0],(.E 5)),([0],(ki 4))])]) (.block 0 (.seq (.reg [oE 8 (.bin .eql (.V 6) (ki 0)),wE 7 8]) (.cond (.E 7) (.seq (.reg [mV 9 0,oE 10 (.bslice 14 1 [iv 0] [(0,(ki 0)),(1,(ki 1)),(2,(ki (-1))),(3,(ki 9)),(4,(ki 10)),(5,(ki 999)),(6,(ki 1000)),(7,(ki 2147483647)),(8,(ki (-2147483648))),(9,(ki 3037000499)),(10,(ki 3037000500)),(11,(ki 9223372036854775807)),(12,(ki (-9223372036854775807))),(13,(ki (-9223372036854775808)))]),oE 11 (.call ze8 [([0],(.E 9)),([1],(.E 10))]),vE 2 11]) .ret) (.seq (.reg [oE 13 (.bin .eql (.V 6) (ki 1)),wE 12 13]) (.cond (.E 12) (.seq (.reg [oV 3 (.mv (ki 0))]) (.seq (.seq (.reg [oV 4 (.mv (ki 0))]) (.block 1 (.loop z44))) (.seq (.reg [mV 23 3,vE 2 23]) .ret))) (.seq (.reg [oE 25 (.bin .eql (.V 6) (ki 2)),wE 24 25]) (.cond (.E 24) (.seq (.reg [mV 26 0,oE 27 (.call zbu [([0],(.E 26)),([0],(ki 1000000))]),oE 28 (.bin .sub (.E 27) (ki 500000)),vE 2 28]) .ret) .skip)))))))) (.seq (.reg [mV 29 0,oE 30 (.call zbu [([0],(.E 29)),([0],(ki 41))]),oE 31 (.bin .sub (.E 30) (ki 20)),vE 2 31]) .ret))
def zmn:List RV:=[.tmp [0] 2]
def yh5:List Nat:=[0,1,2,3,4]
def zvf:IC := .seq (.reg [oV 2 (.box (.V 0)),oV 3 (.box (.V 1)),oV 4 (.mv (kb false))]) (.seq (.reg [fV 5 0 2,lE 6 5,fV 7 0 3,lE 8 7,oE 9 (.call zlw [([1],(.E 6)),([1],(.E 8))]),wE 10 9,gE 11 10 .true (.faddr 1 (.V 2)),gE 12 10 .true (.load false 1 (.E 11)),gE 13 10 .true (.faddr 1 (.V 3)),gE 14 10 .true (.load false 1 (.E 13)),gE 15 10 .true (.call zlw [([1],(.E 12)),([1],(.E 14))]),oE 16 (.pick (.E 10) (.E 15) (kb false)),vE 4 16]) .ret)
def zvg:List RV:=[.tmp [0] 4]
def yh6:List Nat:=[0,1,2,5,4,25,24,6,7,37,36,35,8,9,11]
def zvh:IC := .seq (.reg [oE 38 (.bin .lss (.V 37) (.V 36))]) (.seq (.cond (.E 38) .skip (.exit 2)) (.seq (.block 3 (.seq (.reg [oE 39 (.iaddr 1 (.V 35) (.V 37)),lE 40 39,vE 11 40]) (.reg [mV 41 8,mV 42 9,mV 43 11,oE 44 (.call zoz [([1],(.E 42)),([0],(.E 43))]),oE 45 (.bslice 1 1 [iv 0] [(0,(.E 44))]),oE 46 (.app 8 1 (.E 41) (.E 45)),vE 8 46]))) (.reg [oE 47 (.bin .add (.V 37) (ki 1)),vE 37 47])))
def z0x:IC := .seq (.reg [oE 26 (.bin .lss (.V 25) (.V 24))]) (.seq (.cond (.E 26) .skip (.exit 0)) (.seq (.block 1 (.seq (.reg [mV 27 25,vE 6 27]) (.seq (.reg [tV 28 4 2,mV 29 6,oE 30 (.call zox [([1,0,1,1],(.E 28)),([0],(.E 29))]),oE 31 (.bslice 0 1 [iv 0] []),vE 7 30,vE 8 31]) (.seq (.reg [mV 32 7,mV 33 1,oE 34 (.call zoy [([1],(.E 32)),([0],(.E 33))]),vE 9 34]) (.seq (.seq (.reg [oV 35 (.mv (.V 7)),oV 36 (.len (.V 35)),oV 37 (.mv (ki 0))]) (.block 2 (.loop zvh))) (.regD [(fV 48 0 5,0,1),(lE 49 48,0,1),(mV 50 9,0,0),(oE 51 (.bslice 1 1 [(.own 1 [])] [(0,(.E 50))]),0,0),(oE 52 (.app 24 1 (.E 49) (.E 51)),0,0),(fV 53 1 5,2,0),(lE 54 53,2,0),(mV 55 8,0,0),(oE 56 (.bsliceL 1 1 [(.own 1 [])] [(0,(.E 55))]),0,0),(oE 57 (.app 24 1 (.E 54) (.E 56)),0,0),(fV 58 0 5,2,0),(oN (.store [1] (.E 58) (.E 52)),0,0),(fV 59 1 5,0,0),(oN (.store [1] (.E 59) (.E 57)),0,0)])))))) (.reg [oE 60 (.bin .add (.V 25) (ki 1)),vE 25 60])))
def zp5:IC := .seq (.reg [oV 2 (.box (.V 0)),oV 4 (.alloc [.e0,.e0])]) (.seq (.reg [oE 12 (.build [.e0,.e0] []),oV 5 (.alloc [.e0,.e0]),oN (.store [1,1] (.V 5) (.E 12))]) (.seq (.seq (.reg [tV 13 4 2,oE 14 (.call zki [([1,0,1,1],(.E 13))]),oE 15 (.un .not (.E 14)),wE 16 15,gE 17 16 .false (.mv (.V 1)),gE 18 16 .false (.call zbi [([0],(.E 17)),([0],(ki 2)),([0],(ki 8))]),gE 19 16 .false (.un .not (.E 18)),oE 20 (.pick (.E 16) (kb true) (.E 19))]) (.cond (.E 20) (.seq (.reg [tV 21 2 5,oN (.store [1,1] (.V 4) (.E 21))]) .ret) .skip)) (.seq (.seq (.reg [fV 22 0 2,lE 23 22,oV 24 (.len (.E 23)),oV 25 (.mv (ki 0))]) (.block 0 (.loop z0x))) (.seq (.reg [tV 61 2 5,oN (.store [1,1] (.V 4) (.E 61))]) .ret))))
def zp6:List RV:=[.cell [1,1] 4 true]
def yh7:List Nat:=[0,1,18,17,7,9,6,8,4,5]
def z45:IC := .seq (.reg [oE 19 (.bin .lss (.V 18) (.V 17))]) (.seq (.cond (.E 19) .skip (.exit 0)) (.seq (.block 1 (.seq (.reg [mV 20 18,vE 7 20]) (.seq (.regD [(mV 22 0,0,0),(mV 23 7,0,0),(iE 24 1 22 23,0,0),(lE 25 24,0,0),(mV 26 1,0,0),(mV 27 7,0,0),(iE 28 1 26 27,0,0),(lE 29 28,0,0),(oE 30 (.call zkl [([0],(.E 25)),([0],(.E 29))]),0,0),(wE 21 30,0,0),(xE 31 0 21,0,0),(xE 32 1 21,0,0),(vE 8 31,0,0),(vE 9 32,0,0)]) (.seq (.seq (.reg [mV 33 9,oE 34 (.un .not (.E 33))]) (.cond (.E 34) (.seq (.reg [oV 4 (.mv (.C .e0)),oV 5 (.mv (kb false))]) .ret) .skip)) (.reg [mV 35 6,mV 36 8,oE 37 (.bslice 1 1 [iv 0] [(0,(.E 36))]),oE 38 (.app 8 1 (.E 35) (.E 37)),vE 6 38]))))) (.reg [oE 39 (.bin .add (.V 18) (ki 1)),vE 18 39])))
def zrx:IC := .seq (.reg [oV 4 (.mv (.C .e0)),oV 5 (.mv (kb false))]) (.seq (.seq (.reg [mV 10 0,nE 11 10,mV 12 1,nE 13 12,bE 14 .neq 11 13]) (.cond (.E 14) (.seq (.reg [oV 4 (.mv (.C .e0)),oV 5 (.mv (kb false))]) .ret) .skip)) (.seq (.reg [oE 15 (.bslice 0 1 [iv 0] []),vE 6 15]) (.seq (.seq (.reg [mV 16 0,oV 17 (.len (.E 16)),oV 18 (.mv (ki 0))]) (.block 0 (.loop z45))) (.seq (.reg [mV 40 6,vE 4 40,oV 5 (.mv (kb true))]) .ret))))
def zry:List RV:=[.tmp [1] 4,.tmp [0] 5]
def yh8:List Nat:=[0,1,2,3,5,6,10,8,11,12,13,9,14,16,17,21,19,22,20,7]
def zjm:IC := .seq (.seq (.reg [mV 36 10,mV 37 8,nE 38 37,bE 39 .lss 36 38]) (.cond (.E 39) .skip (.exit 0))) (.seq (.block 1 (.seq (.reg [mV 42 8,mV 43 10,iE 44 4 42 43,tE 45 4 44,oV 11 (.alloc [.e0,iv 0,iv 0,iv 0]),oN (.store [1,0,0,0] (.V 11) (.E 45))]) (.seq (.reg [oE 46 (.build [iv 0,iv 0,iv 0,iv 0,iv 0,iv 0] []),oV 12 (.alloc [iv 0,iv 0,iv 0,iv 0,iv 0,iv 0]),oN (.store [0,0,0,0,0,0] (.V 12) (.E 46)),oV 13 (.mv (kb false))]) (.seq (.seq (.reg [fV 47 3 11,lE 48 47,fV 49 1 5,lE 50 49,bE 51 .lss 48 50]) (.cond (.E 51) (.reg [tV 53 2 3,mV 54 1,tV 55 8 5,fV 56 0 11,lE 57 56,fV 58 1 11,tE 59 2 58,oE 60 (.call zo2 [([1,1],(.E 53)),([1],(.E 54)),([0,0,0,0,0,0,0,1],(.E 55)),([1],(.E 57)),([0,0],(.E 59))]),wE 52 60,xE 61 0 52,xE 62 1 52,oN (.store [0,0,0,0,0,0] (.V 12) (.E 61)),vE 13 62]) .skip)) (.seq (.seq (.reg [mV 63 13,oE 64 (.un .not (.E 63))]) (.cond (.E 64) (.seq (.regD [(mV 66 1,0,0),(fV 67 0 11,0,0),(lE 68 67,0,0),(oE 69 (.call zo3 [([1],(.E 66)),([1],(.E 68))]),0,0),(fV 70 3 5,1,0),(lE 71 70,1,0),(fV 72 1 11,1,0),(tE 73 2 72,1,0),(oE 74 (.call zkm [([0,0],(.E 69)),([0],(.E 71)),([0,0],(.E 73))]),0,0),(wE 65 74,0,0),(xE 75 0 65,0,0),(xE 76 1 65,0,0),(vE 14 75,0,0),(wE 15 76,0,0)]) (.seq (.reg [fV 77 0 9,lE 78 77,mV 79 14,oE 80 (.build [iv 0,iv 0,iv 0,iv 0,iv 0] [(0,1,(ki (-1))),(4,1,(.E 79))]),oE 81 (.bslice 1 5 [iv 0,iv 0,iv 0,iv 0,iv 0] [(0,(.E 80))]),oE 82 (.app 40 5 (.E 78) (.E 81)),fV 83 0 9,oN (.store [5] (.E 83) (.E 82))]) (.exit 1))) .skip)) (.seq (.reg [tV 85 8 5,fV 86 1 11,tE 87 2 86,tV 88 6 12,oE 89 (.call zly [([0,0,0,0,0,0,0,1],(.E 85)),([0,0],(.E 87)),([0,0,0,0,0,0],(.E 88))]),wE 84 89,xE 90 0 84,xE 91 1 84,xE 92 2 84,vE 16 90,vE 17 91,wE 18 92]) (.seq (.regD [(tV 94 8 5,0,0),(fV 95 0 12,0,0),(lE 96 95,0,0),(oE 97 (.call zlz [([0,0,0,0,0,0,0,1],(.E 94)),([0],(.E 96))]),0,0),(fV 98 1 11,1,0),(tE 99 2 98,1,0),(mV 100 16,0,0),(mV 101 17,0,0),(oE 102 (.call zo4 [([0],(.E 97)),([0,0],(.E 99)),([0],(.E 100)),([0],(.E 101))]),0,0),(wE 93 102,0,0),(xE 103 0 93,0,0),(xE 104 1 93,0,0),(oV 19 (.allocL [iv 0,iv 0]),0,0),(oV 20 (.allocL [iv 0,iv 0]),0,0),(oN (.store [0,0] (.V 19) (.E 103)),0,0),(oN (.store [0,0] (.V 20) (.E 104)),0,0)]) (.seq (.regD [(fV 106 1 3,0,0),(lE 107 106,0,0),(fV 108 0 12,0,0),(lE 109 108,0,0),(iE 110 1 107 109,0,0),(lE 111 110,0,0),(fV 112 0 11,0,0),(lE 113 112,0,0),(fV 114 1 12,0,0),(lE 115 114,0,0),(oE 116 (.call zo5 [([1],(.E 111)),([1],(.E 113)),([0],(.E 115))]),0,0),(wE 105 116,0,0),(xE 117 0 105,0,0),(xE 118 1 105,0,0),(vE 21 117,0,0),(vE 22 118,0,0)]) (.seq (.regD [(fV 119 0 9,0,1),(lE 120 119,0,1),(fV 121 0 12,0,0),(lE 122 121,0,0),(fV 123 0 3,0,0),(lE 124 123,0,0),(fV 125 0 12,0,0),(lE 126 125,0,0),(iE 127 1 124 126,0,0),(lE 128 127,0,0),(fV 129 1 12,0,0),(lE 130 129,0,0),(iE 131 1 128 130,0,0),(lE 132 131,0,0),(mV 133 8,0,0),(nE 134 133,0,0),(mV 135 8,0,0),(nE 136 135,0,0),(oE 137 (.bin .add (.E 136) (ki 1)),0,0),(oE 138 (.build [iv 0,iv 0,iv 0,iv 0,iv 0] [(0,1,(.E 122)),(1,1,(.E 132)),(2,1,(.E 134)),(3,1,(.E 137))]),0,0),(oE 139 (.bslice 1 5 [iv 0,iv 0,iv 0,iv 0,iv 0] [(0,(.E 138))]),0,0),(oE 140 (.app 40 5 (.E 120) (.E 139)),0,0),(fV 141 0 9,0,0),(oN (.store [5] (.E 141) (.E 140)),0,0)]) (.reg [mV 142 8,mV 143 21,tV 144 2 19,fV 145 3 11,lE 146 145,oE 147 (.bin .add (.E 146) (ki 1)),oE 148 (.build [.e0,iv 0,iv 0,iv 0] [(0,1,(.E 143)),(1,2,(.E 144)),(3,1,(.E 147))]),mV 149 22,tV 150 2 20,fV 151 3 11,lE 152 151,oE 153 (.bin .add (.E 152) (ki 1)),oE 154 (.build [.e0,iv 0,iv 0,iv 0] [(0,1,(.E 149)),(1,2,(.E 150)),(3,1,(.E 153))]),oE 155 (.bslice 2 4 [(.own 1 []),iv 0,iv 0,iv 0] [(0,(.E 148)),(1,(.E 154))]),oE 156 (.app 48 4 (.E 142) (.E 155)),vE 8 156])))))))))) (.reg [mV 40 10,oE 41 (.bin .add (.E 40) (ki 1)),vE 10 41]))
def zrz:IC := .seq (.reg [oV 3 (.box (.V 0)),oV 5 (.box (.V 2)),oV 6 (.alloc [.e0]),oV 7 (.mv (kb false))]) (.seq (.seq (.reg [tV 23 2 3,mV 24 1,tV 25 8 5,oE 26 (.call zlx [([1,1],(.E 23)),([1],(.E 24)),([0,0,0,0,0,0,0,1],(.E 25))]),oE 27 (.un .not (.E 26))]) (.cond (.E 27) (.seq (.reg [oE 28 (.build [.e0] []),oN (.store [5] (.V 6) (.E 28)),oV 7 (.mv (kb false))]) .ret) .skip)) (.seq (.reg [tV 29 2 3,oE 30 (.call zjc [([1,1],(.E 29))]),oE 31 (.call zo0 [([0],(.E 30))]),oE 32 (.call zo1 []),oE 33 (.build [.e0,iv 0,iv 0,iv 0] [(0,1,(.E 31)),(1,2,(.E 32))]),oE 34 (.bslice 1 4 [(.own 1 []),iv 0,iv 0,iv 0] [(0,(.E 33))]),oE 35 (.build [.e0] []),oV 9 (.alloc [.e0]),vE 8 34,oN (.store [5] (.V 9) (.E 35))]) (.seq (.seq (.reg [oV 10 (.mv (ki 0))]) (.block 0 (.loop zjm))) (.seq (.reg [tV 157 1 9,oN (.store [5] (.V 6) (.E 157)),oV 7 (.mv (kb true))]) .ret))))
def zr0:List RV:=[.cell [5] 6 true,.tmp [0] 7]
def yh9:List Nat:=[0,1,2,16,15,14,8,3,10,4,6,9,5]
def zvi:IC := .seq (.reg [oE 17 (.bin .lss (.V 16) (.V 15))]) (.seq (.cond (.E 17) .skip (.exit 0)) (.seq (.block 1 (.seq (.reg [oE 18 (.iaddr 1 (.V 14) (.V 16)),lE 19 18,vE 8 19]) (.seq (.regD [(fV 21 0 2,0,0),(lE 22 21,0,0),(mV 23 8,0,0),(iE 24 5 22 23,0,0),(fE 25 4 24,0,0),(lE 26 25,0,0),(tV 27 8 3,0,0),(oE 28 (.call zo7 [([0],(.E 26)),([0,0,0,0,0,0,0,1],(.E 27))]),0,0),(wE 20 28,0,0),(xE 29 0 20,0,0),(xE 30 1 20,0,0),(vE 9 29,0,0),(vE 10 30,0,0)]) (.seq (.seq (.reg [mV 31 10,oE 32 (.un .not (.E 31))]) (.cond (.E 32) (.seq (.reg [oE 33 (.build [.e0] []),oN (.store [5] (.V 4) (.E 33)),oV 5 (.mv (kb false))]) .ret) .skip)) (.reg [fV 34 0 6,lE 35 34,mV 36 8,mV 37 9,iE 38 5 35 36,fE 39 4 38,oN (.store [0] (.E 39) (.E 37))]))))) (.reg [oE 40 (.bin .add (.V 16) (ki 1)),vE 16 40])))
def zvj:IC := .seq (.reg [oV 2 (.box (.V 0)),oV 3 (.box (.V 1)),oV 4 (.alloc [.e0]),oV 5 (.mv (kb false))]) (.seq (.reg [tV 11 1 2,oE 12 (.call zlr [([5],(.E 11))]),oV 6 (.alloc [.e0]),oN (.store [5] (.V 6) (.E 12))]) (.seq (.seq (.reg [tV 13 1 2,oV 14 (.call zo6 [([5],(.E 13))]),oV 15 (.len (.V 14)),oV 16 (.mv (ki 0))]) (.block 0 (.loop zvi))) (.seq (.reg [tV 41 1 6,oN (.store [5] (.V 4) (.E 41)),oV 5 (.mv (kb true))]) .ret)))
def zvk:List RV:=[.cell [5] 4 true,.tmp [0] 5]
def yia:List Nat:=[0,4,3,2]
def zvl:IC := .seq (.seq (.reg [mV 8 4,mV 9 0,nE 10 9,bE 11 .lss 8 10,wE 12 11,gE 13 12 .true (.mv (.V 4)),gE 14 12 .true (.bin .lss (.E 13) (ki 4000)),oE 15 (.pick (.E 12) (.E 14) (kb false))]) (.cond (.E 15) .skip (.exit 0))) (.seq (.block 1 (.reg [mV 18 3,oE 19 (.bin .mul (.E 18) (ki 131)),mV 20 0,mV 21 4,iE 22 1 20 21,lE 23 22,oE 24 (.convI .i64 (.E 23)),bE 25 .add 19 24,oE 26 (.bin .add (.E 25) (ki 7)),oE 27 (.bin .and (.E 26) (ki 1073741823)),vE 3 27])) (.reg [mV 16 4,oE 17 (.bin .add (.E 16) (ki 1)),vE 4 17]))
def zvm:IC := .seq (.reg [oV 2 (.mv (.C (.v (.pointer none))))]) (.seq (.reg [mV 5 0,nE 6 5,oE 7 (.bin .add (ki 28507) (.E 6)),vE 3 7]) (.seq (.seq (.reg [oV 4 (.mv (ki 0))]) (.block 0 (.loop zvl))) (.seq (.reg [mV 28 0,mV 29 3,oE 30 (.build [.e0,iv 0,iv 0] [(0,1,(.E 28)),(2,1,(.E 29))]),oE 31 (.box (.E 30)),vE 2 31]) .ret)))
def zvn:List RV:=[.tmp [0] 2]
def yib:List Nat:=[0,3,7,5,9,6,8,10,4,11,2]
def zr1:IC := .seq (.seq (.reg [mV 37 9,mV 38 3,bE 39 .lss 37 38]) (.cond (.E 39) .skip (.exit 2))) (.seq (.block 3 (.seq (.reg [mV 42 0,oE 43 (.call zlv [([0],(.E 42))]),vE 10 43]) (.seq (.seq (.reg [mV 44 6,oE 45 (.un .not (.E 44))]) (.cond (.E 45) (.reg [mV 46 0,oE 47 (.call zbu [([0],(.E 46)),([0],(ki 7))]),oE 48 (.bin .sub (.E 47) (ki 3)),oE 49 (.bin .mul (ki 500) (.E 48)),vE 10 49]) .skip)) (.reg [mV 50 8,mV 51 10,oE 52 (.bslice 1 1 [iv 0] [(0,(.E 51))]),oE 53 (.app 8 1 (.E 50) (.E 52)),vE 8 53])))) (.reg [mV 40 9,oE 41 (.bin .add (.E 40) (ki 1)),vE 9 41]))
def zvo:IC := .seq (.seq (.reg [mV 31 7,mV 32 5,bE 33 .lss 31 32]) (.cond (.E 33) .skip (.exit 0))) (.seq (.block 1 (.seq (.reg [oE 36 (.bslice 0 1 [iv 0] []),vE 8 36]) (.seq (.seq (.reg [oV 9 (.mv (ki 0))]) (.block 2 (.loop zr1))) (.seq (.reg [fV 54 2 4,lE 55 54,mV 56 8,oE 57 (.bslice 1 1 [(.own 1 [])] [(0,(.E 56))]),oE 58 (.app 24 1 (.E 55) (.E 57)),fV 59 2 4,oN (.store [1] (.E 59) (.E 58))]) (.seq (.reg [mV 60 0,oE 61 (.call zlv [([0],(.E 60))]),vE 11 61]) (.seq (.seq (.reg [mV 62 6,oE 63 (.un .not (.E 62)),wE 64 63,gE 65 64 .true (.mv (.V 0)),gE 66 64 .true (.call zfp [([0],(.E 65)),([0],(ki 4))]),gE 67 64 .true (.un .not (.E 66)),oE 68 (.pick (.E 64) (.E 67) (kb false))]) (.cond (.E 68) (.regD [(mV 69 8,0,0),(oE 70 (.iaddr 1 (.E 69) (ki 0)),0,1),(lE 71 70,0,1),(oE 72 (.bin .mul (.E 71) (ki 2)),0,0),(mV 73 0,0,0),(oE 74 (.call zbu [([0],(.E 73)),([0],(ki 5))]),0,0),(oE 75 (.bin .mul (ki 100) (.E 74)),0,0),(bE 76 .add 72 75,0,0),(vE 11 76,0,0)]) .skip)) (.reg [fV 77 3 4,lE 78 77,mV 79 11,oE 80 (.bslice 1 1 [iv 0] [(0,(.E 79))]),oE 81 (.app 8 1 (.E 78) (.E 80)),fV 82 3 4,oN (.store [1] (.E 82) (.E 81))]))))))) (.reg [mV 34 7,oE 35 (.bin .add (.E 34) (ki 1)),vE 7 35]))
def zr2:IC := .seq (.reg [oV 2 (.alloc [.e0,(.v (.string (bs []))),.e0,.e0])]) (.seq (.reg [mV 12 0,oE 13 (.call zbu [([0],(.E 12)),([0],(ki 3))]),oE 14 (.bin .add (ki 1) (.E 13)),vE 3 14]) (.seq (.reg [oE 15 (.bslice 0 1 [(.v (.string (bs [])))] []),oE 16 (.bslice 4 1 [(.v (.string (bs [])))] [(0,(.C (.v (.string (bs [97]))))),(1,(.C (.v (.string (bs [98]))))),(2,(.C (.v (.string (bs [99,50]))))),(3,(.C (.v (.string (bs [100])))))]),mV 17 3,oE 18 (.slice 1 (.E 16) none (some (.E 17)) none),oE 19 (.app 16 1 (.E 15) (.E 18)),oE 20 (.build [.e0,(.v (.string (bs []))),.e0,.e0] [(0,1,(.E 19)),(1,1,(.C (.v (.string (bs [121])))))]),oV 4 (.alloc [.e0,(.v (.string (bs []))),.e0,.e0]),oN (.store [1,0,1,1] (.V 4) (.E 20))]) (.seq (.reg [mV 21 0,oE 22 (.call zbu [([0],(.E 21)),([0],(ki 9))]),oE 23 (.bin .add (ki 1) (.E 22)),vE 5 23]) (.seq (.seq (.reg [mV 24 0,oE 25 (.call zfp [([0],(.E 24)),([0],(ki 10))])]) (.cond (.E 25) (.reg [mV 26 0,oE 27 (.call zbu [([0],(.E 26)),([0],(ki 40))]),oE 28 (.bin .add (ki 1) (.E 27)),vE 5 28]) .skip)) (.seq (.reg [mV 29 0,oE 30 (.call zfp [([0],(.E 29)),([0],(ki 12))]),vE 6 30]) (.seq (.seq (.reg [oV 7 (.mv (ki 0))]) (.block 0 (.loop zvo))) (.seq (.reg [tV 83 4 4,oN (.store [1,0,1,1] (.V 2) (.E 83))]) .ret)))))))
def zkz:List RV:=[.cell [1,0,1,1] 2 true]
def yic:List Nat:=[0,3,5,4,2]
def z0y:IC := .seq (.seq (.reg [mV 40 5,mV 41 4,bE 42 .lss 40 41]) (.cond (.E 42) .skip (.exit 0))) (.seq (.block 1 (.regD [(fV 45 7 3,0,2),(lE 46 45,0,2),(mV 47 0,0,0),(oE 48 (.call zbu [([0],(.E 47)),([0],(ki 3))]),0,0),(oE 49 (.bin .sub (.E 48) (ki 1)),0,0),(oE 50 (.bslice 1 1 [iv 0] [(0,(.E 49))]),0,0),(oE 51 (.app 8 1 (.E 46) (.E 50)),0,0),(fV 52 7 3,0,0),(oN (.store [1] (.E 52) (.E 51)),0,0)])) (.reg [mV 43 5,oE 44 (.bin .add (.E 43) (ki 1)),vE 5 44]))
def zmo:IC := .seq (.reg [oV 2 (.alloc [iv 0,iv 0,iv 0,iv 0,iv 0,iv 0,iv 0,.e0])]) (.seq (.reg [mV 6 0,oE 7 (.call zbu [([0],(.E 6)),([0],(ki 4))]),oE 8 (.bin .add (ki 1) (.E 7)),mV 9 0,oE 10 (.call zbu [([0],(.E 9)),([0],(ki 4))]),mV 11 0,oE 12 (.call zbu [([0],(.E 11)),([0],(ki 5))]),oE 13 (.bin .add (ki 2) (.E 12)),mV 14 0,oE 15 (.call zbu [([0],(.E 14)),([0],(ki 3))]),oE 16 (.bin .add (ki 1) (.E 15)),mV 17 0,oE 18 (.call zbu [([0],(.E 17)),([0],(ki 3))]),oE 19 (.bin .add (ki 1) (.E 18)),mV 20 0,oE 21 (.call zbu [([0],(.E 20)),([0],(ki 3))]),oE 22 (.bin .add (ki 1) (.E 21)),oE 23 (.build [iv 0,iv 0,iv 0,iv 0,iv 0,iv 0,iv 0,.e0] [(0,1,(.E 8)),(1,1,(.E 10)),(2,1,(.E 13)),(3,1,(.E 16)),(4,1,(.E 19)),(5,1,(ki 1)),(6,1,(.E 22))]),oV 3 (.alloc [iv 0,iv 0,iv 0,iv 0,iv 0,iv 0,iv 0,.e0]),oN (.store [0,0,0,0,0,0,0,1] (.V 3) (.E 23))]) (.seq (.seq (.reg [mV 24 0,oE 25 (.call zfp [([0],(.E 24)),([0],(ki 8))])]) (.cond (.E 25) (.reg [mV 26 0,oE 27 (.call zbu [([0],(.E 26)),([0],(ki 100))]),oE 28 (.bin .add (ki 1) (.E 27)),fV 29 3 3,oN (.store [0] (.E 29) (.E 28))]) .skip)) (.seq (.seq (.reg [mV 30 0,oE 31 (.call zfp [([0],(.E 30)),([0],(ki 4))])]) (.cond (.E 31) (.reg [mV 32 0,fV 33 6 3,lE 34 33,oE 35 (.call zbu [([0],(.E 32)),([0],(.E 34))]),oE 36 (.bin .add (ki 1) (.E 35)),fV 37 5 3,oN (.store [0] (.E 37) (.E 36))]) .skip)) (.seq (.reg [mV 38 0,oE 39 (.call zbu [([0],(.E 38)),([0],(ki 5))]),vE 4 39]) (.seq (.seq (.reg [oV 5 (.mv (ki 0))]) (.block 0 (.loop z0y))) (.seq (.reg [tV 53 8 3,oN (.store [0,0,0,0,0,0,0,1] (.V 2) (.E 53))]) .ret))))))
def zmp:List RV:=[.cell [0,0,0,0,0,0,0,1] 2 true]
def yid:List Nat:=[0,3,13,4,2]
def z0z:IC := .seq (.seq (.regD [(fV 76 2 3,0,1),(lE 77 76,0,1),(nE 78 77,0,1),(mV 79 0,0,0),(oE 80 (.call zbu [([0],(.E 79)),([0],(ki 2))]),0,0),(oE 81 (.bin .add (ki 40) (.E 80)),0,0),(bE 82 .lss 78 81,0,0)]) (.cond (.E 82) .skip (.exit 1))) (.block 2 (.seq (.regD [(fV 83 2 3,0,3),(lE 84 83,0,3),(oE 85 (.bslice 0 1 [iv 0] []),0,0),(fV 86 2 3,1,0),(lE 87 86,1,0),(oE 88 (.iaddr 1 (.E 87) (ki 0)),1,0),(lE 89 88,1,0),(oE 90 (.app 8 1 (.E 85) (.E 89)),0,0),(oE 91 (.bslice 1 1 [(.own 1 [])] [(0,(.E 90))]),0,0),(oE 92 (.app 24 1 (.E 84) (.E 91)),0,0),(fV 93 2 3,0,0),(oN (.store [1] (.E 93) (.E 92)),0,0)]) (.reg [fV 94 3 3,lE 95 94,oE 96 (.bslice 1 1 [iv 0] [(0,(ki 0))]),oE 97 (.app 8 1 (.E 95) (.E 96)),fV 98 3 3,oN (.store [1] (.E 98) (.E 97))])))
def zgs:IC := .seq (.reg [oV 2 (.alloc [.e0,(.v (.string (bs []))),.e0,.e0])]) (.seq (.reg [mV 5 0,oE 6 (.call zln [([0],(.E 5))]),oV 3 (.alloc [.e0,(.v (.string (bs []))),.e0,.e0]),oN (.store [1,0,1,1] (.V 3) (.E 6))]) (.seq (.reg [mV 7 0,fV 8 2 3,lE 9 8,nE 10 9,oE 11 (.call zbu [([0],(.E 7)),([0],(.E 10))]),vE 4 11]) (.seq (.seq (.reg [mV 12 0,oV 13 (.call zbu [([0],(.E 12)),([0],(ki 14))])]) (.block 0 (.seq (.reg [oE 15 (.bin .eql (.V 13) (ki 0)),wE 14 15]) (.cond (.E 14) (.regD [(fV 16 0 3,0,2),(lE 17 16,0,2),(mV 18 0,0,0),(oE 19 (.bslice 7 1 [(.v (.string (bs [])))] [(0,(.C (.v (.string (bs []))))),(1,(.C (.v (.string (bs [65]))))),(2,(.C (.v (.string (bs [49,97]))))),(3,(.C (.v (.string (bs [121]))))),(4,(.C (.v (.string (bs [97,98,99,100,101,102,103,104,105,106,107,108]))))),(5,(.C (.v (.string (bs [97,98,99,100,101,102,103,104,105,106,107,108,109]))))),(6,(.C (.v (.string (bs [98])))))]),0,0),(oE 20 (.call zl0 [([0],(.E 18)),([1],(.E 19))]),0,0),(oE 21 (.iaddr 1 (.E 17) (ki 0)),0,0),(oN (.store [0] (.E 21) (.E 20)),0,0)]) (.seq (.reg [oE 23 (.bin .eql (.V 13) (ki 1)),wE 22 23]) (.cond (.E 22) (.reg [mV 24 0,oE 25 (.bslice 3 1 [(.v (.string (bs [])))] [(0,(.C (.v (.string (bs []))))),(1,(.C (.v (.string (bs [97]))))),(2,(.C (.v (.string (bs [121,45])))))]),oE 26 (.call zl0 [([0],(.E 24)),([1],(.E 25))]),fV 27 1 3,oN (.store [0] (.E 27) (.E 26))]) (.seq (.reg [oE 29 (.bin .eql (.V 13) (ki 2)),wE 28 29]) (.cond (.E 28) (.regD [(fV 30 2 3,0,2),(lE 31 30,0,2),(mV 32 4,0,0),(fV 33 2 3,0,1),(lE 34 33,0,1),(mV 35 4,0,0),(iE 36 1 34 35,0,1),(lE 37 36,0,1),(oE 38 (.bslice 1 1 [iv 0] [(0,(ki 0))]),0,0),(oE 39 (.app 8 1 (.E 37) (.E 38)),0,0),(iE 40 1 31 32,0,0),(oN (.store [1] (.E 40) (.E 39)),0,0)]) (.seq (.reg [oE 42 (.bin .eql (.V 13) (ki 3)),wE 41 42]) (.cond (.E 41) (.regD [(fV 43 2 3,0,2),(lE 44 43,0,2),(mV 45 4,0,0),(iE 46 1 44 45,0,2),(lE 47 46,0,2),(mV 48 0,0,0),(oE 49 (.bslice 3 1 [iv 0] [(0,(ki 2147483647)),(1,(ki 2147483648)),(2,(ki (-2147483648)))]),0,0),(oE 50 (.call ze8 [([0],(.E 48)),([1],(.E 49))]),0,0),(oE 51 (.iaddr 1 (.E 47) (ki 0)),0,0),(oN (.store [0] (.E 51) (.E 50)),0,0)]) (.seq (.reg [oE 53 (.bin .eql (.V 13) (ki 4)),wE 52 53]) (.cond (.E 52) (.regD [(fV 54 3 3,0,1),(lE 55 54,0,1),(mV 56 4,0,0),(mV 57 0,0,0),(oE 58 (.call zok [([0],(.E 57))]),0,0),(iE 59 1 55 56,0,0),(oN (.store [0] (.E 59) (.E 58)),0,0)]) (.seq (.reg [oE 61 (.bin .eql (.V 13) (ki 5)),wE 60 61]) (.cond (.E 60) (.reg [fV 62 3 3,lE 63 62,oE 64 (.bslice 1 1 [iv 0] [(0,(ki 1))]),oE 65 (.app 8 1 (.E 63) (.E 64)),fV 66 3 3,oN (.store [1] (.E 66) (.E 65))]) (.seq (.reg [oE 68 (.bin .eql (.V 13) (ki 6)),wE 67 68]) (.cond (.E 67) (.reg [fV 69 2 3,lE 70 69,mV 71 4,oE 72 (.bslice 0 1 [iv 0] []),iE 73 1 70 71,oN (.store [1] (.E 73) (.E 72))]) (.seq (.reg [oE 75 (.bin .eql (.V 13) (ki 7)),wE 74 75]) (.cond (.E 74) (.block 1 (.loop z0z)) .skip)))))))))))))))))) (.seq (.reg [tV 99 4 3,oN (.store [1,0,1,1] (.V 2) (.E 99))]) .ret))))
def zgt:List RV:=[.cell [1,0,1,1] 2 true]
def yie:List Nat:=[0,7,3,2]
def zgu:IC := .seq (.reg [oV 2 (.alloc [iv 0,iv 0,iv 0,iv 0,iv 0,iv 0,iv 0,.e0])]) (.seq (.reg [mV 4 0,oE 5 (.call zlo [([0],(.E 4))]),oV 3 (.alloc [iv 0,iv 0,iv 0,iv 0,iv 0,iv 0,iv 0,.e0]),oN (.store [0,0,0,0,0,0,0,1] (.V 3) (.E 5))]) (.seq (.seq (.reg [mV 6 0,oV 7 (.call zbu [([0],(.E 6)),([0],(ki 12))])]) (.block 0 (.seq (.reg [oE 9 (.bin .eql (.V 7) (ki 0)),wE 8 9]) (.cond (.E 8) (.reg [mV 10 0,oE 11 (.bslice 5 1 [iv 0] [(0,(ki 0)),(1,(ki 1)),(2,(ki 8)),(3,(ki 9)),(4,(ki (-1)))]),oE 12 (.call ze8 [([0],(.E 10)),([1],(.E 11))]),fV 13 0 3,oN (.store [0] (.E 13) (.E 12))]) (.seq (.reg [oE 15 (.bin .eql (.V 7) (ki 1)),wE 14 15]) (.cond (.E 14) (.reg [mV 16 0,oE 17 (.bslice 4 1 [iv 0] [(0,(ki (-1))),(1,(ki 0)),(2,(ki 4)),(3,(ki 5))]),oE 18 (.call ze8 [([0],(.E 16)),([1],(.E 17))]),fV 19 1 3,oN (.store [0] (.E 19) (.E 18))]) (.seq (.reg [oE 21 (.bin .eql (.V 7) (ki 2)),wE 20 21]) (.cond (.E 20) (.reg [mV 22 0,oE 23 (.bslice 4 1 [iv 0] [(0,(ki 1)),(1,(ki 2)),(2,(ki 8)),(3,(ki 9))]),oE 24 (.call ze8 [([0],(.E 22)),([1],(.E 23))]),fV 25 2 3,oN (.store [0] (.E 25) (.E 24))]) (.seq (.reg [oE 27 (.bin .eql (.V 7) (ki 3)),wE 26 27]) (.cond (.E 26) (.reg [mV 28 0,oE 29 (.bslice 5 1 [iv 0] [(0,(ki 0)),(1,(ki 1)),(2,(ki 100)),(3,(ki 101)),(4,(ki 9223372036854775807))]),oE 30 (.call ze8 [([0],(.E 28)),([1],(.E 29))]),fV 31 3 3,oN (.store [0] (.E 31) (.E 30))]) (.seq (.reg [oE 33 (.bin .eql (.V 7) (ki 4)),wE 32 33]) (.cond (.E 32) (.reg [mV 34 0,oE 35 (.bslice 4 1 [iv 0] [(0,(ki 0)),(1,(ki 1)),(2,(ki 20)),(3,(ki 21))]),oE 36 (.call ze8 [([0],(.E 34)),([1],(.E 35))]),fV 37 4 3,oN (.store [0] (.E 37) (.E 36))]) (.seq (.reg [oE 39 (.bin .eql (.V 7) (ki 5)),wE 38 39]) (.cond (.E 38) (.reg [mV 40 0,fV 41 6 3,lE 42 41,fV 43 6 3,lE 44 43,oE 45 (.bin .add (.E 44) (ki 1)),oE 46 (.bslice 5 1 [iv 0] [(0,(ki 0)),(1,(ki 1)),(2,(.E 42)),(3,(.E 45)),(4,(ki (-1)))]),oE 47 (.call ze8 [([0],(.E 40)),([1],(.E 46))]),fV 48 5 3,oN (.store [0] (.E 48) (.E 47))]) (.seq (.reg [oE 50 (.bin .eql (.V 7) (ki 6)),wE 49 50]) (.cond (.E 49) (.reg [mV 51 0,oE 52 (.bslice 5 1 [iv 0] [(0,(ki 0)),(1,(ki 1)),(2,(ki 1000)),(3,(ki 1001)),(4,(ki 9223372036854775807))]),oE 53 (.call ze8 [([0],(.E 51)),([1],(.E 52))]),fV 54 6 3,oN (.store [0] (.E 54) (.E 53))]) (.seq (.reg [oE 56 (.bin .eql (.V 7) (ki 7)),wE 55 56]) (.cond (.E 55) (.regD [(fV 57 7 3,0,2),(lE 58 57,0,2),(mV 59 0,0,0),(oE 60 (.call zbu [([0],(.E 59)),([0],(ki 5))]),0,0),(oE 61 (.bin .sub (.E 60) (ki 2)),0,0),(oE 62 (.bslice 1 1 [iv 0] [(0,(.E 61))]),0,0),(oE 63 (.app 8 1 (.E 58) (.E 62)),0,0),(fV 64 7 3,0,0),(oN (.store [1] (.E 64) (.E 63)),0,0)]) .skip)))))))))))))))))) (.seq (.reg [tV 65 8 3,oN (.store [0,0,0,0,0,0,0,1] (.V 2) (.E 65))]) .ret)))
def zgv:List RV:=[.cell [0,0,0,0,0,0,0,1] 2 true]
def yif:List Nat:=[0,1,2,21,20,6,4,3]
def zr3:IC := .seq (.reg [oE 22 (.bin .lss (.V 21) (.V 20))]) (.seq (.cond (.E 22) .skip (.exit 0)) (.seq (.block 1 (.reg [fV 23 0 6,lE 24 23,mV 25 4,oE 26 (.bslice 1 1 [iv 0] [(0,(.E 25))]),oE 27 (.app 8 1 (.E 24) (.E 26)),fV 28 0 6,oN (.store [1] (.E 28) (.E 27))])) (.reg [oE 29 (.bin .add (.V 21) (ki 1)),vE 21 29])))
def zr4:IC := .seq (.reg [oV 1 (.box (.V 0)),oV 2 (.alloc [.e0,.e0]),oV 3 (.mv (kb false))]) (.seq (.seq (.reg [tV 7 4 1,oE 8 (.call zki [([1,0,1,1],(.E 7))]),oE 9 (.un .not (.E 8))]) (.cond (.E 9) (.seq (.reg [oE 10 (.build [.e0,.e0] []),oN (.store [1,1] (.V 2) (.E 10)),oV 3 (.mv (kb false))]) .ret) .skip)) (.seq (.reg [fV 12 3 1,lE 13 12,oE 14 (.call zn4 [([1],(.E 13))]),wE 11 14,xE 15 0 11,xE 16 1 11,vE 4 15,wE 5 16]) (.seq (.reg [oE 17 (.build [.e0,.e0] []),oV 6 (.alloc [.e0,.e0]),oN (.store [1,1] (.V 6) (.E 17))]) (.seq (.seq (.reg [fV 18 3 1,lE 19 18,oV 20 (.len (.E 19)),oV 21 (.mv (ki 0))]) (.block 0 (.loop zr3))) (.seq (.reg [tV 30 2 6,oN (.store [1,1] (.V 2) (.E 30)),oV 3 (.mv (kb true))]) .ret)))))
def zr5:List RV:=[.cell [1,1] 2 true,.tmp [0] 3]
def yig:List Nat:=[0,1,4]
def zvp:IC := .seq (.reg [oV 4 (.mv (ki 0))]) (.seq (.reg [mV 5 1,mV 6 0,mV 7 1,nE 8 7,oE 9 (.call zbu [([0],(.E 6)),([0],(.E 8))]),iE 10 1 5 9,lE 11 10,vE 4 11]) .ret)
def zvq:List RV:=[.tmp [0] 4]
def yih:List Nat:=[0,2]
def zvr:IC := .seq (.reg [oV 2 (.mv (kb false))]) (.seq (.reg [mV 3 0,oE 4 (.call zii [([1],(.E 3)),([0],(.C (.fn zl1 [])))]),oE 5 (.un .not (.E 4)),vE 2 5]) .ret)
def zvs:List RV:=[.tmp [0] 2]
def yii:List Nat:=[0,1,4]
def zvt:IC := .seq (.reg [oV 4 (.mv (kb false))]) (.seq (.reg [mV 5 0,mV 6 1,oE 7 (.call zo8 [([1],(.E 5)),([0],(.E 6))]),oE 8 (.bin .geq (.E 7) (ki 0)),vE 4 8]) .ret)
def zvu:List RV:=[.tmp [0] 4]
def yij:List Nat:=[0,1,3]
def zvv:IC := .seq (.reg [oV 3 (.mv (kb false))]) (.seq (.reg [mV 4 0,nE 5 4,fV 6 0 1,lE 7 6,nE 8 7,bE 9 .neq 5 8,wE 10 9,gE 11 10 .false (.mv (.V 0)),gE 12 10 .false (.call zkk [([1],(.E 11))]),gE 13 10 .false (.un .not (.E 12)),oE 14 (.pick (.E 10) (kb true) (.E 13)),vE 3 14]) .ret)
def zvw:List RV:=[.tmp [0] 3]
def yik:List Nat:=[0,2]
def zvx:IC := .seq (.reg [oV 2 (.mv (kb false))]) (.seq (.reg [mV 3 0,oE 4 (.call zoh [([0],(.E 3))]),oE 5 (.un .not (.E 4)),vE 2 5]) .ret)
def zvy:List RV:=[.tmp [0] 2]
def yil:List Nat:=[0,1,2]
def zvz:IC := .seq (.reg [oV 1 (.box (.V 0)),oV 2 (.alloc [.e0])]) (.seq (.reg [fV 3 0 1,lE 4 3,oE 5 (.call zo9 [([5],(.E 4))]),oE 6 (.build [.e0] [(0,1,(.E 5))]),oN (.store [5] (.V 2) (.E 6))]) .ret)
def zv0:List RV:=[.cell [5] 2 true]
def yim:List Nat:=[0,7,6,3,4,2]
def z47:IC := .seq (.reg [oE 8 (.bin .lss (.V 7) (.V 6))]) (.seq (.cond (.E 8) .skip (.exit 0)) (.seq (.block 1 (.seq (.reg [mV 9 7,vE 3 9]) (.seq (.reg [mV 10 0,mV 11 3,oE 12 (.idx (.E 10) (.E 11)),oE 13 (.bin .geq (.E 12) (.C (.v (.int .u8 97)))),wE 14 13,gE 15 14 .true (.mv (.V 0)),gE 16 14 .true (.mv (.V 3)),gE 17 14 .true (.idx (.E 15) (.E 16)),gE 18 14 .true (.bin .leq (.E 17) (.C (.v (.int .u8 122)))),oE 19 (.pick (.E 14) (.E 18) (kb false)),vE 4 19]) (.seq (.reg [mV 20 4,oE 21 (.un .not (.E 20)),wE 22 21,gE 23 22 .true (.mv (.V 3)),gE 24 22 .true (.bin .eql (.E 23) (ki 0)),gE 25 22 .true (.mv (.E 24)),gE 26 25 .false (.mv (.V 0)),gE 27 25 .false (.mv (.V 3)),gE 28 25 .false (.idx (.E 26) (.E 27)),gE 29 25 .false (.bin .lss (.E 28) (.C (.v (.int .u8 48)))),gE 30 22 .true (.pick (.E 25) (kb true) (.E 29)),gE 31 22 .true (.mv (.E 30)),gE 32 31 .false (.mv (.V 0)),gE 33 31 .false (.mv (.V 3)),gE 34 31 .false (.idx (.E 32) (.E 33)),gE 35 31 .false (.bin .gtr (.E 34) (.C (.v (.int .u8 57)))),gE 36 22 .true (.pick (.E 31) (kb true) (.E 35)),oE 37 (.pick (.E 22) (.E 36) (kb false))]) (.cond (.E 37) (.seq (.reg [oV 2 (.mv (kb false))]) .ret) .skip))))) (.reg [oE 38 (.bin .add (.V 7) (ki 1)),vE 7 38])))
def zv1:IC := .seq (.reg [oV 2 (.mv (kb false))]) (.seq (.seq (.reg [mV 5 0,oV 6 (.lenS (.E 5)),oV 7 (.mv (ki 0))]) (.block 0 (.loop z47))) (.seq (.reg [mV 39 0,oE 40 (.lenS (.E 39)),oE 41 (.call zbi [([0],(.E 40)),([0],(ki 1)),([0],(ki 12))]),vE 2 41]) .ret))
def zv2:List RV:=[.tmp [0] 2]
def yin:List Nat:=[0,1,4]
def zv3:IC := .seq (.reg [oV 4 (.mv (kb false))]) (.seq (.reg [mV 5 0,mV 6 1,oE 7 (.call zpa [([1],(.E 5)),([0],(.E 6))]),oE 8 (.bin .geq (.E 7) (ki 0)),vE 4 8]) .ret)
def zv4:List RV:=[.tmp [0] 4]
def yio:List Nat:=[0,1,8,7,5,4]
def z00:IC := .seq (.reg [oE 9 (.bin .lss (.V 8) (.V 7))]) (.seq (.cond (.E 9) .skip (.exit 0)) (.seq (.block 1 (.seq (.reg [mV 10 8,vE 5 10]) (.seq (.reg [mV 11 1,mV 12 0,mV 13 5,iE 14 1 12 13,lE 15 14,oE 16 (.callv (.E 11) [([0],(.E 15))])]) (.cond (.E 16) (.seq (.reg [mV 17 5,vE 4 17]) .ret) .skip)))) (.reg [oE 18 (.bin .add (.V 8) (ki 1)),vE 8 18])))
def zr6:IC := .seq (.reg [oV 4 (.mv (ki 0))]) (.seq (.seq (.reg [mV 6 0,oV 7 (.len (.E 6)),oV 8 (.mv (ki 0))]) (.block 0 (.loop z00))) (.seq (.reg [oV 4 (.mv (ki (-1)))]) .ret))
def zr7:List RV:=[.tmp [0] 4]
def yip:List Nat:=[0,1,2]
def zv5:IC := .seq (.reg [oV 1 (.box (.V 0)),oV 2 (.mv (kb false))]) (.seq (.reg [fV 3 0 1,lE 4 3,oE 5 (.bin .eql (.E 4) (ki (-1))),vE 2 5]) .ret)
def zv6:List RV:=[.tmp [0] 2]
def yiq:List Nat:=[0,1,2,13,12,6,5,7,4]
def z48:IC := .seq (.reg [oE 14 (.bin .lss (.V 13) (.V 12))]) (.seq (.cond (.E 14) .skip (.exit 0)) (.seq (.block 1 (.seq (.seq (.reg [mV 15 6,fV 16 0 2,lE 17 16,nE 18 17,oE 19 (.bin .sub (.E 18) (ki 1)),oE 20 (.call zbi [([0],(.E 15)),([0],(ki 0)),([0],(.E 19))]),oE 21 (.un .not (.E 20))]) (.cond (.E 21) (.seq (.reg [oV 4 (.mv (.C .e0))]) .ret) .skip)) (.seq (.reg [fV 22 0 2,lE 23 22,mV 24 6,iE 25 5 23 24,tE 26 5 25,oV 7 (.alloc [iv 0,iv 0,iv 0,iv 0,iv 0]),oN (.store [0,0,0,0,0] (.V 7) (.E 26))]) (.seq (.reg [mV 27 5,mV 28 6,oE 29 (.bslice 1 1 [iv 0] [(0,(.E 28))]),oE 30 (.app 8 1 (.E 27) (.E 29)),vE 5 30]) (.block 2 (.seq (.reg [tV 34 5 7,oE 35 (.call zlu [([0,0,0,0,0],(.E 34))]),wE 33 35]) (.cond (.E 33) (.seq (.reg [mV 36 5,vE 4 36]) .ret) (.seq (.reg [fV 38 0 7,lE 39 38,mV 40 1,nE 41 40,oE 42 (.bin .sub (.E 41) (ki 1)),oE 43 (.call zbi [([0],(.E 39)),([0],(ki 0)),([0],(.E 42))]),oE 44 (.un .not (.E 43)),wE 37 44]) (.cond (.E 37) (.seq (.reg [oV 4 (.mv (.C .e0))]) .ret) (.seq (.regD [(mV 46 1,0,0),(fV 47 0 7,0,0),(lE 48 47,0,0),(iE 49 1 46 48,0,0),(lE 50 49,0,0),(fV 51 1 7,0,0),(lE 52 51,0,0),(bE 53 .leq 50 52,0,0),(wE 45 53,0,0)]) (.cond (.E 45) (.reg [fV 54 2 7,lE 55 54,vE 6 55]) (.reg [fV 31 3 7,lE 32 31,vE 6 32])))))))))))) (.reg [oE 56 (.bin .add (.V 13) (ki 1)),vE 13 56])))
def zv7:IC := .seq (.reg [oV 2 (.box (.V 0)),oV 4 (.mv (.C .e0))]) (.seq (.reg [oE 8 (.bslice 0 1 [iv 0] []),vE 5 8,oV 6 (.mv (ki 0))]) (.seq (.seq (.reg [fV 9 0 2,lE 10 9,nE 11 10,oV 12 (.bin .add (.E 11) (ki 1)),oV 13 (.mv (ki 0))]) (.block 0 (.loop z48))) (.seq (.reg [oV 4 (.mv (.C .e0))]) .ret)))
def zv8:List RV:=[.tmp [1] 4]
def yir:List Nat:=[0,3,2]
def zr8:IC := .seq (.reg [oV 2 (.mv (ki 0))]) (.seq (.reg [mV 4 0,mV 5 0,oE 6 (.nilc (.E 5)),fE 7 2 6,lE 8 7,oE 9 (.bin .mul (.E 8) (ki 6364136223846793005)),oE 10 (.bin .add (.E 9) (ki 1442695040888963407)),oE 11 (.nilc (.E 4)),fE 12 2 11,oN (.store [0] (.E 12) (.E 10))]) (.seq (.regD [(mV 13 0,0,0),(oE 14 (.nilc (.E 13)),0,0),(fE 15 2 14,0,0),(lE 16 15,0,0),(oE 17 (.bin .shr (.E 16) (.C (.v (.int .u64 33)))),0,0),(mV 18 0,0,0),(oE 19 (.nilc (.E 18)),0,0),(fE 20 2 19,0,0),(lE 21 20,0,0),(oE 22 (.bin .shr (.E 21) (.C (.v (.int .u64 45)))),0,0),(bE 23 .xor 17 22,0,0),(oE 24 (.bin .and (.E 23) (ki 255)),0,0),(vE 3 24,0,0)]) (.seq (.seq (.regD [(mV 25 0,0,0),(oE 26 (.nilc (.E 25)),0,0),(fE 27 1 26,0,0),(lE 28 27,0,0),(mV 29 0,0,0),(oE 30 (.nilc (.E 29)),0,0),(fE 31 0 30,0,0),(lE 32 31,0,0),(nE 33 32,0,0),(bE 34 .lss 28 33,0,0)]) (.cond (.E 34) (.seq (.regD [(mV 35 3,0,0),(mV 36 0,0,0),(oE 37 (.nilc (.E 36)),0,0),(fE 38 0 37,0,0),(lE 39 38,0,0),(mV 40 0,0,0),(oE 41 (.nilc (.E 40)),0,0),(fE 42 1 41,0,0),(lE 43 42,0,0),(iE 44 1 39 43,0,0),(lE 45 44,0,0),(oE 46 (.convI .i64 (.E 45)),0,0),(bE 47 .add 35 46,0,0),(oE 48 (.bin .and (.E 47) (ki 255)),0,0),(vE 3 48,0,0)]) (.reg [mV 49 0,mV 50 0,oE 51 (.nilc (.E 50)),fE 52 1 51,lE 53 52,oE 54 (.bin .add (.E 53) (ki 1)),oE 55 (.nilc (.E 49)),fE 56 1 55,oN (.store [0] (.E 56) (.E 54))])) .skip)) (.seq (.reg [mV 57 3,vE 2 57]) .ret))))
def zr9:List RV:=[.tmp [0] 2]
def yis:List Nat:=[0,2]
def zp7:IC := .seq (.reg [oV 2 (.mv (ki 0))]) (.seq (.seq (.reg [mV 3 0,oE 4 (.call zfp [([0],(.E 3)),([0],(ki 20))])]) (.cond (.E 4) (.seq (.reg [mV 5 0,oE 6 (.bslice 5 1 [iv 0] [(0,(ki 2147483647)),(1,(ki (-2147483647))),(2,(ki 1)),(3,(ki (-1))),(4,(ki 1000000000))]),oE 7 (.call ze8 [([0],(.E 5)),([1],(.E 6))]),vE 2 7]) .ret) .skip)) (.seq (.seq (.reg [mV 8 0,oE 9 (.call zfp [([0],(.E 8)),([0],(ki 2))])]) (.cond (.E 9) (.seq (.reg [mV 10 0,oE 11 (.call zbu [([0],(.E 10)),([0],(ki 9))]),oE 12 (.bin .sub (.E 11) (ki 4)),oE 13 (.bin .mul (ki 1000) (.E 12)),vE 2 13]) .ret) .skip)) (.seq (.reg [mV 14 0,oE 15 (.call zbu [([0],(.E 14)),([0],(ki 41))]),oE 16 (.bin .sub (.E 15) (ki 20)),oE 17 (.bin .mul (ki 250) (.E 16)),vE 2 17]) .ret)))
def zp8:List RV:=[.tmp [0] 2]
def yit:List Nat:=[0,1,4]
def zv9:IC := .seq (.reg [oV 4 (.mv (kb false))]) (.seq (.reg [mV 5 0,mV 6 1,oE 7 (.call zpb [([1],(.E 5)),([1],(.E 6)),([0],(.C (.fn zko [])))]),vE 4 7]) .ret)
def zwa:List RV:=[.tmp [0] 4]
def yiu:List Nat:=[0,1,2,5,21,20,19,7,8,4]
def z01:IC := .seq (.reg [oE 22 (.bin .lss (.V 21) (.V 20))]) (.seq (.cond (.E 22) .skip (.exit 0)) (.seq (.block 1 (.seq (.reg [oE 23 (.iaddr 1 (.V 19) (.V 21)),lE 24 23,vE 7 24]) (.seq (.reg [oV 8 (.mv (ki 0))]) (.seq (.seq (.reg [mV 25 1,mV 26 7,nE 27 26,bE 28 .lss 25 27]) (.cond (.E 28) (.reg [mV 29 7,mV 30 1,iE 31 1 29 30,lE 32 31,vE 8 32]) .skip)) (.reg [mV 33 5,mV 34 8,oE 35 (.bslice 1 1 [iv 0] [(0,(.E 34))]),oE 36 (.app 8 1 (.E 33) (.E 35)),vE 5 36]))))) (.reg [oE 37 (.bin .add (.V 21) (ki 1)),vE 21 37])))
def zwb:IC := .seq (.reg [oV 2 (.box (.V 0)),oV 4 (.mv (.C .e0))]) (.seq (.reg [oE 9 (.bslice 0 1 [iv 0] []),vE 5 9]) (.seq (.seq (.reg [mV 10 1,fV 11 0 2,lE 12 11,nE 13 12,oE 14 (.bin .sub (.E 13) (ki 1)),oE 15 (.call zbi [([0],(.E 10)),([0],(ki 0)),([0],(.E 14))]),oE 16 (.un .not (.E 15))]) (.cond (.E 16) (.seq (.reg [mV 17 5,vE 4 17]) .ret) .skip)) (.seq (.seq (.reg [fV 18 2 2,oV 19 (.load false 1 (.E 18)),oV 20 (.len (.V 19)),oV 21 (.mv (ki 0))]) (.block 0 (.loop z01))) (.seq (.reg [mV 38 5,vE 4 38]) .ret))))
def zwc:List RV:=[.tmp [1] 4]
def yiv:List Nat:=[0,1,5,7,8,6,4]
def zsa:IC := .seq (.seq (.reg [mV 22 7,mV 23 1,bE 24 .lss 22 23]) (.cond (.E 24) .skip (.exit 0))) (.seq (.block 1 (.seq (.reg [mV 27 0,nE 28 27,mV 29 7,bE 30 .mul 28 29,mV 31 1,bE 32 .quo 30 31,vE 8 32]) (.seq (.regD [(mV 33 8,0,0),(oE 34 (.bin .geq (.E 33) (ki 1)),0,0),(wE 35 34,0,0),(gE 36 35 .true (.mv (.V 6)),0,0),(gE 37 35 .true (.mv (.V 8)),0,0),(gE 38 35 .true (.bin .sub (.E 37) (ki 1)),0,0),(gE 39 35 .true (.iaddr 1 (.E 36) (.E 38)),0,0),(gE 40 35 .true (.load false 1 (.E 39)),0,0),(gE 41 35 .true (.mv (.V 6)),0,0),(gE 42 35 .true (.mv (.V 6)),0,0),(gE 43 35 .true (.len (.E 42)),0,0),(gE 44 35 .true (.bin .sub (.E 43) (ki 1)),0,0),(gE 45 35 .true (.iaddr 1 (.E 41) (.E 44)),0,0),(gE 46 35 .true (.load false 1 (.E 45)),0,0),(gE 47 35 .true (.bin .neq (.E 40) (.E 46)),0,0),(oE 48 (.pick (.E 35) (.E 47) (kb false)),0,0)]) (.cond (.E 48) (.reg [mV 49 5,mV 50 6,mV 51 8,oE 52 (.bin .sub (.E 51) (ki 1)),iE 53 1 50 52,lE 54 53,oE 55 (.bslice 1 1 [iv 0] [(0,(.E 54))]),oE 56 (.app 8 1 (.E 49) (.E 55)),vE 5 56]) .skip)))) (.reg [mV 25 7,oE 26 (.bin .add (.E 25) (ki 1)),vE 7 26]))
def zp9:IC := .seq (.reg [oV 4 (.mv (.C .e0))]) (.seq (.reg [oE 9 (.bslice 0 1 [iv 0] []),vE 5 9]) (.seq (.seq (.reg [mV 10 1,oE 11 (.call zbi [([0],(.E 10)),([0],(ki 2)),([0],(ki 8))]),oE 12 (.un .not (.E 11)),wE 13 12,gE 14 13 .false (.mv (.V 0)),gE 15 13 .false (.len (.E 14)),gE 16 13 .false (.call zbi [([0],(.E 15)),([0],(ki 1)),([0],(ki 40))]),gE 17 13 .false (.un .not (.E 16)),oE 18 (.pick (.E 13) (kb true) (.E 17))]) (.cond (.E 18) (.seq (.reg [mV 19 5,vE 4 19]) .ret) .skip)) (.seq (.reg [mV 20 0,oE 21 (.call zpc [([1],(.E 20))]),vE 6 21]) (.seq (.seq (.reg [oV 7 (.mv (ki 1))]) (.block 0 (.loop zsa))) (.seq (.reg [mV 57 5,oE 58 (.call zpd [([1],(.E 57))]),vE 4 58]) .ret)))))
def zqa:List RV:=[.tmp [1] 4]
def yiw:List Nat:=[0,1,10,9,8,7,5,4]
def zwd:IC := .seq (.reg [oE 11 (.bin .lss (.V 10) (.V 9))]) (.seq (.cond (.E 11) .skip (.exit 0)) (.seq (.block 1 (.seq (.reg [oE 12 (.iaddr 1 (.V 8) (.V 10)),lE 13 12,vE 7 13]) (.seq (.reg [mV 14 7,mV 15 1,bE 16 .lss 14 15]) (.cond (.E 16) (.reg [mV 17 5,oE 18 (.bin .add (.E 17) (ki 1)),vE 5 18]) .skip)))) (.reg [oE 19 (.bin .add (.V 10) (ki 1)),vE 10 19])))
def zwe:IC := .seq (.reg [oV 4 (.mv (ki 0))]) (.seq (.reg [oV 5 (.mv (ki 0))]) (.seq (.seq (.reg [oV 8 (.mv (.V 0)),oV 9 (.len (.V 8)),oV 10 (.mv (ki 0))]) (.block 0 (.loop zwd))) (.seq (.reg [mV 20 5,vE 4 20]) .ret)))
def zwf:List RV:=[.tmp [0] 4]
def yix:List Nat:=[0,1,6,4,5]
def zjn:IC := .seq (.reg [oV 4 (.mv (ki 0)),oV 5 (.mv (kb false))]) (.seq (.reg [mV 7 0,mV 8 1,bE 9 .sub 7 8,vE 6 9]) (.seq (.seq (.reg [mV 10 0,oE 11 (.bin .lss (.E 10) (ki 0)),mV 12 1,oE 13 (.bin .lss (.E 12) (ki 0)),oE 14 (.eqb true [.b] (.E 11) (.E 13)),wE 15 14,gE 16 15 .true (.mv (.V 6)),gE 17 15 .true (.bin .lss (.E 16) (ki 0)),gE 18 15 .true (.mv (.V 0)),gE 19 15 .true (.bin .lss (.E 18) (ki 0)),gE 20 15 .true (.eqb true [.b] (.E 17) (.E 19)),oE 21 (.pick (.E 15) (.E 20) (kb false))]) (.cond (.E 21) (.seq (.reg [oV 4 (.mv (ki 0)),oV 5 (.mv (kb false))]) .ret) .skip)) (.seq (.reg [mV 22 6,vE 4 22,oV 5 (.mv (kb true))]) .ret)))
def zjo:List RV:=[.tmp [0] 4,.tmp [0] 5]
def yiy:List Nat:=[0,1,2,3,5,6]
def zmq:IC := .seq (.reg [oV 3 (.box (.V 0)),oV 5 (.box (.V 2)),oV 6 (.mv (kb false))]) (.seq (.reg [tV 7 2 3,oE 8 (.call zl2 [([1,1],(.E 7))]),wE 9 8,gE 10 9 .true (.load true 8 (.V 5)),gE 11 9 .true (.call zja [([0,0,0,0,0,0,0,1],(.E 10))]),oE 12 (.pick (.E 9) (.E 11) (kb false)),wE 13 12,gE 14 13 .true (.mv (.V 1)),gE 15 13 .true (.len (.E 14)),gE 16 13 .true (.load true 2 (.V 3)),gE 17 13 .true (.call zjc [([1,1],(.E 16))]),gE 18 13 .true (.bin .eql (.E 15) (.E 17)),oE 19 (.pick (.E 13) (.E 18) (kb false)),wE 20 19,gE 21 20 .true (.mv (.V 1)),gE 22 20 .true (.call zii [([1],(.E 21)),([0],(.C (.fn zl3 [])))]),gE 23 20 .true (.un .not (.E 22)),oE 24 (.pick (.E 20) (.E 23) (kb false)),vE 6 24]) .ret)
def zmr:List RV:=[.tmp [0] 6]
def yiz:List Nat:=[0,3,11,10,4,2]
def z02:IC := .seq (.reg [oE 12 (.bin .lss (.V 11) (.V 10))]) (.seq (.cond (.E 12) .skip (.exit 0)) (.seq (.block 1 (.seq (.reg [mV 13 11,vE 4 13]) (.reg [mV 14 3,mV 15 4,oE 16 (.bslice 1 1 [iv 0] [(0,(.E 15))]),oE 17 (.app 8 1 (.E 14) (.E 16)),vE 3 17]))) (.reg [oE 18 (.bin .add (.V 11) (ki 1)),vE 11 18])))
def zwg:IC := .seq (.reg [oV 2 (.mv (.C .e0))]) (.seq (.reg [oE 5 (.bslice 0 1 [iv 0] []),vE 3 5]) (.seq (.seq (.reg [mV 6 0,oE 7 (.call zbi [([0],(.E 6)),([0],(ki 1)),([0],(ki 40))]),oE 8 (.un .not (.E 7))]) (.cond (.E 8) (.seq (.reg [mV 9 3,vE 2 9]) .ret) .skip)) (.seq (.seq (.reg [oV 10 (.mv (.V 0)),oV 11 (.mv (ki 0))]) (.block 0 (.loop z02))) (.seq (.reg [mV 19 3,vE 2 19]) .ret))))
def zwh:List RV:=[.tmp [1] 2]
def yi0:List Nat:=[0,1,2]
def zsb:IC := .seq (.reg [oV 1 (.box (.V 0)),oV 2 (.mv (ki 0))]) (.seq (.seq (.reg [fV 3 1 1,lE 4 3,nE 5 4,oE 6 (.bin .eql (.E 5) (ki 0))]) (.cond (.E 6) (.seq (.reg [oV 2 (.mv (ki 0))]) .ret) .skip)) (.seq (.reg [fV 7 1 1,lE 8 7,oE 9 (.iaddr 1 (.E 8) (ki 0)),lE 10 9,nE 11 10,vE 2 11]) .ret))
def zsc:List RV:=[.tmp [0] 2]
def yi1:List Nat:=[0]
def zwi:IC := .seq (.reg [oV 0 (.alloc [iv 0,iv 0])]) (.seq (.reg [oE 1 (.build [iv 0,iv 0] [(0,1,(ki (-1099511627776))),(1,1,(ki 1099511627776))]),oN (.store [0,0] (.V 0) (.E 1))]) .ret)
def zwj:List RV:=[.cell [0,0] 0 true]
def yi2:List Nat:=[0,1,2,3,4,5,7,10,13,9,12,11]
def zqb:IC := .seq (.reg [oV 5 (.box (.V 0)),oV 7 (.box (.V 2)),oV 9 (.box (.V 4)),oV 10 (.alloc [iv 0,iv 0,iv 0,iv 0,iv 0,iv 0]),oV 11 (.mv (kb false))]) (.seq (.seq (.reg [tV 14 2 5,mV 15 1,tV 16 8 7,oE 17 (.call zlx [([1,1],(.E 14)),([1],(.E 15)),([0,0,0,0,0,0,0,1],(.E 16))]),oE 18 (.un .not (.E 17))]) (.cond (.E 18) (.seq (.reg [oE 19 (.build [iv 0,iv 0,iv 0,iv 0,iv 0,iv 0] []),oN (.store [0,0,0,0,0,0] (.V 10) (.E 19)),oV 11 (.mv (kb false))]) .ret) .skip)) (.seq (.reg [tV 21 2 5,mV 22 1,mV 23 3,oE 24 (.call zpe [([1,1],(.E 21)),([1],(.E 22)),([1],(.E 23))]),wE 20 24,xE 25 0 20,xE 26 1 20,vE 12 25,vE 13 26]) (.seq (.seq (.reg [mV 27 13,oE 28 (.un .not (.E 27))]) (.cond (.E 28) (.seq (.reg [oE 29 (.build [iv 0,iv 0,iv 0,iv 0,iv 0,iv 0] []),oN (.store [0,0,0,0,0,0] (.V 10) (.E 29)),oV 11 (.mv (kb false))]) .ret) .skip)) (.seq (.regD [(tV 30 8 7,0,1),(tV 31 2 9,0,1),(mV 32 12,0,0),(fV 33 4 7,0,0),(lE 34 33,0,0),(oE 35 (.call zpg [([1],(.E 32)),([0],(.E 34))]),0,0),(oE 36 (.call zpf [([0,0,0,0,0,0,0,1],(.E 30)),([0,0],(.E 31)),([6],(.E 35))]),0,0),(xE 37 0 36,0,0),(xE 38 1 36,0,0),(oN (.store [0,0,0,0,0,0] (.V 10) (.E 37)),0,0),(vE 11 38,0,0)]) .ret))))
def zqc:List RV:=[.cell [0,0,0,0,0,0] 10 true,.tmp [0] 11]
def yi3:List Nat:=[0,1,2,3,5,8,6,7]
def zsd:IC := .seq (.reg [oV 3 (.box (.V 0)),oV 5 (.box (.V 2)),oV 6 (.mv (ki 0)),oV 7 (.mv (kb false))]) (.seq (.seq (.reg [fV 10 0 3,lE 11 10,mV 12 1,oE 13 (.call zl4 [([0],(.E 11)),([0],(.E 12))]),oE 14 (.un .not (.E 13)),wE 15 14,gE 16 15 .false (.load true 2 (.V 5)),gE 17 15 .false (.call zl5 [([0,0],(.E 16))]),gE 18 15 .false (.un .not (.E 17)),oE 19 (.pick (.E 15) (kb true) (.E 18))]) (.cond (.E 19) (.seq (.reg [oV 6 (.mv (ki 0)),oV 7 (.mv (kb false))]) .ret) .skip)) (.seq (.reg [fV 21 1 3,lE 22 21,fV 23 0 3,lE 24 23,mV 25 1,bE 26 .add 24 25,oE 27 (.call zkj [([0],(.E 22)),([0],(.E 26))]),wE 20 27,xE 28 0 20,xE 29 1 20,vE 8 28,wE 9 29]) (.seq (.reg [mV 30 8,fV 31 0 5,lE 32 31,fV 33 1 5,lE 34 33,oE 35 (.call zl6 [([0],(.E 30)),([0],(.E 32)),([0],(.E 34))]),vE 6 35,oV 7 (.mv (kb true))]) .ret)))
def zse:List RV:=[.tmp [0] 6,.tmp [0] 7]
def yi4:List Nat:=[0,1,13,12,11,5,7,4]
def z03:IC := .seq (.reg [oE 14 (.bin .lss (.V 13) (.V 12))]) (.seq (.cond (.E 14) .skip (.exit 0)) (.seq (.block 1 (.seq (.reg [oE 15 (.iaddr 1 (.V 11) (.V 13)),lE 16 15,vE 7 16]) (.regD [(fV 17 1 5,0,0),(lE 18 17,0,0),(mV 19 0,0,0),(mV 20 7,0,0),(iE 21 1 19 20,0,0),(lE 22 21,0,0),(bE 23 .add 18 22,0,0),(fV 24 1 5,0,0),(oN (.store [0] (.E 24) (.E 23)),0,0)]))) (.reg [oE 25 (.bin .add (.V 13) (ki 1)),vE 13 25])))
def zwk:IC := .seq (.reg [oV 4 (.alloc [iv 0,iv 0])]) (.seq (.reg [mV 8 1,nE 9 8,oE 10 (.build [iv 0,iv 0] [(0,1,(.E 9))]),oV 5 (.alloc [iv 0,iv 0]),oN (.store [0,0] (.V 5) (.E 10))]) (.seq (.seq (.reg [oV 11 (.mv (.V 1)),oV 12 (.len (.V 11)),oV 13 (.mv (ki 0))]) (.block 0 (.loop z03))) (.seq (.reg [tV 26 2 5,oN (.store [0,0] (.V 4) (.E 26))]) .ret)))
def zwl:List RV:=[.cell [0,0] 4 true]
def yi5:List Nat:=[0,1,2,5,3,4,10,12,9,11,6,7,8]
def zwm:IC := .seq (.reg [oV 3 (.box (.V 0)),oV 4 (.box (.V 1)),oV 5 (.box (.V 2)),oV 6 (.mv (ki 0)),oV 7 (.mv (ki 0)),oV 8 (.mv (kb false))]) (.seq (.reg [fV 14 2 5,tE 15 2 14,fV 16 3 3,lE 17 16,tV 18 2 4,oE 19 (.call zkm [([0,0],(.E 15)),([0],(.E 17)),([0,0],(.E 18))]),wE 13 19,xE 20 0 13,xE 21 1 13,vE 9 20,vE 10 21]) (.seq (.reg [fV 23 4 5,tE 24 2 23,fV 25 3 3,lE 26 25,tV 27 2 4,oE 28 (.call zkm [([0,0],(.E 24)),([0],(.E 26)),([0,0],(.E 27))]),wE 22 28,xE 29 0 22,xE 30 1 22,vE 11 29,vE 12 30]) (.seq (.seq (.reg [mV 31 10,oE 32 (.un .not (.E 31)),wE 33 32,gE 34 33 .false (.mv (.V 12)),gE 35 33 .false (.un .not (.E 34)),oE 36 (.pick (.E 33) (kb true) (.E 35))]) (.cond (.E 36) (.seq (.reg [oV 6 (.mv (ki 0)),oV 7 (.mv (ki 0)),oV 8 (.mv (kb false))]) .ret) .skip)) (.seq (.reg [mV 37 9,mV 38 11,vE 6 37,vE 7 38,oV 8 (.mv (kb true))]) .ret))))
def zwn:List RV:=[.tmp [0] 6,.tmp [0] 7,.tmp [0] 8]
def yi6:List Nat:=[0,1,2,3,5,10,8,9,11,12]
def zqd:IC := .seq (.reg [oV 5 (.box (.V 1)),oV 8 (.alloc [iv 0,iv 0]),oV 9 (.alloc [iv 0,iv 0])]) (.seq (.regD [(mV 13 2,0,0),(mV 14 3,0,0),(oE 15 (.call zph [([0],(.E 13)),([0],(.E 14))]),0,0),(fV 16 0 5,1,0),(lE 17 16,1,0),(fV 18 1 5,1,0),(lE 19 18,1,0),(oE 20 (.call zl6 [([0],(.E 15)),([0],(.E 17)),([0],(.E 19))]),0,0),(vE 10 20,0,0)]) (.seq (.regD [(fV 21 0 5,0,1),(lE 22 21,0,1),(mV 23 10,0,0),(oE 24 (.build [iv 0,iv 0] [(0,1,(.E 22)),(1,1,(.E 23))]),0,0),(mV 25 10,0,0),(fV 26 1 5,0,3),(lE 27 26,0,3),(oE 28 (.build [iv 0,iv 0] [(0,1,(.E 25)),(1,1,(.E 27))]),0,0),(oV 11 (.alloc [iv 0,iv 0]),0,0),(oV 12 (.allocL [iv 0,iv 0]),0,0),(oN (.store [0,0] (.V 11) (.E 24)),0,0),(oN (.store [0,0] (.V 12) (.E 28)),0,0)]) (.seq (.block 0 (.seq (.reg [tV 30 2 5,oE 31 (.call zl5 [([0,0],(.E 30))]),oE 32 (.un .not (.E 31)),wE 29 32]) (.cond (.E 29) (.seq (.regD [(tV 33 2 5,0,0),(tV 34 2 5,0,1),(oN (.store [0,0] (.V 8) (.E 33)),0,0),(oN (.store [0,0] (.V 9) (.E 34)),0,0)]) .ret) (.seq (.reg [mV 36 0,oE 37 (.bin .eql (.E 36) (ki 1)),wE 35 37]) (.cond (.E 35) (.seq (.regD [(tV 38 2 11,0,0),(tV 39 2 12,0,1),(oN (.store [0,0] (.V 8) (.E 38)),0,0),(oN (.store [0,0] (.V 9) (.E 39)),0,0)]) .ret) (.seq (.reg [mV 41 0,oE 42 (.bin .eql (.E 41) (ki (-1))),wE 40 42]) (.cond (.E 40) (.seq (.regD [(tV 43 2 12,0,0),(tV 44 2 11,0,1),(oN (.store [0,0] (.V 8) (.E 43)),0,0),(oN (.store [0,0] (.V 9) (.E 44)),0,0)]) .ret) .skip))))))) (.seq (.regD [(tV 45 2 5,0,0),(tV 46 2 5,0,1),(oN (.store [0,0] (.V 8) (.E 45)),0,0),(oN (.store [0,0] (.V 9) (.E 46)),0,0)]) .ret))))
def zqe:List RV:=[.cell [0,0] 8 true,.cell [0,0] 9 true]
def yi7:List Nat:=[0,1,2,4]
def zsf:IC := .seq (.reg [oV 2 (.box (.V 0)),oV 4 (.mv (ki 0))]) (.seq (.seq (.reg [mV 5 1,fV 6 7 2,lE 7 6,nE 8 7,oE 9 (.bin .sub (.E 8) (ki 1)),oE 10 (.call zbi [([0],(.E 5)),([0],(ki 0)),([0],(.E 9))]),oE 11 (.un .not (.E 10))]) (.cond (.E 11) (.seq (.reg [oV 4 (.mv (ki 0))]) .ret) .skip)) (.seq (.reg [fV 12 7 2,lE 13 12,mV 14 1,iE 15 1 13 14,lE 16 15,vE 4 16]) .ret))
def zsg:List RV:=[.tmp [0] 4]
def yi8:List Nat:=[0,1,2,16,15,14,11,8,9,6,7]
def zsh:IC := .seq (.reg [oE 17 (.bin .lss (.V 16) (.V 15))]) (.seq (.cond (.E 17) .skip (.exit 0)) (.seq (.block 1 (.seq (.reg [oE 18 (.iaddr 1 (.V 14) (.V 16)),lE 19 18,vE 11 19]) (.block 2 (.seq (.reg [mV 25 11,mV 26 0,nE 27 26,oE 28 (.bin .sub (.E 27) (ki 1)),oE 29 (.call zbi [([0],(.E 25)),([0],(ki 0)),([0],(.E 28))]),oE 30 (.un .not (.E 29)),wE 24 30]) (.cond (.E 24) .skip (.seq (.reg [mV 32 0,mV 33 11,iE 34 1 32 33,lE 35 34,mV 36 2,bE 37 .leq 35 36,wE 31 37]) (.cond (.E 31) (.reg [mV 38 8,mV 39 11,oE 40 (.bslice 1 1 [iv 0] [(0,(.E 39))]),oE 41 (.app 8 1 (.E 38) (.E 40)),vE 8 41]) (.reg [mV 20 9,mV 21 11,oE 22 (.bslice 1 1 [iv 0] [(0,(.E 21))]),oE 23 (.app 8 1 (.E 20) (.E 22)),vE 9 23])))))))) (.reg [oE 42 (.bin .add (.V 16) (ki 1)),vE 16 42])))
def zwo:IC := .seq (.reg [oV 6 (.mv (.C .e0)),oV 7 (.mv (.C .e0))]) (.seq (.reg [oE 12 (.bslice 0 1 [iv 0] []),oE 13 (.bslice 0 1 [iv 0] []),vE 8 12,vE 9 13]) (.seq (.seq (.reg [oV 14 (.mv (.V 1)),oV 15 (.len (.V 14)),oV 16 (.mv (ki 0))]) (.block 0 (.loop zsh))) (.seq (.reg [mV 43 8,mV 44 9,vE 6 43,vE 7 44]) .ret)))
def zwp:List RV:=[.tmp [1] 6,.tmp [1] 7]
def yi9:List Nat:=[0,1,10,9,8,5,3,4,2]
def z49:IC := .seq (.reg [oE 11 (.bin .lss (.V 10) (.V 9))]) (.seq (.cond (.E 11) .skip (.exit 0)) (.seq (.block 1 (.seq (.reg [mV 12 10,oE 13 (.iaddr 5 (.V 8) (.V 10)),tE 14 5 13,oV 5 (.alloc [iv 0,iv 0,iv 0,iv 0,iv 0]),vE 4 12,oN (.store [0,0,0,0,0] (.V 5) (.E 14))]) (.seq (.reg [tV 15 5 5,oE 16 (.call zlu [([0,0,0,0,0],(.E 15))])]) (.cond (.E 16) (.reg [mV 17 3,mV 18 4,oE 19 (.bslice 1 1 [iv 0] [(0,(.E 18))]),oE 20 (.app 8 1 (.E 17) (.E 19)),vE 3 20]) .skip)))) (.reg [oE 21 (.bin .add (.V 10) (ki 1)),vE 10 21])))
def zwq:IC := .seq (.reg [oV 1 (.box (.V 0)),oV 2 (.mv (.C .e0))]) (.seq (.reg [oE 6 (.bslice 0 1 [iv 0] []),vE 3 6]) (.seq (.seq (.reg [fV 7 0 1,oV 8 (.load false 1 (.E 7)),oV 9 (.len (.V 8)),oV 10 (.mv (ki 0))]) (.block 0 (.loop z49))) (.seq (.reg [mV 22 3,vE 2 22]) .ret)))
def zwr:List RV:=[.tmp [1] 2]
def yja:List Nat:=[0,1,3,4,5]
def zws:IC := .seq (.reg [oV 3 (.box (.V 1)),oV 4 (.mv (ki 0)),oV 5 (.mv (kb false))]) (.seq (.seq (.reg [tV 6 8 3,oE 7 (.call zja [([0,0,0,0,0,0,0,1],(.E 6))]),oE 8 (.un .not (.E 7)),wE 9 8,gE 10 9 .false (.mv (.V 0)),gE 11 9 .false (.call zkn [([0],(.E 10))]),gE 12 9 .false (.un .not (.E 11)),oE 13 (.pick (.E 9) (kb true) (.E 12))]) (.cond (.E 13) (.seq (.reg [oV 4 (.mv (ki 0)),oV 5 (.mv (kb false))]) .ret) .skip)) (.seq (.reg [mV 14 0,fV 15 5 3,lE 16 15,bE 17 .mul 14 16,fV 18 6 3,lE 19 18,oE 20 (.call zkj [([0],(.E 17)),([0],(.E 19))]),xE 21 0 20,xE 22 1 20,vE 4 21,vE 5 22]) .ret))
def zwt:List RV:=[.tmp [0] 4,.tmp [0] 5]
def yjb:List Nat:=[0,1,4]
def zwu:IC := .seq (.reg [oV 4 (.mv (.C (.v (.string (bs [])))))]) (.seq (.reg [mV 5 1,mV 6 0,mV 7 1,nE 8 7,oE 9 (.call zbu [([0],(.E 6)),([0],(.E 8))]),iE 10 1 5 9,lE 11 10,vE 4 11]) .ret)
def zwv:List RV:=[.tmp [0] 4]
def yjc:List Nat:=[0,2]
def zww:IC := .seq (.reg [oV 2 (.mv (kb false))]) (.seq (.reg [mV 3 0,oE 4 (.call zoi [([0],(.E 3))]),oE 5 (.un .not (.E 4)),vE 2 5]) .ret)
def zwx:List RV:=[.tmp [0] 2]
def yjd:List Nat:=[0,1,8,7,5,4]
def z5a:IC := .seq (.reg [oE 9 (.bin .lss (.V 8) (.V 7))]) (.seq (.cond (.E 9) .skip (.exit 0)) (.seq (.block 1 (.seq (.reg [mV 10 8,vE 5 10]) (.seq (.reg [mV 11 1,mV 12 0,mV 13 5,iE 14 1 12 13,lE 15 14,oE 16 (.callv (.E 11) [([1],(.E 15))])]) (.cond (.E 16) (.seq (.reg [mV 17 5,vE 4 17]) .ret) .skip)))) (.reg [oE 18 (.bin .add (.V 8) (ki 1)),vE 8 18])))
def zwy:IC := .seq (.reg [oV 4 (.mv (ki 0))]) (.seq (.seq (.reg [mV 6 0,oV 7 (.len (.E 6)),oV 8 (.mv (ki 0))]) (.block 0 (.loop z5a))) (.seq (.reg [oV 4 (.mv (ki (-1)))]) .ret))
def zwz:List RV:=[.tmp [0] 4]
def yje:List Nat:=[0,1,8,7,5,4]
def z5b:IC := .seq (.reg [oE 9 (.bin .lss (.V 8) (.V 7))]) (.seq (.cond (.E 9) .skip (.exit 0)) (.seq (.block 1 (.seq (.reg [mV 10 8,vE 5 10]) (.seq (.reg [mV 11 1,mV 12 0,mV 13 5,iE 14 1 12 13,lE 15 14,bE 16 .eql 11 15]) (.cond (.E 16) (.seq (.reg [mV 17 5,vE 4 17]) .ret) .skip)))) (.reg [oE 18 (.bin .add (.V 8) (ki 1)),vE 8 18])))
def zw0:IC := .seq (.reg [oV 4 (.mv (ki 0))]) (.seq (.seq (.reg [mV 6 0,oV 7 (.len (.E 6)),oV 8 (.mv (ki 0))]) (.block 0 (.loop z5b))) (.seq (.reg [oV 4 (.mv (ki (-1)))]) .ret))
def zw1:List RV:=[.tmp [0] 4]
def yjf:List Nat:=[0,2]
def zw2:IC := .seq (.reg [oV 2 (.mv (kb false))]) (.seq (.reg [mV 3 0,oE 4 (.call zbi [([0],(.E 3)),([0],(ki (-1099511627776))),([0],(ki 1099511627776))]),vE 2 4]) .ret)
def zw3:List RV:=[.tmp [0] 2]
def yjg:List Nat:=[0,1,2,17,16,15,7,8,9,6]
def z5c:IC := .seq (.reg [oE 18 (.bin .lss (.V 17) (.V 16))]) (.seq (.cond (.E 18) .skip (.exit 0)) (.seq (.block 1 (.seq (.reg [mV 19 17,oE 20 (.iaddr 1 (.V 15) (.V 17)),lE 21 20,vE 7 19,vE 8 21]) (.seq (.reg [mV 22 1,mV 23 7,iE 24 1 22 23,lE 25 24,vE 9 25]) (.seq (.reg [mV 26 2,mV 27 8,mV 28 9,oE 29 (.callv (.E 26) [([1],(.E 27)),([1],(.E 28))]),oE 30 (.un .not (.E 29))]) (.cond (.E 30) (.seq (.reg [oV 6 (.mv (kb false))]) .ret) .skip))))) (.reg [oE 31 (.bin .add (.V 17) (ki 1)),vE 17 31])))
def zsi:IC := .seq (.reg [oV 6 (.mv (kb false))]) (.seq (.seq (.reg [mV 10 0,nE 11 10,mV 12 1,nE 13 12,bE 14 .neq 11 13]) (.cond (.E 14) (.seq (.reg [oV 6 (.mv (kb false))]) .ret) .skip)) (.seq (.seq (.reg [oV 15 (.mv (.V 0)),oV 16 (.len (.V 15)),oV 17 (.mv (ki 0))]) (.block 0 (.loop z5c))) (.seq (.reg [oV 6 (.mv (kb true))]) .ret)))
def zsj:List RV:=[.tmp [0] 6]
def yjh:List Nat:=[0,1,4]
def zw4:IC := .seq (.reg [oV 4 (.mv (kb false))]) (.seq (.reg [mV 5 0,mV 6 1,oE 7 (.call zof [([1],(.E 5)),([1],(.E 6))]),vE 4 7]) .ret)
def zw5:List RV:=[.tmp [0] 4]
def yji:List Nat:=[0,3,2]
def zw6:IC := .seq (.reg [oV 2 (.mv (.C .e0))]) (.seq (.reg [mV 4 0,oE 5 (.call zod [([1],(.E 4))]),vE 3 5]) (.seq (.reg [mV 6 3,oE 7 (.call zpi [([1],(.E 6))])]) (.seq (.reg [mV 8 3,vE 2 8]) .ret)))
def zw7:List RV:=[.tmp [1] 2]
def yjj:List Nat:=[0,1,28,27,26,4,3,2]
def z5d:IC := .seq (.reg [oE 29 (.bin .lss (.V 28) (.V 27))]) (.seq (.cond (.E 29) .skip (.exit 0)) (.seq (.block 1 (.seq (.reg [mV 30 28,oE 31 (.iaddr 1 (.V 26) (.V 28)),lE 32 31,oV 4 (.alloc [.e0]),vE 3 30,oN (.store [1] (.V 4) (.E 32))]) (.seq (.regD [(oE 33 (.load false 1 (.V 4)),0,0),(oE 34 (.call zpj [([1],(.E 33))]),0,0),(oE 35 (.un .not (.E 34)),0,0),(wE 36 35,0,0),(gE 37 36 .false (.faddr 1 (.V 1)),0,1),(gE 38 36 .false (.load false 1 (.E 37)),0,1),(gE 39 36 .false (.mv (.V 3)),0,0),(gE 40 36 .false (.iaddr 1 (.E 38) (.E 39)),0,1),(gE 41 36 .false (.load false 1 (.E 40)),0,1),(gE 42 36 .false (.len (.E 41)),0,1),(gE 43 36 .false (.load true 2 (.V 1)),0,0),(gE 44 36 .false (.call zjc [([1,1],(.E 43))]),0,0),(gE 45 36 .false (.bin .neq (.E 42) (.E 44)),0,0),(oE 46 (.pick (.E 36) (kb true) (.E 45)),0,0),(wE 47 46,0,0),(gE 48 47 .false (.faddr 1 (.V 1)),0,0),(gE 49 47 .false (.load false 1 (.E 48)),0,0),(gE 50 47 .false (.mv (.V 3)),0,0),(gE 51 47 .false (.iaddr 1 (.E 49) (.E 50)),0,0),(gE 52 47 .false (.load false 1 (.E 51)),0,0),(gE 53 47 .false (.mkfn zl7 [(.V 4)]),0,0),(gE 54 47 .false (.call zii [([1],(.E 52)),([0],(.E 53))]),0,0),(oE 55 (.pick (.E 47) (kb true) (.E 54)),0,0)]) (.cond (.E 55) (.seq (.reg [oV 2 (.mv (kb false))]) .ret) .skip)))) (.reg [oE 56 (.bin .add (.V 28) (ki 1)),vE 28 56])))
def zms:IC := .seq (.reg [oV 1 (.box (.V 0)),oV 2 (.mv (kb false))]) (.seq (.seq (.reg [fV 5 0 1,lE 6 5,nE 7 6,oE 8 (.call zbi [([0],(.E 7)),([0],(ki 1)),([0],(ki 4))]),oE 9 (.un .not (.E 8)),wE 10 9,gE 11 10 .false (.faddr 1 (.V 1)),gE 12 10 .false (.load false 1 (.E 11)),gE 13 10 .false (.len (.E 12)),gE 14 10 .false (.faddr 0 (.V 1)),gE 15 10 .false (.load false 1 (.E 14)),gE 16 10 .false (.len (.E 15)),gE 17 10 .false (.bin .neq (.E 13) (.E 16)),oE 18 (.pick (.E 10) (kb true) (.E 17)),wE 19 18,gE 20 19 .false (.load true 2 (.V 1)),gE 21 19 .false (.call zjc [([1,1],(.E 20))]),gE 22 19 .false (.call zbi [([0],(.E 21)),([0],(ki 1)),([0],(ki 40))]),gE 23 19 .false (.un .not (.E 22)),oE 24 (.pick (.E 19) (kb true) (.E 23))]) (.cond (.E 24) (.seq (.reg [oV 2 (.mv (kb false))]) .ret) .skip)) (.seq (.seq (.reg [fV 25 0 1,oV 26 (.load false 1 (.E 25)),oV 27 (.len (.V 26)),oV 28 (.mv (ki 0))]) (.block 0 (.loop z5d))) (.seq (.reg [oV 2 (.mv (kb true))]) .ret)))
def zmt:List RV:=[.tmp [0] 2]
def yjk:List Nat:=[0,2]
def zw8:IC := .seq (.reg [oV 2 (.mv (kb false))]) (.seq (.reg [mV 3 0,oE 4 (.call zbi [([0],(.E 3)),([0],(ki (-2199023255552))),([0],(ki 2199023255552))]),oE 5 (.un .not (.E 4)),vE 2 5]) .ret)
def zw9:List RV:=[.tmp [0] 2]
def yjl:List Nat:=[0,1,2,3,20,19,18,9,10,12,8,11,6,7]
def zxa:IC := .seq (.reg [oE 21 (.bin .lss (.V 20) (.V 19))]) (.seq (.cond (.E 21) .skip (.exit 0)) (.seq (.block 1 (.seq (.reg [mV 22 20,oE 23 (.iaddr 1 (.V 18) (.V 20)),lE 24 23,vE 9 22,vE 10 24]) (.seq (.reg [fV 26 1 3,lE 27 26,mV 28 9,iE 29 1 27 28,lE 30 29,mV 31 1,mV 32 2,mV 33 10,nE 34 33,oE 35 (.bin .add (.E 34) (ki 1)),oE 36 (.call zpk [([1],(.E 30)),([1],(.E 31)),([1],(.E 32)),([0],(.E 35))]),wE 25 36,xE 37 0 25,xE 38 1 25,vE 11 37,vE 12 38]) (.seq (.seq (.reg [mV 39 12,oE 40 (.un .not (.E 39))]) (.cond (.E 40) (.seq (.reg [oV 6 (.mv (.C .e0)),oV 7 (.mv (kb false))]) .ret) .skip)) (.reg [mV 41 8,mV 42 11,oE 43 (.bslice 1 1 [(.own 2 [])] [(0,(.E 42))]),oE 44 (.app 24 1 (.E 41) (.E 43)),vE 8 44]))))) (.reg [oE 45 (.bin .add (.V 20) (ki 1)),vE 20 45])))
def zsk:IC := .seq (.reg [oV 3 (.box (.V 0)),oV 6 (.mv (.C .e0)),oV 7 (.mv (kb false))]) (.seq (.seq (.reg [tV 13 2 3,oE 14 (.call zl2 [([1,1],(.E 13))]),oE 15 (.un .not (.E 14))]) (.cond (.E 15) (.seq (.reg [oV 6 (.mv (.C .e0)),oV 7 (.mv (kb false))]) .ret) .skip)) (.seq (.reg [oE 16 (.bslice 0 1 [(.own 2 [])] []),vE 8 16]) (.seq (.seq (.reg [fV 17 0 3,oV 18 (.load false 1 (.E 17)),oV 19 (.len (.V 18)),oV 20 (.mv (ki 0))]) (.block 0 (.loop zxa))) (.seq (.reg [mV 46 8,vE 6 46,oV 7 (.mv (kb true))]) .ret))))
def zsl:List RV:=[.tmp [1] 6,.tmp [0] 7]
def yjm:List Nat:=[0,1,2,19,18,17,3,4,10,8,34,33,32,41,40,39,13,14,11,15,12,6,7]
def zxb:IC := .seq (.reg [oE 20 (.bin .lss (.V 19) (.V 18))]) (.seq (.cond (.E 20) .skip (.exit 0)) (.seq (.block 1 (.seq (.reg [oE 21 (.iaddr 6 (.V 17) (.V 19)),tE 22 6 21,oV 10 (.alloc [iv 0,iv 0,iv 0,iv 0,iv 0,iv 0]),oN (.store [0,0,0,0,0,0] (.V 10) (.E 22))]) (.seq (.reg [tV 23 8 3,tV 24 2 4,tV 25 6 10,oE 26 (.call zl8 [([0,0,0,0,0,0,0,1],(.E 23)),([0,0],(.E 24)),([0,0,0,0,0,0],(.E 25))])]) (.cond (.E 26) (.reg [mV 27 8,tV 28 6 10,oE 29 (.bslice 1 6 [iv 0,iv 0,iv 0,iv 0,iv 0,iv 0] [(0,(.E 28))]),oE 30 (.app 48 6 (.E 27) (.E 29)),vE 8 30]) .skip)))) (.reg [oE 31 (.bin .add (.V 19) (ki 1)),vE 19 31])))
def zmu:IC := .seq (.reg [oE 42 (.bin .lss (.V 41) (.V 40))]) (.seq (.cond (.E 42) .skip (.exit 4)) (.seq (.block 5 (.seq (.reg [mV 43 41,oE 44 (.iaddr 6 (.V 39) (.V 41)),tE 45 6 44,oV 15 (.alloc [iv 0,iv 0,iv 0,iv 0,iv 0,iv 0]),vE 14 43,oN (.store [0,0,0,0,0,0] (.V 15) (.E 45))]) (.reg [mV 46 13,wE 47 46,gE 48 47 .true (.mv (.V 14)),gE 49 47 .true (.mv (.V 11)),gE 50 47 .true (.bin .eql (.E 48) (.E 49)),gE 51 47 .true (.mv (.E 50)),gE 52 51 .false (.load true 6 (.V 15)),gE 53 51 .false (.load true 6 (.V 12)),gE 54 51 .false (.faddr 3 (.V 3)),gE 55 51 .false (.load false 1 (.E 54)),gE 56 51 .false (.call zl9 [([0,0,0,0,0,0],(.E 52)),([0,0,0,0,0,0],(.E 53)),([0],(.E 55))]),gE 57 51 .false (.un .not (.E 56)),gE 58 47 .true (.pick (.E 51) (kb true) (.E 57)),oE 59 (.pick (.E 47) (.E 58) (kb false)),vE 13 59]))) (.reg [oE 60 (.bin .add (.V 41) (ki 1)),vE 41 60])))
def z04:IC := .seq (.reg [oE 35 (.bin .lss (.V 34) (.V 33))]) (.seq (.cond (.E 35) .skip (.exit 2)) (.seq (.block 3 (.seq (.reg [mV 36 34,oE 37 (.iaddr 6 (.V 32) (.V 34)),tE 38 6 37,oV 12 (.alloc [iv 0,iv 0,iv 0,iv 0,iv 0,iv 0]),vE 11 36,oN (.store [0,0,0,0,0,0] (.V 12) (.E 38))]) (.seq (.reg [oV 13 (.mv (kb true))]) (.seq (.seq (.reg [oV 39 (.mv (.V 8)),oV 40 (.len (.V 39)),oV 41 (.mv (ki 0))]) (.block 4 (.loop zmu))) (.seq (.reg [mV 61 13]) (.cond (.E 61) (.seq (.reg [tV 62 6 12,oN (.store [0,0,0,0,0,0] (.V 6) (.E 62)),oV 7 (.mv (kb true))]) .ret) .skip)))))) (.reg [oE 63 (.bin .add (.V 34) (ki 1)),vE 34 63])))
def zxc:IC := .seq (.reg [oV 3 (.box (.V 0)),oV 4 (.box (.V 1)),oV 6 (.alloc [iv 0,iv 0,iv 0,iv 0,iv 0,iv 0]),oV 7 (.mv (kb false))]) (.seq (.reg [oE 16 (.bslice 0 6 [iv 0,iv 0,iv 0,iv 0,iv 0,iv 0] []),vE 8 16]) (.seq (.seq (.reg [oV 17 (.mv (.V 2)),oV 18 (.len (.V 17)),oV 19 (.mv (ki 0))]) (.block 0 (.loop zxb))) (.seq (.seq (.reg [oV 32 (.mv (.V 8)),oV 33 (.len (.V 32)),oV 34 (.mv (ki 0))]) (.block 2 (.loop z04))) (.seq (.reg [oE 64 (.build [iv 0,iv 0,iv 0,iv 0,iv 0,iv 0] []),oN (.store [0,0,0,0,0,0] (.V 6) (.E 64)),oV 7 (.mv (kb false))]) .ret))))
def zxd:List RV:=[.cell [0,0,0,0,0,0] 6 true,.tmp [0] 7]
def yjn:List Nat:=[0,1,16,15,14,7,9,10,8,12,11,5,6,4]
def zqf:IC := .seq (.seq (.reg [mV 28 10,mV 29 8,nE 30 29,oE 31 (.bin .sub (.E 30) (ki 1)),bE 32 .lss 28 31]) (.cond (.E 32) .skip (.exit 2))) (.seq (.block 3 (.seq (.regD [(mV 36 8,0,0),(mV 37 8,0,0),(nE 38 37,0,0),(oE 39 (.bin .sub (.E 38) (ki 1)),0,0),(iE 40 2 36 39,0,0),(tE 41 2 40,0,0),(mV 42 8,0,0),(mV 43 10,0,0),(iE 44 2 42 43,0,0),(tE 45 2 44,0,0),(oE 46 (.call zpm [([0,0],(.E 41)),([0,0],(.E 45))]),0,0),(wE 35 46,0,0),(xE 47 0 35,0,0),(xE 48 1 35,0,0),(oV 11 (.allocL [iv 0,iv 0]),0,0),(oN (.store [0,0] (.V 11) (.E 47)),0,0),(vE 12 48,0,0)]) (.seq (.seq (.reg [mV 49 12,oE 50 (.un .not (.E 49))]) (.cond (.E 50) (.seq (.reg [oV 4 (.mv (.C .e0))]) .ret) .skip)) (.seq (.reg [mV 51 8,mV 52 10,iE 53 2 51 52,fE 54 0 53,lE 55 54,mV 56 1,bE 57 .geq 55 56,wE 58 57,gE 59 58 .true (.faddr 0 (.V 11)),gE 60 58 .true (.load false 1 (.E 59)),gE 61 58 .true (.mv (.V 1)),gE 62 58 .true (.bin .geq (.E 60) (.E 61)),oE 63 (.pick (.E 58) (.E 62) (kb false))]) (.cond (.E 63) (.regD [(mV 64 5,0,0),(mV 65 6,0,0),(mV 66 10,0,0),(mV 67 8,0,0),(mV 68 10,0,0),(iE 69 2 67 68,0,0),(tE 70 2 69,0,0),(tV 71 2 11,0,0),(oE 72 (.build [iv 0,iv 0,iv 0,iv 0,iv 0,iv 0] [(0,1,(.E 65)),(1,1,(.E 66)),(2,2,(.E 70)),(4,2,(.E 71))]),0,0),(oE 73 (.bslice 1 6 [iv 0,iv 0,iv 0,iv 0,iv 0,iv 0] [(0,(.E 72))]),0,0),(oE 74 (.app 48 6 (.E 64) (.E 73)),0,0),(vE 5 74,0,0)]) .skip))))) (.reg [mV 33 10,oE 34 (.bin .add (.E 33) (ki 1)),vE 10 34]))
def zxe:IC := .seq (.reg [oE 17 (.bin .lss (.V 16) (.V 15))]) (.seq (.cond (.E 17) .skip (.exit 0)) (.seq (.block 1 (.seq (.reg [mV 18 16,oE 19 (.iaddr 1 (.V 14) (.V 16)),lE 20 19,vE 6 18,vE 7 20]) (.seq (.reg [mV 22 7,oE 23 (.call zpl [([2],(.E 22))]),wE 21 23,xE 24 0 21,xE 25 1 21,vE 8 24,vE 9 25]) (.seq (.seq (.reg [mV 26 9,oE 27 (.un .not (.E 26))]) (.cond (.E 27) (.seq (.reg [oV 4 (.mv (.C .e0))]) .ret) .skip)) (.seq (.reg [oV 10 (.mv (ki 0))]) (.block 2 (.loop zqf))))))) (.reg [oE 75 (.bin .add (.V 16) (ki 1)),vE 16 75])))
def zxf:IC := .seq (.reg [oV 4 (.mv (.C .e0))]) (.seq (.reg [oE 13 (.bslice 0 6 [iv 0,iv 0,iv 0,iv 0,iv 0,iv 0] []),vE 5 13]) (.seq (.seq (.reg [oV 14 (.mv (.V 0)),oV 15 (.len (.V 14)),oV 16 (.mv (ki 0))]) (.block 0 (.loop zxe))) (.seq (.reg [mV 76 5,vE 4 76]) .ret)))
def zxg:List RV:=[.tmp [6] 4]
def yjo:List Nat:=[0,1,4]
def zxh:IC := .seq (.reg [oV 4 (.mv (kb false))]) (.seq (.reg [mV 5 0,oE 6 (.call zbi [([0],(.E 5)),([0],(ki 0)),([0],(ki 40))]),wE 7 6,gE 8 7 .true (.mv (.V 1)),gE 9 7 .true (.call zbi [([0],(.E 8)),([0],(ki 1)),([0],(ki 100))]),oE 10 (.pick (.E 7) (.E 9) (kb false)),vE 4 10]) .ret)
def zxi:List RV:=[.tmp [0] 4]
def yjp:List Nat:=[0,1,2]
def zxj:IC := .seq (.reg [oV 1 (.box (.V 0)),oV 2 (.mv (kb false))]) (.seq (.reg [fV 3 0 1,lE 4 3,fV 5 1 1,lE 6 5,bE 7 .leq 4 6,wE 8 7,gE 9 8 .true (.faddr 0 (.V 1)),gE 10 8 .true (.load false 1 (.E 9)),gE 11 8 .true (.call zkn [([0],(.E 10))]),oE 12 (.pick (.E 8) (.E 11) (kb false)),wE 13 12,gE 14 13 .true (.faddr 1 (.V 1)),gE 15 13 .true (.load false 1 (.E 14)),gE 16 13 .true (.call zkn [([0],(.E 15))]),oE 17 (.pick (.E 13) (.E 16) (kb false)),vE 2 17]) .ret)
def zxk:List RV:=[.tmp [0] 2]
def yjq:List Nat:=[0,1,2,6]
def zsm:IC := .seq (.reg [oV 6 (.mv (ki 0))]) (.seq (.block 0 (.seq (.reg [mV 8 0,mV 9 1,bE 10 .lss 8 9,wE 7 10]) (.cond (.E 7) (.seq (.reg [mV 11 1,vE 6 11]) .ret) (.seq (.reg [mV 13 0,mV 14 2,bE 15 .gtr 13 14,wE 12 15]) (.cond (.E 12) (.seq (.reg [mV 16 2,vE 6 16]) .ret) .skip))))) (.seq (.reg [mV 17 0,vE 6 17]) .ret))
def zsn:List RV:=[.tmp [0] 6]
def yjr:List Nat:=[0,1,4]
def zxl:IC := .seq (.reg [oV 4 (.mv (ki 0))]) (.seq (.reg [mV 5 0,oE 6 (.bin .shr (.E 5) (.C (.v (.int .u64 1)))),mV 7 1,oE 8 (.bin .shr (.E 7) (.C (.v (.int .u64 1)))),bE 9 .add 6 8,mV 10 0,mV 11 1,bE 12 .and 10 11,oE 13 (.bin .and (.E 12) (ki 1)),bE 14 .add 9 13,vE 4 14]) .ret)
def zxm:List RV:=[.tmp [0] 4]
def yjs:List Nat:=[0,3,2]
def z5e:IC := .seq (.seq (.reg [mV 4 3,mV 5 0,nE 6 5,bE 7 .lss 4 6]) (.cond (.E 7) .skip (.exit 0))) (.seq (.block 1 (.seq (.regD [(mV 10 0,0,0),(mV 11 3,0,0),(oE 12 (.bin .sub (.E 11) (ki 1)),0,0),(iE 13 1 10 12,0,0),(lE 14 13,0,0),(mV 15 0,0,0),(mV 16 3,0,0),(iE 17 1 15 16,0,0),(lE 18 17,0,0),(bE 19 .geq 14 18,0,0)]) (.cond (.E 19) (.seq (.reg [oV 2 (.mv (kb false))]) .ret) .skip))) (.reg [mV 8 3,oE 9 (.bin .add (.E 8) (ki 1)),vE 3 9]))
def zxn:IC := .seq (.reg [oV 2 (.mv (kb false))]) (.seq (.seq (.reg [oV 3 (.mv (ki 1))]) (.block 0 (.loop z5e))) (.seq (.reg [mV 20 0,nE 21 20,oE 22 (.bin .leq (.E 21) (ki 7)),wE 23 22,gE 24 23 .true (.mv (.V 0)),gE 25 23 .true (.call zkk [([1],(.E 24))]),oE 26 (.pick (.E 23) (.E 25) (kb false)),vE 2 26]) .ret))
def zxo:List RV:=[.tmp [0] 2]
def yjt:List Nat:=[0,1,3]
def zxp:IC := .seq (.reg [oV 3 (.mv (kb false))]) (.seq (.reg [mV 4 0,oE 5 (.load false 1 (.V 1)),nE 6 5,oE 7 (.call zbi [([0],(.E 4)),([0],(ki 0)),([0],(.E 6))]),oE 8 (.un .not (.E 7)),vE 3 8]) .ret)
def zxq:List RV:=[.tmp [0] 3]
def yju:List Nat:=[0,1,2,3,22,21,20,12,10,14,13,8,9]
def zmv:IC := .seq (.reg [oE 23 (.bin .lss (.V 22) (.V 21))]) (.seq (.cond (.E 23) .skip (.exit 0)) (.seq (.block 1 (.seq (.reg [oE 24 (.iaddr 1 (.V 20) (.V 22)),lE 25 24,vE 12 25]) (.seq (.seq (.reg [mV 26 12,mV 27 0,nE 28 27,mV 29 1,nE 30 29,oE 31 (.mx false (.E 28) (.E 30)),oE 32 (.bin .sub (.E 31) (ki 1)),oE 33 (.call zbi [([0],(.E 26)),([0],(ki 0)),([0],(.E 32))]),oE 34 (.un .not (.E 33)),wE 35 34,gE 36 35 .false (.mv (.V 0)),gE 37 35 .false (.mv (.V 12)),gE 38 35 .false (.iaddr 1 (.E 36) (.E 37)),gE 39 35 .false (.load false 1 (.E 38)),gE 40 35 .false (.mv (.V 3)),gE 41 35 .false (.bin .sub (.E 40) (ki 1)),gE 42 35 .false (.call zbi [([0],(.E 39)),([0],(ki 0)),([0],(.E 41))]),gE 43 35 .false (.un .not (.E 42)),oE 44 (.pick (.E 35) (kb true) (.E 43))]) (.cond (.E 44) (.seq (.reg [oV 8 (.mv (.C .e0)),oV 9 (.mv (kb false))]) .ret) .skip)) (.seq (.regD [(mV 46 10,0,0),(mV 47 0,0,0),(mV 48 12,0,0),(iE 49 1 47 48,0,0),(lE 50 49,0,0),(iE 51 2 46 50,0,0),(tE 52 2 51,0,0),(mV 53 1,0,0),(mV 54 12,0,0),(iE 55 1 53 54,0,0),(lE 56 55,0,0),(oE 57 (.build [iv 0,iv 0] [(0,1,(ki 1)),(1,1,(.E 56))]),0,0),(oE 58 (.call zkp [([0,0],(.E 52)),([0,0],(.E 57))]),0,0),(wE 45 58,0,0),(xE 59 0 45,0,0),(xE 60 1 45,0,0),(oV 13 (.allocL [iv 0,iv 0]),0,0),(oN (.store [0,0] (.V 13) (.E 59)),0,0),(vE 14 60,0,0)]) (.seq (.seq (.reg [mV 61 14,oE 62 (.un .not (.E 61))]) (.cond (.E 62) (.seq (.reg [oV 8 (.mv (.C .e0)),oV 9 (.mv (kb false))]) .ret) .skip)) (.regD [(mV 63 10,0,0),(mV 64 0,0,0),(mV 65 12,0,0),(iE 66 1 64 65,0,0),(lE 67 66,0,0),(tV 68 2 13,0,0),(iE 69 2 63 67,0,0),(oN (.store [0,0] (.E 69) (.E 68)),0,0)])))))) (.reg [oE 70 (.bin .add (.V 22) (ki 1)),vE 22 70])))
def zso:IC := .seq (.reg [oV 8 (.mv (.C .e0)),oV 9 (.mv (kb false))]) (.seq (.seq (.reg [mV 15 3,oE 16 (.call zbi [([0],(.E 15)),([0],(ki 1)),([0],(ki 8))]),oE 17 (.un .not (.E 16))]) (.cond (.E 17) (.seq (.reg [oV 8 (.mv (.C .e0)),oV 9 (.mv (kb false))]) .ret) .skip)) (.seq (.reg [mV 18 3,oE 19 (.mksl 16 2 [iv 0,iv 0] (.E 18) (.E 18)),vE 10 19]) (.seq (.seq (.reg [oV 20 (.mv (.V 2)),oV 21 (.len (.V 20)),oV 22 (.mv (ki 0))]) (.block 0 (.loop zmv))) (.seq (.reg [mV 71 10,vE 8 71,oV 9 (.mv (kb true))]) .ret))))
def zsp:List RV:=[.tmp [2] 8,.tmp [0] 9]
def yjv:List Nat:=[0,1,2,3,4,5,9,7,8,6]
def zxr:IC := .seq (.reg [oV 3 (.box (.V 0)),oV 4 (.box (.V 1)),oV 5 (.box (.V 2)),oV 6 (.mv (kb false))]) (.seq (.reg [tV 11 8 3,tV 12 2 4,tV 13 6 5,oE 14 (.call zly [([0,0,0,0,0,0,0,1],(.E 11)),([0,0],(.E 12)),([0,0,0,0,0,0],(.E 13))]),wE 10 14,xE 15 0 10,xE 16 1 10,xE 17 2 10,vE 7 15,vE 8 16,vE 9 17]) (.seq (.reg [tV 18 8 3,oE 19 (.call zja [([0,0,0,0,0,0,0,1],(.E 18))]),wE 20 19,gE 21 20 .true (.mv (.V 9)),oE 22 (.pick (.E 20) (.E 21) (kb false)),wE 23 22,gE 24 23 .true (.faddr 2 (.V 5)),gE 25 23 .true (.faddr 0 (.E 24)),gE 26 23 .true (.load false 1 (.E 25)),gE 27 23 .true (.faddr 4 (.V 3)),gE 28 23 .true (.load false 1 (.E 27)),gE 29 23 .true (.bin .geq (.E 26) (.E 28)),oE 30 (.pick (.E 23) (.E 29) (kb false)),wE 31 30,gE 32 31 .true (.faddr 4 (.V 5)),gE 33 31 .true (.faddr 0 (.E 32)),gE 34 31 .true (.load false 1 (.E 33)),gE 35 31 .true (.faddr 4 (.V 3)),gE 36 31 .true (.load false 1 (.E 35)),gE 37 31 .true (.bin .geq (.E 34) (.E 36)),oE 38 (.pick (.E 31) (.E 37) (kb false)),wE 39 38,gE 40 39 .true (.load true 8 (.V 3)),gE 41 39 .true (.faddr 0 (.V 5)),gE 42 39 .true (.load false 1 (.E 41)),gE 43 39 .true (.call zlz [([0,0,0,0,0,0,0,1],(.E 40)),([0],(.E 42))]),gE 44 39 .true (.mv (.V 7)),gE 45 39 .true (.mv (.V 8)),gE 46 39 .true (.call zpn [([0],(.E 43)),([0],(.E 44)),([0],(.E 45))]),oE 47 (.pick (.E 39) (.E 46) (kb false)),wE 48 47,gE 49 48 .true (.load true 6 (.V 5)),gE 50 48 .true (.faddr 3 (.V 3)),gE 51 48 .true (.load false 1 (.E 50)),gE 52 48 .true (.call zpo [([0,0,0,0,0,0],(.E 49)),([0],(.E 51))]),oE 53 (.pick (.E 48) (.E 52) (kb false)),vE 6 53]) .ret))
def zxs:List RV:=[.tmp [0] 6]
def yjw:List Nat:=[0,1,2,3,4,7,9,8,10,12,11,6]
def zxt:IC := .seq (.reg [oV 3 (.box (.V 0)),oV 4 (.box (.V 1)),oV 6 (.mv (kb false))]) (.seq (.reg [tV 14 6 3,mV 15 2,oE 16 (.call zkq [([0,0,0,0,0,0],(.E 14)),([0],(.E 15))]),wE 13 16,xE 17 0 13,xE 18 1 13,oV 7 (.alloc [(.v (.bool false)),(.v (.int .u64 0)),(.v (.int .u64 0)),iv 0]),oN (.store [0,0,0,0] (.V 7) (.E 17)),vE 8 18]) (.seq (.reg [tV 20 6 4,mV 21 2,oE 22 (.call zkq [([0,0,0,0,0,0],(.E 20)),([0],(.E 21))]),wE 19 22,xE 23 0 19,xE 24 1 19,oV 9 (.alloc [(.v (.bool false)),(.v (.int .u64 0)),(.v (.int .u64 0)),iv 0]),oN (.store [0,0,0,0] (.V 9) (.E 23)),vE 10 24]) (.seq (.reg [tV 26 4 7,tV 27 4 9,oE 28 (.call zma [([0,0,0,0],(.E 26)),([0,0,0,0],(.E 27))]),wE 25 28,xE 29 0 25,xE 30 1 25,vE 11 29,vE 12 30]) (.seq (.reg [mV 31 8,wE 32 31,gE 33 32 .true (.mv (.V 10)),oE 34 (.pick (.E 32) (.E 33) (kb false)),wE 35 34,gE 36 35 .true (.mv (.V 12)),oE 37 (.pick (.E 35) (.E 36) (kb false)),wE 38 37,gE 39 38 .true (.mv (.V 11)),gE 40 38 .true (.bin .gtr (.E 39) (ki 0)),gE 41 38 .true (.mv (.E 40)),gE 42 41 .false (.mv (.V 11)),gE 43 41 .false (.bin .eql (.E 42) (ki 0)),gE 44 41 .false (.mv (.E 43)),gE 45 44 .true (.load true 6 (.V 3)),gE 46 44 .true (.load true 6 (.V 4)),gE 47 44 .true (.call zpp [([0,0,0,0,0,0],(.E 45)),([0,0,0,0,0,0],(.E 46))]),gE 48 41 .false (.pick (.E 44) (.E 47) (kb false)),gE 49 38 .true (.pick (.E 41) (kb true) (.E 48)),oE 50 (.pick (.E 38) (.E 49) (kb false)),vE 6 50]) .ret))))
def zxu:List RV:=[.tmp [0] 6]
def yjx:List Nat:=[0,14,13,12,5,7,9,8,4,2,3]
def zxv:IC := .seq (.reg [oE 15 (.bin .lss (.V 14) (.V 13))]) (.seq (.cond (.E 15) .skip (.exit 0)) (.seq (.block 1 (.seq (.reg [oE 16 (.iaddr 2 (.V 12) (.V 14)),tE 17 2 16,oV 7 (.alloc [iv 0,iv 0]),oN (.store [0,0] (.V 7) (.E 17))]) (.seq (.reg [tV 19 2 5,tV 20 2 7,oE 21 (.call zkp [([0,0],(.E 19)),([0,0],(.E 20))]),wE 18 21,xE 22 0 18,xE 23 1 18,oV 8 (.alloc [iv 0,iv 0]),oN (.store [0,0] (.V 8) (.E 22)),vE 9 23]) (.seq (.seq (.reg [mV 24 9,oE 25 (.un .not (.E 24))]) (.cond (.E 25) (.seq (.reg [oV 2 (.mv (.C .e0)),oV 3 (.mv (kb false))]) .ret) .skip)) (.regD [(tV 26 2 8,0,2),(mV 27 4,0,0),(tV 28 2 8,0,0),(oE 29 (.bslice 1 2 [iv 0,iv 0] [(0,(.E 28))]),0,0),(oE 30 (.app 16 2 (.E 27) (.E 29)),0,0),(oN (.store [0,0] (.V 5) (.E 26)),0,0),(vE 4 30,0,0)]))))) (.reg [oE 31 (.bin .add (.V 14) (ki 1)),vE 14 31])))
def zxw:IC := .seq (.reg [oV 2 (.mv (.C .e0)),oV 3 (.mv (kb false))]) (.seq (.reg [oE 10 (.bslice 0 2 [iv 0,iv 0] []),oE 11 (.build [iv 0,iv 0] []),oV 5 (.alloc [iv 0,iv 0]),vE 4 10,oN (.store [0,0] (.V 5) (.E 11))]) (.seq (.seq (.reg [oV 12 (.mv (.V 0)),oV 13 (.len (.V 12)),oV 14 (.mv (ki 0))]) (.block 0 (.loop zxv))) (.seq (.reg [mV 32 4,vE 2 32,oV 3 (.mv (kb true))]) .ret)))
def zxx:List RV:=[.tmp [2] 2,.tmp [0] 3]
def yjy:List Nat:=[0,1,2,3,7,9,4,6,8,5]
def zxy:IC := .seq (.reg [oV 2 (.box (.V 0)),oV 3 (.box (.V 1)),oV 4 (.alloc [iv 0,iv 0]),oV 5 (.mv (kb false))]) (.seq (.reg [fV 11 0 2,lE 12 11,fV 13 0 3,lE 14 13,oE 15 (.call zkl [([0],(.E 12)),([0],(.E 14))]),wE 10 15,xE 16 0 10,xE 17 1 10,vE 6 16,vE 7 17]) (.seq (.reg [fV 19 1 2,lE 20 19,fV 21 1 3,lE 22 21,oE 23 (.call zkl [([0],(.E 20)),([0],(.E 22))]),wE 18 23,xE 24 0 18,xE 25 1 18,vE 8 24,vE 9 25]) (.seq (.seq (.reg [mV 26 7,oE 27 (.un .not (.E 26)),wE 28 27,gE 29 28 .false (.mv (.V 9)),gE 30 28 .false (.un .not (.E 29)),oE 31 (.pick (.E 28) (kb true) (.E 30))]) (.cond (.E 31) (.seq (.reg [oE 32 (.build [iv 0,iv 0] []),oN (.store [0,0] (.V 4) (.E 32)),oV 5 (.mv (kb false))]) .ret) .skip)) (.seq (.reg [mV 33 6,mV 34 8,oE 35 (.build [iv 0,iv 0] [(0,1,(.E 33)),(1,1,(.E 34))]),oN (.store [0,0] (.V 4) (.E 35)),oV 5 (.mv (kb true))]) .ret))))
def zxz:List RV:=[.cell [0,0] 4 true,.tmp [0] 5]
def yjz:List Nat:=[0,1,2,3,7,9,4,6,8,5]
def zx0:IC := .seq (.reg [oV 2 (.box (.V 0)),oV 3 (.box (.V 1)),oV 4 (.alloc [iv 0,iv 0]),oV 5 (.mv (kb false))]) (.seq (.reg [fV 11 0 2,lE 12 11,fV 13 0 3,lE 14 13,oE 15 (.call zjb [([0],(.E 12)),([0],(.E 14))]),wE 10 15,xE 16 0 10,xE 17 1 10,vE 6 16,vE 7 17]) (.seq (.reg [fV 19 1 2,lE 20 19,fV 21 1 3,lE 22 21,oE 23 (.call zjb [([0],(.E 20)),([0],(.E 22))]),wE 18 23,xE 24 0 18,xE 25 1 18,vE 8 24,vE 9 25]) (.seq (.seq (.reg [mV 26 7,oE 27 (.un .not (.E 26)),wE 28 27,gE 29 28 .false (.mv (.V 9)),gE 30 28 .false (.un .not (.E 29)),oE 31 (.pick (.E 28) (kb true) (.E 30))]) (.cond (.E 31) (.seq (.reg [oE 32 (.build [iv 0,iv 0] []),oN (.store [0,0] (.V 4) (.E 32)),oV 5 (.mv (kb false))]) .ret) .skip)) (.seq (.reg [mV 33 6,mV 34 8,oE 35 (.build [iv 0,iv 0] [(0,1,(.E 33)),(1,1,(.E 34))]),oN (.store [0,0] (.V 4) (.E 35)),oV 5 (.mv (kb true))]) .ret))))
def zx1:List RV:=[.cell [0,0] 4 true,.tmp [0] 5]
def yj0:List Nat:=[0,1,2,7,6]
def zsq:IC := .seq (.reg [oV 6 (.mv (kb false))]) (.seq (.seq (.reg [oV 7 (.mv (.V 0))]) (.block 0 (.seq (.reg [oE 9 (.bin .eql (.V 7) (ki 1)),wE 8 9]) (.cond (.E 8) (.seq (.reg [mV 10 1,mV 11 2,bE 12 .leq 10 11,vE 6 12]) .ret) (.seq (.reg [oE 14 (.bin .eql (.V 7) (ki (-1))),wE 13 14]) (.cond (.E 13) (.seq (.reg [mV 15 1,mV 16 2,bE 17 .geq 15 16,vE 6 17]) .ret) .skip)))))) (.seq (.reg [oV 6 (.mv (kb true))]) .ret))
def zsr:List RV:=[.tmp [0] 6]
def yj1:List Nat:=[0,1,2,7,5,9,6,8,10,12,11,4]
def zx2:IC := .seq (.reg [oV 2 (.box (.V 0)),oV 4 (.mv (kb false))]) (.seq (.reg [tV 14 6 2,mV 15 1,oE 16 (.call zkq [([0,0,0,0,0,0],(.E 14)),([0],(.E 15))]),wE 13 16,xE 17 0 13,xE 18 1 13,oV 5 (.alloc [(.v (.bool false)),(.v (.int .u64 0)),(.v (.int .u64 0)),iv 0]),oN (.store [0,0,0,0] (.V 5) (.E 17)),vE 6 18]) (.seq (.reg [tV 20 6 2,oE 21 (.call zpq [([0,0,0,0,0,0],(.E 20))]),wE 19 21,xE 22 0 19,xE 23 1 19,oV 7 (.alloc [iv 0,iv 0]),oN (.store [0,0] (.V 7) (.E 22)),vE 8 23]) (.seq (.reg [tV 25 2 7,mV 26 1,oE 27 (.call zkr [([0,0],(.E 25)),([0],(.E 26))]),wE 24 27,xE 28 0 24,xE 29 1 24,oV 9 (.alloc [(.v (.bool false)),(.v (.int .u64 0)),(.v (.int .u64 0)),iv 0]),oN (.store [0,0,0,0] (.V 9) (.E 28)),vE 10 29]) (.seq (.reg [tV 31 4 5,tV 32 4 9,oE 33 (.call zma [([0,0,0,0],(.E 31)),([0,0,0,0],(.E 32))]),wE 30 33,xE 34 0 30,xE 35 1 30,vE 11 34,vE 12 35]) (.seq (.reg [mV 36 6,wE 37 36,gE 38 37 .true (.mv (.V 8)),oE 39 (.pick (.E 37) (.E 38) (kb false)),wE 40 39,gE 41 40 .true (.mv (.V 10)),oE 42 (.pick (.E 40) (.E 41) (kb false)),wE 43 42,gE 44 43 .true (.mv (.V 12)),oE 45 (.pick (.E 43) (.E 44) (kb false)),wE 46 45,gE 47 46 .true (.mv (.V 11)),gE 48 46 .true (.bin .gtr (.E 47) (ki 0)),oE 49 (.pick (.E 46) (.E 48) (kb false)),vE 4 49]) .ret)))))
def zx3:List RV:=[.tmp [0] 4]
def yj2:List Nat:=[0,1,2,7,9,4,6,8,5]
def zx4:IC := .seq (.reg [oV 2 (.box (.V 0)),oV 4 (.alloc [(.v (.bool false)),(.v (.int .u64 0)),(.v (.int .u64 0)),iv 0]),oV 5 (.mv (kb false))]) (.seq (.reg [fV 11 2 2,tE 12 2 11,mV 13 1,oE 14 (.call zkr [([0,0],(.E 12)),([0],(.E 13))]),wE 10 14,xE 15 0 10,xE 16 1 10,oV 6 (.alloc [(.v (.bool false)),(.v (.int .u64 0)),(.v (.int .u64 0)),iv 0]),oN (.store [0,0,0,0] (.V 6) (.E 15)),vE 7 16]) (.seq (.reg [fV 18 4 2,tE 19 2 18,mV 20 1,oE 21 (.call zkr [([0,0],(.E 19)),([0],(.E 20))]),wE 17 21,xE 22 0 17,xE 23 1 17,oV 8 (.alloc [(.v (.bool false)),(.v (.int .u64 0)),(.v (.int .u64 0)),iv 0]),oN (.store [0,0,0,0] (.V 8) (.E 22)),vE 9 23]) (.seq (.seq (.reg [mV 24 7,oE 25 (.un .not (.E 24)),wE 26 25,gE 27 26 .false (.mv (.V 9)),gE 28 26 .false (.un .not (.E 27)),oE 29 (.pick (.E 26) (kb true) (.E 28))]) (.cond (.E 29) (.seq (.reg [oE 30 (.build [(.v (.bool false)),(.v (.int .u64 0)),(.v (.int .u64 0)),iv 0] []),oN (.store [0,0,0,0] (.V 4) (.E 30)),oV 5 (.mv (kb false))]) .ret) .skip)) (.seq (.reg [tV 31 4 6,tV 32 4 8,oE 33 (.call zpr [([0,0,0,0],(.E 31)),([0,0,0,0],(.E 32))]),xE 34 0 33,xE 35 1 33,oN (.store [0,0,0,0] (.V 4) (.E 34)),vE 5 35]) .ret))))
def zx5:List RV:=[.cell [0,0,0,0] 4 true,.tmp [0] 5]
def yj3:List Nat:=[0,1,2,3,8,6,7,4,5]
def zx6:IC := .seq (.reg [oV 2 (.box (.V 0)),oV 3 (.box (.V 1)),oV 4 (.mv (ki 0)),oV 5 (.mv (kb false))]) (.seq (.reg [tV 10 4 2,tV 11 4 3,oE 12 (.call zmb [([0,0,0,0],(.E 10)),([0,0,0,0],(.E 11))]),wE 9 12,xE 13 0 9,xE 14 1 9,xE 15 2 9,oV 6 (.alloc [(.v (.bool false)),(.v (.int .u64 0)),(.v (.int .u64 0))]),oV 7 (.alloc [(.v (.bool false)),(.v (.int .u64 0)),(.v (.int .u64 0))]),oN (.store [0,0,0] (.V 6) (.E 13)),oN (.store [0,0,0] (.V 7) (.E 14)),vE 8 15]) (.seq (.seq (.reg [mV 16 8,oE 17 (.un .not (.E 16))]) (.cond (.E 17) (.seq (.reg [oV 4 (.mv (ki 0)),oV 5 (.mv (kb false))]) .ret) .skip)) (.seq (.reg [tV 18 3 6,tV 19 3 7,oE 20 (.call zps [([0,0,0],(.E 18)),([0,0,0],(.E 19))]),vE 4 20,oV 5 (.mv (kb true))]) .ret)))
def zx7:List RV:=[.tmp [0] 4,.tmp [0] 5]
def yj4:List Nat:=[0,1,2,3,4]
def zx8:IC := .seq (.reg [oV 2 (.box (.V 0)),oV 3 (.box (.V 1)),oV 4 (.mv (kb false))]) (.seq (.regD [(fV 5 0 2,0,0),(lE 6 5,0,0),(fV 7 0 3,0,0),(lE 8 7,0,0),(oE 9 (.call zmd [([0],(.E 6)),([0],(.E 8))]),0,0),(fV 10 1 2,1,0),(lE 11 10,1,0),(fV 12 1 3,1,0),(lE 13 12,1,0),(oE 14 (.call zmd [([0],(.E 11)),([0],(.E 13))]),0,0),(oE 15 (.bslice 2 1 [iv 0] [(0,(.E 9)),(1,(.E 14))]),0,0),(oE 16 (.call zmc [([1],(.E 15))]),0,0),(oE 17 (.bin .lss (.E 16) (ki 0)),0,0),(vE 4 17,0,0)]) .ret)
def zx9:List RV:=[.tmp [0] 4]
def yj5:List Nat:=[0,1,2,3]
def zya:IC := .seq (.reg [oV 1 (.box (.V 0)),oV 2 (.alloc [iv 0,iv 0]),oV 3 (.mv (kb false))]) (.seq (.reg [fV 4 2 1,tE 5 2 4,fV 6 4 1,tE 7 2 6,oE 8 (.call zkp [([0,0],(.E 5)),([0,0],(.E 7))]),xE 9 0 8,xE 10 1 8,oN (.store [0,0] (.V 2) (.E 9)),vE 3 10]) .ret)
def zyb:List RV:=[.cell [0,0] 2 true,.tmp [0] 3]
def yj6:List Nat:=[0,1,2,4,5]
def zss:IC := .seq (.reg [oV 2 (.box (.V 0)),oV 4 (.alloc [(.v (.bool false)),(.v (.int .u64 0)),(.v (.int .u64 0)),iv 0]),oV 5 (.mv (kb false))]) (.seq (.seq (.reg [fV 6 0 2,lE 7 6,mV 8 1,oE 9 (.call zl4 [([0],(.E 7)),([0],(.E 8))]),oE 10 (.un .not (.E 9))]) (.cond (.E 10) (.seq (.reg [oE 11 (.build [(.v (.bool false)),(.v (.int .u64 0)),(.v (.int .u64 0)),iv 0] []),oN (.store [0,0,0,0] (.V 4) (.E 11)),oV 5 (.mv (kb false))]) .ret) .skip)) (.seq (.reg [fV 12 1 2,lE 13 12,fV 14 0 2,lE 15 14,mV 16 1,bE 17 .add 15 16,oE 18 (.call zpt [([0],(.E 13)),([0],(.E 17))]),xE 19 0 18,xE 20 1 18,oN (.store [0,0,0,0] (.V 4) (.E 19)),vE 5 20]) .ret))
def zst:List RV:=[.cell [0,0,0,0] 4 true,.tmp [0] 5]
def yj7:List Nat:=[0,1,2,3,8,4,6,7,9,5]
def zsu:IC := .seq (.reg [oV 2 (.box (.V 0)),oV 3 (.box (.V 1)),oV 4 (.alloc [(.v (.bool false)),(.v (.int .u64 0)),(.v (.int .u64 0)),iv 0]),oV 5 (.mv (kb false))]) (.seq (.reg [tV 11 4 2,tV 12 4 3,oE 13 (.call zmb [([0,0,0,0],(.E 11)),([0,0,0,0],(.E 12))]),wE 10 13,xE 14 0 10,xE 15 1 10,xE 16 2 10,oV 6 (.alloc [(.v (.bool false)),(.v (.int .u64 0)),(.v (.int .u64 0))]),oV 7 (.alloc [(.v (.bool false)),(.v (.int .u64 0)),(.v (.int .u64 0))]),oN (.store [0,0,0] (.V 6) (.E 14)),oN (.store [0,0,0] (.V 7) (.E 15)),vE 8 16]) (.seq (.seq (.reg [mV 17 8,oE 18 (.un .not (.E 17))]) (.cond (.E 18) (.seq (.reg [oE 19 (.build [(.v (.bool false)),(.v (.int .u64 0)),(.v (.int .u64 0)),iv 0] []),oN (.store [0,0,0,0] (.V 4) (.E 19)),oV 5 (.mv (kb false))]) .ret) .skip)) (.seq (.reg [tV 21 3 6,tV 22 3 7,oE 23 (.call zpu [([0,0,0],(.E 21)),([0,0,0],(.E 22))]),wE 20 23,xE 24 0 20,xE 25 1 20,oV 9 (.alloc [(.v (.bool false)),(.v (.int .u64 0)),(.v (.int .u64 0))]),oN (.store [0,0,0] (.V 9) (.E 24)),vE 8 25]) (.seq (.seq (.reg [mV 26 8,oE 27 (.un .not (.E 26))]) (.cond (.E 27) (.seq (.reg [oE 28 (.build [(.v (.bool false)),(.v (.int .u64 0)),(.v (.int .u64 0)),iv 0] []),oN (.store [0,0,0,0] (.V 4) (.E 28)),oV 5 (.mv (kb false))]) .ret) .skip)) (.seq (.reg [tV 29 3 9,fV 30 3 2,lE 31 30,fV 32 3 3,lE 33 32,bE 34 .mul 31 33,oE 35 (.call zmf [([0,0,0],(.E 29)),([0],(.E 34))]),xE 36 0 35,xE 37 1 35,oN (.store [0,0,0,0] (.V 4) (.E 36)),vE 5 37]) .ret)))))
def zsv:List RV:=[.cell [0,0,0,0] 4 true,.tmp [0] 5]
def yj8:List Nat:=[0,1,2,3,4,5,7,9,8,10,6]
def zyc:IC := .seq (.reg [oV 2 (.box (.V 0)),oV 3 (.box (.V 1)),oV 4 (.alloc [(.v (.bool false)),(.v (.int .u64 0)),(.v (.int .u64 0))]),oV 5 (.alloc [(.v (.bool false)),(.v (.int .u64 0)),(.v (.int .u64 0))]),oV 6 (.mv (kb false))]) (.seq (.seq (.reg [tV 11 4 2,oE 12 (.call zks [([0,0,0,0],(.E 11))]),oE 13 (.un .not (.E 12)),wE 14 13,gE 15 14 .false (.load true 4 (.V 3)),gE 16 14 .false (.call zks [([0,0,0,0],(.E 15))]),gE 17 14 .false (.un .not (.E 16)),oE 18 (.pick (.E 14) (kb true) (.E 17))]) (.cond (.E 18) (.seq (.reg [oE 19 (.build [(.v (.bool false)),(.v (.int .u64 0)),(.v (.int .u64 0))] []),oE 20 (.build [(.v (.bool false)),(.v (.int .u64 0)),(.v (.int .u64 0))] []),oN (.store [0,0,0] (.V 4) (.E 19)),oN (.store [0,0,0] (.V 5) (.E 20)),oV 6 (.mv (kb false))]) .ret) .skip)) (.seq (.reg [fV 22 0 2,tE 23 3 22,fV 24 3 3,lE 25 24,oE 26 (.call zmg [([0,0,0],(.E 23)),([0],(.E 25))]),wE 21 26,xE 27 0 21,xE 28 1 21,oV 7 (.alloc [(.v (.bool false)),(.v (.int .u64 0)),(.v (.int .u64 0))]),oN (.store [0,0,0] (.V 7) (.E 27)),vE 8 28]) (.seq (.reg [fV 30 0 3,tE 31 3 30,fV 32 3 2,lE 33 32,oE 34 (.call zmg [([0,0,0],(.E 31)),([0],(.E 33))]),wE 29 34,xE 35 0 29,xE 36 1 29,oV 9 (.alloc [(.v (.bool false)),(.v (.int .u64 0)),(.v (.int .u64 0))]),oN (.store [0,0,0] (.V 9) (.E 35)),vE 10 36]) (.seq (.regD [(tV 37 3 7,0,0),(tV 38 3 9,0,1),(mV 39 8,0,0),(wE 40 39,0,0),(gE 41 40 .true (.mv (.V 10)),0,0),(oE 42 (.pick (.E 40) (.E 41) (kb false)),0,0),(oN (.store [0,0,0] (.V 4) (.E 37)),0,0),(oN (.store [0,0,0] (.V 5) (.E 38)),0,0),(vE 6 42,0,0)]) .ret))))
def zyd:List RV:=[.cell [0,0,0] 4 true,.cell [0,0,0] 5 true,.tmp [0] 6]
def yj9:List Nat:=[0,1,2,3,4]
def zye:IC := .seq (.reg [oV 2 (.box (.V 0)),oV 3 (.box (.V 1)),oV 4 (.mv (ki 0))]) (.seq (.regD [(fV 5 0 2,0,0),(lE 6 5,0,0),(fV 7 1 2,0,0),(lE 8 7,0,0),(fV 9 2 2,0,0),(lE 10 9,0,0),(oE 11 (.call zgr [([0],(.E 6)),([0],(.E 8)),([0],(.E 10))]),0,0),(fV 12 0 3,1,0),(lE 13 12,1,0),(fV 14 1 3,1,0),(lE 15 14,1,0),(fV 16 2 3,1,0),(lE 17 16,1,0),(oE 18 (.call zgr [([0],(.E 13)),([0],(.E 15)),([0],(.E 17))]),0,0),(oN (.store [0,0,0] (.V 2) (.E 11)),0,0),(oN (.store [0,0,0] (.V 3) (.E 18)),0,0)]) (.seq (.block 0 (.seq (.reg [fV 20 0 2,lE 21 20,wE 22 21,gE 23 22 .true (.faddr 0 (.V 3)),gE 24 22 .true (.load false 1 (.E 23)),gE 25 22 .true (.un .not (.E 24)),oE 26 (.pick (.E 22) (.E 25) (kb false)),wE 19 26]) (.cond (.E 19) (.seq (.reg [oV 4 (.mv (ki (-1)))]) .ret) (.seq (.reg [fV 28 0 3,lE 29 28,wE 30 29,gE 31 30 .true (.faddr 0 (.V 2)),gE 32 30 .true (.load false 1 (.E 31)),gE 33 30 .true (.un .not (.E 32)),oE 34 (.pick (.E 30) (.E 33) (kb false)),wE 27 34]) (.cond (.E 27) (.seq (.reg [oV 4 (.mv (ki 1))]) .ret) (.seq (.reg [fV 36 0 2,lE 37 36,wE 35 37]) (.cond (.E 35) (.seq (.reg [tV 38 3 3,tV 39 3 2,oE 40 (.call zkt [([0,0,0],(.E 38)),([0,0,0],(.E 39))]),vE 4 40]) .ret) .skip))))))) (.seq (.reg [tV 41 3 2,tV 42 3 3,oE 43 (.call zkt [([0,0,0],(.E 41)),([0,0,0],(.E 42))]),vE 4 43]) .ret)))
def zyf:List RV:=[.tmp [0] 4]
def yka:List Nat:=[0,8,7,6,5,3,2]
def z5f:IC := .seq (.reg [oE 9 (.bin .lss (.V 8) (.V 7))]) (.seq (.cond (.E 9) .skip (.exit 0)) (.seq (.block 1 (.seq (.reg [oE 10 (.iaddr 1 (.V 6) (.V 8)),lE 11 10,vE 5 11]) (.seq (.reg [mV 12 5,mV 13 3,bE 14 .neq 12 13]) (.cond (.E 14) (.seq (.reg [mV 15 5,vE 2 15]) .ret) .skip)))) (.reg [oE 16 (.bin .add (.V 8) (ki 1)),vE 8 16])))
def zyg:IC := .seq (.reg [oV 2 (.mv (ki 0))]) (.seq (.reg [oV 3 (.mv (ki 0))]) (.seq (.seq (.reg [oV 6 (.mv (.V 0)),oV 7 (.len (.V 6)),oV 8 (.mv (ki 0))]) (.block 0 (.loop z5f))) (.seq (.reg [mV 17 3,vE 2 17]) .ret)))
def zyh:List RV:=[.tmp [0] 2]
def ykb:List Nat:=[0,1,5,6,4]
def zqg:IC := .seq (.reg [oV 4 (.mv (ki 0))]) (.seq (.reg [mV 7 0,oE 8 (.call zme [([0],(.E 7))]),vE 5 8]) (.seq (.reg [mV 9 1,oE 10 (.call zme [([0],(.E 9))]),vE 6 10]) (.seq (.seq (.reg [mV 11 5]) (.cond (.E 11) (.seq (.seq (.reg [mV 12 6]) (.cond (.E 12) (.seq (.reg [oV 4 (.mv (ki 0))]) .ret) .skip)) (.seq (.reg [oV 4 (.mv (ki (-1)))]) .ret)) .skip)) (.seq (.seq (.reg [mV 13 6]) (.cond (.E 13) (.seq (.reg [oV 4 (.mv (ki 1))]) .ret) .skip)) (.seq (.seq (.reg [mV 14 0,mV 15 1,bE 16 .lss 14 15]) (.cond (.E 16) (.seq (.reg [oV 4 (.mv (ki (-1)))]) .ret) .skip)) (.seq (.seq (.reg [mV 17 0,mV 18 1,bE 19 .gtr 17 18]) (.cond (.E 19) (.seq (.reg [oV 4 (.mv (ki 1))]) .ret) .skip)) (.seq (.reg [oV 4 (.mv (ki 0))]) .ret)))))))
def zqh:List RV:=[.tmp [0] 4]
def ykc:List Nat:=[0,2]
def zyi:IC := .seq (.reg [oV 2 (.mv (kb false))]) (.seq (.reg [mV 3 0,mV 4 0,bE 5 .neq 3 4,vE 2 5]) .ret)
def zyj:List RV:=[.tmp [0] 2]
def ykd:List Nat:=[0,1,4,5]
def zyk:IC := .seq (.reg [oV 4 (.alloc [(.v (.bool false)),(.v (.int .u64 0)),(.v (.int .u64 0)),iv 0]),oV 5 (.mv (kb false))]) (.seq (.reg [mV 6 0,mV 7 0,oE 8 (.call zpv [([0],(.E 6)),([0],(.E 7))]),mV 9 1,oE 10 (.call zmf [([0,0,0],(.E 8)),([0],(.E 9))]),xE 11 0 10,xE 12 1 10,oN (.store [0,0,0,0] (.V 4) (.E 11)),vE 5 12]) .ret)
def zyl:List RV:=[.cell [0,0,0,0] 4 true,.tmp [0] 5]
def yke:List Nat:=[0,1,2,3,4,7,8,6,11,12,10,14,5]
def zjp:IC := .seq (.reg [oV 2 (.box (.V 0)),oV 3 (.box (.V 1)),oV 4 (.alloc [(.v (.bool false)),(.v (.int .u64 0)),(.v (.int .u64 0))]),oV 5 (.mv (kb false))]) (.seq (.seq (.reg [tV 15 3 2,oE 16 (.call zhi [([0,0,0],(.E 15))]),oE 17 (.un .not (.E 16)),wE 18 17,gE 19 18 .false (.load true 3 (.V 3)),gE 20 18 .false (.call zhi [([0,0,0],(.E 19))]),gE 21 18 .false (.un .not (.E 20)),oE 22 (.pick (.E 18) (kb true) (.E 21))]) (.cond (.E 22) (.seq (.reg [oE 23 (.build [(.v (.bool false)),(.v (.int .u64 0)),(.v (.int .u64 0))] []),oN (.store [0,0,0] (.V 4) (.E 23)),oV 5 (.mv (kb false))]) .ret) .skip)) (.seq (.seq (.reg [fV 24 0 2,lE 25 24,fV 26 0 3,lE 27 26,oE 28 (.eqb true [.b] (.E 25) (.E 27))]) (.cond (.E 28) (.seq (.seq (.reg [tV 29 3 2,tV 30 3 3,oE 31 (.call zkt [([0,0,0],(.E 29)),([0,0,0],(.E 30))]),oE 32 (.bin .lss (.E 31) (ki 0))]) (.cond (.E 32) (.reg [tV 33 3 3,tV 34 3 2,oN (.store [0,0,0] (.V 2) (.E 33)),oN (.store [0,0,0] (.V 3) (.E 34))]) .skip)) (.seq (.reg [fV 36 2 2,lE 37 36,fV 38 2 3,lE 39 38,oE 40 (.call zku [([0],(.E 37)),([0],(.E 39)),([0],(.C (.v (.int .u64 0))))]),wE 35 40,xE 41 0 35,xE 42 1 35,vE 6 41,vE 7 42]) (.seq (.reg [fV 44 1 2,lE 45 44,fV 46 1 3,lE 47 46,mV 48 7,oE 49 (.call zku [([0],(.E 45)),([0],(.E 47)),([0],(.E 48))]),wE 43 49,xE 50 0 43,xE 51 1 43,vE 8 50,wE 9 51]) (.seq (.reg [fV 52 0 2,lE 53 52,mV 54 8,mV 55 6,oE 56 (.call zgr [([0],(.E 53)),([0],(.E 54)),([0],(.E 55))]),oN (.store [0,0,0] (.V 4) (.E 56)),oV 5 (.mv (kb true))]) .ret)))) .skip)) (.seq (.reg [fV 58 2 2,lE 59 58,fV 60 2 3,lE 61 60,oE 62 (.call zjd [([0],(.E 59)),([0],(.E 61)),([0],(.C (.v (.int .u64 0))))]),wE 57 62,xE 63 0 57,xE 64 1 57,vE 10 63,vE 11 64]) (.seq (.reg [fV 66 1 2,lE 67 66,fV 68 1 3,lE 69 68,mV 70 11,oE 71 (.call zjd [([0],(.E 67)),([0],(.E 69)),([0],(.E 70))]),wE 65 71,xE 72 0 65,xE 73 1 65,vE 12 72,wE 13 73]) (.seq (.reg [fV 74 0 2,lE 75 74,mV 76 12,mV 77 10,oE 78 (.call zgr [([0],(.E 75)),([0],(.E 76)),([0],(.E 77))]),oV 14 (.alloc [(.v (.bool false)),(.v (.int .u64 0)),(.v (.int .u64 0))]),oN (.store [0,0,0] (.V 14) (.E 78))]) (.seq (.seq (.reg [tV 79 3 14,oE 80 (.call zhi [([0,0,0],(.E 79))]),oE 81 (.un .not (.E 80))]) (.cond (.E 81) (.seq (.reg [oE 82 (.build [(.v (.bool false)),(.v (.int .u64 0)),(.v (.int .u64 0))] []),oN (.store [0,0,0] (.V 4) (.E 82)),oV 5 (.mv (kb false))]) .ret) .skip)) (.seq (.reg [tV 83 3 14,oN (.store [0,0,0] (.V 4) (.E 83)),oV 5 (.mv (kb true))]) .ret)))))))
def zjq:List RV:=[.cell [0,0,0] 4 true,.tmp [0] 5]
def ykf:List Nat:=[0,1,2,6,4,5]
def zym:IC := .seq (.reg [oV 2 (.box (.V 0)),oV 4 (.alloc [(.v (.bool false)),(.v (.int .u64 0)),(.v (.int .u64 0)),iv 0]),oV 5 (.mv (kb false))]) (.seq (.reg [tV 7 3 2,mV 8 1,oE 9 (.build [(.v (.bool false)),(.v (.int .u64 0)),(.v (.int .u64 0)),iv 0] [(0,3,(.E 7)),(3,1,(.E 8))]),oV 6 (.alloc [(.v (.bool false)),(.v (.int .u64 0)),(.v (.int .u64 0)),iv 0]),oN (.store [0,0,0,0] (.V 6) (.E 9))]) (.seq (.seq (.reg [tV 10 4 6,oE 11 (.call zks [([0,0,0,0],(.E 10))]),oE 12 (.un .not (.E 11))]) (.cond (.E 12) (.seq (.reg [oE 13 (.build [(.v (.bool false)),(.v (.int .u64 0)),(.v (.int .u64 0)),iv 0] []),oN (.store [0,0,0,0] (.V 4) (.E 13)),oV 5 (.mv (kb false))]) .ret) .skip)) (.seq (.reg [tV 14 4 6,oN (.store [0,0,0,0] (.V 4) (.E 14)),oV 5 (.mv (kb true))]) .ret)))
def zyn:List RV:=[.cell [0,0,0,0] 4 true,.tmp [0] 5]
def ykg:List Nat:=[0,1,2]
def zyo:IC := .seq (.reg [oV 1 (.box (.V 0)),oV 2 (.mv (kb false))]) (.seq (.reg [fV 3 0 1,tE 4 3 3,oE 5 (.call zhi [([0,0,0],(.E 4))]),wE 6 5,gE 7 6 .true (.faddr 3 (.V 1)),gE 8 6 .true (.load false 1 (.E 7)),gE 9 6 .true (.call zbi [([0],(.E 8)),([0],(ki 1)),([0],(ki 1000000))]),oE 10 (.pick (.E 6) (.E 9) (kb false)),vE 2 10]) .ret)
def zyp:List RV:=[.tmp [0] 2]
def ykh:List Nat:=[0,1,2,4,6,8,9,10,7,11,12,5]
def zhj:IC := .seq (.reg [oV 2 (.box (.V 0)),oV 4 (.alloc [(.v (.bool false)),(.v (.int .u64 0)),(.v (.int .u64 0))]),oV 5 (.mv (kb false))]) (.seq (.seq (.reg [tV 13 3 2,oE 14 (.call zhi [([0,0,0],(.E 13))]),oE 15 (.un .not (.E 14))]) (.cond (.E 15) (.seq (.reg [oE 16 (.build [(.v (.bool false)),(.v (.int .u64 0)),(.v (.int .u64 0))] []),oN (.store [0,0,0] (.V 4) (.E 16)),oV 5 (.mv (kb false))]) .ret) .skip)) (.seq (.reg [mV 17 1,oE 18 (.call zkv [([0],(.E 17))]),vE 6 18]) (.seq (.reg [fV 20 1 2,lE 21 20,mV 22 6,oE 23 (.call zkw [([0],(.E 21)),([0],(.E 22))]),wE 19 23,xE 24 0 19,xE 25 1 19,vE 7 24,vE 8 25]) (.seq (.reg [fV 27 2 2,lE 28 27,mV 29 6,oE 30 (.call zkw [([0],(.E 28)),([0],(.E 29))]),wE 26 30,xE 31 0 26,xE 32 1 26,vE 9 31,vE 10 32]) (.seq (.reg [mV 34 8,mV 35 9,oE 36 (.call zjd [([0],(.E 34)),([0],(.E 35)),([0],(.C (.v (.int .u64 0))))]),wE 33 36,xE 37 0 33,xE 38 1 33,vE 8 37,vE 11 38]) (.seq (.reg [fV 39 0 2,lE 40 39,mV 41 1,oE 42 (.bin .lss (.E 41) (ki 0)),oE 43 (.eqb true [.b] (.E 40) (.E 42)),mV 44 8,mV 45 10,oE 46 (.call zgr [([0],(.E 43)),([0],(.E 44)),([0],(.E 45))]),oV 12 (.alloc [(.v (.bool false)),(.v (.int .u64 0)),(.v (.int .u64 0))]),oN (.store [0,0,0] (.V 12) (.E 46))]) (.seq (.seq (.reg [mV 47 7,oE 48 (.bin .gtr (.E 47) (.C (.v (.int .u64 0)))),wE 49 48,gE 50 49 .false (.mv (.V 11)),gE 51 49 .false (.bin .gtr (.E 50) (.C (.v (.int .u64 0)))),oE 52 (.pick (.E 49) (kb true) (.E 51)),wE 53 52,gE 54 53 .false (.load true 3 (.V 12)),gE 55 53 .false (.call zhi [([0,0,0],(.E 54))]),gE 56 53 .false (.un .not (.E 55)),oE 57 (.pick (.E 53) (kb true) (.E 56))]) (.cond (.E 57) (.seq (.reg [oE 58 (.build [(.v (.bool false)),(.v (.int .u64 0)),(.v (.int .u64 0))] []),oN (.store [0,0,0] (.V 4) (.E 58)),oV 5 (.mv (kb false))]) .ret) .skip)) (.seq (.reg [tV 59 3 12,oN (.store [0,0,0] (.V 4) (.E 59)),oV 5 (.mv (kb true))]) .ret))))))))
def zhk:List RV:=[.cell [0,0,0] 4 true,.tmp [0] 5]
def yki:List Nat:=[0,1,2,6]
def zqi:IC := .seq (.reg [oV 6 (.alloc [(.v (.bool false)),(.v (.int .u64 0)),(.v (.int .u64 0))])]) (.seq (.reg [mV 7 0,wE 8 7,gE 9 8 .true (.mv (.V 1)),gE 10 8 .true (.bin .gtr (.E 9) (.C (.v (.int .u64 0)))),gE 11 8 .true (.mv (.E 10)),gE 12 11 .false (.mv (.V 2)),gE 13 11 .false (.bin .gtr (.E 12) (.C (.v (.int .u64 0)))),gE 14 8 .true (.pick (.E 11) (kb true) (.E 13)),oE 15 (.pick (.E 8) (.E 14) (kb false)),mV 16 1,mV 17 2,oE 18 (.build [(.v (.bool false)),(.v (.int .u64 0)),(.v (.int .u64 0))] [(0,1,(.E 15)),(1,1,(.E 16)),(2,1,(.E 17))]),oN (.store [0,0,0] (.V 6) (.E 18))]) .ret)
def zqj:List RV:=[.cell [0,0,0] 6 true]
def ykj:List Nat:=[0,1,2,3,4]
def zyq:IC := .seq (.reg [oV 2 (.box (.V 0)),oV 3 (.box (.V 1)),oV 4 (.mv (ki 0))]) (.seq (.regD [(fV 5 1 2,0,0),(lE 6 5,0,0),(fV 7 1 3,0,0),(lE 8 7,0,0),(oE 9 (.call zmh [([0],(.E 6)),([0],(.E 8))]),0,0),(fV 10 2 2,1,0),(lE 11 10,1,0),(fV 12 2 3,1,0),(lE 13 12,1,0),(oE 14 (.call zmh [([0],(.E 11)),([0],(.E 13))]),0,0),(oE 15 (.bslice 2 1 [iv 0] [(0,(.E 9)),(1,(.E 14))]),0,0),(oE 16 (.call zmc [([1],(.E 15))]),0,0),(vE 4 16,0,0)]) .ret)
def zyr:List RV:=[.tmp [0] 4]
def ykk:List Nat:=[0,1,5,6,4]
def zys:IC := .seq (.reg [oV 4 (.alloc [(.v (.bool false)),(.v (.int .u64 0)),(.v (.int .u64 0))])]) (.seq (.reg [mV 8 0,oE 9 (.call zkv [([0],(.E 8))]),mV 10 1,oE 11 (.call zkv [([0],(.E 10))]),oE 12 (.call zkw [([0],(.E 9)),([0],(.E 11))]),wE 7 12,xE 13 0 7,xE 14 1 7,vE 5 13,vE 6 14]) (.seq (.reg [mV 15 0,oE 16 (.bin .lss (.E 15) (ki 0)),mV 17 1,oE 18 (.bin .lss (.E 17) (ki 0)),oE 19 (.eqb true [.b] (.E 16) (.E 18)),mV 20 5,mV 21 6,oE 22 (.call zgr [([0],(.E 19)),([0],(.E 20)),([0],(.E 21))]),oN (.store [0,0,0] (.V 4) (.E 22))]) .ret))
def zyt:List RV:=[.cell [0,0,0] 4 true]
def ykl:List Nat:=[0,1,2]
def zmw:IC := .seq (.reg [oV 1 (.box (.V 0)),oV 2 (.mv (kb false))]) (.seq (.reg [fV 3 1 1,lE 4 3,oE 5 (.bin .lss (.E 4) (.C (.v (.int .u64 9223372036854775808)))),wE 6 5,gE 7 6 .true (.faddr 0 (.V 1)),gE 8 6 .true (.load false 1 (.E 7)),gE 9 6 .true (.un .not (.E 8)),gE 10 6 .true (.mv (.E 9)),gE 11 10 .false (.faddr 1 (.V 1)),gE 12 10 .false (.load false 1 (.E 11)),gE 13 10 .false (.bin .gtr (.E 12) (.C (.v (.int .u64 0)))),gE 14 6 .true (.pick (.E 10) (kb true) (.E 13)),gE 15 6 .true (.mv (.E 14)),gE 16 15 .false (.faddr 2 (.V 1)),gE 17 15 .false (.load false 1 (.E 16)),gE 18 15 .false (.bin .gtr (.E 17) (.C (.v (.int .u64 0)))),gE 19 6 .true (.pick (.E 15) (kb true) (.E 18)),oE 20 (.pick (.E 6) (.E 19) (kb false)),vE 2 20]) .ret)
def zmx:List RV:=[.tmp [0] 2]
def ykm:List Nat:=[0,2]
def zyu:IC := .seq (.reg [oV 2 (.mv (.C (.v (.int .u64 0))))]) (.seq (.seq (.reg [mV 3 0,oE 4 (.bin .lss (.E 3) (ki 0))]) (.cond (.E 4) (.seq (.reg [mV 5 0,oE 6 (.convI .u64 (.E 5)),oE 7 (.un .neg (.E 6)),vE 2 7]) .ret) .skip)) (.seq (.reg [mV 8 0,oE 9 (.convI .u64 (.E 8)),vE 2 9]) .ret))
def zyv:List RV:=[.tmp [0] 2]
def ykn:List Nat:=[0,1,6,8,7,10,11,12,9,13,4,5]
def zyw:IC := .seq (.reg [oV 4 (.mv (.C (.v (.int .u64 0)))),oV 5 (.mv (.C (.v (.int .u64 0))))]) (.seq (.reg [mV 14 0,oE 15 (.bin .and (.E 14) (.C (.v (.int .u64 4294967295)))),vE 6 15]) (.seq (.reg [mV 16 0,oE 17 (.bin .shr (.E 16) (.C (.v (.int .u64 32)))),vE 7 17]) (.seq (.reg [mV 18 1,oE 19 (.bin .and (.E 18) (.C (.v (.int .u64 4294967295)))),vE 8 19]) (.seq (.reg [mV 20 1,oE 21 (.bin .shr (.E 20) (.C (.v (.int .u64 32)))),vE 9 21]) (.seq (.reg [mV 22 6,mV 23 8,bE 24 .mul 22 23,vE 10 24]) (.seq (.reg [mV 25 7,mV 26 8,bE 27 .mul 25 26,mV 28 10,oE 29 (.bin .shr (.E 28) (.C (.v (.int .u64 32)))),bE 30 .add 27 29,vE 11 30]) (.seq (.reg [mV 31 11,oE 32 (.bin .and (.E 31) (.C (.v (.int .u64 4294967295)))),vE 12 32]) (.seq (.reg [mV 33 11,oE 34 (.bin .shr (.E 33) (.C (.v (.int .u64 32)))),vE 13 34]) (.seq (.reg [mV 35 12,mV 36 6,mV 37 9,bE 38 .mul 36 37,bE 39 .add 35 38,vE 12 39]) (.seq (.reg [mV 40 7,mV 41 9,bE 42 .mul 40 41,mV 43 13,bE 44 .add 42 43,mV 45 12,oE 46 (.bin .shr (.E 45) (.C (.v (.int .u64 32)))),bE 47 .add 44 46,vE 4 47]) (.seq (.reg [mV 48 0,mV 49 1,bE 50 .mul 48 49,vE 5 50]) .ret)))))))))))
def zyx:List RV:=[.tmp [0] 4,.tmp [0] 5]
def yko:List Nat:=[0,1,5,6,4]
def zqk:IC := .seq (.reg [oV 4 (.mv (ki 0))]) (.seq (.reg [mV 7 0,oE 8 (.call zmi [([0],(.E 7))]),vE 5 8]) (.seq (.reg [mV 9 1,oE 10 (.call zmi [([0],(.E 9))]),vE 6 10]) (.seq (.seq (.reg [mV 11 5]) (.cond (.E 11) (.seq (.seq (.reg [mV 12 6]) (.cond (.E 12) (.seq (.reg [oV 4 (.mv (ki 0))]) .ret) .skip)) (.seq (.reg [oV 4 (.mv (ki (-1)))]) .ret)) .skip)) (.seq (.seq (.reg [mV 13 6]) (.cond (.E 13) (.seq (.reg [oV 4 (.mv (ki 1))]) .ret) .skip)) (.seq (.seq (.reg [mV 14 0,mV 15 1,bE 16 .lss 14 15]) (.cond (.E 16) (.seq (.reg [oV 4 (.mv (ki (-1)))]) .ret) .skip)) (.seq (.seq (.reg [mV 17 0,mV 18 1,bE 19 .gtr 17 18]) (.cond (.E 19) (.seq (.reg [oV 4 (.mv (ki 1))]) .ret) .skip)) (.seq (.reg [oV 4 (.mv (ki 0))]) .ret)))))))
def zql:List RV:=[.tmp [0] 4]
def ykp:List Nat:=[0,2]
def zyy:IC := .seq (.reg [oV 2 (.mv (kb false))]) (.seq (.reg [mV 3 0,mV 4 0,bE 5 .neq 3 4,vE 2 5]) .ret)
def zyz:List RV:=[.tmp [0] 2]
def tbl:List (Nat×Fun):=[
 (zrn,zaa zkx zky []),
 (znz,zaa zub zuc []),
 (zn0,zaa zud zue []),
 (zli,zaa zro zrp []),
 (zn1,zaa zje zjf []),
 (zn2,zaa zuf zug []),
 (zn3,zaa zrr zrs []),
 (zn4,zaa zuh zui []),
 (zn5,zaa zuj zuk []),
 (zn6,zaa zjg zjh []),
 (zn7,zaa zmk zml []),
 (zn8,zaa zpz zp0 []),
 (zez,zaa zul zum []),
 (zlj,zaa zp1 zp2 []),
 (zlk,zaa zun zuo []),
 (zll,zaa zup zuq []),
 (zn9,zaa zur zus []),
 (zoa,zaa zut zuu []),
 (zob,zaa zuv zuw []),
 (zfp,zaa zux zuy [true]),
 (zki,zaa zji zjj []),
 (zja,zaa zuz zu0 []),
 (zoc,.known [] (zhf 1 16)),
 (zod,.known [] (zhf 1 8)),
 (zoe,zaa zu1 zu2 []),
 (zof,zaa zrt zru []),
 (zbi,zaa zu3 zu4 []),
 (zog,zaa zu5 zu6 []),
 (zii,zaa zrv zrw []),
 (zoh,zaa zu7 zu8 []),
 (zoi,zaa zu9 zva []),
 (zjb,zaa zjk zjl []),
 (zkj,zaa zvb zvc []),
 (zoj,zaa zvd zve []),
 (zbu,zaa zp3 zp4 [true]),
 (zok,zaa zmm zmn [true]),
 (zol,zaa zvf zvg []),
 (zlm,zaa zp5 zp6 []),
 (zom,zaa zrx zry []),
 (zon,zaa zrz zr0 []),
 (zoo,zaa zvj zvk []),
 (zop,zaa zvm zvn []),
 (zln,zaa zr2 zkz [true]),
 (zlo,zaa zmo zmp [true]),
 (zoq,zaa zgs zgt [true]),
 (zor,zaa zgu zgv [true]),
 (zos,zaa zr4 zr5 []),
 (ze8,zaa zvp zvq [true,true,true]),
 (zkk,zaa zvr zvs []),
 (zot,zaa zvt zvu []),
 (zlp,zaa zvv zvw []),
 (zlq,zaa zvx zvy []),
 (zlr,zaa zvz zv0 []),
 (zou,zaa zv1 zv2 []),
 (zov,zaa zv3 zv4 []),
 (zls,zaa zr6 zr7 []),
 (zlu,zaa zv5 zv6 []),
 (zow,zaa zv7 zv8 []),
 (zhh,zaa zr8 zr9 [true]),
 (zlv,zaa zp7 zp8 [true]),
 (zlw,zaa zv9 zwa []),
 (zox,zaa zwb zwc []),
 (zoy,zaa zp9 zqa []),
 (zoz,zaa zwe zwf []),
 (zkl,zaa zjn zjo []),
 (zlx,zaa zmq zmr []),
 (zo0,zaa zwg zwh []),
 (zjc,zaa zsb zsc []),
 (zo1,zaa zwi zwj []),
 (zo2,zaa zqb zqc []),
 (zkm,zaa zsd zse []),
 (zo3,zaa zwk zwl []),
 (zly,zaa zwm zwn []),
 (zo4,zaa zqd zqe []),
 (zlz,zaa zsf zsg []),
 (zo5,zaa zwo zwp []),
 (zo6,zaa zwq zwr []),
 (zo7,zaa zws zwt []),
 (zl0,zaa zwu zwv [true,true]),
 (zl1,zaa zww zwx []),
 (zo8,zaa zwy zwz []),
 (zo9,.known [] (zhf 5 40)),
 (zpa,zaa zw0 zw1 []),
 (zkn,zaa zw2 zw3 []),
 (zpb,zaa zsi zsj []),
 (zko,zaa zw4 zw5 []),
 (zpc,zaa zw6 zw7 []),
 (zpd,.known [true] znj),
 (zl2,zaa zms zmt []),
 (zl3,zaa zw8 zw9 []),
 (zpe,zaa zsk zsl []),
 (zpf,zaa zxc zxd []),
 (zpg,zaa zxf zxg []),
 (zl4,zaa zxh zxi []),
 (zl5,zaa zxj zxk []),
 (zl6,zaa zsm zsn []),
 (zph,zaa zxl zxm []),
 (zpi,.known [true] zm9),
 (zpj,zaa zxn zxo []),
 (zl7,zaa zxp zxq []),
 (zpk,zaa zso zsp []),
 (zl8,zaa zxr zxs []),
 (zl9,zaa zxt zxu []),
 (zpl,zaa zxw zxx []),
 (zpm,zaa zxy zxz []),
 (zkp,zaa zx0 zx1 []),
 (zpn,zaa zsq zsr []),
 (zpo,zaa zx2 zx3 []),
 (zkq,zaa zx4 zx5 []),
 (zma,zaa zx6 zx7 []),
 (zpp,zaa zx8 zx9 []),
 (zpq,zaa zya zyb []),
 (zkr,zaa zss zst []),
 (zpr,zaa zsu zsv []),
 (zmb,zaa zyc zyd []),
 (zps,zaa zye zyf []),
 (zmc,zaa zyg zyh []),
 (zmd,zaa zqg zqh []),
 (zme,zaa zyi zyj []),
 (zpt,zaa zyk zyl []),
 (zpu,zaa zjp zjq []),
 (zmf,zaa zym zyn []),
 (zks,zaa zyo zyp []),
 (zmg,zaa zhj zhk []),
 (zgr,zaa zqi zqj []),
 (zkt,zaa zyq zyr []),
 (zpv,zaa zys zyt []),
 (zhi,zaa zmw zmx []),
 (zku,.ext zqp),
 (zjd,.ext zq8),
 (zkv,zaa zyu zyv []),
 (zkw,zaa zyw zyx []),
 (zmh,zaa zqk zql []),
 (zmi,zaa zyy zyz [])]
def T:zb2:=fun f=>(tbl.find? fun q=>q.1 == f).map fun q=>q.2
theorem zmy:T zrn=some (zaa zkx zky []):=rfl
@[simp] theorem yz9:zad T zrn=[]:=zai zmy
theorem z5g:T znz=some (zaa zub zuc []):=rfl
@[simp] theorem y0a:zad T znz=[]:=zai z5g
theorem z5h:T zn0=some (zaa zud zue []):=rfl
@[simp] theorem y0b:zad T zn0=[]:=zai z5h
theorem z05:T zli=some (zaa zro zrp []):=rfl
@[simp] theorem y0c:zad T zli=[]:=zai z05
theorem z5i:T zn1=some (zaa zje zjf []):=rfl
@[simp] theorem y0d:zad T zn1=[]:=zai z5i
theorem z5j:T zn2=some (zaa zuf zug []):=rfl
@[simp] theorem y0e:zad T zn2=[]:=zai z5j
theorem z5k:T zn3=some (zaa zrr zrs []):=rfl
@[simp] theorem y0f:zad T zn3=[]:=zai z5k
theorem z5l:T zn4=some (zaa zuh zui []):=rfl
@[simp] theorem y0g:zad T zn4=[]:=zai z5l
theorem z5m:T zn5=some (zaa zuj zuk []):=rfl
@[simp] theorem y0h:zad T zn5=[]:=zai z5m
theorem zmz:T zn6=some (zaa zjg zjh []):=rfl
@[simp] theorem y0i:zad T zn6=[]:=zai zmz
theorem zsw:T zn7=some (zaa zmk zml []):=rfl
@[simp] theorem y0j:zad T zn7=[]:=zai zsw
theorem zy0:T zn8=some (zaa zpz zp0 []):=rfl
@[simp] theorem y0k:zad T zn8=[]:=zai zy0
theorem z5n:T zez=some (zaa zul zum []):=rfl
@[simp] theorem y0l:zad T zez=[]:=zai z5n
theorem z5o:T zlj=some (zaa zp1 zp2 []):=rfl
@[simp] theorem y0m:zad T zlj=[]:=zai z5o
theorem z5p:T zlk=some (zaa zun zuo []):=rfl
@[simp] theorem y0n:zad T zlk=[]:=zai z5p
theorem z5q:T zll=some (zaa zup zuq []):=rfl
@[simp] theorem y0o:zad T zll=[]:=zai z5q
theorem z5r:T zn9=some (zaa zur zus []):=rfl
@[simp] theorem y0p:zad T zn9=[]:=zai z5r
theorem z5s:T zoa=some (zaa zut zuu []):=rfl
@[simp] theorem y0q:zad T zoa=[]:=zai z5s
theorem z5t:T zob=some (zaa zuv zuw []):=rfl
@[simp] theorem y0r:zad T zob=[]:=zai z5t
theorem z5u:T zfp=some (zaa zux zuy [true]):=rfl
@[simp] theorem y0s:zad T zfp=[true]:=zai z5u
theorem z5v:T zki=some (zaa zji zjj []):=rfl
@[simp] theorem y0t:zad T zki=[]:=zai z5v
theorem z5w:T zja=some (zaa zuz zu0 []):=rfl
@[simp] theorem y0u:zad T zja=[]:=zai z5w
theorem z5x:T zoc=some (.known [] (zhf 1 16)):=rfl
@[simp] theorem y0v:zad T zoc=[]:=zs7 z5x
theorem z5y:T zod=some (.known [] (zhf 1 8)):=rfl
@[simp] theorem y0w:zad T zod=[]:=zs7 z5y
theorem z5z:T zoe=some (zaa zu1 zu2 []):=rfl
@[simp] theorem y0x:zad T zoe=[]:=zai z5z
theorem z50:T zof=some (zaa zrt zru []):=rfl
@[simp] theorem y0y:zad T zof=[]:=zai z50
theorem z52:T zbi=some (zaa zu3 zu4 []):=rfl
@[simp] theorem y0z:zad T zbi=[]:=zai z52
theorem z54:T zog=some (zaa zu5 zu6 []):=rfl
@[simp] theorem y00:zad T zog=[]:=zai z54
theorem z06:T zii=some (zaa zrv zrw []):=rfl
@[simp] theorem y01:zad T zii=[]:=zai z06
theorem z55:T zoh=some (zaa zu7 zu8 []):=rfl
@[simp] theorem y02:zad T zoh=[]:=zai z55
theorem z56:T zoi=some (zaa zu9 zva []):=rfl
@[simp] theorem y03:zad T zoi=[]:=zai z56
theorem z57:T zjb=some (zaa zjk zjl []):=rfl
@[simp] theorem y04:zad T zjb=[]:=zai z57
theorem z58:T zkj=some (zaa zvb zvc []):=rfl
@[simp] theorem y05:zad T zkj=[]:=zai z58
theorem z59:T zoj=some (zaa zvd zve []):=rfl
@[simp] theorem y06:zad T zoj=[]:=zai z59
theorem z6a:T zbu=some (zaa zp3 zp4 [true]):=rfl
@[simp] theorem y07:zad T zbu=[true]:=zai z6a
theorem z6b:T zok=some (zaa zmm zmn [true]):=rfl
@[simp] theorem y08:zad T zok=[true]:=zai z6b
theorem z6c:T zol=some (zaa zvf zvg []):=rfl
@[simp] theorem y09:zad T zol=[]:=zai z6c
theorem zy1:T zlm=some (zaa zp5 zp6 []):=rfl
@[simp] theorem y1a:zad T zlm=[]:=zai zy1
theorem z6d:T zom=some (zaa zrx zry []):=rfl
@[simp] theorem y1b:zad T zom=[]:=zai z6d
theorem z07:T zon=some (zaa zrz zr0 []):=rfl
@[simp] theorem y1c:zad T zon=[]:=zai z07
theorem z6e:T zoo=some (zaa zvj zvk []):=rfl
@[simp] theorem y1d:zad T zoo=[]:=zai z6e
theorem z6f:T zop=some (zaa zvm zvn []):=rfl
@[simp] theorem y1e:zad T zop=[]:=zai z6f
theorem z6g:T zln=some (zaa zr2 zkz [true]):=rfl
@[simp] theorem y1f:zad T zln=[true]:=zai z6g
theorem z6h:T zlo=some (zaa zmo zmp [true]):=rfl
@[simp] theorem y1g:zad T zlo=[true]:=zai z6h
theorem z6i:T zoq=some (zaa zgs zgt [true]):=rfl
@[simp] theorem y1h:zad T zoq=[true]:=zai z6i
theorem z6j:T zor=some (zaa zgu zgv [true]):=rfl
@[simp] theorem y1i:zad T zor=[true]:=zai z6j
theorem z6k:T zos=some (zaa zr4 zr5 []):=rfl
@[simp] theorem y1j:zad T zos=[]:=zai z6k
theorem z6l:T ze8=some (zaa zvp zvq [true,true,true]):=rfl
@[simp] theorem y1k:zad T ze8=[true,true,true]:=zai z6l
theorem z6m:T zkk=some (zaa zvr zvs []):=rfl
@[simp] theorem y1l:zad T zkk=[]:=zai z6m
theorem z6n:T zot=some (zaa zvt zvu []):=rfl
@[simp] theorem y1m:zad T zot=[]:=zai z6n
theorem z6o:T zlp=some (zaa zvv zvw []):=rfl
@[simp] theorem y1n:zad T zlp=[]:=zai z6o
theorem z6p:T zlq=some (zaa zvx zvy []):=rfl
@[simp] theorem y1o:zad T zlq=[]:=zai z6p
theorem z6q:T zlr=some (zaa zvz zv0 []):=rfl
@[simp] theorem y1p:zad T zlr=[]:=zai z6q
theorem z6r:T zou=some (zaa zv1 zv2 []):=rfl
@[simp] theorem y1q:zad T zou=[]:=zai z6r
theorem z6s:T zov=some (zaa zv3 zv4 []):=rfl
@[simp] theorem y1r:zad T zov=[]:=zai z6s
theorem z08:T zls=some (zaa zr6 zr7 []):=rfl
@[simp] theorem y1s:zad T zls=[]:=zai z08
theorem z6t:T zlu=some (zaa zv5 zv6 []):=rfl
@[simp] theorem y1t:zad T zlu=[]:=zai z6t
theorem z6u:T zow=some (zaa zv7 zv8 []):=rfl
@[simp] theorem y1u:zad T zow=[]:=zai z6u
theorem z6v:T zhh=some (zaa zr8 zr9 [true]):=rfl
@[simp] theorem y1v:zad T zhh=[true]:=zai z6v
theorem z6w:T zlv=some (zaa zp7 zp8 [true]):=rfl
@[simp] theorem y1w:zad T zlv=[true]:=zai z6w
theorem z6x:T zlw=some (zaa zv9 zwa []):=rfl
@[simp] theorem y1x:zad T zlw=[]:=zai z6x
theorem z6y:T zox=some (zaa zwb zwc []):=rfl
@[simp] theorem y1y:zad T zox=[]:=zai z6y
theorem zy2:T zoy=some (zaa zp9 zqa []):=rfl
@[simp] theorem y1z:zad T zoy=[]:=zai zy2
theorem z6z:T zoz=some (zaa zwe zwf []):=rfl
@[simp] theorem y10:zad T zoz=[]:=zai z6z
theorem z60:T zkl=some (zaa zjn zjo []):=rfl
@[simp] theorem y11:zad T zkl=[]:=zai z60
theorem z61:T zlx=some (zaa zmq zmr []):=rfl
@[simp] theorem y12:zad T zlx=[]:=zai z61
theorem z62:T zo0=some (zaa zwg zwh []):=rfl
@[simp] theorem y13:zad T zo0=[]:=zai z62
theorem z63:T zjc=some (zaa zsb zsc []):=rfl
@[simp] theorem y14:zad T zjc=[]:=zai z63
theorem z64:T zo1=some (zaa zwi zwj []):=rfl
@[simp] theorem y15:zad T zo1=[]:=zai z64
theorem z65:T zo2=some (zaa zqb zqc []):=rfl
@[simp] theorem y16:zad T zo2=[]:=zai z65
theorem z66:T zkm=some (zaa zsd zse []):=rfl
@[simp] theorem y17:zad T zkm=[]:=zai z66
theorem z67:T zo3=some (zaa zwk zwl []):=rfl
@[simp] theorem y18:zad T zo3=[]:=zai z67
theorem z68:T zly=some (zaa zwm zwn []):=rfl
@[simp] theorem y19:zad T zly=[]:=zai z68
theorem z69:T zo4=some (zaa zqd zqe []):=rfl
@[simp] theorem y2a:zad T zo4=[]:=zai z69
theorem z7a:T zlz=some (zaa zsf zsg []):=rfl
@[simp] theorem y2b:zad T zlz=[]:=zai z7a
theorem z7b:T zo5=some (zaa zwo zwp []):=rfl
@[simp] theorem y2c:zad T zo5=[]:=zai z7b
theorem z7c:T zo6=some (zaa zwq zwr []):=rfl
@[simp] theorem y2d:zad T zo6=[]:=zai z7c
theorem z7d:T zo7=some (zaa zws zwt []):=rfl
@[simp] theorem y2e:zad T zo7=[]:=zai z7d
theorem z7e:T zl0=some (zaa zwu zwv [true,true]):=rfl
@[simp] theorem y2f:zad T zl0=[true,true]:=zai z7e
theorem z7f:T zl1=some (zaa zww zwx []):=rfl
@[simp] theorem y2g:zad T zl1=[]:=zai z7f
theorem z7g:T zo8=some (zaa zwy zwz []):=rfl
@[simp] theorem y2h:zad T zo8=[]:=zai z7g
theorem z7h:T zo9=some (.known [] (zhf 5 40)):=rfl
@[simp] theorem y2i:zad T zo9=[]:=zs7 z7h
theorem z7i:T zpa=some (zaa zw0 zw1 []):=rfl
@[simp] theorem y2j:zad T zpa=[]:=zai z7i
theorem z7j:T zkn=some (zaa zw2 zw3 []):=rfl
@[simp] theorem y2k:zad T zkn=[]:=zai z7j
theorem z7k:T zpb=some (zaa zsi zsj []):=rfl
@[simp] theorem y2l:zad T zpb=[]:=zai z7k
theorem z7l:T zko=some (zaa zw4 zw5 []):=rfl
@[simp] theorem y2m:zad T zko=[]:=zai z7l
theorem z7m:T zpc=some (zaa zw6 zw7 []):=rfl
@[simp] theorem y2n:zad T zpc=[]:=zai z7m
theorem z7n:T zpd=some (.known [true] znj):=rfl
@[simp] theorem y2o:zad T zpd=[true]:=zs7 z7n
theorem z7o:T zl2=some (zaa zms zmt []):=rfl
@[simp] theorem y2p:zad T zl2=[]:=zai z7o
theorem z7p:T zl3=some (zaa zw8 zw9 []):=rfl
@[simp] theorem y2q:zad T zl3=[]:=zai z7p
theorem z7q:T zpe=some (zaa zsk zsl []):=rfl
@[simp] theorem y2r:zad T zpe=[]:=zai z7q
theorem z7r:T zpf=some (zaa zxc zxd []):=rfl
@[simp] theorem y2s:zad T zpf=[]:=zai z7r
theorem z7s:T zpg=some (zaa zxf zxg []):=rfl
@[simp] theorem y2t:zad T zpg=[]:=zai z7s
theorem z7t:T zl4=some (zaa zxh zxi []):=rfl
@[simp] theorem y2u:zad T zl4=[]:=zai z7t
theorem z7u:T zl5=some (zaa zxj zxk []):=rfl
@[simp] theorem y2v:zad T zl5=[]:=zai z7u
theorem z7v:T zl6=some (zaa zsm zsn []):=rfl
@[simp] theorem y2w:zad T zl6=[]:=zai z7v
theorem z7w:T zph=some (zaa zxl zxm []):=rfl
@[simp] theorem y2x:zad T zph=[]:=zai z7w
theorem z7x:T zpi=some (.known [true] zm9):=rfl
@[simp] theorem y2y:zad T zpi=[true]:=zs7 z7x
theorem z7y:T zpj=some (zaa zxn zxo []):=rfl
@[simp] theorem y2z:zad T zpj=[]:=zai z7y
theorem z7z:T zl7=some (zaa zxp zxq []):=rfl
@[simp] theorem y20:zad T zl7=[]:=zai z7z
theorem z70:T zpk=some (zaa zso zsp []):=rfl
@[simp] theorem y21:zad T zpk=[]:=zai z70
theorem z71:T zl8=some (zaa zxr zxs []):=rfl
@[simp] theorem y22:zad T zl8=[]:=zai z71
theorem z72:T zl9=some (zaa zxt zxu []):=rfl
@[simp] theorem y23:zad T zl9=[]:=zai z72
theorem z73:T zpl=some (zaa zxw zxx []):=rfl
@[simp] theorem y24:zad T zpl=[]:=zai z73
theorem z74:T zpm=some (zaa zxy zxz []):=rfl
@[simp] theorem y25:zad T zpm=[]:=zai z74
theorem z75:T zkp=some (zaa zx0 zx1 []):=rfl
@[simp] theorem y26:zad T zkp=[]:=zai z75
theorem z76:T zpn=some (zaa zsq zsr []):=rfl
@[simp] theorem y27:zad T zpn=[]:=zai z76
theorem z77:T zpo=some (zaa zx2 zx3 []):=rfl
@[simp] theorem y28:zad T zpo=[]:=zai z77
theorem z78:T zkq=some (zaa zx4 zx5 []):=rfl
@[simp] theorem y29:zad T zkq=[]:=zai z78
theorem z79:T zma=some (zaa zx6 zx7 []):=rfl
@[simp] theorem y3a:zad T zma=[]:=zai z79
theorem z8a:T zpp=some (zaa zx8 zx9 []):=rfl
@[simp] theorem y3b:zad T zpp=[]:=zai z8a
theorem z8b:T zpq=some (zaa zya zyb []):=rfl
@[simp] theorem y3c:zad T zpq=[]:=zai z8b
theorem z8c:T zkr=some (zaa zss zst []):=rfl
@[simp] theorem y3d:zad T zkr=[]:=zai z8c
theorem z8d:T zpr=some (zaa zsu zsv []):=rfl
@[simp] theorem y3e:zad T zpr=[]:=zai z8d
theorem z8e:T zmb=some (zaa zyc zyd []):=rfl
@[simp] theorem y3f:zad T zmb=[]:=zai z8e
theorem z8f:T zps=some (zaa zye zyf []):=rfl
@[simp] theorem y3g:zad T zps=[]:=zai z8f
theorem z8g:T zmc=some (zaa zyg zyh []):=rfl
@[simp] theorem y3h:zad T zmc=[]:=zai z8g
theorem z8h:T zmd=some (zaa zqg zqh []):=rfl
@[simp] theorem y3i:zad T zmd=[]:=zai z8h
theorem z8i:T zme=some (zaa zyi zyj []):=rfl
@[simp] theorem y3j:zad T zme=[]:=zai z8i
theorem z8j:T zpt=some (zaa zyk zyl []):=rfl
@[simp] theorem y3k:zad T zpt=[]:=zai z8j
theorem z8k:T zpu=some (zaa zjp zjq []):=rfl
@[simp] theorem y3l:zad T zpu=[]:=zai z8k
theorem z8l:T zmf=some (zaa zym zyn []):=rfl
@[simp] theorem y3m:zad T zmf=[]:=zai z8l
theorem z8m:T zks=some (zaa zyo zyp []):=rfl
@[simp] theorem y3n:zad T zks=[]:=zai z8m
theorem z8n:T zmg=some (zaa zhj zhk []):=rfl
@[simp] theorem y3o:zad T zmg=[]:=zai z8n
theorem z8o:T zgr=some (zaa zqi zqj []):=rfl
@[simp] theorem y3p:zad T zgr=[]:=zai z8o
theorem z8p:T zkt=some (zaa zyq zyr []):=rfl
@[simp] theorem y3q:zad T zkt=[]:=zai z8p
theorem z8q:T zpv=some (zaa zys zyt []):=rfl
@[simp] theorem y3r:zad T zpv=[]:=zai z8q
theorem z8r:T zhi=some (zaa zmw zmx []):=rfl
@[simp] theorem y3s:zad T zhi=[]:=zai z8r
theorem z8s:T zku=some (.ext zqp):=rfl
@[simp] theorem y3t:zad T zku=[]:=rfl
theorem z09:T zjd=some (.ext zq8):=rfl
@[simp] theorem y3u:zad T zjd=[]:=rfl
theorem z8t:T zkv=some (zaa zyu zyv []):=rfl
@[simp] theorem y3v:zad T zkv=[]:=zai z8t
theorem z8u:T zkw=some (zaa zyw zyx []):=rfl
@[simp] theorem y3w:zad T zkw=[]:=zai z8u
theorem z8v:T zmh=some (zaa zqk zql []):=rfl
@[simp] theorem y3x:zad T zmh=[]:=zai z8v
theorem z8w:T zmi=some (zaa zyy zyz []):=rfl
@[simp] theorem y3y:zad T zmi=[]:=zai z8w
end Go.Pe
