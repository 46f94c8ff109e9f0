/- The compact texts of the functions that the law reaches; no condition. -/
import Derived.Test.YtdebkglpapjeiaaEvA0
set_option linter.all false
namespace Go.Pe
open Go
abbrev gE (n g:Nat) (b:Bool) (o:IOp):zaa:=⟨some (.E n),o,some (.E g,b)⟩
abbrev gV (n g:Nat) (b:Bool) (o:IOp):zaa:=⟨some (.V n),o,some (.E g,b)⟩
abbrev fV (n i k:Nat):zaa:=⟨some (.E n),.faddr i (.V k),none⟩
abbrev fE (n i k:Nat):zaa:=⟨some (.E n),.faddr i (.E k),none⟩
abbrev lE (n k:Nat):zaa:=⟨some (.E n),.load false 1 (.E k),none⟩
abbrev tV (n i k:Nat):zaa:=⟨some (.E n),.load true i (.V k),none⟩
abbrev tE (n i k:Nat):zaa:=⟨some (.E n),.load true i (.E k),none⟩
abbrev iE (n i a b:Nat):zaa:=⟨some (.E n),.iaddr i (.E a) (.E b),none⟩
abbrev nE (n k:Nat):zaa:=⟨some (.E n),.len (.E k),none⟩
abbrev bE (n:Nat) (o:BinOp) (a b:Nat):zaa:=⟨some (.E n),.bin o (.E a) (.E b),none⟩
abbrev wE (n k:Nat):zaa:=⟨some (.E n),.mv (.E k),none⟩
def zl0:Nat:=6
def zh4:Nat:=19
def zgw:Nat:=21
def zjo:Nat:=25
def zjp:Nat:=26
def zjq:Nat:=27
def zjr:Nat:=28
def zjs:Nat:=29
def zjt:Nat:=30
def zju:Nat:=31
def zjv:Nat:=32
def zjw:Nat:=33
def zh5:Nat:=34
def zjx:Nat:=35
def zh6:Nat:=45
def zjy:Nat:=46
def zh7:Nat:=48
def zjz:Nat:=49
def zh8:Nat:=50
def zh9:Nat:=51
def zj0:Nat:=52
def zj1:Nat:=53
def zj2:Nat:=54
def zj3:Nat:=55
def ze0:Nat:=56
def zj4:Nat:=57
def zgx:Nat:=58
def zbd:Nat:=59
def zj5:Nat:=60
def zj6:Nat:=61
def zj7:Nat:=62
def zdf:Nat:=63
def zj8:Nat:=64
def zj9:Nat:=65
def zka:Nat:=66
def zcr:Nat:=67
def zkb:Nat:=68
def zgc:Nat:=69
def zia:Nat:=70
def zib:Nat:=71
def zkc:Nat:=73
def zkd:Nat:=75
def zke:Nat:=76
def zkf:Nat:=77
def zdg:Nat:=78
def zkg:Nat:=79
def zkh:Nat:=80
def zki:Nat:=81
def zic:Nat:=82
def zkj:Nat:=83
def zkk:Nat:=84
def zid:Nat:=85
def zkl:Nat:=86
def zfj:Nat:=87
def zkm:Nat:=88
def zkn:Nat:=89
def zko:Nat:=90
def zie:Nat:=91
def zhp:Nat:=92
def zkp:Nat:=93
def zif:Nat:=94
def zkq:Nat:=95
def zkr:Nat:=96
def zks:Nat:=97
def zkt:Nat:=98
def zku:Nat:=99
def zkv:Nat:=100
def zig:Nat:=101
def zkw:Nat:=102
def zkx:Nat:=103
def zky:Nat:=104
def zkz:Nat:=105
def zk0:Nat:=106
def zih:Nat:=107
def zk1:Nat:=110
def zk2:Nat:=111
def z4n:List Nat:=[0,3,4,6,8,5,7,10,2]
def zii:IC := .seq (.reg [oV 2 (.mv (kb false))]) (.seq (.seq (.reg [mV 11 0,oE 12 (.call zjo [([1],(.E 11))])]) (.cond (.E 12) (.seq (.reg [oV 2 (.mv (kb true))]) .ret) .skip)) (.seq (.reg [mV 14 0,oE 15 (.call zjp [([1],(.E 14))]),wE 13 15,xE 16 0 13,xE 17 1 13,oV 3 (.alloc [.e0]),oV 4 (.alloc [iv 0,iv 0,iv 0,iv 0,iv 0,iv 0,iv 0,.e0]),oN (.store [5] (.V 3) (.E 16)),oN (.store [0,0,0,0,0,0,0,1] (.V 4) (.E 17))]) (.seq (.reg [tV 19 1 3,tV 20 8 4,oE 21 (.call zjq [([5],(.E 19)),([0,0,0,0,0,0,0,1],(.E 20))]),wE 18 21,xE 22 0 18,xE 23 1 18,oV 5 (.alloc [.e0]),oN (.store [5] (.V 5) (.E 22)),vE 6 23]) (.seq (.reg [tV 25 1 3,tV 26 8 4,oE 27 (.call zjr [([5],(.E 25)),([0,0,0,0,0,0,0,1],(.E 26))]),wE 24 27,xE 28 0 24,xE 29 1 24,oV 7 (.alloc [.e0]),oN (.store [5] (.V 7) (.E 28)),vE 8 29]) (.seq (.seq (.regD [(mV 30 6,0,0),(mV 31 8,0,0),(oE 32 (.eqb true [.b] (.E 30) (.E 31)),0,0),(wE 33 32,0,0),(gE 34 33 .false (.load true 1 (.V 5)),0,0),(gE 35 33 .false (.load true 1 (.V 7)),0,0),(gE 36 33 .false (.call zjs [([5],(.E 34)),([5],(.E 35))]),0,0),(gE 37 33 .false (.un .not (.E 36)),0,0),(oE 38 (.pick (.E 33) (kb true) (.E 37)),0,0),(wE 39 38,0,0),(gE 40 39 .false (.load true 1 (.V 3)),0,0),(gE 41 39 .false (.call zgw [([5],(.E 40))]),0,0),(gE 42 39 .false (.load true 1 (.V 3)),1,0),(gE 43 39 .false (.call zh4 [([5],(.E 42))]),0,0),(gE 44 39 .false (.call zjt [([1],(.E 41)),([1],(.E 43))]),0,0),(gE 45 39 .false (.un .not (.E 44)),0,0),(oE 46 (.pick (.E 39) (kb true) (.E 45)),0,0)]) (.cond (.E 46) (.seq (.reg [oV 2 (.mv (kb false))]) .ret) .skip)) (.seq (.reg [mV 48 0,oE 49 (.call zju [([1],(.E 48))]),wE 47 49,xE 50 0 47,xE 51 1 47,oE 9 (.alloc [.e0]),oN (.store [5] (.E 9) (.E 50)),vE 10 51]) (.seq (.seq (.reg [mV 52 6,oE 53 (.un .not (.E 52))]) (.cond (.E 53) (.seq (.reg [fV 54 0 5,lE 55 54,nE 56 55,oE 57 (.bin .eql (.E 56) (ki 0)),vE 2 57]) .ret) .skip)) (.seq (.regD [(tV 58 1 5,0,0),(mV 59 10,0,0),(oE 60 (.call zjv [([5],(.E 58)),([1],(.E 59))]),0,0),(tV 61 1 3,1,0),(mV 62 10,0,0),(oE 63 (.call zjw [([5],(.E 61)),([1],(.E 62))]),0,0),(bE 64 .eql 60 63,0,0),(wE 65 64,0,0),(gE 66 65 .true (.load true 1 (.V 5)),0,0),(gE 67 65 .true (.call zgw [([5],(.E 66))]),0,0),(gE 68 65 .true (.len (.E 67)),0,1),(gE 69 65 .true (.load true 1 (.V 3)),1,0),(gE 70 65 .true (.call zgw [([5],(.E 69))]),0,0),(gE 71 65 .true (.len (.E 70)),0,0),(gE 72 65 .true (.bin .leq (.E 68) (.E 71)),0,0),(oE 73 (.pick (.E 65) (.E 72) (kb false)),0,0),(wE 74 73,0,0),(gE 75 74 .true (.load true 1 (.V 3)),0,0),(gE 76 74 .true (.call zh5 [([5],(.E 75)),([0],(ki 3))]),0,0),(gE 77 74 .true (.un .not (.E 76)),0,0),(gE 78 74 .true (.mv (.E 77)),0,0),(gE 79 78 .false (.load true 1 (.V 5)),0,0),(gE 80 78 .false (.call zjx [([5],(.E 79)),([0],(ki 3))]),0,0),(gE 81 74 .true (.pick (.E 78) (kb true) (.E 80)),0,0),(oE 82 (.pick (.E 74) (.E 81) (kb false)),0,0),(vE 2 82,0,0)]) .ret))))))))
def zij:List RV:=[.tmp [0] 2]
def z4o:List Nat:=[0,1,5,4,3,2]
def zsh:IC := .seq (.seq (.reg [mV 9 5,mV 10 4,nE 11 10,bE 12 .lss 9 11]) (.cond (.E 12) .skip (.exit 0))) (.seq (.block 1 (.regD [(mV 15 3,0,0),(fV 16 0 1,0,0),(lE 17 16,0,0),(mV 18 4,0,0),(mV 19 5,0,0),(iE 20 1 18 19,0,0),(lE 21 20,0,0),(iE 22 5 17 21,0,0),(fE 23 4 22,0,0),(lE 24 23,0,0),(oE 25 (.bslice 1 1 [iv 0] [(0,(.E 24))]),0,0),(oE 26 (.app 8 1 (.E 15) (.E 25)),0,0),(vE 3 26,0,0)])) (.reg [mV 13 5,oE 14 (.bin .add (.E 13) (ki 1)),vE 5 14]))
def znh:IC := .seq (.reg [oV 1 (.box (.V 0)),oV 2 (.mv (.C .e0))]) (.seq (.reg [oE 6 (.bslice 0 1 [iv 0] []),vE 3 6]) (.seq (.reg [tV 7 1 1,oE 8 (.call zh6 [([5],(.E 7))]),vE 4 8]) (.seq (.seq (.reg [oV 5 (.mv (ki 0))]) (.block 0 (.loop zsh))) (.seq (.reg [mV 27 3,oE 28 (.call zjy [([1],(.E 27))]),vE 2 28]) .ret))))
def zni:List RV:=[.tmp [1] 2]
def z4p:List Nat:=[0,1,10,9,8,3,5,2]
def zsi:IC := .seq (.reg [oE 11 (.bin .lss (.V 10) (.V 9))]) (.seq (.cond (.E 11) .skip (.exit 0)) (.seq (.block 1 (.seq (.reg [oE 12 (.iaddr 1 (.V 8) (.V 10)),lE 13 12,vE 5 13]) (.reg [mV 14 3,fV 15 0 1,lE 16 15,mV 17 5,iE 18 5 16 17,fE 19 4 18,lE 20 19,oE 21 (.bslice 1 1 [iv 0] [(0,(.E 20))]),oE 22 (.app 8 1 (.E 14) (.E 21)),vE 3 22]))) (.reg [oE 23 (.bin .add (.V 10) (ki 1)),vE 10 23])))
def znj:IC := .seq (.reg [oV 1 (.box (.V 0)),oV 2 (.mv (.C .e0))]) (.seq (.reg [oE 6 (.bslice 0 1 [iv 0] []),vE 3 6]) (.seq (.seq (.reg [tV 7 1 1,oV 8 (.call zh7 [([5],(.E 7))]),oV 9 (.len (.V 8)),oV 10 (.mv (ki 0))]) (.block 0 (.loop zsi))) (.seq (.reg [mV 24 3,oE 25 (.call zjz [([1],(.E 24))]),vE 2 25]) .ret)))
def znk:List RV:=[.tmp [1] 2]
def z4q:List Nat:=[0,2]
def znl:IC := .seq (.reg [oV 2 (.mv (kb false))]) (.seq (.reg [mV 3 0,nE 4 3,oE 5 (.bin .gtr (.E 4) (ki 1048576)),vE 2 5]) .ret)
def znm:List RV:=[.tmp [0] 2]
def z4r:List Nat:=[0,4,2,3]
def znn:IC := .seq (.reg [oV 2 (.alloc [.e0]),oV 3 (.alloc [iv 0,iv 0,iv 0,iv 0,iv 0,iv 0,iv 0,.e0])]) (.seq (.reg [mV 5 0,oE 6 (.call zh8 [([1],(.E 5))]),vE 4 6]) (.seq (.reg [mV 7 4,oE 8 (.call zh9 [([0],(.E 7))]),mV 9 4,oE 10 (.call zj0 [([0],(.E 9))]),oN (.store [5] (.V 2) (.E 8)),oN (.store [0,0,0,0,0,0,0,1] (.V 3) (.E 10))]) .ret))
def zno:List RV:=[.cell [5] 2 true,.cell [0,0,0,0,0,0,0,1] 3 true]
def z4s:List Nat:=[0,1,2,16,15,14,8,3,10,4,6,9,5]
def znp:IC := .seq (.reg [oE 17 (.bin .lss (.V 16) (.V 15))]) (.seq (.cond (.E 17) .skip (.exit 0)) (.seq (.block 1 (.seq (.reg [oE 18 (.iaddr 1 (.V 14) (.V 16)),lE 19 18,vE 8 19]) (.seq (.regD [(fV 21 0 2,0,0),(lE 22 21,0,0),(mV 23 8,0,0),(iE 24 5 22 23,0,0),(fE 25 4 24,0,0),(lE 26 25,0,0),(tV 27 8 3,0,0),(oE 28 (.call zj2 [([0],(.E 26)),([0,0,0,0,0,0,0,1],(.E 27))]),0,0),(wE 20 28,0,0),(xE 29 0 20,0,0),(xE 30 1 20,0,0),(vE 9 29,0,0),(vE 10 30,0,0)]) (.seq (.seq (.reg [mV 31 10,oE 32 (.un .not (.E 31))]) (.cond (.E 32) (.seq (.reg [oE 33 (.build [.e0] []),oN (.store [5] (.V 4) (.E 33)),oV 5 (.mv (kb false))]) .ret) .skip)) (.reg [fV 34 0 6,lE 35 34,mV 36 8,mV 37 9,iE 38 5 35 36,fE 39 4 38,oN (.store [0] (.E 39) (.E 37))]))))) (.reg [oE 40 (.bin .add (.V 16) (ki 1)),vE 16 40])))
def znq:IC := .seq (.reg [oV 2 (.box (.V 0)),oV 3 (.box (.V 1)),oV 4 (.alloc [.e0]),oV 5 (.mv (kb false))]) (.seq (.reg [tV 11 1 2,oE 12 (.call zj1 [([5],(.E 11))]),oV 6 (.alloc [.e0]),oN (.store [5] (.V 6) (.E 12))]) (.seq (.seq (.reg [tV 13 1 2,oV 14 (.call zh7 [([5],(.E 13))]),oV 15 (.len (.V 14)),oV 16 (.mv (ki 0))]) (.block 0 (.loop znp))) (.seq (.reg [tV 41 1 6,oN (.store [5] (.V 4) (.E 41)),oV 5 (.mv (kb true))]) .ret)))
def znr:List RV:=[.cell [5] 4 true,.tmp [0] 5]
def z4t:List Nat:=[0,1,2,7,3,9,4,6,8,5]
def zl1:IC := .seq (.seq (.reg [mV 12 7,fV 13 0 2,lE 14 13,nE 15 14,bE 16 .lss 12 15]) (.cond (.E 16) .skip (.exit 0))) (.seq (.block 1 (.seq (.seq (.reg [fV 19 0 2,lE 20 19,mV 21 7,iE 22 5 20 21,tE 23 5 22,oE 24 (.call ze0 [([0,0,0,0,0],(.E 23))])]) (.cond (.E 24) (.exit 1) .skip)) (.seq (.regD [(fV 26 0 2,0,0),(lE 27 26,0,0),(mV 28 7,0,0),(iE 29 5 27 28,0,0),(fE 30 4 29,0,0),(lE 31 30,0,0),(tV 32 8 3,0,0),(oE 33 (.call zj4 [([0],(.E 31)),([0,0,0,0,0,0,0,1],(.E 32))]),0,0),(wE 25 33,0,0),(xE 34 0 25,0,0),(xE 35 1 25,0,0),(vE 8 34,0,0),(vE 9 35,0,0)]) (.seq (.seq (.reg [mV 36 9,oE 37 (.un .not (.E 36))]) (.cond (.E 37) (.seq (.reg [oE 38 (.build [.e0] []),oN (.store [5] (.V 4) (.E 38)),oV 5 (.mv (kb false))]) .ret) .skip)) (.reg [fV 39 0 6,lE 40 39,mV 41 7,mV 42 8,iE 43 5 40 41,fE 44 4 43,oN (.store [0] (.E 44) (.E 42))]))))) (.reg [mV 17 7,oE 18 (.bin .add (.E 17) (ki 1)),vE 7 18]))
def zns:IC := .seq (.reg [oV 2 (.box (.V 0)),oV 3 (.box (.V 1)),oV 4 (.alloc [.e0]),oV 5 (.mv (kb false))]) (.seq (.reg [tV 10 1 2,oE 11 (.call zj3 [([5],(.E 10))]),oV 6 (.alloc [.e0]),oN (.store [5] (.V 6) (.E 11))]) (.seq (.seq (.reg [oV 7 (.mv (ki 0))]) (.block 0 (.loop zl1))) (.seq (.reg [tV 45 1 6,oN (.store [5] (.V 4) (.E 45)),oV 5 (.mv (kb true))]) .ret)))
def znt:List RV:=[.cell [5] 4 true,.tmp [0] 5]
def z4u:List Nat:=[0,1,2,3,5,4]
def zvc:IC := .seq (.seq (.reg [mV 13 5,fV 14 0 2,lE 15 14,nE 16 15,bE 17 .lss 13 16]) (.cond (.E 17) .skip (.exit 0))) (.seq (.block 1 (.seq (.regD [(fV 20 0 2,0,0),(lE 21 20,0,0),(mV 22 5,0,0),(iE 23 5 21 22,0,0),(tE 24 5 23,0,0),(fV 25 0 3,0,0),(lE 26 25,0,0),(mV 27 5,0,0),(iE 28 5 26 27,0,0),(tE 29 5 28,0,0),(oE 30 (.eqb true [.i .i64,.i .i64,.i .i64,.i .i64,.i .i64] (.E 24) (.E 29)),0,0)]) (.cond (.E 30) (.seq (.reg [oV 4 (.mv (kb false))]) .ret) .skip))) (.reg [mV 18 5,oE 19 (.bin .add (.E 18) (ki 1)),vE 5 19]))
def zl2:IC := .seq (.reg [oV 2 (.box (.V 0)),oV 3 (.box (.V 1)),oV 4 (.mv (kb false))]) (.seq (.seq (.reg [fV 6 0 2,lE 7 6,nE 8 7,fV 9 0 3,lE 10 9,nE 11 10,bE 12 .neq 8 11]) (.cond (.E 12) (.seq (.reg [oV 4 (.mv (kb false))]) .ret) .skip)) (.seq (.seq (.reg [oV 5 (.mv (ki 0))]) (.block 0 (.loop zvc))) (.seq (.reg [oV 4 (.mv (kb true))]) .ret)))
def zl3:List RV:=[.tmp [0] 4]
def z4v:List Nat:=[0,1,5,4]
def zvd:IC := .seq (.seq (.reg [mV 11 5,mV 12 0,nE 13 12,bE 14 .lss 11 13]) (.cond (.E 14) .skip (.exit 0))) (.seq (.block 1 (.seq (.regD [(mV 17 0,0,0),(mV 18 5,0,0),(iE 19 1 17 18,0,0),(lE 20 19,0,0),(mV 21 1,0,0),(mV 22 5,0,0),(iE 23 1 21 22,0,0),(lE 24 23,0,0),(bE 25 .neq 20 24,0,0)]) (.cond (.E 25) (.seq (.reg [oV 4 (.mv (kb false))]) .ret) .skip))) (.reg [mV 15 5,oE 16 (.bin .add (.E 15) (ki 1)),vE 5 16]))
def znu:IC := .seq (.reg [oV 4 (.mv (kb false))]) (.seq (.seq (.reg [mV 6 0,nE 7 6,mV 8 1,nE 9 8,bE 10 .neq 7 9]) (.cond (.E 10) (.seq (.reg [oV 4 (.mv (kb false))]) .ret) .skip)) (.seq (.seq (.reg [oV 5 (.mv (ki 0))]) (.block 0 (.loop zvd))) (.seq (.reg [oV 4 (.mv (kb true))]) .ret)))
def znv:List RV:=[.tmp [0] 4]
def z4w:List Nat:=[0,4,5,6,2,3]
def zl4:IC := .seq (.reg [oV 2 (.alloc [.e0]),oV 3 (.mv (.C .e0))]) (.seq (.reg [mV 7 0,oE 8 (.call zh8 [([1],(.E 7))]),vE 4 8]) (.seq (.reg [mV 9 4,oE 10 (.call zh9 [([0],(.E 9))]),oV 5 (.alloc [.e0]),oN (.store [5] (.V 5) (.E 10))]) (.seq (.reg [oV 6 (.mv (ki 3))]) (.seq (.seq (.reg [mV 11 4,oE 12 (.call zgx [([0],(.E 11)),([0],(ki 8))])]) (.cond (.E 12) (.reg [mV 13 4,oE 14 (.call zbd [([0],(.E 13)),([0],(ki 4))]),vE 6 14]) .skip)) (.seq (.regD [(tV 15 1 5,0,1),(mV 16 4,0,0),(mV 17 6,0,0),(oE 18 (.call zj5 [([0],(.E 16)),([0],(.E 17))]),0,0),(oN (.store [5] (.V 2) (.E 15)),0,0),(vE 3 18,0,0)]) .ret)))))
def zl5:List RV:=[.cell [5] 2 true,.tmp [1] 3]
def z4x:List Nat:=[0,1,2,5,4]
def znw:IC := .seq (.reg [oV 2 (.box (.V 0)),oV 4 (.mv (ki 0))]) (.seq (.reg [tV 6 1 2,mV 7 1,oE 8 (.call zj6 [([5],(.E 6)),([1],(.E 7))]),vE 5 8]) (.seq (.seq (.reg [mV 9 5,nE 10 9,oE 11 (.bin .eql (.E 10) (ki 0))]) (.cond (.E 11) (.seq (.reg [oV 4 (.mv (ki (-1)))]) .ret) .skip)) (.seq (.reg [mV 12 5,mV 13 5,nE 14 13,oE 15 (.bin .sub (.E 14) (ki 1)),iE 16 1 12 15,lE 17 16,vE 4 17]) .ret)))
def znx:List RV:=[.tmp [0] 4]
def z4y:List Nat:=[0,1,2,5,4]
def zny:IC := .seq (.reg [oV 2 (.box (.V 0)),oV 4 (.mv (ki 0))]) (.seq (.reg [tV 6 1 2,mV 7 1,oE 8 (.call zj7 [([5],(.E 6)),([1],(.E 7))]),vE 5 8]) (.seq (.seq (.reg [mV 9 5,nE 10 9,oE 11 (.bin .eql (.E 10) (ki 0))]) (.cond (.E 11) (.seq (.reg [oV 4 (.mv (ki (-1)))]) .ret) .skip)) (.seq (.reg [mV 12 5,mV 13 5,nE 14 13,oE 15 (.bin .sub (.E 14) (ki 1)),iE 16 1 12 15,lE 17 16,vE 4 17]) .ret)))
def znz:List RV:=[.tmp [0] 4]
def z4z:List Nat:=[0,1,2,4]
def zgy:IC := .seq (.reg [oV 2 (.box (.V 0)),oV 4 (.mv (kb false))]) (.seq (.reg [fV 5 0 2,lE 6 5,nE 7 6,oE 8 (.call zdf [([0],(.E 7)),([0],(ki 1)),([0],(ki 31))]),wE 9 8,gE 10 9 .true (.mv (.V 1)),gE 11 9 .true (.call zdf [([0],(.E 10)),([0],(ki 0)),([0],(ki 4))]),oE 12 (.pick (.E 9) (.E 11) (kb false)),wE 13 12,gE 14 13 .true (.load true 1 (.V 2)),gE 15 13 .true (.mv (.V 1)),gE 16 13 .true (.call zj8 [([5],(.E 14)),([0],(.E 15))]),oE 17 (.pick (.E 13) (.E 16) (kb false)),wE 18 17,gE 19 18 .true (.load true 1 (.V 2)),gE 20 18 .true (.call zj9 [([5],(.E 19))]),gE 21 18 .true (.bin .leq (.E 20) (ki 4)),oE 22 (.pick (.E 18) (.E 21) (kb false)),wE 23 22,gE 24 23 .true (.load true 1 (.V 2)),gE 25 23 .true (.call zka [([5],(.E 24))]),oE 26 (.pick (.E 23) (.E 25) (kb false)),vE 4 26]) .ret)
def zgz:List RV:=[.tmp [0] 4]
def z40:List Nat:=[0,1,2,30,29,28,6,5,7,50,49,48,9,10,8,4]
def zve:IC := .seq (.reg [oE 51 (.bin .lss (.V 50) (.V 49))]) (.seq (.cond (.E 51) .skip (.exit 2)) (.seq (.block 3 (.seq (.reg [mV 52 50,oE 53 (.iaddr 1 (.V 48) (.V 50)),lE 54 53,vE 8 52,vE 9 54]) (.seq (.reg [fV 55 0 2,lE 56 55,mV 57 9,iE 58 5 56 57,tE 59 5 58,oV 10 (.alloc [iv 0,iv 0,iv 0,iv 0,iv 0]),oN (.store [0,0,0,0,0] (.V 10) (.E 59))]) (.seq (.seq (.reg [fV 60 0 10,lE 61 60,fV 62 0 6,lE 63 62,bE 64 .neq 61 63]) (.cond (.E 64) (.exit 3) .skip)) (.seq (.regD [(mV 65 7,0,0),(mV 66 8,0,0),(oE 67 (.bin .add (.E 66) (ki 1)),0,0),(iE 68 1 65 67,0,0),(lE 69 68,0,0),(fV 70 2 10,0,0),(lE 71 70,0,0),(bE 72 .eql 69 71,0,0),(wE 73 72,0,0),(gE 74 73 .true (.faddr 1 (.V 10)),0,0),(gE 75 73 .true (.load false 1 (.E 74)),0,0),(gE 76 73 .true (.faddr 1 (.V 6)),0,0),(gE 77 73 .true (.load false 1 (.E 76)),0,0),(gE 78 73 .true (.bin .leq (.E 75) (.E 77)),0,0),(oE 79 (.pick (.E 73) (.E 78) (kb false)),0,0),(wE 80 79,0,0),(gE 81 80 .false (.mv (.V 7)),0,0),(gE 82 80 .false (.mv (.V 8)),0,0),(gE 83 80 .false (.bin .add (.E 82) (ki 1)),0,0),(gE 84 80 .false (.iaddr 1 (.E 81) (.E 83)),0,0),(gE 85 80 .false (.load false 1 (.E 84)),0,0),(gE 86 80 .false (.faddr 3 (.V 10)),0,0),(gE 87 80 .false (.load false 1 (.E 86)),0,0),(gE 88 80 .false (.bin .eql (.E 85) (.E 87)),0,0),(gE 89 80 .false (.mv (.E 88)),0,0),(gE 90 89 .true (.faddr 1 (.V 10)),0,0),(gE 91 89 .true (.load false 1 (.E 90)),0,0),(gE 92 89 .true (.faddr 1 (.V 6)),0,0),(gE 93 89 .true (.load false 1 (.E 92)),0,0),(gE 94 89 .true (.bin .geq (.E 91) (.E 93)),0,0),(gE 95 80 .false (.pick (.E 89) (.E 94) (kb false)),0,0),(oE 96 (.pick (.E 80) (kb true) (.E 95)),0,0)]) (.cond (.E 96) (.seq (.reg [oV 4 (.mv (kb false))]) .ret) .skip)))))) (.reg [oE 97 (.bin .add (.V 50) (ki 1)),vE 50 97])))
def zvf:IC := .seq (.reg [oE 31 (.bin .lss (.V 30) (.V 29))]) (.seq (.cond (.E 31) .skip (.exit 0)) (.seq (.block 1 (.seq (.reg [mV 32 30,oE 33 (.iaddr 5 (.V 28) (.V 30)),tE 34 5 33,oV 6 (.alloc [iv 0,iv 0,iv 0,iv 0,iv 0]),vE 5 32,oN (.store [0,0,0,0,0] (.V 6) (.E 34))]) (.seq (.seq (.reg [tV 35 5 6,oE 36 (.call zgc [([0,0,0,0,0],(.E 35))])]) (.cond (.E 36) (.seq (.seq (.reg [tV 37 1 2,mV 38 5,oE 39 (.call zia [([5],(.E 37)),([0],(.E 38))]),oE 40 (.bin .gtr (.E 39) (ki 4))]) (.cond (.E 40) (.seq (.reg [oV 4 (.mv (kb false))]) .ret) .skip)) (.exit 1)) .skip)) (.seq (.reg [tV 41 1 2,mV 42 5,oE 43 (.call zib [([5],(.E 41)),([0],(.E 42))]),vE 7 43]) (.seq (.reg [mV 44 7,mV 45 7,nE 46 45,oE 47 (.bin .sub (.E 46) (ki 1)),oV 48 (.slice 1 (.E 44) none (some (.E 47)) none),oV 49 (.len (.V 48)),oV 50 (.mv (ki 0))]) (.block 2 (.loop zve))))))) (.reg [oE 98 (.bin .add (.V 30) (ki 1)),vE 30 98])))
def zik:IC := .seq (.reg [oV 2 (.box (.V 0)),oV 4 (.mv (kb false))]) (.seq (.seq (.reg [mV 11 1,oE 12 (.call zcr [([0],(.E 11)),([0],(ki 0)),([0],(ki 4))]),oE 13 (.un .not (.E 12)),wE 14 13,gE 15 14 .false (.faddr 0 (.V 2)),gE 16 14 .false (.load false 1 (.E 15)),gE 17 14 .false (.len (.E 16)),gE 18 14 .false (.call zcr [([0],(.E 17)),([0],(ki 1)),([0],(ki 31))]),gE 19 14 .false (.un .not (.E 18)),oE 20 (.pick (.E 14) (kb true) (.E 19)),wE 21 20,gE 22 21 .false (.load true 1 (.V 2)),gE 23 21 .false (.mv (.V 1)),gE 24 21 .false (.call zkb [([5],(.E 22)),([0],(.E 23))]),gE 25 21 .false (.un .not (.E 24)),oE 26 (.pick (.E 21) (kb true) (.E 25))]) (.cond (.E 26) (.seq (.reg [oV 4 (.mv (kb false))]) .ret) .skip)) (.seq (.seq (.reg [fV 27 0 2,oV 28 (.load false 1 (.E 27)),oV 29 (.len (.V 28)),oV 30 (.mv (ki 0))]) (.block 0 (.loop zvf))) (.seq (.reg [oV 4 (.mv (kb true))]) .ret)))
def zil:List RV:=[.tmp [0] 4]
def z41:List Nat:=[0,4,1,3,2]
def zvg:IC := .seq (.seq (.reg [mV 6 4,fV 7 0 1,lE 8 7,nE 9 8,bE 10 .lss 6 9]) (.cond (.E 10) .skip (.exit 0))) (.seq (.block 1 (.seq (.reg [fV 13 0 1,lE 14 13,mV 15 4,iE 16 5 14 15,tE 17 5 16,oE 18 (.call ze0 [([0,0,0,0,0],(.E 17))]),oE 19 (.un .not (.E 18))]) (.cond (.E 19) (.reg [mV 20 3,mV 21 4,oE 22 (.bslice 1 1 [iv 0] [(0,(.E 21))]),oE 23 (.app 8 1 (.E 20) (.E 22)),vE 3 23]) .skip))) (.reg [mV 11 4,oE 12 (.bin .add (.E 11) (ki 1)),vE 4 12]))
def zn0:IC := .seq (.reg [oV 1 (.box (.V 0)),oV 2 (.mv (.C .e0))]) (.seq (.reg [oE 5 (.bslice 0 1 [iv 0] []),vE 3 5]) (.seq (.seq (.reg [oV 4 (.mv (ki 0))]) (.block 0 (.loop zvg))) (.seq (.reg [mV 24 3,vE 2 24]) .ret)))
def zn1:List RV:=[.tmp [1] 2]
def z42:List Nat:=[0,5,4,3,2]
def zl6:IC := .seq (.seq (.reg [mV 9 5,mV 10 4,nE 11 10,bE 12 .lss 9 11]) (.cond (.E 12) .skip (.exit 0))) (.seq (.block 1 (.seq (.regD [(mV 15 5,0,0),(oE 16 (.bin .eql (.E 15) (ki 0)),0,0),(wE 17 16,0,0),(gE 18 17 .false (.mv (.V 4)),0,0),(gE 19 17 .false (.mv (.V 5)),0,0),(gE 20 17 .false (.iaddr 1 (.E 18) (.E 19)),0,0),(gE 21 17 .false (.load false 1 (.E 20)),0,0),(gE 22 17 .false (.mv (.V 4)),0,0),(gE 23 17 .false (.mv (.V 5)),0,0),(gE 24 17 .false (.bin .sub (.E 23) (ki 1)),0,0),(gE 25 17 .false (.iaddr 1 (.E 22) (.E 24)),0,0),(gE 26 17 .false (.load false 1 (.E 25)),0,0),(gE 27 17 .false (.bin .neq (.E 21) (.E 26)),0,0),(oE 28 (.pick (.E 17) (kb true) (.E 27)),0,0)]) (.cond (.E 28) (.reg [mV 29 3,mV 30 4,mV 31 5,iE 32 1 30 31,lE 33 32,oE 34 (.bslice 1 1 [iv 0] [(0,(.E 33))]),oE 35 (.app 8 1 (.E 29) (.E 34)),vE 3 35]) .skip))) (.reg [mV 13 5,oE 14 (.bin .add (.E 13) (ki 1)),vE 5 14]))
def zn2:IC := .seq (.reg [oV 2 (.mv (.C .e0))]) (.seq (.reg [oE 6 (.bslice 0 1 [iv 0] []),vE 3 6]) (.seq (.reg [mV 7 0,oE 8 (.call zkc [([1],(.E 7))]),vE 4 8]) (.seq (.seq (.reg [oV 5 (.mv (ki 0))]) (.block 0 (.loop zl6))) (.seq (.reg [mV 36 3,vE 2 36]) .ret))))
def zn3:List RV:=[.tmp [1] 2]
def z43:List Nat:=[0,1,10,9,8,5,3,4,2]
def zvh:IC := .seq (.reg [oE 11 (.bin .lss (.V 10) (.V 9))]) (.seq (.cond (.E 11) .skip (.exit 0)) (.seq (.block 1 (.seq (.reg [mV 12 10,oE 13 (.iaddr 5 (.V 8) (.V 10)),tE 14 5 13,oV 5 (.alloc [iv 0,iv 0,iv 0,iv 0,iv 0]),vE 4 12,oN (.store [0,0,0,0,0] (.V 5) (.E 14))]) (.seq (.reg [tV 15 5 5,oE 16 (.call zgc [([0,0,0,0,0],(.E 15))])]) (.cond (.E 16) (.reg [mV 17 3,mV 18 4,oE 19 (.bslice 1 1 [iv 0] [(0,(.E 18))]),oE 20 (.app 8 1 (.E 17) (.E 19)),vE 3 20]) .skip)))) (.reg [oE 21 (.bin .add (.V 10) (ki 1)),vE 10 21])))
def zn4:IC := .seq (.reg [oV 1 (.box (.V 0)),oV 2 (.mv (.C .e0))]) (.seq (.reg [oE 6 (.bslice 0 1 [iv 0] []),vE 3 6]) (.seq (.seq (.reg [fV 7 0 1,oV 8 (.load false 1 (.E 7)),oV 9 (.len (.V 8)),oV 10 (.mv (ki 0))]) (.block 0 (.loop zvh))) (.seq (.reg [mV 22 3,vE 2 22]) .ret)))
def zn5:List RV:=[.tmp [1] 2]
def z44:List Nat:=[0,2]
def zn6:IC := .seq (.reg [oV 2 (.mv (.C .e0))]) (.seq (.reg [mV 3 0,oE 4 (.call zke [([1],(.E 3))]),oE 5 (.call zkd [([1],(.E 4))]),vE 2 5]) .ret)
def zn7:List RV:=[.tmp [1] 2]
def z45:List Nat:=[0,4,3,2]
def zn8:IC := .seq (.seq (.reg [mV 8 4,mV 9 0,nE 10 9,bE 11 .lss 8 10,wE 12 11,gE 13 12 .true (.mv (.V 4)),gE 14 12 .true (.bin .lss (.E 13) (ki 4000)),oE 15 (.pick (.E 12) (.E 14) (kb false))]) (.cond (.E 15) .skip (.exit 0))) (.seq (.block 1 (.reg [mV 18 3,oE 19 (.bin .mul (.E 18) (ki 131)),mV 20 0,mV 21 4,iE 22 1 20 21,lE 23 22,oE 24 (.convI .i64 (.E 23)),bE 25 .add 19 24,oE 26 (.bin .add (.E 25) (ki 7)),oE 27 (.bin .and (.E 26) (ki 1073741823)),vE 3 27])) (.reg [mV 16 4,oE 17 (.bin .add (.E 16) (ki 1)),vE 4 17]))
def zn9:IC := .seq (.reg [oV 2 (.mv (.C (.v (.pointer none))))]) (.seq (.reg [mV 5 0,nE 6 5,oE 7 (.bin .add (ki 28507) (.E 6)),vE 3 7]) (.seq (.seq (.reg [oV 4 (.mv (ki 0))]) (.block 0 (.loop zn8))) (.seq (.reg [mV 28 0,mV 29 3,oE 30 (.build [.e0,iv 0,iv 0] [(0,1,(.E 28)),(2,1,(.E 29))]),oE 31 (.box (.E 30)),vE 2 31]) .ret)))
def zoa:List RV:=[.tmp [0] 2]
def z47:List Nat:=[0,3,16,4,2]
def zfk:IC := .seq (.reg [oV 2 (.alloc [.e0])]) (.seq (.reg [mV 5 0,mV 6 0,oE 7 (.call zbd [([0],(.E 6)),([0],(ki 3))]),oE 8 (.bin .add (ki 1) (.E 7)),oE 9 (.call zkf [([0],(.E 5)),([0],(.E 8))]),oV 3 (.alloc [.e0]),oN (.store [5] (.V 3) (.E 9))]) (.seq (.reg [mV 10 0,fV 11 0 3,lE 12 11,nE 13 12,oE 14 (.call zbd [([0],(.E 10)),([0],(.E 13))]),vE 4 14]) (.seq (.seq (.reg [mV 15 0,oV 16 (.call zbd [([0],(.E 15)),([0],(ki 14))])]) (.block 0 (.seq (.reg [oE 18 (.bin .eql (.V 16) (ki 0)),wE 17 18]) (.cond (.E 17) (.regD [(fV 19 0 3,0,2),(lE 20 19,0,2),(mV 21 4,0,0),(mV 22 0,0,0),(oE 23 (.bslice 6 1 [iv 0] [(0,(ki (-1))),(1,(ki 0)),(2,(ki 1)),(3,(ki 4)),(4,(ki (-2))),(5,(ki 9223372036854775807))]),0,0),(oE 24 (.call zdg [([0],(.E 22)),([1],(.E 23))]),0,0),(iE 25 5 20 21,0,0),(fE 26 0 25,0,0),(oN (.store [0] (.E 26) (.E 24)),0,0)]) (.seq (.reg [oE 28 (.bin .eql (.V 16) (ki 1)),wE 27 28]) (.cond (.E 27) (.regD [(fV 29 0 3,0,2),(lE 30 29,0,2),(mV 31 4,0,0),(mV 32 0,0,0),(oE 33 (.bslice 5 1 [iv 0] [(0,(ki 0)),(1,(ki 1)),(2,(ki 2147483648)),(3,(ki (-2147483648))),(4,(ki 500))]),0,0),(oE 34 (.call zdg [([0],(.E 32)),([1],(.E 33))]),0,0),(iE 35 5 30 31,0,0),(fE 36 1 35,0,0),(oN (.store [0] (.E 36) (.E 34)),0,0)]) (.seq (.reg [oE 38 (.bin .eql (.V 16) (ki 2)),wE 37 38]) (.cond (.E 37) (.regD [(fV 39 0 3,0,2),(lE 40 39,0,2),(mV 41 4,0,0),(mV 42 0,0,0),(mV 43 4,0,0),(oE 44 (.bslice 6 1 [iv 0] [(0,(ki 0)),(1,(ki 1)),(2,(ki 2)),(3,(ki (-1))),(4,(ki 40)),(5,(.E 43))]),0,0),(oE 45 (.call zdg [([0],(.E 42)),([1],(.E 44))]),0,0),(iE 46 5 40 41,0,0),(fE 47 2 46,0,0),(oN (.store [0] (.E 47) (.E 45)),0,0)]) (.seq (.reg [oE 49 (.bin .eql (.V 16) (ki 3)),wE 48 49]) (.cond (.E 48) (.regD [(fV 50 0 3,0,2),(lE 51 50,0,2),(mV 52 4,0,0),(mV 53 0,0,0),(mV 54 4,0,0),(oE 55 (.bslice 6 1 [iv 0] [(0,(ki 0)),(1,(ki 1)),(2,(ki 2)),(3,(ki (-1))),(4,(ki 40)),(5,(.E 54))]),0,0),(oE 56 (.call zdg [([0],(.E 53)),([1],(.E 55))]),0,0),(iE 57 5 51 52,0,0),(fE 58 3 57,0,0),(oN (.store [0] (.E 58) (.E 56)),0,0)]) (.seq (.reg [oE 60 (.bin .eql (.V 16) (ki 4)),wE 59 60]) (.cond (.E 59) (.regD [(fV 61 0 3,0,2),(lE 62 61,0,2),(mV 63 4,0,0),(mV 64 0,0,0),(oE 65 (.bslice 5 1 [iv 0] [(0,(ki 0)),(1,(ki 1)),(2,(ki 1099511627776)),(3,(ki 1099511627777)),(4,(ki (-1099511627777)))]),0,0),(oE 66 (.call zdg [([0],(.E 64)),([1],(.E 65))]),0,0),(iE 67 5 62 63,0,0),(fE 68 4 67,0,0),(oN (.store [0] (.E 68) (.E 66)),0,0)]) (.seq (.reg [oE 70 (.bin .eql (.V 16) (ki 5)),wE 69 70]) (.cond (.E 69) (.reg [fV 71 0 3,lE 72 71,oE 73 (.build [iv 0,iv 0,iv 0,iv 0,iv 0] [(0,1,(ki (-1)))]),oE 74 (.bslice 1 5 [iv 0,iv 0,iv 0,iv 0,iv 0] [(0,(.E 73))]),oE 75 (.app 40 5 (.E 72) (.E 74)),fV 76 0 3,oN (.store [5] (.E 76) (.E 75))]) (.seq (.reg [oE 78 (.bin .eql (.V 16) (ki 6)),wE 77 78]) (.cond (.E 77) (.reg [fV 79 0 3,lE 80 79,mV 81 4,oE 82 (.slice 5 (.E 80) none (some (.E 81)) none),fV 83 0 3,oN (.store [5] (.E 83) (.E 82))]) .skip)))))))))))))))) (.seq (.reg [tV 84 1 3,oN (.store [5] (.V 2) (.E 84))]) .ret))))
def zfl:List RV:=[.cell [5] 2 true]
def z48:List Nat:=[0,7,3,2]
def ze1:IC := .seq (.reg [oV 2 (.alloc [iv 0,iv 0,iv 0,iv 0,iv 0,iv 0,iv 0,.e0])]) (.seq (.reg [mV 4 0,oE 5 (.call zkg [([0],(.E 4))]),oV 3 (.alloc [iv 0,iv 0,iv 0,iv 0,iv 0,iv 0,iv 0,.e0]),oN (.store [0,0,0,0,0,0,0,1] (.V 3) (.E 5))]) (.seq (.seq (.reg [mV 6 0,oV 7 (.call zbd [([0],(.E 6)),([0],(ki 12))])]) (.block 0 (.seq (.reg [oE 9 (.bin .eql (.V 7) (ki 0)),wE 8 9]) (.cond (.E 8) (.reg [mV 10 0,oE 11 (.bslice 5 1 [iv 0] [(0,(ki 0)),(1,(ki 1)),(2,(ki 8)),(3,(ki 9)),(4,(ki (-1)))]),oE 12 (.call zdg [([0],(.E 10)),([1],(.E 11))]),fV 13 0 3,oN (.store [0] (.E 13) (.E 12))]) (.seq (.reg [oE 15 (.bin .eql (.V 7) (ki 1)),wE 14 15]) (.cond (.E 14) (.reg [mV 16 0,oE 17 (.bslice 4 1 [iv 0] [(0,(ki (-1))),(1,(ki 0)),(2,(ki 4)),(3,(ki 5))]),oE 18 (.call zdg [([0],(.E 16)),([1],(.E 17))]),fV 19 1 3,oN (.store [0] (.E 19) (.E 18))]) (.seq (.reg [oE 21 (.bin .eql (.V 7) (ki 2)),wE 20 21]) (.cond (.E 20) (.reg [mV 22 0,oE 23 (.bslice 4 1 [iv 0] [(0,(ki 1)),(1,(ki 2)),(2,(ki 8)),(3,(ki 9))]),oE 24 (.call zdg [([0],(.E 22)),([1],(.E 23))]),fV 25 2 3,oN (.store [0] (.E 25) (.E 24))]) (.seq (.reg [oE 27 (.bin .eql (.V 7) (ki 3)),wE 26 27]) (.cond (.E 26) (.reg [mV 28 0,oE 29 (.bslice 5 1 [iv 0] [(0,(ki 0)),(1,(ki 1)),(2,(ki 100)),(3,(ki 101)),(4,(ki 9223372036854775807))]),oE 30 (.call zdg [([0],(.E 28)),([1],(.E 29))]),fV 31 3 3,oN (.store [0] (.E 31) (.E 30))]) (.seq (.reg [oE 33 (.bin .eql (.V 7) (ki 4)),wE 32 33]) (.cond (.E 32) (.reg [mV 34 0,oE 35 (.bslice 4 1 [iv 0] [(0,(ki 0)),(1,(ki 1)),(2,(ki 20)),(3,(ki 21))]),oE 36 (.call zdg [([0],(.E 34)),([1],(.E 35))]),fV 37 4 3,oN (.store [0] (.E 37) (.E 36))]) (.seq (.reg [oE 39 (.bin .eql (.V 7) (ki 5)),wE 38 39]) (.cond (.E 38) (.reg [mV 40 0,fV 41 6 3,lE 42 41,fV 43 6 3,lE 44 43,oE 45 (.bin .add (.E 44) (ki 1)),oE 46 (.bslice 5 1 [iv 0] [(0,(ki 0)),(1,(ki 1)),(2,(.E 42)),(3,(.E 45)),(4,(ki (-1)))]),oE 47 (.call zdg [([0],(.E 40)),([1],(.E 46))]),fV 48 5 3,oN (.store [0] (.E 48) (.E 47))]) (.seq (.reg [oE 50 (.bin .eql (.V 7) (ki 6)),wE 49 50]) (.cond (.E 49) (.reg [mV 51 0,oE 52 (.bslice 5 1 [iv 0] [(0,(ki 0)),(1,(ki 1)),(2,(ki 1000)),(3,(ki 1001)),(4,(ki 9223372036854775807))]),oE 53 (.call zdg [([0],(.E 51)),([1],(.E 52))]),fV 54 6 3,oN (.store [0] (.E 54) (.E 53))]) (.seq (.reg [oE 56 (.bin .eql (.V 7) (ki 7)),wE 55 56]) (.cond (.E 55) (.regD [(fV 57 7 3,0,2),(lE 58 57,0,2),(mV 59 0,0,0),(oE 60 (.call zbd [([0],(.E 59)),([0],(ki 5))]),0,0),(oE 61 (.bin .sub (.E 60) (ki 2)),0,0),(oE 62 (.bslice 1 1 [iv 0] [(0,(.E 61))]),0,0),(oE 63 (.app 8 1 (.E 58) (.E 62)),0,0),(fV 64 7 3,0,0),(oN (.store [1] (.E 64) (.E 63)),0,0)]) .skip)))))))))))))))))) (.seq (.reg [tV 65 8 3,oN (.store [0,0,0,0,0,0,0,1] (.V 2) (.E 65))]) .ret)))
def ze2:List RV:=[.cell [0,0,0,0,0,0,0,1] 2 true]
def z49:List Nat:=[0,1,2]
def zob:IC := .seq (.reg [oV 1 (.box (.V 0)),oV 2 (.alloc [.e0])]) (.seq (.reg [fV 3 0 1,lE 4 3,oE 5 (.call zkh [([5],(.E 4))]),oE 6 (.build [.e0] [(0,1,(.E 5))]),oN (.store [5] (.V 2) (.E 6))]) .ret)
def zoc:List RV:=[.cell [5] 2 true]
def z5a:List Nat:=[0,1,3,4,5]
def zod:IC := .seq (.reg [oV 3 (.box (.V 1)),oV 4 (.mv (ki 0)),oV 5 (.mv (kb false))]) (.seq (.seq (.reg [tV 6 8 3,oE 7 (.call zki [([0,0,0,0,0,0,0,1],(.E 6))]),oE 8 (.un .not (.E 7)),wE 9 8,gE 10 9 .false (.mv (.V 0)),gE 11 9 .false (.call zic [([0],(.E 10))]),gE 12 9 .false (.un .not (.E 11)),oE 13 (.pick (.E 9) (kb true) (.E 12))]) (.cond (.E 13) (.seq (.reg [oV 4 (.mv (ki 0)),oV 5 (.mv (kb false))]) .ret) .skip)) (.seq (.reg [mV 14 0,fV 15 5 3,lE 16 15,bE 17 .mul 14 16,fV 18 6 3,lE 19 18,oE 20 (.call zkj [([0],(.E 17)),([0],(.E 19))]),xE 21 0 20,xE 22 1 20,vE 4 21,vE 5 22]) .ret))
def zoe:List RV:=[.tmp [0] 4,.tmp [0] 5]
def z5b:List Nat:=[0,1,2]
def zof:IC := .seq (.reg [oV 1 (.box (.V 0)),oV 2 (.alloc [.e0])]) (.seq (.reg [oE 3 (.bslice 0 5 [iv 0,iv 0,iv 0,iv 0,iv 0] []),fV 4 0 1,lE 5 4,oE 6 (.app 40 5 (.E 3) (.E 5)),oE 7 (.build [.e0] [(0,1,(.E 6))]),oN (.store [5] (.V 2) (.E 7))]) .ret)
def zog:List RV:=[.cell [5] 2 true]
def z5c:List Nat:=[0,1,2]
def zoh:IC := .seq (.reg [oV 1 (.box (.V 0)),oV 2 (.mv (kb false))]) (.seq (.reg [fV 3 0 1,lE 4 3,oE 5 (.bin .neq (.E 4) (ki (-1))),vE 2 5]) .ret)
def zoi:List RV:=[.tmp [0] 2]
def z5d:List Nat:=[0,1,3,4,5]
def zoj:IC := .seq (.reg [oV 3 (.box (.V 1)),oV 4 (.mv (ki 0)),oV 5 (.mv (kb false))]) (.seq (.seq (.reg [tV 6 8 3,oE 7 (.call zkk [([0,0,0,0,0,0,0,1],(.E 6))]),oE 8 (.un .not (.E 7)),wE 9 8,gE 10 9 .false (.mv (.V 0)),gE 11 9 .false (.call zid [([0],(.E 10))]),gE 12 9 .false (.un .not (.E 11)),oE 13 (.pick (.E 9) (kb true) (.E 12))]) (.cond (.E 13) (.seq (.reg [oV 4 (.mv (ki 0)),oV 5 (.mv (kb false))]) .ret) .skip)) (.seq (.reg [mV 14 0,fV 15 5 3,lE 16 15,bE 17 .mul 14 16,fV 18 6 3,lE 19 18,oE 20 (.call zkl [([0],(.E 17)),([0],(.E 19))]),xE 21 0 20,xE 22 1 20,vE 4 21,vE 5 22]) .ret))
def zok:List RV:=[.tmp [0] 4,.tmp [0] 5]
def z5e:List Nat:=[0,1,4]
def zol:IC := .seq (.reg [oV 4 (.mv (kb false))]) (.seq (.reg [mV 5 0,mV 6 1,oE 7 (.call zbd [([0],(.E 5)),([0],(.E 6))]),oE 8 (.bin .eql (.E 7) (ki 0)),vE 4 8]) .ret)
def zom:List RV:=[.tmp [0] 4]
def z5f:List Nat:=[0,1,5,6,7,8,4]
def zk3:IC := .seq (.reg [oV 4 (.mv (ki 0))]) (.seq (.seq (.reg [mV 9 1,oE 10 (.bin .leq (.E 9) (ki 0))]) (.cond (.E 10) (.seq (.reg [oV 4 (.mv (ki 0))]) .ret) .skip)) (.seq (.seq (.reg [mV 11 1,oE 12 (.bin .leq (.E 11) (ki 256))]) (.cond (.E 12) (.seq (.reg [mV 13 0,oE 14 (.call zfj [([0],(.E 13))]),mV 15 1,bE 16 .rem 14 15,vE 4 16]) .ret) .skip)) (.seq (.reg [mV 17 0,oE 18 (.call zfj [([0],(.E 17))]),vE 5 18]) (.seq (.reg [mV 19 0,oE 20 (.call zfj [([0],(.E 19))]),vE 6 20]) (.seq (.reg [mV 21 0,oE 22 (.call zfj [([0],(.E 21))]),vE 7 22]) (.seq (.reg [mV 23 0,oE 24 (.call zfj [([0],(.E 23))]),vE 8 24]) (.seq (.reg [mV 25 5,oE 26 (.bin .mul (.E 25) (ki 16777216)),mV 27 6,oE 28 (.bin .mul (.E 27) (ki 65536)),bE 29 .add 26 28,mV 30 7,oE 31 (.bin .mul (.E 30) (ki 256)),bE 32 .add 29 31,mV 33 8,bE 34 .add 32 33,mV 35 1,bE 36 .rem 34 35,vE 4 36]) .ret)))))))
def zk4:List RV:=[.tmp [0] 4]
def z5g:List Nat:=[0,1,6,5,4]
def zvi:IC := .seq (.seq (.reg [mV 8 6,mV 9 1,bE 10 .lss 8 9]) (.cond (.E 10) .skip (.exit 0))) (.seq (.block 1 (.seq (.reg [mV 13 0,oE 14 (.call zgx [([0],(.E 13)),([0],(ki 12))])]) (.cond (.E 14) (.reg [mV 15 5,mV 16 0,oE 17 (.call zkm [([0],(.E 16))]),oE 18 (.bslice 1 1 [iv 0] [(0,(.E 17))]),oE 19 (.app 8 1 (.E 15) (.E 18)),vE 5 19]) (.reg [mV 20 5,mV 21 0,oE 22 (.call zbd [([0],(.E 21)),([0],(ki 11))]),oE 23 (.bin .sub (.E 22) (ki 5)),oE 24 (.bin .mul (ki 500) (.E 23)),mV 25 0,oE 26 (.call zbd [([0],(.E 25)),([0],(ki 2))]),bE 27 .add 24 26,oE 28 (.bslice 1 1 [iv 0] [(0,(.E 27))]),oE 29 (.app 8 1 (.E 20) (.E 28)),vE 5 29])))) (.reg [mV 11 6,oE 12 (.bin .add (.E 11) (ki 1)),vE 6 12]))
def zon:IC := .seq (.reg [oV 4 (.mv (.C .e0))]) (.seq (.reg [oE 7 (.bslice 0 1 [iv 0] []),vE 5 7]) (.seq (.seq (.reg [oV 6 (.mv (ki 0))]) (.block 0 (.loop zvi))) (.seq (.reg [mV 30 5,vE 4 30]) .ret)))
def zoo:List RV:=[.tmp [1] 4]
def z5h:List Nat:=[0,1,2,13,12,6,5,7,4]
def zvj:IC := .seq (.reg [oE 14 (.bin .lss (.V 13) (.V 12))]) (.seq (.cond (.E 14) .skip (.exit 0)) (.seq (.block 1 (.seq (.seq (.reg [mV 15 6,fV 16 0 2,lE 17 16,nE 18 17,oE 19 (.bin .sub (.E 18) (ki 1)),oE 20 (.call zcr [([0],(.E 15)),([0],(ki 0)),([0],(.E 19))]),oE 21 (.un .not (.E 20))]) (.cond (.E 21) (.seq (.reg [oV 4 (.mv (.C .e0))]) .ret) .skip)) (.seq (.reg [fV 22 0 2,lE 23 22,mV 24 6,iE 25 5 23 24,tE 26 5 25,oV 7 (.alloc [iv 0,iv 0,iv 0,iv 0,iv 0]),oN (.store [0,0,0,0,0] (.V 7) (.E 26))]) (.seq (.reg [mV 27 5,mV 28 6,oE 29 (.bslice 1 1 [iv 0] [(0,(.E 28))]),oE 30 (.app 8 1 (.E 27) (.E 29)),vE 5 30]) (.block 2 (.seq (.reg [tV 34 5 7,oE 35 (.call zgc [([0,0,0,0,0],(.E 34))]),wE 33 35]) (.cond (.E 33) (.seq (.reg [mV 36 5,vE 4 36]) .ret) (.seq (.reg [fV 38 0 7,lE 39 38,mV 40 1,nE 41 40,oE 42 (.bin .sub (.E 41) (ki 1)),oE 43 (.call zcr [([0],(.E 39)),([0],(ki 0)),([0],(.E 42))]),oE 44 (.un .not (.E 43)),wE 37 44]) (.cond (.E 37) (.seq (.reg [oV 4 (.mv (.C .e0))]) .ret) (.seq (.regD [(mV 46 1,0,0),(fV 47 0 7,0,0),(lE 48 47,0,0),(iE 49 1 46 48,0,0),(lE 50 49,0,0),(fV 51 1 7,0,0),(lE 52 51,0,0),(bE 53 .leq 50 52,0,0),(wE 45 53,0,0)]) (.cond (.E 45) (.reg [fV 54 2 7,lE 55 54,vE 6 55]) (.reg [fV 31 3 7,lE 32 31,vE 6 32])))))))))))) (.reg [oE 56 (.bin .add (.V 13) (ki 1)),vE 13 56])))
def zop:IC := .seq (.reg [oV 2 (.box (.V 0)),oV 4 (.mv (.C .e0))]) (.seq (.reg [oE 8 (.bslice 0 1 [iv 0] []),vE 5 8,oV 6 (.mv (ki 0))]) (.seq (.seq (.reg [fV 9 0 2,lE 10 9,nE 11 10,oV 12 (.bin .add (.E 11) (ki 1)),oV 13 (.mv (ki 0))]) (.block 0 (.loop zvj))) (.seq (.reg [oV 4 (.mv (.C .e0))]) .ret)))
def zoq:List RV:=[.tmp [1] 4]
def z5i:List Nat:=[0,1,7,2,6,5,8,4]
def zvk:IC := .seq (.seq (.reg [mV 10 7,fV 11 0 2,lE 12 11,nE 13 12,bE 14 .leq 10 13]) (.cond (.E 14) .skip (.exit 0))) (.seq (.block 1 (.seq (.seq (.reg [mV 17 6,fV 18 0 2,lE 19 18,nE 20 19,oE 21 (.bin .sub (.E 20) (ki 1)),oE 22 (.call zdf [([0],(.E 17)),([0],(ki 0)),([0],(.E 21))]),oE 23 (.un .not (.E 22))]) (.cond (.E 23) (.seq (.reg [oE 24 (.bslice 0 1 [iv 0] []),vE 4 24]) .ret) .skip)) (.seq (.reg [fV 25 0 2,lE 26 25,mV 27 6,iE 28 5 26 27,tE 29 5 28,oV 8 (.alloc [iv 0,iv 0,iv 0,iv 0,iv 0]),oN (.store [0,0,0,0,0] (.V 8) (.E 29))]) (.seq (.reg [mV 30 5,mV 31 6,oE 32 (.bslice 1 1 [iv 0] [(0,(.E 31))]),oE 33 (.app 8 1 (.E 30) (.E 32)),vE 5 33]) (.seq (.seq (.reg [tV 34 5 8,oE 35 (.call ze0 [([0,0,0,0,0],(.E 34))]),oE 36 (.un .not (.E 35))]) (.cond (.E 36) (.seq (.reg [mV 37 5,vE 4 37]) .ret) .skip)) (.seq (.seq (.reg [fV 38 0 8,lE 39 38,mV 40 1,nE 41 40,oE 42 (.bin .sub (.E 41) (ki 1)),oE 43 (.call zdf [([0],(.E 39)),([0],(ki 0)),([0],(.E 42))]),oE 44 (.un .not (.E 43))]) (.cond (.E 44) (.seq (.reg [oE 45 (.bslice 0 1 [iv 0] []),vE 4 45]) .ret) .skip)) (.seq (.regD [(mV 46 1,0,0),(fV 47 0 8,0,0),(lE 48 47,0,0),(iE 49 1 46 48,0,0),(lE 50 49,0,0),(fV 51 1 8,0,0),(lE 52 51,0,0),(bE 53 .leq 50 52,0,0)]) (.cond (.E 53) (.reg [fV 54 2 8,lE 55 54,vE 6 55]) (.reg [fV 56 3 8,lE 57 56,vE 6 57]))))))))) (.reg [mV 15 7,oE 16 (.bin .add (.E 15) (ki 1)),vE 7 16]))
def zor:IC := .seq (.reg [oV 2 (.box (.V 0)),oV 4 (.mv (.C .e0))]) (.seq (.reg [oE 9 (.bslice 0 1 [iv 0] []),vE 5 9]) (.seq (.reg [oV 6 (.mv (ki 0))]) (.seq (.seq (.reg [oV 7 (.mv (ki 0))]) (.block 0 (.loop zvk))) (.seq (.reg [oE 58 (.bslice 0 1 [iv 0] []),vE 4 58]) .ret))))
def zos:List RV:=[.tmp [1] 4]
def z5j:List Nat:=[0,1,2,6]
def zot:IC := .seq (.reg [oV 6 (.mv (kb false))]) (.seq (.reg [mV 7 0,mV 8 1,bE 9 .geq 7 8,wE 10 9,gE 11 10 .true (.mv (.V 0)),gE 12 10 .true (.mv (.V 2)),gE 13 10 .true (.bin .leq (.E 11) (.E 12)),oE 14 (.pick (.E 10) (.E 13) (kb false)),vE 6 14]) .ret)
def zou:List RV:=[.tmp [0] 6]
def z5k:List Nat:=[0,1,6,2,7,5,4]
def zvl:IC := .seq (.seq (.reg [mV 8 6,fV 9 0 2,lE 10 9,nE 11 10,bE 12 .lss 8 11]) (.cond (.E 12) .skip (.exit 0))) (.seq (.block 1 (.seq (.reg [fV 15 0 2,lE 16 15,mV 17 6,iE 18 5 16 17,tE 19 5 18,oV 7 (.alloc [iv 0,iv 0,iv 0,iv 0,iv 0]),oN (.store [0,0,0,0,0] (.V 7) (.E 19))]) (.seq (.seq (.reg [tV 20 5 7,oE 21 (.call ze0 [([0,0,0,0,0],(.E 20))]),oE 22 (.un .not (.E 21))]) (.cond (.E 22) (.seq (.seq (.reg [tV 23 5 7,fV 24 4 7,lE 25 24,oE 26 (.build [iv 0,iv 0,iv 0,iv 0,iv 0] [(0,1,(ki (-1))),(4,1,(.E 25))]),oE 27 (.eqb true [.i .i64,.i .i64,.i .i64,.i .i64,.i .i64] (.E 23) (.E 26)),wE 28 27,gE 29 28 .false (.faddr 4 (.V 7)),gE 30 28 .false (.load false 1 (.E 29)),gE 31 28 .false (.call zid [([0],(.E 30))]),gE 32 28 .false (.un .not (.E 31)),oE 33 (.pick (.E 28) (kb true) (.E 32))]) (.cond (.E 33) (.seq (.reg [oV 4 (.mv (kb false))]) .ret) .skip)) (.exit 1)) .skip)) (.seq (.seq (.reg [fV 34 0 7,lE 35 34,mV 36 1,oE 37 (.bin .sub (.E 36) (ki 1)),oE 38 (.call zdf [([0],(.E 35)),([0],(ki 0)),([0],(.E 37))]),oE 39 (.un .not (.E 38)),wE 40 39,gE 41 40 .false (.faddr 1 (.V 7)),gE 42 40 .false (.load false 1 (.E 41)),gE 43 40 .false (.call zkn [([0],(.E 42))]),gE 44 40 .false (.un .not (.E 43)),oE 45 (.pick (.E 40) (kb true) (.E 44)),wE 46 45,gE 47 46 .false (.faddr 4 (.V 7)),gE 48 46 .false (.load false 1 (.E 47)),gE 49 46 .false (.bin .neq (.E 48) (ki 0)),oE 50 (.pick (.E 46) (kb true) (.E 49)),wE 51 50,gE 52 51 .false (.faddr 2 (.V 7)),gE 53 51 .false (.load false 1 (.E 52)),gE 54 51 .false (.mv (.V 5)),gE 55 51 .false (.bin .neq (.E 53) (.E 54)),oE 56 (.pick (.E 51) (kb true) (.E 55)),wE 57 56,gE 58 57 .false (.faddr 3 (.V 7)),gE 59 57 .false (.load false 1 (.E 58)),gE 60 57 .false (.mv (.V 5)),gE 61 57 .false (.bin .add (.E 60) (ki 1)),gE 62 57 .false (.bin .neq (.E 59) (.E 61)),oE 63 (.pick (.E 57) (kb true) (.E 62)),wE 64 63,gE 65 64 .false (.faddr 2 (.V 7)),gE 66 64 .false (.load false 1 (.E 65)),gE 67 64 .false (.mv (.V 6)),gE 68 64 .false (.bin .leq (.E 66) (.E 67)),oE 69 (.pick (.E 64) (kb true) (.E 68))]) (.cond (.E 69) (.seq (.reg [oV 4 (.mv (kb false))]) .ret) .skip)) (.reg [mV 70 5,oE 71 (.bin .add (.E 70) (ki 2)),vE 5 71]))))) (.reg [mV 13 6,oE 14 (.bin .add (.E 13) (ki 1)),vE 6 14]))
def zov:IC := .seq (.reg [oV 2 (.box (.V 0)),oV 4 (.mv (kb false))]) (.seq (.reg [oV 5 (.mv (ki 1))]) (.seq (.seq (.reg [oV 6 (.mv (ki 0))]) (.block 0 (.loop zvl))) (.seq (.reg [mV 72 5,fV 73 0 2,lE 74 73,nE 75 74,bE 76 .eql 72 75,vE 4 76]) .ret)))
def zow:List RV:=[.tmp [0] 4]
def z5l:List Nat:=[0,4,1,3,2]
def zvm:IC := .seq (.seq (.reg [mV 5 4,fV 6 0 1,lE 7 6,nE 8 7,bE 9 .lss 5 8]) (.cond (.E 9) .skip (.exit 0))) (.seq (.block 1 (.reg [mV 12 3,tV 13 1 1,mV 14 4,oE 15 (.call zie [([5],(.E 13)),([0],(.E 14))]),oE 16 (.call zko [([0],(.E 12)),([0],(.E 15))]),vE 3 16])) (.reg [mV 10 4,oE 11 (.bin .add (.E 10) (ki 1)),vE 4 11]))
def zox:IC := .seq (.reg [oV 1 (.box (.V 0)),oV 2 (.mv (ki 0))]) (.seq (.reg [oV 3 (.mv (ki (-1)))]) (.seq (.seq (.reg [oV 4 (.mv (ki 0))]) (.block 0 (.loop zvm))) (.seq (.reg [mV 17 3,vE 2 17]) .ret)))
def zoy:List RV:=[.tmp [0] 2]
def z5m:List Nat:=[0,3,1,5,6,4,2]
def zvn:IC := .seq (.seq (.reg [mV 25 5,oE 26 (.bin .geq (.E 25) (ki 0))]) (.cond (.E 26) .skip (.exit 2))) (.seq (.block 3 (.seq (.reg [fV 30 0 1,lE 31 30,mV 32 5,iE 33 5 31 32,tE 34 5 33,oV 6 (.alloc [iv 0,iv 0,iv 0,iv 0,iv 0]),oN (.store [0,0,0,0,0] (.V 6) (.E 34))]) (.seq (.seq (.regD [(fV 35 0 6,0,0),(lE 36 35,0,0),(fV 37 0 1,0,0),(lE 38 37,0,0),(mV 39 3,0,0),(iE 40 5 38 39,0,0),(fE 41 0 40,0,0),(lE 42 41,0,0),(bE 43 .eql 36 42,0,0),(wE 44 43,0,0),(gE 45 44 .true (.faddr 3 (.V 6)),0,0),(gE 46 44 .true (.load false 1 (.E 45)),0,0),(gE 47 44 .true (.mv (.V 4)),0,0),(gE 48 44 .true (.bin .eql (.E 46) (.E 47)),0,0),(gE 49 44 .true (.mv (.E 48)),0,0),(gE 50 49 .true (.faddr 1 (.V 6)),0,0),(gE 51 49 .true (.load false 1 (.E 50)),0,0),(gE 52 49 .true (.faddr 0 (.V 1)),0,0),(gE 53 49 .true (.load false 1 (.E 52)),0,0),(gE 54 49 .true (.mv (.V 3)),0,0),(gE 55 49 .true (.iaddr 5 (.E 53) (.E 54)),0,0),(gE 56 49 .true (.faddr 1 (.E 55)),0,0),(gE 57 49 .true (.load false 1 (.E 56)),0,0),(gE 58 49 .true (.bin .geq (.E 51) (.E 57)),0,0),(gE 59 44 .true (.pick (.E 49) (.E 58) (kb false)),0,0),(gE 60 44 .true (.mv (.E 59)),0,0),(gE 61 60 .false (.faddr 2 (.V 6)),0,0),(gE 62 60 .false (.load false 1 (.E 61)),0,0),(gE 63 60 .false (.mv (.V 4)),0,0),(gE 64 60 .false (.bin .eql (.E 62) (.E 63)),0,0),(gE 65 60 .false (.mv (.E 64)),0,0),(gE 66 65 .true (.faddr 1 (.V 6)),0,0),(gE 67 65 .true (.load false 1 (.E 66)),0,0),(gE 68 65 .true (.faddr 0 (.V 1)),0,0),(gE 69 65 .true (.load false 1 (.E 68)),0,0),(gE 70 65 .true (.mv (.V 3)),0,0),(gE 71 65 .true (.iaddr 5 (.E 69) (.E 70)),0,0),(gE 72 65 .true (.faddr 1 (.E 71)),0,0),(gE 73 65 .true (.load false 1 (.E 72)),0,0),(gE 74 65 .true (.bin .leq (.E 67) (.E 73)),0,0),(gE 75 60 .false (.pick (.E 65) (.E 74) (kb false)),0,0),(gE 76 44 .true (.pick (.E 60) (kb true) (.E 75)),0,0),(oE 77 (.pick (.E 44) (.E 76) (kb false)),0,0)]) (.cond (.E 77) (.seq (.reg [oV 2 (.mv (kb false))]) .ret) .skip)) (.reg [mV 78 5,vE 4 78])))) (.reg [tV 27 1 1,mV 28 5,oE 29 (.call zhp [([5],(.E 27)),([0],(.E 28))]),vE 5 29]))
def zvo:IC := .seq (.seq (.reg [mV 7 3,fV 8 0 1,lE 9 8,nE 10 9,bE 11 .lss 7 10]) (.cond (.E 11) .skip (.exit 0))) (.seq (.block 1 (.seq (.seq (.reg [fV 14 0 1,lE 15 14,mV 16 3,iE 17 5 15 16,tE 18 5 17,oE 19 (.call ze0 [([0,0,0,0,0],(.E 18))]),oE 20 (.un .not (.E 19))]) (.cond (.E 20) (.exit 1) .skip)) (.seq (.reg [mV 21 3,vE 4 21]) (.seq (.reg [tV 22 1 1,mV 23 3,oE 24 (.call zhp [([5],(.E 22)),([0],(.E 23))]),vE 5 24]) (.block 2 (.loop zvn)))))) (.reg [mV 12 3,oE 13 (.bin .add (.E 12) (ki 1)),vE 3 13]))
def zoz:IC := .seq (.reg [oV 1 (.box (.V 0)),oV 2 (.mv (kb false))]) (.seq (.seq (.reg [oV 3 (.mv (ki 0))]) (.block 0 (.loop zvo))) (.seq (.reg [oV 2 (.mv (kb true))]) .ret))
def zo0:List RV:=[.tmp [0] 2]
def z5n:List Nat:=[0,1,2,6]
def zo1:IC := .seq (.reg [oV 6 (.mv (kb false))]) (.seq (.reg [mV 7 0,mV 8 1,bE 9 .geq 7 8,wE 10 9,gE 11 10 .true (.mv (.V 0)),gE 12 10 .true (.mv (.V 2)),gE 13 10 .true (.bin .leq (.E 11) (.E 12)),oE 14 (.pick (.E 10) (.E 13) (kb false)),vE 6 14]) .ret)
def zo2:List RV:=[.tmp [0] 6]
def z5o:List Nat:=[0,1,2,11,10,9,7,5,6,4]
def zvp:IC := .seq (.reg [oE 12 (.bin .lss (.V 11) (.V 10))]) (.seq (.cond (.E 12) .skip (.exit 0)) (.seq (.block 1 (.seq (.reg [mV 13 11,oE 14 (.iaddr 5 (.V 9) (.V 11)),tE 15 5 14,oV 7 (.alloc [iv 0,iv 0,iv 0,iv 0,iv 0]),vE 6 13,oN (.store [0,0,0,0,0] (.V 7) (.E 15))]) (.seq (.seq (.reg [tV 16 5 7,oE 17 (.call zgc [([0,0,0,0,0],(.E 16))])]) (.cond (.E 17) (.seq (.seq (.reg [tV 18 5 7,fV 19 4 7,lE 20 19,oE 21 (.build [iv 0,iv 0,iv 0,iv 0,iv 0] [(0,1,(ki (-1))),(4,1,(.E 20))]),oE 22 (.eqb true [.i .i64,.i .i64,.i .i64,.i .i64,.i .i64] (.E 18) (.E 21)),wE 23 22,gE 24 23 .false (.faddr 4 (.V 7)),gE 25 23 .false (.load false 1 (.E 24)),gE 26 23 .false (.call zic [([0],(.E 25))]),gE 27 23 .false (.un .not (.E 26)),oE 28 (.pick (.E 23) (kb true) (.E 27))]) (.cond (.E 28) (.seq (.reg [oV 4 (.mv (kb false))]) .ret) .skip)) (.exit 1)) .skip)) (.seq (.seq (.reg [fV 29 0 7,lE 30 29,mV 31 1,oE 32 (.bin .sub (.E 31) (ki 1)),oE 33 (.call zcr [([0],(.E 30)),([0],(ki 0)),([0],(.E 32))]),oE 34 (.un .not (.E 33)),wE 35 34,gE 36 35 .false (.faddr 1 (.V 7)),gE 37 35 .false (.load false 1 (.E 36)),gE 38 35 .false (.call zkp [([0],(.E 37))]),gE 39 35 .false (.un .not (.E 38)),oE 40 (.pick (.E 35) (kb true) (.E 39)),wE 41 40,gE 42 41 .false (.faddr 4 (.V 7)),gE 43 41 .false (.load false 1 (.E 42)),gE 44 41 .false (.bin .neq (.E 43) (ki 0)),oE 45 (.pick (.E 41) (kb true) (.E 44)),wE 46 45,gE 47 46 .false (.faddr 2 (.V 7)),gE 48 46 .false (.load false 1 (.E 47)),gE 49 46 .false (.mv (.V 5)),gE 50 46 .false (.bin .neq (.E 48) (.E 49)),oE 51 (.pick (.E 46) (kb true) (.E 50)),wE 52 51,gE 53 52 .false (.faddr 3 (.V 7)),gE 54 52 .false (.load false 1 (.E 53)),gE 55 52 .false (.mv (.V 5)),gE 56 52 .false (.bin .add (.E 55) (ki 1)),gE 57 52 .false (.bin .neq (.E 54) (.E 56)),oE 58 (.pick (.E 52) (kb true) (.E 57)),wE 59 58,gE 60 59 .false (.mv (.V 5)),gE 61 59 .false (.mv (.V 6)),gE 62 59 .false (.bin .leq (.E 60) (.E 61)),oE 63 (.pick (.E 59) (kb true) (.E 62))]) (.cond (.E 63) (.seq (.reg [oV 4 (.mv (kb false))]) .ret) .skip)) (.reg [mV 64 5,oE 65 (.bin .add (.E 64) (ki 2)),vE 5 65]))))) (.reg [oE 66 (.bin .add (.V 11) (ki 1)),vE 11 66])))
def zo3:IC := .seq (.reg [oV 2 (.box (.V 0)),oV 4 (.mv (kb false))]) (.seq (.reg [oV 5 (.mv (ki 1))]) (.seq (.seq (.reg [fV 8 0 2,oV 9 (.load false 1 (.E 8)),oV 10 (.len (.V 9)),oV 11 (.mv (ki 0))]) (.block 0 (.loop zvp))) (.seq (.reg [mV 67 5,fV 68 0 2,lE 69 68,nE 70 69,bE 71 .eql 67 70,vE 4 71]) .ret)))
def zo4:List RV:=[.tmp [0] 4]
def z5p:List Nat:=[0,1,2]
def zo5:IC := .seq (.reg [oV 1 (.box (.V 0)),oV 2 (.mv (kb false))]) (.seq (.reg [fV 3 0 1,lE 4 3,oE 5 (.bin .eql (.E 4) (ki (-1))),vE 2 5]) .ret)
def zo6:List RV:=[.tmp [0] 2]
def z5q:List Nat:=[0,1,2,4]
def zo7:IC := .seq (.reg [oV 2 (.box (.V 0)),oV 4 (.mv (ki 0))]) (.seq (.reg [tV 5 1 2,mV 6 1,oE 7 (.call zib [([5],(.E 5)),([0],(.E 6))]),nE 8 7,oE 9 (.bin .sub (.E 8) (ki 1)),vE 4 9]) .ret)
def zo8:List RV:=[.tmp [0] 4]
def z5r:List Nat:=[0,1,2,6,5,4]
def zvq:IC := .seq (.seq (.reg [mV 19 6,oE 20 (.bin .geq (.E 19) (ki 0))]) (.cond (.E 20) .skip (.exit 0))) (.seq (.block 1 (.seq (.seq (.reg [mV 24 5,nE 25 24,oE 26 (.bin .gtr (.E 25) (ki 31))]) (.cond (.E 26) (.seq (.reg [oV 4 (.mv (.C .e0))]) .ret) .skip)) (.reg [mV 27 5,mV 28 6,oE 29 (.bslice 1 1 [iv 0] [(0,(.E 28))]),oE 30 (.app 8 1 (.E 27) (.E 29)),vE 5 30]))) (.reg [tV 21 1 2,mV 22 6,oE 23 (.call zif [([5],(.E 21)),([0],(.E 22))]),vE 6 23]))
def zo9:IC := .seq (.reg [oV 2 (.box (.V 0)),oV 4 (.mv (.C .e0))]) (.seq (.seq (.reg [mV 7 1,fV 8 0 2,lE 9 8,nE 10 9,oE 11 (.bin .sub (.E 10) (ki 1)),oE 12 (.call zcr [([0],(.E 7)),([0],(ki 0)),([0],(.E 11))]),oE 13 (.un .not (.E 12))]) (.cond (.E 13) (.seq (.reg [oV 4 (.mv (.C .e0))]) .ret) .skip)) (.seq (.reg [mV 14 1,oE 15 (.bslice 1 1 [iv 0] [(0,(.E 14))]),vE 5 15]) (.seq (.seq (.reg [tV 16 1 2,mV 17 1,oE 18 (.call zif [([5],(.E 16)),([0],(.E 17))]),vE 6 18]) (.block 0 (.loop zvq))) (.seq (.reg [mV 31 5,oE 32 (.call zkq [([1],(.E 31))])]) (.seq (.reg [mV 33 5,vE 4 33]) .ret)))))
def zpa:List RV:=[.tmp [1] 4]
def z5s:List Nat:=[0,4,3,5,6,2]
def zpb:IC := .seq (.seq (.regD [(mV 16 5,0,0),(oE 17 (.bin .gtr (.E 16) (ki 0)),0,0),(wE 18 17,0,0),(gE 19 18 .true (.mv (.V 3)),0,0),(gE 20 18 .true (.mv (.V 5)),0,0),(gE 21 18 .true (.bin .sub (.E 20) (ki 1)),0,0),(gE 22 18 .true (.iaddr 1 (.E 19) (.E 21)),0,0),(gE 23 18 .true (.load false 1 (.E 22)),0,0),(gE 24 18 .true (.mv (.V 0)),0,0),(gE 25 18 .true (.mv (.V 4)),0,0),(gE 26 18 .true (.iaddr 1 (.E 24) (.E 25)),0,0),(gE 27 18 .true (.load false 1 (.E 26)),0,0),(gE 28 18 .true (.bin .gtr (.E 23) (.E 27)),0,0),(oE 29 (.pick (.E 18) (.E 28) (kb false)),0,0)]) (.cond (.E 29) .skip (.exit 2))) (.block 3 (.reg [mV 30 5,oE 31 (.bin .sub (.E 30) (ki 1)),vE 5 31]))
def zvr:IC := .seq (.seq (.reg [mV 8 4,mV 9 0,nE 10 9,bE 11 .lss 8 10]) (.cond (.E 11) .skip (.exit 0))) (.seq (.block 1 (.seq (.reg [mV 14 3,nE 15 14,vE 5 15]) (.seq (.block 2 (.loop zpb)) (.seq (.regD [(oE 32 (.bslice 0 1 [iv 0] []),0,0),(mV 33 3,0,0),(mV 34 5,0,0),(oE 35 (.slice 1 (.E 33) none (some (.E 34)) none),1,0),(oE 36 (.app 8 1 (.E 32) (.E 35)),0,0),(mV 37 0,0,0),(mV 38 4,0,0),(iE 39 1 37 38,2,0),(lE 40 39,2,0),(oE 41 (.bsliceL 1 1 [iv 0] [(0,(.E 40))]),0,0),(oE 42 (.app 8 1 (.E 36) (.E 41)),0,0),(vE 6 42,0,0)]) (.reg [mV 43 6,mV 44 3,mV 45 5,oE 46 (.slice 1 (.E 44) (some (.E 45)) none none),oE 47 (.app 8 1 (.E 43) (.E 46)),vE 3 47]))))) (.reg [mV 12 4,oE 13 (.bin .add (.E 12) (ki 1)),vE 4 13]))
def zpc:IC := .seq (.reg [oV 2 (.mv (.C .e0))]) (.seq (.reg [oE 7 (.bslice 0 1 [iv 0] []),vE 3 7]) (.seq (.seq (.reg [oV 4 (.mv (ki 0))]) (.block 0 (.loop zvr))) (.seq (.reg [mV 48 3,vE 2 48]) .ret)))
def zpd:List RV:=[.tmp [1] 2]
def z5t:List Nat:=[0,3,2]
def zpe:IC := .seq (.reg [oV 2 (.mv (.C .e0))]) (.seq (.reg [mV 4 0,oE 5 (.call zkr [([1],(.E 4))]),vE 3 5]) (.seq (.reg [mV 6 3,oE 7 (.call zks [([1],(.E 6))])]) (.seq (.reg [mV 8 3,vE 2 8]) .ret)))
def zpf:List RV:=[.tmp [1] 2]
def z5u:List Nat:=[0,1,7,6,5,8,9,10,4]
def zvs:IC := .seq (.seq (.reg [mV 18 7,mV 19 6,bE 20 .lss 18 19]) (.cond (.E 20) .skip (.exit 0))) (.seq (.block 1 (.seq (.reg [tV 23 1 5,oE 24 (.call zh6 [([5],(.E 23))]),vE 8 24]) (.seq (.reg [mV 25 8,mV 26 0,mV 27 8,nE 28 27,oE 29 (.call zbd [([0],(.E 26)),([0],(.E 28))]),iE 30 1 25 29,lE 31 30,vE 9 31]) (.seq (.regD [(tV 32 1 5,0,4),(mV 33 9,0,0),(mV 34 0,0,0),(mV 35 1,0,0),(oE 36 (.call zbd [([0],(.E 34)),([0],(.E 35))]),0,0),(mV 37 0,0,0),(oE 38 (.call zbd [([0],(.E 37)),([0],(ki 9))]),0,0),(oE 39 (.bin .sub (.E 38) (ki 4)),0,0),(oE 40 (.bin .mul (ki 500) (.E 39)),0,0),(oE 41 (.build [iv 0,iv 0,iv 0,iv 0,iv 0] [(0,1,(.E 36)),(1,1,(.E 40))]),0,0),(mV 42 0,0,0),(oE 43 (.call zbd [([0],(.E 42)),([0],(ki 2001))]),0,0),(oE 44 (.bin .sub (.E 43) (ki 1000)),0,0),(mV 45 0,0,0),(oE 46 (.call zbd [([0],(.E 45)),([0],(ki 2001))]),0,0),(oE 47 (.bin .sub (.E 46) (ki 1000)),0,0),(oE 48 (.call zku [([5],(.E 32)),([0],(.E 33)),([0,0,0,0,0],(.E 41)),([0],(.E 44)),([0],(.E 47))]),0,0),(oV 10 (.allocL [.e0]),0,0),(oN (.store [5] (.V 10) (.E 48)),0,0)]) (.seq (.reg [tV 49 1 10,mV 50 1,oE 51 (.call zh5 [([5],(.E 49)),([0],(.E 50))])]) (.cond (.E 51) (.reg [tV 52 1 10,oN (.store [5] (.V 5) (.E 52))]) .skip)))))) (.reg [mV 21 7,oE 22 (.bin .add (.E 21) (ki 1)),vE 7 22]))
def zpg:IC := .seq (.reg [oV 4 (.alloc [.e0])]) (.seq (.reg [mV 11 0,oE 12 (.call zbd [([0],(.E 11)),([0],(ki 21))]),oE 13 (.bin .sub (.E 12) (ki 10)),oE 14 (.bin .mul (ki 50) (.E 13)),oE 15 (.call zkt [([0],(.E 14))]),oV 5 (.alloc [.e0]),oN (.store [5] (.V 5) (.E 15))]) (.seq (.reg [mV 16 0,oE 17 (.call zbd [([0],(.E 16)),([0],(ki 6))]),vE 6 17]) (.seq (.seq (.reg [oV 7 (.mv (ki 0))]) (.block 0 (.loop zvs))) (.seq (.reg [tV 53 1 5,oN (.store [5] (.V 4) (.E 53))]) .ret))))
def zph:List RV:=[.cell [5] 4 true]
def z5v:List Nat:=[0,1,4]
def zpi:IC := .seq (.reg [oV 4 (.mv (ki 0))]) (.seq (.reg [mV 5 1,mV 6 0,mV 7 1,nE 8 7,oE 9 (.call zbd [([0],(.E 6)),([0],(.E 8))]),iE 10 1 5 9,lE 11 10,vE 4 11]) .ret)
def zpj:List RV:=[.tmp [0] 4]
def z5w:List Nat:=[0,3,5,4,2]
def zsj:IC := .seq (.seq (.reg [mV 40 5,mV 41 4,bE 42 .lss 40 41]) (.cond (.E 42) .skip (.exit 0))) (.seq (.block 1 (.regD [(fV 45 7 3,0,2),(lE 46 45,0,2),(mV 47 0,0,0),(oE 48 (.call zbd [([0],(.E 47)),([0],(ki 3))]),0,0),(oE 49 (.bin .sub (.E 48) (ki 1)),0,0),(oE 50 (.bslice 1 1 [iv 0] [(0,(.E 49))]),0,0),(oE 51 (.app 8 1 (.E 46) (.E 50)),0,0),(fV 52 7 3,0,0),(oN (.store [1] (.E 52) (.E 51)),0,0)])) (.reg [mV 43 5,oE 44 (.bin .add (.E 43) (ki 1)),vE 5 44]))
def zim:IC := .seq (.reg [oV 2 (.alloc [iv 0,iv 0,iv 0,iv 0,iv 0,iv 0,iv 0,.e0])]) (.seq (.reg [mV 6 0,oE 7 (.call zbd [([0],(.E 6)),([0],(ki 4))]),oE 8 (.bin .add (ki 1) (.E 7)),mV 9 0,oE 10 (.call zbd [([0],(.E 9)),([0],(ki 4))]),mV 11 0,oE 12 (.call zbd [([0],(.E 11)),([0],(ki 5))]),oE 13 (.bin .add (ki 2) (.E 12)),mV 14 0,oE 15 (.call zbd [([0],(.E 14)),([0],(ki 3))]),oE 16 (.bin .add (ki 1) (.E 15)),mV 17 0,oE 18 (.call zbd [([0],(.E 17)),([0],(ki 3))]),oE 19 (.bin .add (ki 1) (.E 18)),mV 20 0,oE 21 (.call zbd [([0],(.E 20)),([0],(ki 3))]),oE 22 (.bin .add (ki 1) (.E 21)),oE 23 (.build [iv 0,iv 0,iv 0,iv 0,iv 0,iv 0,iv 0,.e0] [(0,1,(.E 8)),(1,1,(.E 10)),(2,1,(.E 13)),(3,1,(.E 16)),(4,1,(.E 19)),(5,1,(ki 1)),(6,1,(.E 22))]),oV 3 (.alloc [iv 0,iv 0,iv 0,iv 0,iv 0,iv 0,iv 0,.e0]),oN (.store [0,0,0,0,0,0,0,1] (.V 3) (.E 23))]) (.seq (.seq (.reg [mV 24 0,oE 25 (.call zgx [([0],(.E 24)),([0],(ki 8))])]) (.cond (.E 25) (.reg [mV 26 0,oE 27 (.call zbd [([0],(.E 26)),([0],(ki 100))]),oE 28 (.bin .add (ki 1) (.E 27)),fV 29 3 3,oN (.store [0] (.E 29) (.E 28))]) .skip)) (.seq (.seq (.reg [mV 30 0,oE 31 (.call zgx [([0],(.E 30)),([0],(ki 4))])]) (.cond (.E 31) (.reg [mV 32 0,fV 33 6 3,lE 34 33,oE 35 (.call zbd [([0],(.E 32)),([0],(.E 34))]),oE 36 (.bin .add (ki 1) (.E 35)),fV 37 5 3,oN (.store [0] (.E 37) (.E 36))]) .skip)) (.seq (.reg [mV 38 0,oE 39 (.call zbd [([0],(.E 38)),([0],(ki 5))]),vE 4 39]) (.seq (.seq (.reg [oV 5 (.mv (ki 0))]) (.block 0 (.loop zsj))) (.seq (.reg [tV 53 8 3,oN (.store [0,0,0,0,0,0,0,1] (.V 2) (.E 53))]) .ret))))))
def zio:List RV:=[.cell [0,0,0,0,0,0,0,1] 2 true]
def z5x:List Nat:=[0,1,2]
def zpk:IC := .seq (.reg [oV 1 (.box (.V 0)),oV 2 (.mv (kb false))]) (.seq (.reg [fV 3 0 1,lE 4 3,oE 5 (.call zcr [([0],(.E 4)),([0],(ki 1)),([0],(ki 8))]),wE 6 5,gE 7 6 .true (.faddr 1 (.V 1)),gE 8 6 .true (.load false 1 (.E 7)),gE 9 6 .true (.call zcr [([0],(.E 8)),([0],(ki 0)),([0],(ki 4))]),oE 10 (.pick (.E 6) (.E 9) (kb false)),wE 11 10,gE 12 11 .true (.faddr 2 (.V 1)),gE 13 11 .true (.load false 1 (.E 12)),gE 14 11 .true (.call zcr [([0],(.E 13)),([0],(ki 2)),([0],(ki 8))]),oE 15 (.pick (.E 11) (.E 14) (kb false)),wE 16 15,gE 17 16 .true (.faddr 3 (.V 1)),gE 18 16 .true (.load false 1 (.E 17)),gE 19 16 .true (.call zcr [([0],(.E 18)),([0],(ki 1)),([0],(ki 100))]),oE 20 (.pick (.E 16) (.E 19) (kb false)),wE 21 20,gE 22 21 .true (.faddr 4 (.V 1)),gE 23 21 .true (.load false 1 (.E 22)),gE 24 21 .true (.call zcr [([0],(.E 23)),([0],(ki 1)),([0],(ki 20))]),oE 25 (.pick (.E 21) (.E 24) (kb false)),wE 26 25,gE 27 26 .true (.faddr 6 (.V 1)),gE 28 26 .true (.load false 1 (.E 27)),gE 29 26 .true (.call zcr [([0],(.E 28)),([0],(ki 1)),([0],(ki 1000))]),oE 30 (.pick (.E 26) (.E 29) (kb false)),wE 31 30,gE 32 31 .true (.faddr 5 (.V 1)),gE 33 31 .true (.load false 1 (.E 32)),gE 34 31 .true (.faddr 6 (.V 1)),gE 35 31 .true (.load false 1 (.E 34)),gE 36 31 .true (.call zcr [([0],(.E 33)),([0],(ki 1)),([0],(.E 35))]),oE 37 (.pick (.E 31) (.E 36) (kb false)),wE 38 37,gE 39 38 .true (.faddr 7 (.V 1)),gE 40 38 .true (.load false 1 (.E 39)),gE 41 38 .true (.len (.E 40)),gE 42 38 .true (.bin .leq (.E 41) (ki 4)),oE 43 (.pick (.E 38) (.E 42) (kb false)),wE 44 43,gE 45 44 .true (.faddr 7 (.V 1)),gE 46 44 .true (.load false 1 (.E 45)),gE 47 44 .true (.call zkv [([1],(.E 46)),([0],(.C (.fn zig [])))]),gE 48 44 .true (.un .not (.E 47)),oE 49 (.pick (.E 44) (.E 48) (kb false)),vE 2 49]) .ret)
def zpl:List RV:=[.tmp [0] 2]
def z5y:List Nat:=[0,2]
def zpm:IC := .seq (.reg [oV 2 (.mv (kb false))]) (.seq (.reg [mV 3 0,oE 4 (.call zcr [([0],(.E 3)),([0],(ki (-1099511627776))),([0],(ki 1099511627776))]),vE 2 4]) .ret)
def zpn:List RV:=[.tmp [0] 2]
def z5z:List Nat:=[0,1,6,4,5]
def zpo:IC := .seq (.reg [oV 4 (.mv (ki 0)),oV 5 (.mv (kb false))]) (.seq (.seq (.reg [mV 7 1,oE 8 (.bin .eql (.E 7) (ki 0)),wE 9 8,gE 10 9 .false (.mv (.V 0)),gE 11 9 .false (.bin .eql (.E 10) (ki (-9223372036854775808))),gE 12 9 .false (.mv (.E 11)),gE 13 12 .true (.mv (.V 1)),gE 14 12 .true (.bin .eql (.E 13) (ki (-1))),gE 15 9 .false (.pick (.E 12) (.E 14) (kb false)),oE 16 (.pick (.E 9) (kb true) (.E 15))]) (.cond (.E 16) (.seq (.reg [oV 4 (.mv (ki 0)),oV 5 (.mv (kb false))]) .ret) .skip)) (.seq (.reg [mV 17 0,mV 18 1,bE 19 .quo 17 18,vE 6 19]) (.seq (.seq (.reg [mV 20 0,mV 21 1,bE 22 .rem 20 21,oE 23 (.bin .neq (.E 22) (ki 0)),wE 24 23,gE 25 24 .true (.mv (.V 0)),gE 26 24 .true (.bin .lss (.E 25) (ki 0)),gE 27 24 .true (.mv (.V 1)),gE 28 24 .true (.bin .lss (.E 27) (ki 0)),gE 29 24 .true (.eqb true [.b] (.E 26) (.E 28)),oE 30 (.pick (.E 24) (.E 29) (kb false))]) (.cond (.E 30) (.reg [mV 31 6,oE 32 (.bin .sub (.E 31) (ki 1)),vE 6 32]) .skip)) (.seq (.reg [mV 33 6,vE 4 33,oV 5 (.mv (kb true))]) .ret))))
def zpp:List RV:=[.tmp [0] 4,.tmp [0] 5]
def z50:List Nat:=[0,1,4,3,5,2]
def zip:IC := .seq (.seq (.reg [mV 8 4,oE 9 (.bin .lss (.E 8) (ki 5))]) (.cond (.E 9) .skip (.exit 0))) (.seq (.block 1 (.seq (.regD [(mV 12 3,0,0),(mV 13 4,0,0),(iE 14 1 12 13,0,2),(lE 15 14,0,2),(oE 16 (.call zky []),0,0),(mV 17 4,0,0),(iE 18 1 16 17,0,1),(lE 19 18,0,1),(oE 20 (.call zkz []),0,0),(mV 21 4,0,0),(iE 22 1 20 21,0,0),(lE 23 22,0,0),(oE 24 (.call zdf [([0],(.E 15)),([0],(.E 19)),([0],(.E 23))]),0,0),(oE 25 (.un .not (.E 24)),0,0)]) (.cond (.E 25) (.seq (.reg [oV 2 (.mv (kb false))]) .ret) .skip))) (.reg [mV 10 4,oE 11 (.bin .add (.E 10) (ki 1)),vE 4 11]))
def zvt:IC := .seq (.seq (.reg [mV 26 5,fV 27 7 1,lE 28 27,nE 29 28,bE 30 .lss 26 29]) (.cond (.E 30) .skip (.exit 2))) (.seq (.block 3 (.seq (.reg [fV 33 7 1,lE 34 33,mV 35 5,iE 36 1 34 35,lE 37 36,oE 38 (.call zdf [([0],(.E 37)),([0],(ki (-1))),([0],(ki 1))]),oE 39 (.un .not (.E 38))]) (.cond (.E 39) (.seq (.reg [oV 2 (.mv (kb false))]) .ret) .skip))) (.reg [mV 31 5,oE 32 (.bin .add (.E 31) (ki 1)),vE 5 32]))
def zpq:IC := .seq (.reg [oV 1 (.box (.V 0)),oV 2 (.mv (kb false))]) (.seq (.reg [tV 6 8 1,oE 7 (.call zkx [([0,0,0,0,0,0,0,1],(.E 6))]),vE 3 7]) (.seq (.seq (.reg [oV 4 (.mv (ki 0))]) (.block 0 (.loop zip))) (.seq (.seq (.reg [oV 5 (.mv (ki 0))]) (.block 2 (.loop zvt))) (.seq (.reg [fV 40 6 1,lE 41 40,oE 42 (.call zdf [([0],(.E 41)),([0],(ki 1)),([0],(ki 1000))]),wE 43 42,gE 44 43 .true (.faddr 5 (.V 1)),gE 45 43 .true (.load false 1 (.E 44)),gE 46 43 .true (.faddr 6 (.V 1)),gE 47 43 .true (.load false 1 (.E 46)),gE 48 43 .true (.call zdf [([0],(.E 45)),([0],(ki 1)),([0],(.E 47))]),oE 49 (.pick (.E 43) (.E 48) (kb false)),wE 50 49,gE 51 50 .true (.faddr 7 (.V 1)),gE 52 50 .true (.load false 1 (.E 51)),gE 53 50 .true (.len (.E 52)),gE 54 50 .true (.bin .leq (.E 53) (ki 4)),oE 55 (.pick (.E 50) (.E 54) (kb false)),vE 2 55]) .ret))))
def zpr:List RV:=[.tmp [0] 2]
def z52:List Nat:=[0,2]
def zps:IC := .seq (.reg [oV 2 (.mv (kb false))]) (.seq (.reg [mV 3 0,oE 4 (.call zdf [([0],(.E 3)),([0],(ki (-1099511627776))),([0],(ki 1099511627776))]),vE 2 4]) .ret)
def zpt:List RV:=[.tmp [0] 2]
def z54:List Nat:=[0,1,6,4,5]
def zpu:IC := .seq (.reg [oV 4 (.mv (ki 0)),oV 5 (.mv (kb false))]) (.seq (.seq (.reg [mV 7 1,oE 8 (.bin .eql (.E 7) (ki 0)),wE 9 8,gE 10 9 .false (.mv (.V 1)),gE 11 9 .false (.bin .eql (.E 10) (ki (-1))),gE 12 9 .false (.mv (.E 11)),gE 13 12 .true (.mv (.V 0)),gE 14 12 .true (.bin .eql (.E 13) (ki (-9223372036854775808))),gE 15 9 .false (.pick (.E 12) (.E 14) (kb false)),oE 16 (.pick (.E 9) (kb true) (.E 15))]) (.cond (.E 16) (.seq (.reg [oV 4 (.mv (ki 0)),oV 5 (.mv (kb false))]) .ret) .skip)) (.seq (.reg [mV 17 0,mV 18 1,bE 19 .quo 17 18,vE 6 19]) (.seq (.seq (.reg [mV 20 0,mV 21 1,bE 22 .rem 20 21,oE 23 (.bin .neq (.E 22) (ki 0)),wE 24 23,gE 25 24 .true (.mv (.V 0)),gE 26 24 .true (.bin .lss (.E 25) (ki 0)),gE 27 24 .true (.mv (.V 1)),gE 28 24 .true (.bin .lss (.E 27) (ki 0)),gE 29 24 .true (.eqb true [.b] (.E 26) (.E 28)),oE 30 (.pick (.E 24) (.E 29) (kb false))]) (.cond (.E 30) (.reg [mV 31 6,oE 32 (.bin .sub (.E 31) (ki 1)),vE 6 32]) .skip)) (.seq (.reg [mV 33 6,vE 4 33,oV 5 (.mv (kb true))]) .ret))))
def zpv:List RV:=[.tmp [0] 4,.tmp [0] 5]
def z55:List Nat:=[0,3,2]
def zl7:IC := .seq (.reg [oV 2 (.mv (ki 0))]) (.seq (.reg [mV 4 0,mV 5 0,oE 6 (.nilc (.E 5)),fE 7 2 6,lE 8 7,oE 9 (.bin .mul (.E 8) (ki 6364136223846793005)),oE 10 (.bin .add (.E 9) (ki 1442695040888963407)),oE 11 (.nilc (.E 4)),fE 12 2 11,oN (.store [0] (.E 12) (.E 10))]) (.seq (.regD [(mV 13 0,0,0),(oE 14 (.nilc (.E 13)),0,0),(fE 15 2 14,0,0),(lE 16 15,0,0),(oE 17 (.bin .shr (.E 16) (.C (.v (.int .u64 33)))),0,0),(mV 18 0,0,0),(oE 19 (.nilc (.E 18)),0,0),(fE 20 2 19,0,0),(lE 21 20,0,0),(oE 22 (.bin .shr (.E 21) (.C (.v (.int .u64 45)))),0,0),(bE 23 .xor 17 22,0,0),(oE 24 (.bin .and (.E 23) (ki 255)),0,0),(vE 3 24,0,0)]) (.seq (.seq (.regD [(mV 25 0,0,0),(oE 26 (.nilc (.E 25)),0,0),(fE 27 1 26,0,0),(lE 28 27,0,0),(mV 29 0,0,0),(oE 30 (.nilc (.E 29)),0,0),(fE 31 0 30,0,0),(lE 32 31,0,0),(nE 33 32,0,0),(bE 34 .lss 28 33,0,0)]) (.cond (.E 34) (.seq (.regD [(mV 35 3,0,0),(mV 36 0,0,0),(oE 37 (.nilc (.E 36)),0,0),(fE 38 0 37,0,0),(lE 39 38,0,0),(mV 40 0,0,0),(oE 41 (.nilc (.E 40)),0,0),(fE 42 1 41,0,0),(lE 43 42,0,0),(iE 44 1 39 43,0,0),(lE 45 44,0,0),(oE 46 (.convI .i64 (.E 45)),0,0),(bE 47 .add 35 46,0,0),(oE 48 (.bin .and (.E 47) (ki 255)),0,0),(vE 3 48,0,0)]) (.reg [mV 49 0,mV 50 0,oE 51 (.nilc (.E 50)),fE 52 1 51,lE 53 52,oE 54 (.bin .add (.E 53) (ki 1)),oE 55 (.nilc (.E 49)),fE 56 1 55,oN (.store [0] (.E 56) (.E 54))])) .skip)) (.seq (.reg [mV 57 3,vE 2 57]) .ret))))
def zl8:List RV:=[.tmp [0] 2]
def z56:List Nat:=[0,6,4,3,2]
def zvu:IC := .seq (.seq (.reg [mV 14 4,oE 15 (.bin .lss (.E 14) (ki 8))]) (.cond (.E 15) .skip (.exit 1))) (.seq (.block 2 (.reg [mV 18 3,oE 19 (.bin .mul (.E 18) (ki 256)),mV 20 0,oE 21 (.call zfj [([0],(.E 20))]),bE 22 .add 19 21,vE 3 22])) (.reg [mV 16 4,oE 17 (.bin .add (.E 16) (ki 1)),vE 4 17]))
def ziq:IC := .seq (.reg [oV 2 (.mv (ki 0))]) (.seq (.seq (.reg [mV 5 0,oV 6 (.call zbd [([0],(.E 5)),([0],(ki 4))])]) (.block 0 (.seq (.reg [oE 8 (.bin .eql (.V 6) (ki 0)),wE 7 8]) (.cond (.E 7) (.seq (.reg [mV 9 0,oE 10 (.bslice 14 1 [iv 0] [(0,(ki 0)),(1,(ki 1)),(2,(ki (-1))),(3,(ki 9)),(4,(ki 10)),(5,(ki 999)),(6,(ki 1000)),(7,(ki 2147483647)),(8,(ki (-2147483648))),(9,(ki 3037000499)),(10,(ki 3037000500)),(11,(ki 9223372036854775807)),(12,(ki (-9223372036854775807))),(13,(ki (-9223372036854775808)))]),oE 11 (.call zdg [([0],(.E 9)),([1],(.E 10))]),vE 2 11]) .ret) (.seq (.reg [oE 13 (.bin .eql (.V 6) (ki 1)),wE 12 13]) (.cond (.E 12) (.seq (.reg [oV 3 (.mv (ki 0))]) (.seq (.seq (.reg [oV 4 (.mv (ki 0))]) (.block 1 (.loop zvu))) (.seq (.reg [mV 23 3,vE 2 23]) .ret))) (.seq (.reg [oE 25 (.bin .eql (.V 6) (ki 2)),wE 24 25]) (.cond (.E 24) (.seq (.reg [mV 26 0,oE 27 (.call zbd [([0],(.E 26)),([0],(ki 1000000))]),oE 28 (.bin .sub (.E 27) (ki 500000)),vE 2 28]) .ret) .skip)))))))) (.seq (.reg [mV 29 0,oE 30 (.call zbd [([0],(.E 29)),([0],(ki 41))]),oE 31 (.bin .sub (.E 30) (ki 20)),vE 2 31]) .ret))
def zir:List RV:=[.tmp [0] 2]
def z57:List Nat:=[0,2]
def zpw:IC := .seq (.reg [oV 2 (.mv (kb false))]) (.seq (.reg [mV 3 0,oE 4 (.call zdf [([0],(.E 3)),([0],(ki (-2147483647))),([0],(ki 2147483647))]),vE 2 4]) .ret)
def zpx:List RV:=[.tmp [0] 2]
def z58:List Nat:=[0,1,4]
def zpy:IC := .seq (.reg [oV 4 (.mv (ki 0))]) (.seq (.seq (.reg [mV 5 0,mV 6 1,bE 7 .gtr 5 6]) (.cond (.E 7) (.seq (.reg [mV 8 0,vE 4 8]) .ret) .skip)) (.seq (.reg [mV 9 1,vE 4 9]) .ret))
def zpz:List RV:=[.tmp [0] 4]
def z59:List Nat:=[0,1,2,5,4]
def zvv:IC := .seq (.seq (.reg [mV 13 5,oE 14 (.bin .leq (.E 13) (ki 31))]) (.cond (.E 14) .skip (.exit 0))) (.block 1 (.seq (.reg [tV 15 1 2,mV 16 1,oE 17 (.call zhp [([5],(.E 15)),([0],(.E 16))]),vE 1 17]) (.seq (.seq (.reg [mV 18 1,oE 19 (.bin .lss (.E 18) (ki 0))]) (.cond (.E 19) (.seq (.reg [mV 20 5,vE 4 20]) .ret) .skip)) (.reg [mV 21 5,oE 22 (.bin .add (.E 21) (ki 1)),vE 5 22]))))
def zp0:IC := .seq (.reg [oV 2 (.box (.V 0)),oV 4 (.mv (ki 0))]) (.seq (.seq (.reg [mV 6 1,fV 7 0 2,lE 8 7,nE 9 8,oE 10 (.bin .sub (.E 9) (ki 1)),oE 11 (.call zdf [([0],(.E 6)),([0],(ki 0)),([0],(.E 10))]),oE 12 (.un .not (.E 11))]) (.cond (.E 12) (.seq (.reg [oV 4 (.mv (ki (-1)))]) .ret) .skip)) (.seq (.reg [oV 5 (.mv (ki 0))]) (.seq (.block 0 (.loop zvv)) (.seq (.reg [oV 4 (.mv (ki (-1)))]) .ret))))
def zp1:List RV:=[.tmp [0] 4]
def z6a:List Nat:=[0,1,5,2,4]
def zvw:IC := .seq (.seq (.reg [mV 6 5,fV 7 0 2,lE 8 7,nE 9 8,bE 10 .lss 6 9]) (.cond (.E 10) .skip (.exit 0))) (.seq (.block 1 (.seq (.reg [fV 13 0 2,lE 14 13,mV 15 5,iE 16 5 14 15,tE 17 5 16,oE 18 (.call ze0 [([0,0,0,0,0],(.E 17))]),wE 19 18,gE 20 19 .true (.faddr 0 (.V 2)),gE 21 19 .true (.load false 1 (.E 20)),gE 22 19 .true (.mv (.V 5)),gE 23 19 .true (.iaddr 5 (.E 21) (.E 22)),gE 24 19 .true (.faddr 2 (.E 23)),gE 25 19 .true (.load false 1 (.E 24)),gE 26 19 .true (.mv (.V 1)),gE 27 19 .true (.bin .eql (.E 25) (.E 26)),gE 28 19 .true (.mv (.E 27)),gE 29 28 .false (.faddr 0 (.V 2)),gE 30 28 .false (.load false 1 (.E 29)),gE 31 28 .false (.mv (.V 5)),gE 32 28 .false (.iaddr 5 (.E 30) (.E 31)),gE 33 28 .false (.faddr 3 (.E 32)),gE 34 28 .false (.load false 1 (.E 33)),gE 35 28 .false (.mv (.V 1)),gE 36 28 .false (.bin .eql (.E 34) (.E 35)),gE 37 19 .true (.pick (.E 28) (kb true) (.E 36)),oE 38 (.pick (.E 19) (.E 37) (kb false))]) (.cond (.E 38) (.seq (.reg [mV 39 5,vE 4 39]) .ret) .skip))) (.reg [mV 11 5,oE 12 (.bin .add (.E 11) (ki 1)),vE 5 12]))
def zp2:IC := .seq (.reg [oV 2 (.box (.V 0)),oV 4 (.mv (ki 0))]) (.seq (.seq (.reg [oV 5 (.mv (ki 0))]) (.block 0 (.loop zvw))) (.seq (.reg [oV 4 (.mv (ki (-1)))]) .ret))
def zp3:List RV:=[.tmp [0] 4]
def z6b:List Nat:=[0,2]
def zp4:IC := .seq (.reg [oV 2 (.mv (kb false))]) (.seq (.reg [mV 3 0,oE 4 (.call zcr [([0],(.E 3)),([0],(ki (-2147483647))),([0],(ki 2147483647))]),vE 2 4]) .ret)
def zp5:List RV:=[.tmp [0] 2]
def z6c:List Nat:=[0,1,2,3,4]
def zp6:IC := .seq (.reg [oV 2 (.box (.V 0)),oV 3 (.box (.V 1)),oV 4 (.mv (ki 0))]) (.seq (.reg [fV 5 0 2,lE 6 5,oE 7 (.mkfn zih [(.V 3)]),oE 8 (.call zk0 [([5],(.E 6)),([0],(.E 7))]),vE 4 8]) .ret)
def zp7:List RV:=[.tmp [0] 4]
def z6d:List Nat:=[0,2,3]
def zvx:IC := .seq (.seq (.reg [mV 7 2,mV 8 3,bE 9 .lss 7 8]) (.cond (.E 9) .skip (.exit 0))) (.seq (.block 1 (.regD [(mV 14 0,0,0),(mV 15 2,0,0),(mV 16 0,0,0),(mV 17 3,0,0),(mV 18 0,0,0),(mV 19 3,0,0),(iE 20 1 18 19,0,0),(lE 21 20,0,0),(mV 22 0,0,0),(mV 23 2,0,0),(iE 24 1 22 23,0,0),(lE 25 24,0,0),(iE 26 1 14 15,0,0),(oN (.store [0] (.E 26) (.E 21)),0,0),(iE 27 1 16 17,0,0),(oN (.store [0] (.E 27) (.E 25)),0,0)])) (.reg [mV 10 2,oE 11 (.bin .add (.E 10) (ki 1)),mV 12 3,oE 13 (.bin .sub (.E 12) (ki 1)),vE 2 11,vE 3 13]))
def zp8:IC := .seq (.reg [mV 4 0,nE 5 4,oE 6 (.bin .sub (.E 5) (ki 1)),oV 2 (.mv (ki 0)),vE 3 6]) (.block 0 (.loop zvx))
def zp9:List RV:=[]
def z6e:List Nat:=[0,2]
def zqa:IC := .seq (.reg [oV 2 (.alloc [.e0])]) (.seq (.reg [mV 3 0,oE 4 (.build [iv 0,iv 0,iv 0,iv 0,iv 0] [(0,1,(ki (-1))),(4,1,(.E 3))]),oE 5 (.bslice 1 5 [iv 0,iv 0,iv 0,iv 0,iv 0] [(0,(.E 4))]),oE 6 (.build [.e0] [(0,1,(.E 5))]),oN (.store [5] (.V 2) (.E 6))]) .ret)
def zqb:List RV:=[.cell [5] 2 true]
def z6f:List Nat:=[0,1,2,3,4,5,7,11,10]
def zqc:IC := .seq (.reg [oV 5 (.box (.V 0)),oV 7 (.box (.V 2)),oV 10 (.alloc [.e0])]) (.seq (.reg [oE 12 (.bslice 0 5 [iv 0,iv 0,iv 0,iv 0,iv 0] []),fV 13 0 5,lE 14 13,oE 15 (.app 40 5 (.E 12) (.E 14)),vE 11 15]) (.seq (.reg [fV 16 4 7,oN (.store [0] (.E 16) (ki 0))]) (.seq (.reg [mV 17 11,nE 18 17,fV 19 2 7,oN (.store [0] (.E 19) (.E 18))]) (.seq (.reg [mV 20 11,nE 21 20,oE 22 (.bin .add (.E 21) (ki 1)),fV 23 3 7,oN (.store [0] (.E 23) (.E 22))]) (.seq (.reg [mV 24 11,mV 25 1,tV 26 5 7,iE 27 5 24 25,oN (.store [0,0,0,0,0] (.E 27) (.E 26))]) (.seq (.reg [mV 28 11,mV 29 3,oE 30 (.build [iv 0,iv 0,iv 0,iv 0,iv 0] [(0,1,(ki (-1))),(4,1,(.E 29))]),mV 31 4,oE 32 (.build [iv 0,iv 0,iv 0,iv 0,iv 0] [(0,1,(ki (-1))),(4,1,(.E 31))]),oE 33 (.bslice 2 5 [iv 0,iv 0,iv 0,iv 0,iv 0] [(0,(.E 30)),(1,(.E 32))]),oE 34 (.app 40 5 (.E 28) (.E 33)),vE 11 34]) (.seq (.reg [mV 35 11,oE 36 (.call zk1 [([5],(.E 35))]),oN (.store [5] (.V 10) (.E 36))]) .ret)))))))
def zqd:List RV:=[.cell [5] 10 true]
def z6g:List Nat:=[0,1,4]
def zqe:IC := .seq (.reg [oV 4 (.mv (kb false))]) (.seq (.reg [mV 5 0,mV 6 1,oE 7 (.call zk2 [([1],(.E 5)),([0],(.E 6))]),oE 8 (.bin .geq (.E 7) (ki 0)),vE 4 8]) .ret)
def zqf:List RV:=[.tmp [0] 4]
def z6h:List Nat:=[0,2]
def zqg:IC := .seq (.reg [oV 2 (.mv (kb false))]) (.seq (.reg [mV 3 0,oE 4 (.call zkw [([0],(.E 3))]),oE 5 (.un .not (.E 4)),vE 2 5]) .ret)
def zqh:List RV:=[.tmp [0] 2]
def z6i:List Nat:=[0,2]
def zqi:IC := .seq (.reg [oV 2 (.mv (kb false))]) (.seq (.reg [mV 3 0,oE 4 (.call zcr [([0],(.E 3)),([0],(ki (-1))),([0],(ki 1))]),vE 2 4]) .ret)
def zqj:List RV:=[.tmp [0] 2]
def z6j:List Nat:=[0,1,2]
def zqk:IC := .seq (.reg [oV 1 (.box (.V 0)),oV 2 (.mv (.C .e0))]) (.seq (.reg [fV 3 0 1,lE 4 3,fV 5 1 1,lE 6 5,fV 7 2 1,lE 8 7,fV 9 3 1,lE 10 9,fV 11 4 1,lE 12 11,oE 13 (.bslice 5 1 [iv 0] [(0,(.E 4)),(1,(.E 6)),(2,(.E 8)),(3,(.E 10)),(4,(.E 12))]),vE 2 13]) .ret)
def zql:List RV:=[.tmp [1] 2]
def z6k:List Nat:=[0]
def zqm:IC := .seq (.reg [oV 0 (.mv (.C .e0))]) (.seq (.reg [oE 1 (.bslice 5 1 [iv 0] [(0,(ki 1)),(1,(ki 0)),(2,(ki 2)),(3,(ki 1)),(4,(ki 1))]),vE 0 1]) .ret)
def zqn:List RV:=[.tmp [1] 0]
def z6l:List Nat:=[0]
def zqo:IC := .seq (.reg [oV 0 (.mv (.C .e0))]) (.seq (.reg [oE 1 (.bslice 5 1 [iv 0] [(0,(ki 8)),(1,(ki 4)),(2,(ki 8)),(3,(ki 100)),(4,(ki 20))]),vE 0 1]) .ret)
def zqp:List RV:=[.tmp [1] 0]
def z6m:List Nat:=[0,1,8,7,5,4]
def zvy:IC := .seq (.reg [oE 9 (.bin .lss (.V 8) (.V 7))]) (.seq (.cond (.E 9) .skip (.exit 0)) (.seq (.block 1 (.seq (.reg [mV 10 8,vE 5 10]) (.seq (.reg [mV 11 1,mV 12 0,mV 13 5,iE 14 5 12 13,tE 15 5 14,oE 16 (.callv (.E 11) [([0,0,0,0,0],(.E 15))])]) (.cond (.E 16) (.seq (.reg [mV 17 5,vE 4 17]) .ret) .skip)))) (.reg [oE 18 (.bin .add (.V 8) (ki 1)),vE 8 18])))
def zqq:IC := .seq (.reg [oV 4 (.mv (ki 0))]) (.seq (.seq (.reg [mV 6 0,oV 7 (.len (.E 6)),oV 8 (.mv (ki 0))]) (.block 0 (.loop zvy))) (.seq (.reg [oV 4 (.mv (ki (-1)))]) .ret))
def zqr:List RV:=[.tmp [0] 4]
def z6n:List Nat:=[0,1,2,3]
def zqs:IC := .seq (.reg [oV 2 (.box (.V 0)),oV 3 (.mv (kb false))]) (.seq (.reg [tV 4 5 2,oE 5 (.call zgc [([0,0,0,0,0],(.E 4))]),oE 6 (.un .not (.E 5)),wE 7 6,gE 8 7 .true (.faddr 2 (.V 2)),gE 9 7 .true (.load false 1 (.E 8)),gE 10 7 .true (.load false 1 (.V 1)),gE 11 7 .true (.bin .eql (.E 9) (.E 10)),gE 12 7 .true (.mv (.E 11)),gE 13 12 .false (.faddr 3 (.V 2)),gE 14 12 .false (.load false 1 (.E 13)),gE 15 12 .false (.load false 1 (.V 1)),gE 16 12 .false (.bin .eql (.E 14) (.E 15)),gE 17 7 .true (.pick (.E 12) (kb true) (.E 16)),oE 18 (.pick (.E 7) (.E 17) (kb false)),vE 3 18]) .ret)
def zqt:List RV:=[.tmp [0] 3]
def z6o:List Nat:=[0,6,4,7,5,3,2]
def zvz:IC := .seq (.seq (.reg [mV 10 6,mV 11 4,nE 12 11,bE 13 .lss 10 12]) (.cond (.E 13) .skip (.exit 0))) (.seq (.block 1 (.seq (.reg [mV 16 0,mV 17 4,mV 18 6,iE 19 1 17 18,lE 20 19,iE 21 5 16 20,tE 22 5 21,oV 7 (.alloc [iv 0,iv 0,iv 0,iv 0,iv 0]),oN (.store [0,0,0,0,0] (.V 7) (.E 22))]) (.seq (.seq (.reg [tV 23 5 7,oE 24 (.call ze0 [([0,0,0,0,0],(.E 23))])]) (.cond (.E 24) (.seq (.reg [mV 25 4,fV 26 2 7,lE 27 26,fV 28 3 7,lE 29 28,oE 30 (.bslice 2 1 [iv 0] [(0,(.E 27)),(1,(.E 29))]),oE 31 (.app 8 1 (.E 25) (.E 30)),vE 4 31]) (.seq (.reg [mV 32 5,fV 33 2 7,oN (.store [0] (.E 33) (.E 32))]) (.seq (.reg [mV 34 5,oE 35 (.bin .add (.E 34) (ki 1)),fV 36 3 7,oN (.store [0] (.E 36) (.E 35))]) (.reg [mV 37 5,oE 38 (.bin .add (.E 37) (ki 2)),vE 5 38])))) .skip)) (.reg [fV 39 0 3,lE 40 39,tV 41 5 7,oE 42 (.bslice 1 5 [iv 0,iv 0,iv 0,iv 0,iv 0] [(0,(.E 41))]),oE 43 (.app 40 5 (.E 40) (.E 42)),fV 44 0 3,oN (.store [5] (.E 44) (.E 43))])))) (.reg [mV 14 6,oE 15 (.bin .add (.E 14) (ki 1)),vE 6 15]))
def zqu:IC := .seq (.reg [oV 2 (.alloc [.e0])]) (.seq (.reg [oE 8 (.build [.e0] []),oV 3 (.alloc [.e0]),oN (.store [5] (.V 3) (.E 8))]) (.seq (.reg [oE 9 (.bslice 1 1 [iv 0] [(0,(ki 0))]),vE 4 9]) (.seq (.reg [oV 5 (.mv (ki 1))]) (.seq (.seq (.reg [oV 6 (.mv (ki 0))]) (.block 0 (.loop zvz))) (.seq (.reg [tV 45 1 3,oN (.store [5] (.V 2) (.E 45))]) .ret)))))
def zqv:List RV:=[.cell [5] 2 true]
def z6p:List Nat:=[0,1,8,7,5,4]
def zv0:IC := .seq (.reg [oE 9 (.bin .lss (.V 8) (.V 7))]) (.seq (.cond (.E 9) .skip (.exit 0)) (.seq (.block 1 (.seq (.reg [mV 10 8,vE 5 10]) (.seq (.reg [mV 11 1,mV 12 0,mV 13 5,iE 14 1 12 13,lE 15 14,oE 16 (.callv (.E 11) [([0],(.E 15))])]) (.cond (.E 16) (.seq (.reg [mV 17 5,vE 4 17]) .ret) .skip)))) (.reg [oE 18 (.bin .add (.V 8) (ki 1)),vE 8 18])))
def zqw:IC := .seq (.reg [oV 4 (.mv (ki 0))]) (.seq (.seq (.reg [mV 6 0,oV 7 (.len (.E 6)),oV 8 (.mv (ki 0))]) (.block 0 (.loop zv0))) (.seq (.reg [oV 4 (.mv (ki (-1)))]) .ret))
def zqx:List RV:=[.tmp [0] 4]
def tbl:List (Nat×Fun):=[
 (zl0,zab zii zij []),
 (zh4,zab znh zni []),
 (zgw,zab znj znk []),
 (zjo,zab znl znm []),
 (zjp,zab znn zno []),
 (zjq,zab znq znr []),
 (zjr,zab zns znt []),
 (zjs,zab zl2 zl3 []),
 (zjt,zab znu znv []),
 (zju,zab zl4 zl5 []),
 (zjv,zab znw znx []),
 (zjw,zab zny znz []),
 (zh5,zab zgy zgz []),
 (zjx,zab zik zil []),
 (zh6,zab zn0 zn1 []),
 (zjy,zab zn2 zn3 []),
 (zh7,zab zn4 zn5 []),
 (zjz,zab zn6 zn7 []),
 (zh8,zab zn9 zoa []),
 (zh9,zab zfk zfl [true]),
 (zj0,zab ze1 ze2 [true]),
 (zj1,zab zob zoc []),
 (zj2,zab zod zoe []),
 (zj3,zab zof zog []),
 (ze0,zab zoh zoi []),
 (zj4,zab zoj zok []),
 (zgx,zab zol zom [true]),
 (zbd,zab zk3 zk4 [true]),
 (zj5,zab zon zoo [true]),
 (zj6,zab zop zoq []),
 (zj7,zab zor zos []),
 (zdf,zab zot zou []),
 (zj8,zab zov zow []),
 (zj9,zab zox zoy []),
 (zka,zab zoz zo0 []),
 (zcr,zab zo1 zo2 []),
 (zkb,zab zo3 zo4 []),
 (zgc,zab zo5 zo6 []),
 (zia,zab zo7 zo8 []),
 (zib,zab zo9 zpa []),
 (zkc,zab zpc zpd []),
 (zkd,.known [true] zjm),
 (zke,zab zpe zpf []),
 (zkf,zab zpg zph [true]),
 (zdg,zab zpi zpj [true,true,true]),
 (zkg,zab zim zio [true]),
 (zkh,.known [] (zg5 5 40)),
 (zki,zab zpk zpl []),
 (zic,zab zpm zpn []),
 (zkj,zab zpo zpp []),
 (zkk,zab zpq zpr []),
 (zid,zab zps zpt []),
 (zkl,zab zpu zpv []),
 (zfj,zab zl7 zl8 [true]),
 (zkm,zab ziq zir [true]),
 (zkn,zab zpw zpx []),
 (zko,zab zpy zpz []),
 (zie,zab zp0 zp1 []),
 (zhp,zab zp2 zp3 []),
 (zkp,zab zp4 zp5 []),
 (zif,zab zp6 zp7 []),
 (zkq,zab zp8 zp9 [true]),
 (zkr,.known [] (zg5 1 8)),
 (zks,.known [true] zi5),
 (zkt,zab zqa zqb []),
 (zku,zab zqc zqd []),
 (zkv,zab zqe zqf []),
 (zig,zab zqg zqh []),
 (zkw,zab zqi zqj []),
 (zkx,zab zqk zql []),
 (zky,zab zqm zqn []),
 (zkz,zab zqo zqp []),
 (zk0,zab zqq zqr []),
 (zih,zab zqs zqt []),
 (zk1,zab zqu zqv []),
 (zk2,zab zqw zqx [])]
def T:zbs:=fun f=>(tbl.find? fun q=>q.1 == f).map fun q=>q.2
theorem zk5:T zl0=some (zab zii zij []):=rfl
@[simp] theorem yhn:zai T zl0=[]:=zap zk5
theorem zv1:T zh4=some (zab znh zni []):=rfl
@[simp] theorem yho:zai T zh4=[]:=zap zv1
theorem zv2:T zgw=some (zab znj znk []):=rfl
@[simp] theorem yhp:zai T zgw=[]:=zap zv2
theorem zv3:T zjo=some (zab znl znm []):=rfl
@[simp] theorem yhq:zai T zjo=[]:=zap zv3
theorem zv4:T zjp=some (zab znn zno []):=rfl
@[simp] theorem yhr:zai T zjp=[]:=zap zv4
theorem zv5:T zjq=some (zab znq znr []):=rfl
@[simp] theorem yhs:zai T zjq=[]:=zap zv5
theorem zv6:T zjr=some (zab zns znt []):=rfl
@[simp] theorem yht:zai T zjr=[]:=zap zv6
theorem zv7:T zjs=some (zab zl2 zl3 []):=rfl
@[simp] theorem yhu:zai T zjs=[]:=zap zv7
theorem zv8:T zjt=some (zab znu znv []):=rfl
@[simp] theorem yhv:zai T zjt=[]:=zap zv8
theorem zsk:T zju=some (zab zl4 zl5 []):=rfl
@[simp] theorem yhw:zai T zju=[]:=zap zsk
theorem zv9:T zjv=some (zab znw znx []):=rfl
@[simp] theorem yhx:zai T zjv=[]:=zap zv9
theorem zwa:T zjw=some (zab zny znz []):=rfl
@[simp] theorem yhy:zai T zjw=[]:=zap zwa
theorem zwb:T zh5=some (zab zgy zgz []):=rfl
@[simp] theorem yhz:zai T zh5=[]:=zap zwb
theorem zwc:T zjx=some (zab zik zil []):=rfl
@[simp] theorem yh0:zai T zjx=[]:=zap zwc
theorem zwd:T zh6=some (zab zn0 zn1 []):=rfl
@[simp] theorem yh1:zai T zh6=[]:=zap zwd
theorem zwe:T zjy=some (zab zn2 zn3 []):=rfl
@[simp] theorem yh2:zai T zjy=[]:=zap zwe
theorem zwf:T zh7=some (zab zn4 zn5 []):=rfl
@[simp] theorem yh3:zai T zh7=[]:=zap zwf
theorem zwg:T zjz=some (zab zn6 zn7 []):=rfl
@[simp] theorem yh4:zai T zjz=[]:=zap zwg
theorem zwh:T zh8=some (zab zn9 zoa []):=rfl
@[simp] theorem yh5:zai T zh8=[]:=zap zwh
theorem zwi:T zh9=some (zab zfk zfl [true]):=rfl
@[simp] theorem yh6:zai T zh9=[true]:=zap zwi
theorem zwj:T zj0=some (zab ze1 ze2 [true]):=rfl
@[simp] theorem yh7:zai T zj0=[true]:=zap zwj
theorem zwk:T zj1=some (zab zob zoc []):=rfl
@[simp] theorem yh8:zai T zj1=[]:=zap zwk
theorem zwl:T zj2=some (zab zod zoe []):=rfl
@[simp] theorem yh9:zai T zj2=[]:=zap zwl
theorem zwm:T zj3=some (zab zof zog []):=rfl
@[simp] theorem yia:zai T zj3=[]:=zap zwm
theorem zwn:T ze0=some (zab zoh zoi []):=rfl
@[simp] theorem yib:zai T ze0=[]:=zap zwn
theorem zwo:T zj4=some (zab zoj zok []):=rfl
@[simp] theorem yic:zai T zj4=[]:=zap zwo
theorem zwp:T zgx=some (zab zol zom [true]):=rfl
@[simp] theorem yid:zai T zgx=[true]:=zap zwp
theorem zwq:T zbd=some (zab zk3 zk4 [true]):=rfl
@[simp] theorem yie:zai T zbd=[true]:=zap zwq
theorem zwr:T zj5=some (zab zon zoo [true]):=rfl
@[simp] theorem yif:zai T zj5=[true]:=zap zwr
theorem zws:T zj6=some (zab zop zoq []):=rfl
@[simp] theorem yig:zai T zj6=[]:=zap zws
theorem zwt:T zj7=some (zab zor zos []):=rfl
@[simp] theorem yih:zai T zj7=[]:=zap zwt
theorem zwu:T zdf=some (zab zot zou []):=rfl
@[simp] theorem yii:zai T zdf=[]:=zap zwu
theorem zwv:T zj8=some (zab zov zow []):=rfl
@[simp] theorem yij:zai T zj8=[]:=zap zwv
theorem zww:T zj9=some (zab zox zoy []):=rfl
@[simp] theorem yik:zai T zj9=[]:=zap zww
theorem zwx:T zka=some (zab zoz zo0 []):=rfl
@[simp] theorem yil:zai T zka=[]:=zap zwx
theorem zwy:T zcr=some (zab zo1 zo2 []):=rfl
@[simp] theorem yim:zai T zcr=[]:=zap zwy
theorem zwz:T zkb=some (zab zo3 zo4 []):=rfl
@[simp] theorem yin:zai T zkb=[]:=zap zwz
theorem zw0:T zgc=some (zab zo5 zo6 []):=rfl
@[simp] theorem yio:zai T zgc=[]:=zap zw0
theorem zw1:T zia=some (zab zo7 zo8 []):=rfl
@[simp] theorem yip:zai T zia=[]:=zap zw1
theorem zw2:T zib=some (zab zo9 zpa []):=rfl
@[simp] theorem yiq:zai T zib=[]:=zap zw2
theorem zw3:T zkc=some (zab zpc zpd []):=rfl
@[simp] theorem yir:zai T zkc=[]:=zap zw3
theorem zw4:T zkd=some (.known [true] zjm):=rfl
@[simp] theorem yis:zai T zkd=[true]:=zrw zw4
theorem zw5:T zke=some (zab zpe zpf []):=rfl
@[simp] theorem yit:zai T zke=[]:=zap zw5
theorem zw6:T zkf=some (zab zpg zph [true]):=rfl
@[simp] theorem yiu:zai T zkf=[true]:=zap zw6
theorem zw7:T zdg=some (zab zpi zpj [true,true,true]):=rfl
@[simp] theorem yiv:zai T zdg=[true,true,true]:=zap zw7
theorem zw8:T zkg=some (zab zim zio [true]):=rfl
@[simp] theorem yiw:zai T zkg=[true]:=zap zw8
theorem zw9:T zkh=some (.known [] (zg5 5 40)):=rfl
@[simp] theorem yix:zai T zkh=[]:=zrw zw9
theorem zxa:T zki=some (zab zpk zpl []):=rfl
@[simp] theorem yiy:zai T zki=[]:=zap zxa
theorem zxb:T zic=some (zab zpm zpn []):=rfl
@[simp] theorem yiz:zai T zic=[]:=zap zxb
theorem zxc:T zkj=some (zab zpo zpp []):=rfl
@[simp] theorem yi0:zai T zkj=[]:=zap zxc
theorem zxd:T zkk=some (zab zpq zpr []):=rfl
@[simp] theorem yi1:zai T zkk=[]:=zap zxd
theorem zxe:T zid=some (zab zps zpt []):=rfl
@[simp] theorem yi2:zai T zid=[]:=zap zxe
theorem zxf:T zkl=some (zab zpu zpv []):=rfl
@[simp] theorem yi3:zai T zkl=[]:=zap zxf
theorem zxg:T zfj=some (zab zl7 zl8 [true]):=rfl
@[simp] theorem yi4:zai T zfj=[true]:=zap zxg
theorem zxh:T zkm=some (zab ziq zir [true]):=rfl
@[simp] theorem yi5:zai T zkm=[true]:=zap zxh
theorem zxi:T zkn=some (zab zpw zpx []):=rfl
@[simp] theorem yi6:zai T zkn=[]:=zap zxi
theorem zxj:T zko=some (zab zpy zpz []):=rfl
@[simp] theorem yi7:zai T zko=[]:=zap zxj
theorem zxk:T zie=some (zab zp0 zp1 []):=rfl
@[simp] theorem yi8:zai T zie=[]:=zap zxk
theorem zxl:T zhp=some (zab zp2 zp3 []):=rfl
@[simp] theorem yi9:zai T zhp=[]:=zap zxl
theorem zxm:T zkp=some (zab zp4 zp5 []):=rfl
@[simp] theorem yja:zai T zkp=[]:=zap zxm
theorem zxn:T zif=some (zab zp6 zp7 []):=rfl
@[simp] theorem yjb:zai T zif=[]:=zap zxn
theorem zxo:T zkq=some (zab zp8 zp9 [true]):=rfl
@[simp] theorem yjc:zai T zkq=[true]:=zap zxo
theorem zxp:T zkr=some (.known [] (zg5 1 8)):=rfl
@[simp] theorem yjd:zai T zkr=[]:=zrw zxp
theorem zxq:T zks=some (.known [true] zi5):=rfl
@[simp] theorem yje:zai T zks=[true]:=zrw zxq
theorem zxr:T zkt=some (zab zqa zqb []):=rfl
@[simp] theorem yjf:zai T zkt=[]:=zap zxr
theorem zxs:T zku=some (zab zqc zqd []):=rfl
@[simp] theorem yjg:zai T zku=[]:=zap zxs
theorem zxt:T zkv=some (zab zqe zqf []):=rfl
@[simp] theorem yjh:zai T zkv=[]:=zap zxt
theorem zxu:T zig=some (zab zqg zqh []):=rfl
@[simp] theorem yji:zai T zig=[]:=zap zxu
theorem zxv:T zkw=some (zab zqi zqj []):=rfl
@[simp] theorem yjj:zai T zkw=[]:=zap zxv
theorem zxw:T zkx=some (zab zqk zql []):=rfl
@[simp] theorem yjk:zai T zkx=[]:=zap zxw
theorem zxx:T zky=some (zab zqm zqn []):=rfl
@[simp] theorem yjl:zai T zky=[]:=zap zxx
theorem zxy:T zkz=some (zab zqo zqp []):=rfl
@[simp] theorem yjm:zai T zkz=[]:=zap zxy
theorem zxz:T zk0=some (zab zqq zqr []):=rfl
@[simp] theorem yjn:zai T zk0=[]:=zap zxz
theorem zx0:T zih=some (zab zqs zqt []):=rfl
@[simp] theorem yjo:zai T zih=[]:=zap zx0
theorem zx1:T zk1=some (zab zqu zqv []):=rfl
@[simp] theorem yjp:zai T zk1=[]:=zap zx1
theorem zx2:T zk2=some (zab zqw zqx []):=rfl
@[simp] theorem yjq:zai T zk2=[]:=zap zx2
end Go.Pe
