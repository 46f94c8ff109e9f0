/- The compact texts of the functions that the law reaches; no condition. -/
import Derived.Test.YtdebkglpapjeiaaEvA0
set_option linter.all false
namespace Go.Pe
open Go
abbrev gE (n g:Nat) (b:Bool) (o:IOp):zaa:=⟨some (.E n),o,some (.E g,b)⟩
abbrev gV (n g:Nat) (b:Bool) (o:IOp):zaa:=⟨some (.V n),o,some (.E g,b)⟩
abbrev fV (n i k:Nat):zaa:=⟨some (.E n),.faddr i (.V k),none⟩
abbrev fE (n i k:Nat):zaa:=⟨some (.E n),.faddr i (.E k),none⟩
abbrev lE (n k:Nat):zaa:=⟨some (.E n),.load false 1 (.E k),none⟩
abbrev tV (n i k:Nat):zaa:=⟨some (.E n),.load true i (.V k),none⟩
abbrev tE (n i k:Nat):zaa:=⟨some (.E n),.load true i (.E k),none⟩
abbrev iE (n i a b:Nat):zaa:=⟨some (.E n),.iaddr i (.E a) (.E b),none⟩
abbrev nE (n k:Nat):zaa:=⟨some (.E n),.len (.E k),none⟩
abbrev bE (n:Nat) (o:BinOp) (a b:Nat):zaa:=⟨some (.E n),.bin o (.E a) (.E b),none⟩
abbrev wE (n k:Nat):zaa:=⟨some (.E n),.mv (.E k),none⟩
def zi4:Nat:=5
def zhp:Nat:=14
def zhq:Nat:=16
def zhr:Nat:=18
def zgq:Nat:=19
def zfm:Nat:=20
def zga:Nat:=21
def zgb:Nat:=22
def zhs:Nat:=23
def zgr:Nat:=24
def zht:Nat:=40
def zhu:Nat:=42
def zhv:Nat:=44
def zhw:Nat:=45
def zhx:Nat:=46
def zhy:Nat:=47
def zhz:Nat:=48
def zh0:Nat:=49
def zh1:Nat:=56
def zh2:Nat:=69
def zh3:Nat:=72
def zh4:Nat:=73
def zh5:Nat:=74
def zh6:Nat:=75
def zh7:Nat:=76
def zh8:Nat:=96
def zh9:Nat:=97
def zvg:List Nat:=[0,1,3,5,6,4,7,8,9,10,2]
def zi5:IC := .seq (.reg [oV 1 (.box (.V 0)),oV 2 (.mv (kb false))]) (.seq (.reg [oV 3 (.mv (ki 1048576))]) (.seq (.reg [tV 11 1 1,mV 12 3,oE 13 (.call zhr [([5],(.E 11)),([0],(.E 12))]),vE 3 13]) (.seq (.seq (.reg [mV 14 3,oE 15 (.bin .lss (.E 14) (ki 0))]) (.cond (.E 15) (.seq (.reg [oV 2 (.mv (kb true))]) .ret) .skip)) (.seq (.reg [tV 16 1 1,oE 17 (.call zfm [([5],(.E 16))]),oE 18 (.call zgq [([5],(.E 17))]),vE 4 18]) (.seq (.reg [tV 19 1 1,oE 20 (.call zfm [([5],(.E 19))]),oV 5 (.alloc [.e0]),oN (.store [5] (.V 5) (.E 20))]) (.seq (.reg [tV 21 1 5,oE 22 (.call zga [([5],(.E 21))]),vE 6 22]) (.seq (.seq (.reg [mV 23 6,mV 24 4,oE 25 (.call zgb [([1],(.E 23)),([1],(.E 24))]),oE 26 (.un .not (.E 25))]) (.cond (.E 26) (.seq (.reg [oV 2 (.mv (kb false))]) .ret) .skip)) (.seq (.seq (.regD [(tV 27 1 5,0,1),(tV 28 1 1,0,0),(oE 29 (.call zfm [([5],(.E 28))]),0,0),(oE 30 (.call zhp [([5],(.E 27)),([5],(.E 29))]),0,0),(oE 31 (.un .not (.E 30)),0,0)]) (.cond (.E 31) (.seq (.reg [oV 2 (.mv (kb false))]) .ret) .skip)) (.seq (.reg [oV 7 (.mv (ki 1))]) (.seq (.reg [tV 32 1 5,mV 33 7,oE 34 (.call zhq [([5],(.E 32)),([0],(.E 33))]),vE 7 34]) (.seq (.seq (.reg [mV 35 7,oE 36 (.bin .lss (.E 35) (ki 0)),wE 37 36,gE 38 37 .false (.mv (.V 6)),gE 39 37 .false (.mv (.V 4)),gE 40 37 .false (.call zgb [([1],(.E 38)),([1],(.E 39))]),gE 41 37 .false (.un .not (.E 40)),oE 42 (.pick (.E 37) (kb true) (.E 41))]) (.cond (.E 42) (.seq (.reg [oV 2 (.mv (kb false))]) .ret) .skip)) (.seq (.reg [oV 8 (.mv (ki 1))]) (.seq (.reg [mV 43 6,mV 44 8,oE 45 (.call zhs [([1],(.E 43)),([0],(.E 44))]),vE 8 45]) (.seq (.reg [oV 9 (.mv (ki 1))]) (.seq (.reg [mV 46 6,mV 47 9,oE 48 (.call zgr [([1],(.E 46)),([0],(.E 47))]),vE 9 48]) (.seq (.seq (.reg [mV 49 9,oE 50 (.bin .lss (.E 49) (ki 0))]) (.cond (.E 50) (.seq (.reg [oV 2 (.mv (kb false))]) .ret) .skip)) (.seq (.seq (.reg [mV 51 9,mV 52 8,bE 53 .neq 51 52]) (.cond (.E 53) (.seq (.reg [oV 2 (.mv (kb false))]) .ret) .skip)) (.seq (.reg [tV 54 1 1,oE 55 (.call zfm [([5],(.E 54))]),oE 56 (.call zga [([5],(.E 55))]),vE 10 56]) (.seq (.seq (.reg [mV 57 10,mV 58 4,oE 59 (.call zgb [([1],(.E 57)),([1],(.E 58))]),oE 60 (.un .not (.E 59))]) (.cond (.E 60) (.seq (.reg [oV 2 (.mv (kb false))]) .ret) .skip)) (.seq (.reg [oV 9 (.mv (ki 1))]) (.seq (.reg [mV 61 6,mV 62 9,oE 63 (.call zgr [([1],(.E 61)),([0],(.E 62))]),vE 9 63]) (.seq (.seq (.reg [mV 64 9,oE 65 (.bin .lss (.E 64) (ki 0))]) (.cond (.E 65) (.seq (.reg [oV 2 (.mv (kb false))]) .ret) .skip)) (.seq (.seq (.reg [mV 66 9,mV 67 8,bE 68 .neq 66 67]) (.cond (.E 68) (.seq (.reg [oV 2 (.mv (kb false))]) .ret) .skip)) (.seq (.reg [oV 2 (.mv (kb true))]) .ret))))))))))))))))))))))))
def zi6:List RV:=[.tmp [0] 2]
def zvh:List Nat:=[0,1,2,3,4]
def zj9:IC := .seq (.reg [oV 2 (.box (.V 0)),oV 3 (.box (.V 1)),oV 4 (.mv (kb false))]) (.seq (.seq (.reg [fV 5 0 2,lE 6 5,fV 7 0 3,lE 8 7,oE 9 (.call zht [([5],(.E 6)),([5],(.E 8))]),oE 10 (.un .not (.E 9))]) (.cond (.E 10) (.seq (.reg [oV 4 (.mv (kb false))]) .ret) .skip)) (.seq (.reg [oV 4 (.mv (kb true))]) .ret))
def zka:List RV:=[.tmp [0] 4]
def zvi:List Nat:=[0,1,2,4]
def zkb:IC := .seq (.reg [oV 2 (.box (.V 0)),oV 4 (.mv (ki 0))]) (.seq (.reg [fV 5 0 2,lE 6 5,mV 7 1,oE 8 (.call zhu [([5],(.E 6)),([0],(.E 7))]),vE 1 8]) (.seq (.reg [mV 9 1,vE 4 9]) .ret))
def zkc:List RV:=[.tmp [0] 4]
def zvj:List Nat:=[0,1,2,4]
def zi7:IC := .seq (.reg [oV 2 (.box (.V 0)),oV 4 (.mv (ki 0))]) (.seq (.reg [fV 5 0 2,lE 6 5,mV 7 1,oE 8 (.call zhv [([5],(.E 6)),([0],(.E 7))]),vE 1 8]) (.seq (.seq (.reg [mV 9 1,oE 10 (.bin .lss (.E 9) (ki 0))]) (.cond (.E 10) (.seq (.reg [oV 4 (.mv (ki (-1)))]) .ret) .skip)) (.seq (.reg [mV 11 1,vE 4 11]) .ret)))
def zi8:List RV:=[.tmp [0] 4]
def zvk:List Nat:=[0,1,5,4,3,2]
def zmp:IC := .seq (.seq (.reg [mV 9 5,mV 10 4,nE 11 10,bE 12 .lss 9 11]) (.cond (.E 12) .skip (.exit 0))) (.seq (.block 1 (.regD [(mV 15 3,0,0),(fV 16 0 1,0,0),(lE 17 16,0,0),(mV 18 4,0,0),(mV 19 5,0,0),(iE 20 1 18 19,0,0),(lE 21 20,0,0),(iE 22 5 17 21,0,0),(fE 23 4 22,0,0),(lE 24 23,0,0),(oE 25 (.bslice 1 1 [iv 0] [(0,(.E 24))]),0,0),(oE 26 (.app 8 1 (.E 15) (.E 25)),0,0),(vE 3 26,0,0)])) (.reg [mV 13 5,oE 14 (.bin .add (.E 13) (ki 1)),vE 5 14]))
def zkd:IC := .seq (.reg [oV 1 (.box (.V 0)),oV 2 (.mv (.C .e0))]) (.seq (.reg [oE 6 (.bslice 0 1 [iv 0] []),vE 3 6]) (.seq (.reg [tV 7 1 1,oE 8 (.call zhw [([5],(.E 7))]),vE 4 8]) (.seq (.seq (.reg [oV 5 (.mv (ki 0))]) (.block 0 (.loop zmp))) (.seq (.reg [mV 27 3,oE 28 (.call zhx [([1],(.E 27))]),vE 2 28]) .ret))))
def zke:List RV:=[.tmp [1] 2]
def zvl:List Nat:=[0,1,3,2]
def zkf:IC := .seq (.reg [oV 1 (.box (.V 0)),oV 2 (.alloc [.e0])]) (.seq (.reg [oV 3 (.alloc [.e0])]) (.seq (.reg [fV 4 0 1,lE 5 4,oE 6 (.call zhy [([5],(.E 5))]),fV 7 0 3,oN (.store [5] (.E 7) (.E 6))]) (.seq (.reg [tV 8 1 3,oN (.store [5] (.V 2) (.E 8))]) .ret)))
def zkg:List RV:=[.cell [5] 2 true]
def zvm:List Nat:=[0,1,10,9,8,3,5,2]
def zmq:IC := .seq (.reg [oE 11 (.bin .lss (.V 10) (.V 9))]) (.seq (.cond (.E 11) .skip (.exit 0)) (.seq (.block 1 (.seq (.reg [oE 12 (.iaddr 1 (.V 8) (.V 10)),lE 13 12,vE 5 13]) (.reg [mV 14 3,fV 15 0 1,lE 16 15,mV 17 5,iE 18 5 16 17,fE 19 4 18,lE 20 19,oE 21 (.bslice 1 1 [iv 0] [(0,(.E 20))]),oE 22 (.app 8 1 (.E 14) (.E 21)),vE 3 22]))) (.reg [oE 23 (.bin .add (.V 10) (ki 1)),vE 10 23])))
def zkh:IC := .seq (.reg [oV 1 (.box (.V 0)),oV 2 (.mv (.C .e0))]) (.seq (.reg [oE 6 (.bslice 0 1 [iv 0] []),vE 3 6]) (.seq (.seq (.reg [tV 7 1 1,oV 8 (.call zhz [([5],(.E 7))]),oV 9 (.len (.V 8)),oV 10 (.mv (ki 0))]) (.block 0 (.loop zmq))) (.seq (.reg [mV 24 3,oE 25 (.call zh0 [([1],(.E 24))]),vE 2 25]) .ret)))
def zki:List RV:=[.tmp [1] 2]
def zvn:List Nat:=[0,1,5,4]
def zo7:IC := .seq (.seq (.reg [mV 11 5,mV 12 0,nE 13 12,bE 14 .lss 11 13]) (.cond (.E 14) .skip (.exit 0))) (.seq (.block 1 (.seq (.regD [(mV 17 0,0,0),(mV 18 5,0,0),(iE 19 1 17 18,0,0),(lE 20 19,0,0),(mV 21 1,0,0),(mV 22 5,0,0),(iE 23 1 21 22,0,0),(lE 24 23,0,0),(bE 25 .neq 20 24,0,0)]) (.cond (.E 25) (.seq (.reg [oV 4 (.mv (kb false))]) .ret) .skip))) (.reg [mV 15 5,oE 16 (.bin .add (.E 15) (ki 1)),vE 5 16]))
def zkj:IC := .seq (.reg [oV 4 (.mv (kb false))]) (.seq (.seq (.reg [mV 6 0,nE 7 6,mV 8 1,nE 9 8,bE 10 .neq 7 9]) (.cond (.E 10) (.seq (.reg [oV 4 (.mv (kb false))]) .ret) .skip)) (.seq (.seq (.reg [oV 5 (.mv (ki 0))]) (.block 0 (.loop zo7))) (.seq (.reg [oV 4 (.mv (kb true))]) .ret)))
def zkk:List RV:=[.tmp [0] 4]
def zvo:List Nat:=[0,1,5,4]
def zo8:IC := .seq (.seq (.reg [mV 6 5,mV 7 0,nE 8 7,bE 9 .lss 6 8]) (.cond (.E 9) .skip (.exit 0))) (.seq (.block 1 (.seq (.reg [mV 12 0,mV 13 5,mV 14 1,iE 15 1 12 13,oN (.store [0] (.E 15) (.E 14))]) (.reg [mV 16 1,oE 17 (.bin .add (.E 16) (ki 1)),vE 1 17]))) (.reg [mV 10 5,oE 11 (.bin .add (.E 10) (ki 1)),vE 5 11]))
def zkl:IC := .seq (.reg [oV 4 (.mv (ki 0))]) (.seq (.seq (.reg [oV 5 (.mv (ki 0))]) (.block 0 (.loop zo8))) (.seq (.reg [mV 18 1,vE 4 18]) .ret))
def zkm:List RV:=[.tmp [0] 4]
def zvp:List Nat:=[0,1,5,4]
def zo9:IC := .seq (.seq (.reg [mV 6 5,mV 7 0,nE 8 7,bE 9 .lss 6 8]) (.cond (.E 9) .skip (.exit 0))) (.seq (.block 1 (.seq (.seq (.reg [mV 12 0,mV 13 5,iE 14 1 12 13,lE 15 14,mV 16 1,bE 17 .neq 15 16]) (.cond (.E 17) (.seq (.reg [oV 4 (.mv (ki (-1)))]) .ret) .skip)) (.reg [mV 18 1,oE 19 (.bin .add (.E 18) (ki 1)),vE 1 19]))) (.reg [mV 10 5,oE 11 (.bin .add (.E 10) (ki 1)),vE 5 11]))
def zkn:IC := .seq (.reg [oV 4 (.mv (ki 0))]) (.seq (.seq (.reg [oV 5 (.mv (ki 0))]) (.block 0 (.loop zo9))) (.seq (.reg [mV 20 1,vE 4 20]) .ret))
def zko:List RV:=[.tmp [0] 4]
def zvq:List Nat:=[0,1,5,4]
def zpa:IC := .seq (.seq (.reg [mV 11 5,mV 12 0,nE 13 12,bE 14 .lss 11 13]) (.cond (.E 14) .skip (.exit 0))) (.seq (.block 1 (.seq (.regD [(mV 17 0,0,0),(mV 18 5,0,0),(iE 19 5 17 18,0,0),(tE 20 5 19,0,0),(mV 21 1,0,0),(mV 22 5,0,0),(iE 23 5 21 22,0,0),(tE 24 5 23,0,0),(oE 25 (.call zh3 [([0,0,0,0,0],(.E 20)),([0,0,0,0,0],(.E 24))]),0,0),(oE 26 (.un .not (.E 25)),0,0)]) (.cond (.E 26) (.seq (.reg [oV 4 (.mv (kb false))]) .ret) .skip))) (.reg [mV 15 5,oE 16 (.bin .add (.E 15) (ki 1)),vE 5 16]))
def zkp:IC := .seq (.reg [oV 4 (.mv (kb false))]) (.seq (.seq (.reg [mV 6 0,nE 7 6,mV 8 1,nE 9 8,bE 10 .neq 7 9]) (.cond (.E 10) (.seq (.reg [oV 4 (.mv (kb false))]) .ret) .skip)) (.seq (.seq (.reg [oV 5 (.mv (ki 0))]) (.block 0 (.loop zpa))) (.seq (.reg [oV 4 (.mv (kb true))]) .ret)))
def zkq:List RV:=[.tmp [0] 4]
def zvr:List Nat:=[0,1,5,4]
def zpb:IC := .seq (.seq (.reg [mV 6 5,mV 7 0,nE 8 7,bE 9 .lss 6 8]) (.cond (.E 9) .skip (.exit 0))) (.seq (.block 1 (.seq (.reg [mV 12 0,mV 13 5,mV 14 1,iE 15 5 12 13,fE 16 0 15,oN (.store [0] (.E 16) (.E 14))]) (.seq (.reg [mV 17 1,oE 18 (.bin .add (.E 17) (ki 1)),vE 1 18]) (.seq (.reg [mV 19 0,mV 20 5,mV 21 1,iE 22 5 19 20,fE 23 1 22,oN (.store [0] (.E 23) (.E 21))]) (.seq (.reg [mV 24 1,oE 25 (.bin .add (.E 24) (ki 1)),vE 1 25]) (.seq (.reg [mV 26 0,mV 27 5,mV 28 1,iE 29 5 26 27,fE 30 2 29,oN (.store [0] (.E 30) (.E 28))]) (.seq (.reg [mV 31 1,oE 32 (.bin .add (.E 31) (ki 1)),vE 1 32]) (.seq (.reg [mV 33 0,mV 34 5,mV 35 1,iE 36 5 33 34,fE 37 3 36,oN (.store [0] (.E 37) (.E 35))]) (.seq (.reg [mV 38 1,oE 39 (.bin .add (.E 38) (ki 1)),vE 1 39]) (.seq (.reg [mV 40 0,mV 41 5,mV 42 1,iE 43 5 40 41,fE 44 4 43,oN (.store [0] (.E 44) (.E 42))]) (.reg [mV 45 1,oE 46 (.bin .add (.E 45) (ki 1)),vE 1 46]))))))))))) (.reg [mV 10 5,oE 11 (.bin .add (.E 10) (ki 1)),vE 5 11]))
def zkr:IC := .seq (.reg [oV 4 (.mv (ki 0))]) (.seq (.seq (.reg [oV 5 (.mv (ki 0))]) (.block 0 (.loop zpb))) (.seq (.reg [mV 47 1,vE 4 47]) .ret))
def zks:List RV:=[.tmp [0] 4]
def zvs:List Nat:=[0,1,4]
def zkt:IC := .seq (.reg [oV 4 (.mv (ki 0))]) (.seq (.reg [mV 5 1,mV 6 0,nE 7 6,bE 8 .sub 5 7,vE 1 8]) (.seq (.seq (.reg [mV 9 1,oE 10 (.bin .lss (.E 9) (ki 0))]) (.cond (.E 10) (.seq (.reg [oV 4 (.mv (ki (-1)))]) .ret) .skip)) (.seq (.reg [mV 11 1,vE 4 11]) .ret)))
def zku:List RV:=[.tmp [0] 4]
def zvt:List Nat:=[0,4,1,3,2]
def zpc:IC := .seq (.seq (.reg [mV 6 4,fV 7 0 1,lE 8 7,nE 9 8,bE 10 .lss 6 9]) (.cond (.E 10) .skip (.exit 0))) (.seq (.block 1 (.seq (.reg [fV 13 0 1,lE 14 13,mV 15 4,iE 16 5 14 15,tE 17 5 16,oE 18 (.call zh1 [([0,0,0,0,0],(.E 17))]),oE 19 (.un .not (.E 18))]) (.cond (.E 19) (.reg [mV 20 3,mV 21 4,oE 22 (.bslice 1 1 [iv 0] [(0,(.E 21))]),oE 23 (.app 8 1 (.E 20) (.E 22)),vE 3 23]) .skip))) (.reg [mV 11 4,oE 12 (.bin .add (.E 11) (ki 1)),vE 4 12]))
def zkv:IC := .seq (.reg [oV 1 (.box (.V 0)),oV 2 (.mv (.C .e0))]) (.seq (.reg [oE 5 (.bslice 0 1 [iv 0] []),vE 3 5]) (.seq (.seq (.reg [oV 4 (.mv (ki 0))]) (.block 0 (.loop zpc))) (.seq (.reg [mV 24 3,vE 2 24]) .ret)))
def zkw:List RV:=[.tmp [1] 2]
def zvu:List Nat:=[0,5,4,3,2]
def zi9:IC := .seq (.seq (.reg [mV 9 5,mV 10 4,nE 11 10,bE 12 .lss 9 11]) (.cond (.E 12) .skip (.exit 0))) (.seq (.block 1 (.seq (.regD [(mV 15 5,0,0),(oE 16 (.bin .eql (.E 15) (ki 0)),0,0),(wE 17 16,0,0),(gE 18 17 .false (.mv (.V 4)),0,0),(gE 19 17 .false (.mv (.V 5)),0,0),(gE 20 17 .false (.iaddr 1 (.E 18) (.E 19)),0,0),(gE 21 17 .false (.load false 1 (.E 20)),0,0),(gE 22 17 .false (.mv (.V 4)),0,0),(gE 23 17 .false (.mv (.V 5)),0,0),(gE 24 17 .false (.bin .sub (.E 23) (ki 1)),0,0),(gE 25 17 .false (.iaddr 1 (.E 22) (.E 24)),0,0),(gE 26 17 .false (.load false 1 (.E 25)),0,0),(gE 27 17 .false (.bin .neq (.E 21) (.E 26)),0,0),(oE 28 (.pick (.E 17) (kb true) (.E 27)),0,0)]) (.cond (.E 28) (.reg [mV 29 3,mV 30 4,mV 31 5,iE 32 1 30 31,lE 33 32,oE 34 (.bslice 1 1 [iv 0] [(0,(.E 33))]),oE 35 (.app 8 1 (.E 29) (.E 34)),vE 3 35]) .skip))) (.reg [mV 13 5,oE 14 (.bin .add (.E 13) (ki 1)),vE 5 14]))
def zkx:IC := .seq (.reg [oV 2 (.mv (.C .e0))]) (.seq (.reg [oE 6 (.bslice 0 1 [iv 0] []),vE 3 6]) (.seq (.reg [mV 7 0,oE 8 (.call zh4 [([1],(.E 7))]),vE 4 8]) (.seq (.seq (.reg [oV 5 (.mv (ki 0))]) (.block 0 (.loop zi9))) (.seq (.reg [mV 36 3,vE 2 36]) .ret))))
def zky:List RV:=[.tmp [1] 2]
def zvv:List Nat:=[0,4,3,2]
def zpd:IC := .seq (.seq (.reg [mV 8 4,mV 9 0,nE 10 9,bE 11 .lss 8 10]) (.cond (.E 11) .skip (.exit 0))) (.seq (.block 1 (.reg [mV 14 3,mV 15 4,mV 16 0,mV 17 4,iE 18 5 16 17,tE 19 5 18,oE 20 (.call zh5 [([0,0,0,0,0],(.E 19))]),iE 21 5 14 15,oN (.store [0,0,0,0,0] (.E 21) (.E 20))])) (.reg [mV 12 4,oE 13 (.bin .add (.E 12) (ki 1)),vE 4 13]))
def zkz:IC := .seq (.reg [oV 2 (.mv (.C .e0))]) (.seq (.reg [mV 5 0,nE 6 5,oE 7 (.mksl 40 5 [iv 0,iv 0,iv 0,iv 0,iv 0] (.E 6) (.E 6)),vE 3 7]) (.seq (.seq (.reg [oV 4 (.mv (ki 0))]) (.block 0 (.loop zpd))) (.seq (.reg [mV 22 3,vE 2 22]) .ret)))
def zk0:List RV:=[.tmp [5] 2]
def zvw:List Nat:=[0,1,10,9,8,5,3,4,2]
def zpe:IC := .seq (.reg [oE 11 (.bin .lss (.V 10) (.V 9))]) (.seq (.cond (.E 11) .skip (.exit 0)) (.seq (.block 1 (.seq (.reg [mV 12 10,oE 13 (.iaddr 5 (.V 8) (.V 10)),tE 14 5 13,oV 5 (.alloc [iv 0,iv 0,iv 0,iv 0,iv 0]),vE 4 12,oN (.store [0,0,0,0,0] (.V 5) (.E 14))]) (.seq (.reg [tV 15 5 5,oE 16 (.call zh2 [([0,0,0,0,0],(.E 15))])]) (.cond (.E 16) (.reg [mV 17 3,mV 18 4,oE 19 (.bslice 1 1 [iv 0] [(0,(.E 18))]),oE 20 (.app 8 1 (.E 17) (.E 19)),vE 3 20]) .skip)))) (.reg [oE 21 (.bin .add (.V 10) (ki 1)),vE 10 21])))
def zk1:IC := .seq (.reg [oV 1 (.box (.V 0)),oV 2 (.mv (.C .e0))]) (.seq (.reg [oE 6 (.bslice 0 1 [iv 0] []),vE 3 6]) (.seq (.seq (.reg [fV 7 0 1,oV 8 (.load false 1 (.E 7)),oV 9 (.len (.V 8)),oV 10 (.mv (ki 0))]) (.block 0 (.loop zpe))) (.seq (.reg [mV 22 3,vE 2 22]) .ret)))
def zk2:List RV:=[.tmp [1] 2]
def zvx:List Nat:=[0,2]
def zk3:IC := .seq (.reg [oV 2 (.mv (.C .e0))]) (.seq (.reg [mV 3 0,oE 4 (.call zh7 [([1],(.E 3))]),oE 5 (.call zh6 [([1],(.E 4))]),vE 2 5]) .ret)
def zk4:List RV:=[.tmp [1] 2]
def zvy:List Nat:=[0,1,2]
def zk5:IC := .seq (.reg [oV 1 (.box (.V 0)),oV 2 (.mv (kb false))]) (.seq (.reg [fV 3 0 1,lE 4 3,oE 5 (.bin .neq (.E 4) (ki (-1))),vE 2 5]) .ret)
def zk6:List RV:=[.tmp [0] 2]
def zvz:List Nat:=[0,1,2]
def zk7:IC := .seq (.reg [oV 1 (.box (.V 0)),oV 2 (.mv (kb false))]) (.seq (.reg [fV 3 0 1,lE 4 3,oE 5 (.bin .eql (.E 4) (ki (-1))),vE 2 5]) .ret)
def zk8:List RV:=[.tmp [0] 2]
def zv0:List Nat:=[0,1,2,3,4]
def zk9:IC := .seq (.reg [oV 2 (.box (.V 0)),oV 3 (.box (.V 1)),oV 4 (.mv (kb false))]) (.seq (.seq (.reg [fV 5 0 2,lE 6 5,fV 7 0 3,lE 8 7,bE 9 .neq 6 8]) (.cond (.E 9) (.seq (.reg [oV 4 (.mv (kb false))]) .ret) .skip)) (.seq (.seq (.reg [fV 10 1 2,lE 11 10,fV 12 1 3,lE 13 12,bE 14 .neq 11 13]) (.cond (.E 14) (.seq (.reg [oV 4 (.mv (kb false))]) .ret) .skip)) (.seq (.seq (.reg [fV 15 2 2,lE 16 15,fV 17 2 3,lE 18 17,bE 19 .neq 16 18]) (.cond (.E 19) (.seq (.reg [oV 4 (.mv (kb false))]) .ret) .skip)) (.seq (.seq (.reg [fV 20 3 2,lE 21 20,fV 22 3 3,lE 23 22,bE 24 .neq 21 23]) (.cond (.E 24) (.seq (.reg [oV 4 (.mv (kb false))]) .ret) .skip)) (.seq (.seq (.reg [fV 25 4 2,lE 26 25,fV 27 4 3,lE 28 27,bE 29 .neq 26 28]) (.cond (.E 29) (.seq (.reg [oV 4 (.mv (kb false))]) .ret) .skip)) (.seq (.reg [oV 4 (.mv (kb true))]) .ret))))))
def zla:List RV:=[.tmp [0] 4]
def zv1:List Nat:=[0,4,3,5,6,2]
def zlb:IC := .seq (.seq (.regD [(mV 16 5,0,0),(oE 17 (.bin .gtr (.E 16) (ki 0)),0,0),(wE 18 17,0,0),(gE 19 18 .true (.mv (.V 3)),0,0),(gE 20 18 .true (.mv (.V 5)),0,0),(gE 21 18 .true (.bin .sub (.E 20) (ki 1)),0,0),(gE 22 18 .true (.iaddr 1 (.E 19) (.E 21)),0,0),(gE 23 18 .true (.load false 1 (.E 22)),0,0),(gE 24 18 .true (.mv (.V 0)),0,0),(gE 25 18 .true (.mv (.V 4)),0,0),(gE 26 18 .true (.iaddr 1 (.E 24) (.E 25)),0,0),(gE 27 18 .true (.load false 1 (.E 26)),0,0),(gE 28 18 .true (.bin .gtr (.E 23) (.E 27)),0,0),(oE 29 (.pick (.E 18) (.E 28) (kb false)),0,0)]) (.cond (.E 29) .skip (.exit 2))) (.block 3 (.reg [mV 30 5,oE 31 (.bin .sub (.E 30) (ki 1)),vE 5 31]))
def zpf:IC := .seq (.seq (.reg [mV 8 4,mV 9 0,nE 10 9,bE 11 .lss 8 10]) (.cond (.E 11) .skip (.exit 0))) (.seq (.block 1 (.seq (.reg [mV 14 3,nE 15 14,vE 5 15]) (.seq (.block 2 (.loop zlb)) (.seq (.regD [(oE 32 (.bslice 0 1 [iv 0] []),0,0),(mV 33 3,0,0),(mV 34 5,0,0),(oE 35 (.slice 1 (.E 33) none (some (.E 34)) none),1,0),(oE 36 (.app 8 1 (.E 32) (.E 35)),0,0),(mV 37 0,0,0),(mV 38 4,0,0),(iE 39 1 37 38,2,0),(lE 40 39,2,0),(oE 41 (.bsliceL 1 1 [iv 0] [(0,(.E 40))]),0,0),(oE 42 (.app 8 1 (.E 36) (.E 41)),0,0),(vE 6 42,0,0)]) (.reg [mV 43 6,mV 44 3,mV 45 5,oE 46 (.slice 1 (.E 44) (some (.E 45)) none none),oE 47 (.app 8 1 (.E 43) (.E 46)),vE 3 47]))))) (.reg [mV 12 4,oE 13 (.bin .add (.E 12) (ki 1)),vE 4 13]))
def zlc:IC := .seq (.reg [oV 2 (.mv (.C .e0))]) (.seq (.reg [oE 7 (.bslice 0 1 [iv 0] []),vE 3 7]) (.seq (.seq (.reg [oV 4 (.mv (ki 0))]) (.block 0 (.loop zpf))) (.seq (.reg [mV 48 3,vE 2 48]) .ret)))
def zld:List RV:=[.tmp [1] 2]
def zv2:List Nat:=[0,1,3,2]
def zle:IC := .seq (.reg [oV 1 (.box (.V 0)),oV 2 (.alloc [iv 0,iv 0,iv 0,iv 0,iv 0])]) (.seq (.reg [oV 3 (.alloc [iv 0,iv 0,iv 0,iv 0,iv 0])]) (.seq (.reg [fV 4 0 1,lE 5 4,fV 6 0 3,oN (.store [0] (.E 6) (.E 5))]) (.seq (.reg [fV 7 1 1,lE 8 7,fV 9 1 3,oN (.store [0] (.E 9) (.E 8))]) (.seq (.reg [fV 10 2 1,lE 11 10,fV 12 2 3,oN (.store [0] (.E 12) (.E 11))]) (.seq (.reg [fV 13 3 1,lE 14 13,fV 15 3 3,oN (.store [0] (.E 15) (.E 14))]) (.seq (.reg [fV 16 4 1,lE 17 16,fV 18 4 3,oN (.store [0] (.E 18) (.E 17))]) (.seq (.reg [tV 19 5 3,oN (.store [0,0,0,0,0] (.V 2) (.E 19))]) .ret)))))))
def zlf:List RV:=[.cell [0,0,0,0,0] 2 true]
def zv3:List Nat:=[0,3,2]
def zlg:IC := .seq (.reg [oV 2 (.mv (.C .e0))]) (.seq (.reg [mV 4 0,oE 5 (.call zh8 [([1],(.E 4))]),vE 3 5]) (.seq (.reg [mV 6 3,oE 7 (.call zh9 [([1],(.E 6))])]) (.seq (.reg [mV 8 3,vE 2 8]) .ret)))
def zlh:List RV:=[.tmp [1] 2]
def tbl:List (Nat×Fun):=[
 (zi4,zam zi5 zi6 []),
 (zhp,zam zj9 zka []),
 (zhq,zam zkb zkc [true]),
 (zhr,zam zi7 zi8 []),
 (zgq,zam zkd zke []),
 (zfm,zam zkf zkg []),
 (zga,zam zkh zki []),
 (zgb,zam zkj zkk []),
 (zhs,zam zkl zkm [true]),
 (zgr,zam zkn zko []),
 (zht,zam zkp zkq []),
 (zhu,zam zkr zks [true]),
 (zhv,zam zkt zku []),
 (zhw,zam zkv zkw []),
 (zhx,zam zkx zky []),
 (zhy,zam zkz zk0 []),
 (zhz,zam zk1 zk2 []),
 (zh0,zam zk3 zk4 []),
 (zh1,zam zk5 zk6 []),
 (zh2,zam zk7 zk8 []),
 (zh3,zam zk9 zla []),
 (zh4,zam zlc zld []),
 (zh5,zam zle zlf []),
 (zh6,.known [true] zhe),
 (zh7,zam zlg zlh []),
 (zh8,.known [] (zim 1 8)),
 (zh9,.known [true] zhc)]
def T:zbk:=fun f=>(tbl.find? fun q=>q.1 == f).map fun q=>q.2
theorem zli:T zi4=some (zam zi5 zi6 []):=rfl
@[simp] theorem z4i:za4 T zi4=[]:=zb0 zli
theorem zpg:T zhp=some (zam zj9 zka []):=rfl
@[simp] theorem z4j:za4 T zhp=[]:=zb0 zpg
theorem zph:T zhq=some (zam zkb zkc [true]):=rfl
@[simp] theorem z4k:za4 T zhq=[true]:=zb0 zph
theorem zpi:T zhr=some (zam zi7 zi8 []):=rfl
@[simp] theorem z4l:za4 T zhr=[]:=zb0 zpi
theorem zpj:T zgq=some (zam zkd zke []):=rfl
@[simp] theorem z4m:za4 T zgq=[]:=zb0 zpj
theorem zpk:T zfm=some (zam zkf zkg []):=rfl
@[simp] theorem z4n:za4 T zfm=[]:=zb0 zpk
theorem zpl:T zga=some (zam zkh zki []):=rfl
@[simp] theorem z4o:za4 T zga=[]:=zb0 zpl
theorem zpm:T zgb=some (zam zkj zkk []):=rfl
@[simp] theorem z4p:za4 T zgb=[]:=zb0 zpm
theorem zpn:T zhs=some (zam zkl zkm [true]):=rfl
@[simp] theorem z4q:za4 T zhs=[true]:=zb0 zpn
theorem zpo:T zgr=some (zam zkn zko []):=rfl
@[simp] theorem z4r:za4 T zgr=[]:=zb0 zpo
theorem zpp:T zht=some (zam zkp zkq []):=rfl
@[simp] theorem z4s:za4 T zht=[]:=zb0 zpp
theorem zpq:T zhu=some (zam zkr zks [true]):=rfl
@[simp] theorem z4t:za4 T zhu=[true]:=zb0 zpq
theorem zpr:T zhv=some (zam zkt zku []):=rfl
@[simp] theorem z4u:za4 T zhv=[]:=zb0 zpr
theorem zps:T zhw=some (zam zkv zkw []):=rfl
@[simp] theorem z4v:za4 T zhw=[]:=zb0 zps
theorem zpt:T zhx=some (zam zkx zky []):=rfl
@[simp] theorem z4w:za4 T zhx=[]:=zb0 zpt
theorem zpu:T zhy=some (zam zkz zk0 []):=rfl
@[simp] theorem z4x:za4 T zhy=[]:=zb0 zpu
theorem zpv:T zhz=some (zam zk1 zk2 []):=rfl
@[simp] theorem z4y:za4 T zhz=[]:=zb0 zpv
theorem zpw:T zh0=some (zam zk3 zk4 []):=rfl
@[simp] theorem z4z:za4 T zh0=[]:=zb0 zpw
theorem zpx:T zh1=some (zam zk5 zk6 []):=rfl
@[simp] theorem z40:za4 T zh1=[]:=zb0 zpx
theorem zpy:T zh2=some (zam zk7 zk8 []):=rfl
@[simp] theorem z41:za4 T zh2=[]:=zb0 zpy
theorem zpz:T zh3=some (zam zk9 zla []):=rfl
@[simp] theorem z42:za4 T zh3=[]:=zb0 zpz
theorem zp0:T zh4=some (zam zlc zld []):=rfl
@[simp] theorem z43:za4 T zh4=[]:=zb0 zp0
theorem zp1:T zh5=some (zam zle zlf []):=rfl
@[simp] theorem z44:za4 T zh5=[]:=zb0 zp1
theorem zp2:T zh6=some (.known [true] zhe):=rfl
@[simp] theorem z45:za4 T zh6=[true]:=znw zp2
theorem zp3:T zh7=some (zam zlg zlh []):=rfl
@[simp] theorem z47:za4 T zh7=[]:=zb0 zp3
theorem zp4:T zh8=some (.known [] (zim 1 8)):=rfl
@[simp] theorem z48:za4 T zh8=[]:=znw zp4
theorem zp5:T zh9=some (.known [true] zhc):=rfl
@[simp] theorem z49:za4 T zh9=[true]:=znw zp5
end Go.Pe
