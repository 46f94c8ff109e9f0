/- The compact texts of the functions that the law reaches; no condition. -/
import Derived.Test.YtdebkglpapjeiaaEvA0
set_option linter.all false
namespace Go.Pe
open Go
abbrev gE (n g:Nat) (b:Bool) (o:IOp):zaa:=⟨some (.E n),o,some (.E g,b)⟩
abbrev gV (n g:Nat) (b:Bool) (o:IOp):zaa:=⟨some (.V n),o,some (.E g,b)⟩
abbrev fV (n i k:Nat):zaa:=⟨some (.E n),.faddr i (.V k),none⟩
abbrev fE (n i k:Nat):zaa:=⟨some (.E n),.faddr i (.E k),none⟩
abbrev lE (n k:Nat):zaa:=⟨some (.E n),.load false 1 (.E k),none⟩
abbrev tV (n i k:Nat):zaa:=⟨some (.E n),.load true i (.V k),none⟩
abbrev tE (n i k:Nat):zaa:=⟨some (.E n),.load true i (.E k),none⟩
abbrev iE (n i a b:Nat):zaa:=⟨some (.E n),.iaddr i (.E a) (.E b),none⟩
abbrev nE (n k:Nat):zaa:=⟨some (.E n),.len (.E k),none⟩
abbrev bE (n:Nat) (o:BinOp) (a b:Nat):zaa:=⟨some (.E n),.bin o (.E a) (.E b),none⟩
abbrev wE (n k:Nat):zaa:=⟨some (.E n),.mv (.E k),none⟩
def zih:Nat:=4
def zf6:Nat:=7
def zeh:Nat:=9
def zf7:Nat:=11
def zhi:Nat:=12
def zgk:Nat:=13
def zf8:Nat:=14
def zhj:Nat:=15
def zhk:Nat:=16
def zgl:Nat:=17
def zhl:Nat:=36
def zhm:Nat:=37
def zhn:Nat:=39
def zho:Nat:=40
def zgm:Nat:=41
def zhp:Nat:=42
def zhq:Nat:=43
def zhr:Nat:=72
def ztk:List Nat:=[0,1,3,5,6,4,7,8,9,10,2]
def zii:IC := .seq (.reg [oV 1 (.box (.V 0)),oV 2 (.mv (kb false))]) (.seq (.reg [oV 3 (.mv (ki 1048576))]) (.seq (.reg [tV 11 4 1,mV 12 3,oE 13 (.call zf6 [([0,0,0,4],(.E 11)),([0],(.E 12))]),vE 3 13]) (.seq (.seq (.reg [mV 14 3,oE 15 (.bin .lss (.E 14) (ki 0))]) (.cond (.E 15) (.seq (.reg [oV 2 (.mv (kb true))]) .ret) .skip)) (.seq (.reg [tV 16 4 1,oE 17 (.call zeh [([0,0,0,4],(.E 16))]),oE 18 (.call zhi [([0,0,0,4],(.E 17))]),oV 4 (.alloc [.e0]),oN (.store [5] (.V 4) (.E 18))]) (.seq (.reg [tV 19 4 1,oE 20 (.call zeh [([0,0,0,4],(.E 19))]),oV 5 (.alloc [iv 0,iv 0,iv 0,.e0]),oN (.store [0,0,0,4] (.V 5) (.E 20))]) (.seq (.reg [tV 21 4 5,oE 22 (.call zgk [([0,0,0,4],(.E 21))]),oV 6 (.alloc [.e0]),oN (.store [5] (.V 6) (.E 22))]) (.seq (.seq (.reg [tV 23 1 6,tV 24 1 4,oE 25 (.call zf8 [([5],(.E 23)),([5],(.E 24))]),oE 26 (.un .not (.E 25))]) (.cond (.E 26) (.seq (.reg [oV 2 (.mv (kb false))]) .ret) .skip)) (.seq (.seq (.regD [(tV 27 4 5,0,1),(tV 28 4 1,0,0),(oE 29 (.call zeh [([0,0,0,4],(.E 28))]),0,0),(oE 30 (.call zf7 [([0,0,0,4],(.E 27)),([0,0,0,4],(.E 29))]),0,0),(oE 31 (.un .not (.E 30)),0,0)]) (.cond (.E 31) (.seq (.reg [oV 2 (.mv (kb false))]) .ret) .skip)) (.seq (.reg [oV 7 (.mv (ki 1))]) (.seq (.reg [tV 32 4 5,mV 33 7,oE 34 (.call zhj [([0,0,0,4],(.E 32)),([0],(.E 33))]),vE 7 34]) (.seq (.seq (.reg [mV 35 7,oE 36 (.bin .lss (.E 35) (ki 0)),wE 37 36,gE 38 37 .false (.load true 1 (.V 6)),gE 39 37 .false (.load true 1 (.V 4)),gE 40 37 .false (.call zf8 [([5],(.E 38)),([5],(.E 39))]),gE 41 37 .false (.un .not (.E 40)),oE 42 (.pick (.E 37) (kb true) (.E 41))]) (.cond (.E 42) (.seq (.reg [oV 2 (.mv (kb false))]) .ret) .skip)) (.seq (.reg [oV 8 (.mv (ki 1))]) (.seq (.reg [tV 43 1 6,mV 44 8,oE 45 (.call zhk [([5],(.E 43)),([0],(.E 44))]),vE 8 45]) (.seq (.reg [oV 9 (.mv (ki 1))]) (.seq (.reg [tV 46 1 6,mV 47 9,oE 48 (.call zgl [([5],(.E 46)),([0],(.E 47))]),vE 9 48]) (.seq (.seq (.reg [mV 49 9,oE 50 (.bin .lss (.E 49) (ki 0))]) (.cond (.E 50) (.seq (.reg [oV 2 (.mv (kb false))]) .ret) .skip)) (.seq (.seq (.reg [mV 51 9,mV 52 8,bE 53 .neq 51 52]) (.cond (.E 53) (.seq (.reg [oV 2 (.mv (kb false))]) .ret) .skip)) (.seq (.reg [tV 54 4 1,oE 55 (.call zeh [([0,0,0,4],(.E 54))]),oE 56 (.call zgk [([0,0,0,4],(.E 55))]),oV 10 (.alloc [.e0]),oN (.store [5] (.V 10) (.E 56))]) (.seq (.seq (.reg [tV 57 1 10,tV 58 1 4,oE 59 (.call zf8 [([5],(.E 57)),([5],(.E 58))]),oE 60 (.un .not (.E 59))]) (.cond (.E 60) (.seq (.reg [oV 2 (.mv (kb false))]) .ret) .skip)) (.seq (.reg [oV 9 (.mv (ki 1))]) (.seq (.reg [tV 61 1 6,mV 62 9,oE 63 (.call zgl [([5],(.E 61)),([0],(.E 62))]),vE 9 63]) (.seq (.seq (.reg [mV 64 9,oE 65 (.bin .lss (.E 64) (ki 0))]) (.cond (.E 65) (.seq (.reg [oV 2 (.mv (kb false))]) .ret) .skip)) (.seq (.seq (.reg [mV 66 9,mV 67 8,bE 68 .neq 66 67]) (.cond (.E 68) (.seq (.reg [oV 2 (.mv (kb false))]) .ret) .skip)) (.seq (.reg [oV 2 (.mv (kb true))]) .ret))))))))))))))))))))))))
def zij:List RV:=[.tmp [0] 2]
def ztl:List Nat:=[0,1,2,4]
def zik:IC := .seq (.reg [oV 2 (.box (.V 0)),oV 4 (.mv (ki 0))]) (.seq (.reg [fV 5 3 2,lE 6 5,mV 7 1,oE 8 (.call zhl [([4],(.E 6)),([0],(.E 7))]),vE 1 8]) (.seq (.seq (.reg [mV 9 1,oE 10 (.bin .lss (.E 9) (ki 0))]) (.cond (.E 10) (.seq (.reg [oV 4 (.mv (ki (-1)))]) .ret) .skip)) (.seq (.reg [mV 11 1,vE 4 11]) .ret)))
def zil:List RV:=[.tmp [0] 4]
def ztm:List Nat:=[0,1,3,2]
def zjo:IC := .seq (.reg [oV 1 (.box (.V 0)),oV 2 (.alloc [iv 0,iv 0,iv 0,.e0])]) (.seq (.reg [oV 3 (.alloc [iv 0,iv 0,iv 0,.e0])]) (.seq (.reg [fV 4 0 1,lE 5 4,fV 6 0 3,oN (.store [0] (.E 6) (.E 5))]) (.seq (.reg [fV 7 1 1,lE 8 7,fV 9 1 3,oN (.store [0] (.E 9) (.E 8))]) (.seq (.reg [fV 10 2 1,lE 11 10,fV 12 2 3,oN (.store [0] (.E 12) (.E 11))]) (.seq (.reg [fV 13 3 1,lE 14 13,oE 15 (.call zhm [([4],(.E 14))]),fV 16 3 3,oN (.store [4] (.E 16) (.E 15))]) (.seq (.reg [tV 17 4 3,oN (.store [0,0,0,4] (.V 2) (.E 17))]) .ret))))))
def zjp:List RV:=[.cell [0,0,0,4] 2 true]
def ztn:List Nat:=[0,1,2,3,4]
def zjq:IC := .seq (.reg [oV 2 (.box (.V 0)),oV 3 (.box (.V 1)),oV 4 (.mv (kb false))]) (.seq (.seq (.reg [fV 5 0 2,lE 6 5,fV 7 0 3,lE 8 7,bE 9 .neq 6 8]) (.cond (.E 9) (.seq (.reg [oV 4 (.mv (kb false))]) .ret) .skip)) (.seq (.seq (.reg [fV 10 1 2,lE 11 10,fV 12 1 3,lE 13 12,bE 14 .neq 11 13]) (.cond (.E 14) (.seq (.reg [oV 4 (.mv (kb false))]) .ret) .skip)) (.seq (.seq (.reg [fV 15 2 2,lE 16 15,fV 17 2 3,lE 18 17,bE 19 .neq 16 18]) (.cond (.E 19) (.seq (.reg [oV 4 (.mv (kb false))]) .ret) .skip)) (.seq (.seq (.reg [fV 20 3 2,lE 21 20,fV 22 3 3,lE 23 22,oE 24 (.call zhn [([4],(.E 21)),([4],(.E 23))]),oE 25 (.un .not (.E 24))]) (.cond (.E 25) (.seq (.reg [oV 4 (.mv (kb false))]) .ret) .skip)) (.seq (.reg [oV 4 (.mv (kb true))]) .ret)))))
def zjr:List RV:=[.tmp [0] 4]
def zto:List Nat:=[0,1,5,4,2,6,3]
def ze3:IC := .seq (.seq (.reg [mV 10 5,mV 11 4,nE 12 11,bE 13 .lss 10 12]) (.cond (.E 13) .skip (.exit 0))) (.seq (.block 1 (.seq (.seq (.reg [mV 16 4,nE 17 16,oE 18 (.bin .gtr (.E 17) (ki 31))]) (.cond (.E 18) (.seq (.reg [oE 19 (.build [.e0] []),oN (.store [5] (.V 2) (.E 19))]) .ret) .skip)) (.seq (.reg [mV 20 4,mV 21 5,iE 22 4 20 21,tE 23 4 22,oV 6 (.alloc [iv 0,iv 0,iv 0,.e0]),oN (.store [0,0,0,4] (.V 6) (.E 23))]) (.seq (.seq (.reg [fV 24 3 6,lE 25 24,nE 26 25,oE 27 (.bin .lss (.E 26) (ki 2))]) (.cond (.E 27) (.seq (.reg [fV 28 0 3,lE 29 28,fV 30 2 6,lE 31 30,oE 32 (.build [iv 0,iv 0,iv 0,iv 0,iv 0] [(0,1,(ki (-1))),(4,1,(.E 31))]),oE 33 (.bslice 1 5 [iv 0,iv 0,iv 0,iv 0,iv 0] [(0,(.E 32))]),oE 34 (.app 40 5 (.E 29) (.E 33)),fV 35 0 3,oN (.store [5] (.E 35) (.E 34))]) (.exit 1)) .skip)) (.seq (.reg [fV 36 0 3,lE 37 36,fV 38 0 6,lE 39 38,fV 40 1 6,lE 41 40,fV 42 2 6,lE 43 42,mV 44 4,nE 45 44,mV 46 4,nE 47 46,oE 48 (.bin .add (.E 47) (ki 1)),oE 49 (.build [iv 0,iv 0,iv 0,iv 0,iv 0] [(0,1,(.E 39)),(1,1,(.E 41)),(4,1,(.E 43)),(2,1,(.E 45)),(3,1,(.E 48))]),oE 50 (.bslice 1 5 [iv 0,iv 0,iv 0,iv 0,iv 0] [(0,(.E 49))]),oE 51 (.app 40 5 (.E 37) (.E 50)),fV 52 0 3,oN (.store [5] (.E 52) (.E 51))]) (.regD [(mV 53 4,0,0),(fV 54 3 6,0,0),(lE 55 54,0,0),(oE 56 (.iaddr 4 (.E 55) (ki 0)),0,0),(tE 57 4 56,0,0),(fV 58 3 6,0,0),(lE 59 58,0,0),(oE 60 (.iaddr 4 (.E 59) (ki 1)),0,0),(tE 61 4 60,0,0),(oE 62 (.bslice 2 4 [iv 0,iv 0,iv 0,(.own 4 [])] [(0,(.E 57)),(1,(.E 61))]),0,0),(oE 63 (.app 48 4 (.E 53) (.E 62)),0,0),(vE 4 63,0,0)])))))) (.reg [mV 14 5,oE 15 (.bin .add (.E 14) (ki 1)),vE 5 15]))
def zjs:IC := .seq (.reg [oV 1 (.box (.V 0)),oV 2 (.alloc [.e0])]) (.seq (.reg [oE 7 (.build [.e0] []),oV 3 (.alloc [.e0]),oN (.store [5] (.V 3) (.E 7))]) (.seq (.reg [tV 8 4 1,oE 9 (.bslice 1 4 [iv 0,iv 0,iv 0,(.own 4 [])] [(0,(.E 8))]),vE 4 9]) (.seq (.seq (.reg [oV 5 (.mv (ki 0))]) (.block 0 (.loop ze3))) (.seq (.reg [tV 64 1 3,oN (.store [5] (.V 2) (.E 64))]) .ret))))
def zjt:List RV:=[.cell [5] 2 true]
def ztp:List Nat:=[0,1,5,3,6,4,2]
def zfg:IC := .seq (.seq (.reg [mV 10 5,mV 11 3,nE 12 11,bE 13 .lss 10 12]) (.cond (.E 13) .skip (.exit 0))) (.seq (.block 1 (.seq (.reg [mV 16 3,mV 17 5,iE 18 4 16 17,tE 19 4 18,oV 6 (.alloc [iv 0,iv 0,iv 0,.e0]),oN (.store [0,0,0,4] (.V 6) (.E 19))]) (.seq (.seq (.reg [fV 20 3 6,lE 21 20,nE 22 21,oE 23 (.bin .lss (.E 22) (ki 2))]) (.cond (.E 23) (.seq (.reg [fV 24 0 4,lE 25 24,fV 26 2 6,lE 27 26,oE 28 (.build [iv 0,iv 0,iv 0,iv 0,iv 0] [(0,1,(ki (-1))),(4,1,(.E 27))]),oE 29 (.bslice 1 5 [iv 0,iv 0,iv 0,iv 0,iv 0] [(0,(.E 28))]),oE 30 (.app 40 5 (.E 25) (.E 29)),fV 31 0 4,oN (.store [5] (.E 31) (.E 30))]) (.exit 1)) .skip)) (.seq (.reg [fV 32 0 4,lE 33 32,fV 34 0 6,lE 35 34,fV 36 1 6,lE 37 36,mV 38 3,nE 39 38,mV 40 3,nE 41 40,oE 42 (.bin .add (.E 41) (ki 1)),fV 43 2 6,lE 44 43,oE 45 (.build [iv 0,iv 0,iv 0,iv 0,iv 0] [(0,1,(.E 35)),(1,1,(.E 37)),(2,1,(.E 39)),(3,1,(.E 42)),(4,1,(.E 44))]),oE 46 (.bslice 1 5 [iv 0,iv 0,iv 0,iv 0,iv 0] [(0,(.E 45))]),oE 47 (.app 40 5 (.E 33) (.E 46)),fV 48 0 4,oN (.store [5] (.E 48) (.E 47))]) (.seq (.regD [(mV 49 3,0,0),(fV 50 3 6,0,0),(lE 51 50,0,0),(oE 52 (.iaddr 4 (.E 51) (ki 0)),0,0),(tE 53 4 52,0,0),(fV 54 3 6,0,0),(lE 55 54,0,0),(oE 56 (.iaddr 4 (.E 55) (ki 1)),0,0),(tE 57 4 56,0,0),(oE 58 (.bslice 2 4 [iv 0,iv 0,iv 0,(.own 4 [])] [(0,(.E 53)),(1,(.E 57))]),0,0),(oE 59 (.app 48 4 (.E 49) (.E 58)),0,0),(vE 3 59,0,0)]) (.seq (.reg [mV 60 3,nE 61 60,oE 62 (.bin .gtr (.E 61) (ki 31))]) (.cond (.E 62) (.seq (.reg [oE 63 (.build [.e0] []),oN (.store [5] (.V 2) (.E 63))]) .ret) .skip))))))) (.reg [mV 14 5,oE 15 (.bin .add (.E 14) (ki 1)),vE 5 15]))
def zju:IC := .seq (.reg [oV 1 (.box (.V 0)),oV 2 (.alloc [.e0])]) (.seq (.reg [tV 7 4 1,oE 8 (.bslice 1 4 [iv 0,iv 0,iv 0,(.own 4 [])] [(0,(.E 7))]),oE 9 (.build [.e0] []),oV 4 (.alloc [.e0]),vE 3 8,oN (.store [5] (.V 4) (.E 9))]) (.seq (.seq (.reg [oV 5 (.mv (ki 0))]) (.block 0 (.loop zfg))) (.seq (.reg [tV 64 1 4,oN (.store [5] (.V 2) (.E 64))]) .ret)))
def zjv:List RV:=[.cell [5] 2 true]
def ztq:List Nat:=[0,1,2,3,4]
def zjw:IC := .seq (.reg [oV 2 (.box (.V 0)),oV 3 (.box (.V 1)),oV 4 (.mv (kb false))]) (.seq (.seq (.reg [fV 5 0 2,lE 6 5,fV 7 0 3,lE 8 7,oE 9 (.call zho [([5],(.E 6)),([5],(.E 8))]),oE 10 (.un .not (.E 9))]) (.cond (.E 10) (.seq (.reg [oV 4 (.mv (kb false))]) .ret) .skip)) (.seq (.reg [oV 4 (.mv (kb true))]) .ret))
def zjx:List RV:=[.tmp [0] 4]
def ztr:List Nat:=[0,1,2,4]
def zjy:IC := .seq (.reg [oV 2 (.box (.V 0)),oV 4 (.mv (ki 0))]) (.seq (.reg [fV 5 3 2,lE 6 5,mV 7 1,oE 8 (.call zgm [([4],(.E 6)),([0],(.E 7))]),vE 1 8]) (.seq (.reg [mV 9 1,vE 4 9]) .ret))
def zjz:List RV:=[.tmp [0] 4]
def zts:List Nat:=[0,1,2,4]
def zj0:IC := .seq (.reg [oV 2 (.box (.V 0)),oV 4 (.mv (ki 0))]) (.seq (.reg [fV 5 0 2,lE 6 5,mV 7 1,oE 8 (.call zhp [([5],(.E 6)),([0],(.E 7))]),vE 1 8]) (.seq (.reg [mV 9 1,vE 4 9]) .ret))
def zj1:List RV:=[.tmp [0] 4]
def ztt:List Nat:=[0,1,2,4]
def zj2:IC := .seq (.reg [oV 2 (.box (.V 0)),oV 4 (.mv (ki 0))]) (.seq (.reg [fV 5 0 2,lE 6 5,mV 7 1,oE 8 (.call zhq [([5],(.E 6)),([0],(.E 7))]),vE 1 8]) (.seq (.seq (.reg [mV 9 1,oE 10 (.bin .lss (.E 9) (ki 0))]) (.cond (.E 10) (.seq (.reg [oV 4 (.mv (ki (-1)))]) .ret) .skip)) (.seq (.reg [mV 11 1,vE 4 11]) .ret)))
def zj3:List RV:=[.tmp [0] 4]
def ztu:List Nat:=[0,1,5,4]
def zj4:IC := .seq (.seq (.reg [mV 12 5,mV 13 0,nE 14 13,bE 15 .lss 12 14]) (.cond (.E 15) .skip (.exit 0))) (.seq (.block 1 (.seq (.reg [mV 18 0,mV 19 5,iE 20 4 18 19,tE 21 4 20,mV 22 1,oE 23 (.call zf6 [([0,0,0,4],(.E 21)),([0],(.E 22))]),vE 1 23]) (.seq (.reg [mV 24 1,oE 25 (.bin .lss (.E 24) (ki 0))]) (.cond (.E 25) (.seq (.reg [oV 4 (.mv (ki (-1)))]) .ret) .skip)))) (.reg [mV 16 5,oE 17 (.bin .add (.E 16) (ki 1)),vE 5 17]))
def zim:IC := .seq (.reg [oV 4 (.mv (ki 0))]) (.seq (.reg [mV 6 1,mV 7 0,nE 8 7,bE 9 .sub 6 8,vE 1 9]) (.seq (.seq (.reg [mV 10 1,oE 11 (.bin .lss (.E 10) (ki 0))]) (.cond (.E 11) (.seq (.reg [oV 4 (.mv (ki (-1)))]) .ret) .skip)) (.seq (.seq (.reg [oV 5 (.mv (ki 0))]) (.block 0 (.loop zj4))) (.seq (.reg [mV 26 1,vE 4 26]) .ret))))
def zio:List RV:=[.tmp [0] 4]
def ztv:List Nat:=[0,4,3,2]
def zlh:IC := .seq (.seq (.reg [mV 8 4,mV 9 0,nE 10 9,bE 11 .lss 8 10]) (.cond (.E 11) .skip (.exit 0))) (.seq (.block 1 (.reg [mV 14 3,mV 15 4,mV 16 0,mV 17 4,iE 18 4 16 17,tE 19 4 18,oE 20 (.call zeh [([0,0,0,4],(.E 19))]),iE 21 4 14 15,oN (.store [0,0,0,4] (.E 21) (.E 20))])) (.reg [mV 12 4,oE 13 (.bin .add (.E 12) (ki 1)),vE 4 13]))
def zj5:IC := .seq (.reg [oV 2 (.mv (.C .e0))]) (.seq (.reg [mV 5 0,nE 6 5,oE 7 (.mksl 48 4 [iv 0,iv 0,iv 0,(.own 4 [])] (.E 6) (.E 6)),vE 3 7]) (.seq (.seq (.reg [oV 4 (.mv (ki 0))]) (.block 0 (.loop zlh))) (.seq (.reg [mV 22 3,vE 2 22]) .ret)))
def zj6:List RV:=[.tmp [4] 2]
def ztw:List Nat:=[0,1,5,4]
def zli:IC := .seq (.seq (.reg [mV 11 5,mV 12 0,nE 13 12,bE 14 .lss 11 13]) (.cond (.E 14) .skip (.exit 0))) (.seq (.block 1 (.seq (.regD [(mV 17 0,0,0),(mV 18 5,0,0),(iE 19 4 17 18,0,0),(tE 20 4 19,0,0),(mV 21 1,0,0),(mV 22 5,0,0),(iE 23 4 21 22,0,0),(tE 24 4 23,0,0),(oE 25 (.call zf7 [([0,0,0,4],(.E 20)),([0,0,0,4],(.E 24))]),0,0),(oE 26 (.un .not (.E 25)),0,0)]) (.cond (.E 26) (.seq (.reg [oV 4 (.mv (kb false))]) .ret) .skip))) (.reg [mV 15 5,oE 16 (.bin .add (.E 15) (ki 1)),vE 5 16]))
def zj7:IC := .seq (.reg [oV 4 (.mv (kb false))]) (.seq (.seq (.reg [mV 6 0,nE 7 6,mV 8 1,nE 9 8,bE 10 .neq 7 9]) (.cond (.E 10) (.seq (.reg [oV 4 (.mv (kb false))]) .ret) .skip)) (.seq (.seq (.reg [oV 5 (.mv (ki 0))]) (.block 0 (.loop zli))) (.seq (.reg [oV 4 (.mv (kb true))]) .ret)))
def zj8:List RV:=[.tmp [0] 4]
def ztx:List Nat:=[0,1,5,4]
def znt:IC := .seq (.seq (.reg [mV 11 5,mV 12 0,nE 13 12,bE 14 .lss 11 13]) (.cond (.E 14) .skip (.exit 0))) (.seq (.block 1 (.seq (.regD [(mV 17 0,0,0),(mV 18 5,0,0),(iE 19 5 17 18,0,0),(tE 20 5 19,0,0),(mV 21 1,0,0),(mV 22 5,0,0),(iE 23 5 21 22,0,0),(tE 24 5 23,0,0),(oE 25 (.call zhr [([0,0,0,0,0],(.E 20)),([0,0,0,0,0],(.E 24))]),0,0),(oE 26 (.un .not (.E 25)),0,0)]) (.cond (.E 26) (.seq (.reg [oV 4 (.mv (kb false))]) .ret) .skip))) (.reg [mV 15 5,oE 16 (.bin .add (.E 15) (ki 1)),vE 5 16]))
def zj9:IC := .seq (.reg [oV 4 (.mv (kb false))]) (.seq (.seq (.reg [mV 6 0,nE 7 6,mV 8 1,nE 9 8,bE 10 .neq 7 9]) (.cond (.E 10) (.seq (.reg [oV 4 (.mv (kb false))]) .ret) .skip)) (.seq (.seq (.reg [oV 5 (.mv (ki 0))]) (.block 0 (.loop znt))) (.seq (.reg [oV 4 (.mv (kb true))]) .ret)))
def zka:List RV:=[.tmp [0] 4]
def zty:List Nat:=[0,1,5,4]
def zlj:IC := .seq (.seq (.reg [mV 6 5,mV 7 0,nE 8 7,bE 9 .lss 6 8]) (.cond (.E 9) .skip (.exit 0))) (.seq (.block 1 (.seq (.reg [mV 12 0,mV 13 5,mV 14 1,iE 15 4 12 13,fE 16 0 15,oN (.store [0] (.E 16) (.E 14))]) (.seq (.reg [mV 17 1,oE 18 (.bin .add (.E 17) (ki 1)),vE 1 18]) (.seq (.reg [mV 19 0,mV 20 5,mV 21 1,iE 22 4 19 20,fE 23 1 22,oN (.store [0] (.E 23) (.E 21))]) (.seq (.reg [mV 24 1,oE 25 (.bin .add (.E 24) (ki 1)),vE 1 25]) (.seq (.reg [mV 26 0,mV 27 5,mV 28 1,iE 29 4 26 27,fE 30 2 29,oN (.store [0] (.E 30) (.E 28))]) (.seq (.reg [mV 31 1,oE 32 (.bin .add (.E 31) (ki 1)),vE 1 32]) (.reg [mV 33 0,mV 34 5,iE 35 4 33 34,fE 36 3 35,lE 37 36,mV 38 1,oE 39 (.call zgm [([4],(.E 37)),([0],(.E 38))]),vE 1 39])))))))) (.reg [mV 10 5,oE 11 (.bin .add (.E 10) (ki 1)),vE 5 11]))
def zkb:IC := .seq (.reg [oV 4 (.mv (ki 0))]) (.seq (.seq (.reg [oV 5 (.mv (ki 0))]) (.block 0 (.loop zlj))) (.seq (.reg [mV 40 1,vE 4 40]) .ret))
def zkc:List RV:=[.tmp [0] 4]
def ztz:List Nat:=[0,1,5,4]
def znu:IC := .seq (.seq (.reg [mV 6 5,mV 7 0,nE 8 7,bE 9 .lss 6 8]) (.cond (.E 9) .skip (.exit 0))) (.seq (.block 1 (.seq (.reg [mV 12 0,mV 13 5,mV 14 1,iE 15 5 12 13,fE 16 0 15,oN (.store [0] (.E 16) (.E 14))]) (.seq (.reg [mV 17 1,oE 18 (.bin .add (.E 17) (ki 1)),vE 1 18]) (.seq (.reg [mV 19 0,mV 20 5,mV 21 1,iE 22 5 19 20,fE 23 1 22,oN (.store [0] (.E 23) (.E 21))]) (.seq (.reg [mV 24 1,oE 25 (.bin .add (.E 24) (ki 1)),vE 1 25]) (.seq (.reg [mV 26 0,mV 27 5,mV 28 1,iE 29 5 26 27,fE 30 2 29,oN (.store [0] (.E 30) (.E 28))]) (.seq (.reg [mV 31 1,oE 32 (.bin .add (.E 31) (ki 1)),vE 1 32]) (.seq (.reg [mV 33 0,mV 34 5,mV 35 1,iE 36 5 33 34,fE 37 3 36,oN (.store [0] (.E 37) (.E 35))]) (.seq (.reg [mV 38 1,oE 39 (.bin .add (.E 38) (ki 1)),vE 1 39]) (.seq (.reg [mV 40 0,mV 41 5,mV 42 1,iE 43 5 40 41,fE 44 4 43,oN (.store [0] (.E 44) (.E 42))]) (.reg [mV 45 1,oE 46 (.bin .add (.E 45) (ki 1)),vE 1 46]))))))))))) (.reg [mV 10 5,oE 11 (.bin .add (.E 10) (ki 1)),vE 5 11]))
def zkd:IC := .seq (.reg [oV 4 (.mv (ki 0))]) (.seq (.seq (.reg [oV 5 (.mv (ki 0))]) (.block 0 (.loop znu))) (.seq (.reg [mV 47 1,vE 4 47]) .ret))
def zke:List RV:=[.tmp [0] 4]
def zt0:List Nat:=[0,1,5,4]
def zlk:IC := .seq (.seq (.reg [mV 6 5,mV 7 0,nE 8 7,bE 9 .lss 6 8]) (.cond (.E 9) .skip (.exit 0))) (.seq (.block 1 (.seq (.seq (.reg [mV 12 0,mV 13 5,iE 14 5 12 13,fE 15 0 14,lE 16 15,mV 17 1,bE 18 .neq 16 17]) (.cond (.E 18) (.seq (.reg [oV 4 (.mv (ki (-1)))]) .ret) .skip)) (.seq (.reg [mV 19 1,oE 20 (.bin .add (.E 19) (ki 1)),vE 1 20]) (.seq (.seq (.reg [mV 21 0,mV 22 5,iE 23 5 21 22,fE 24 1 23,lE 25 24,mV 26 1,bE 27 .neq 25 26]) (.cond (.E 27) (.seq (.reg [oV 4 (.mv (ki (-1)))]) .ret) .skip)) (.seq (.reg [mV 28 1,oE 29 (.bin .add (.E 28) (ki 1)),vE 1 29]) (.seq (.seq (.reg [mV 30 0,mV 31 5,iE 32 5 30 31,fE 33 2 32,lE 34 33,mV 35 1,bE 36 .neq 34 35]) (.cond (.E 36) (.seq (.reg [oV 4 (.mv (ki (-1)))]) .ret) .skip)) (.seq (.reg [mV 37 1,oE 38 (.bin .add (.E 37) (ki 1)),vE 1 38]) (.seq (.seq (.reg [mV 39 0,mV 40 5,iE 41 5 39 40,fE 42 3 41,lE 43 42,mV 44 1,bE 45 .neq 43 44]) (.cond (.E 45) (.seq (.reg [oV 4 (.mv (ki (-1)))]) .ret) .skip)) (.seq (.reg [mV 46 1,oE 47 (.bin .add (.E 46) (ki 1)),vE 1 47]) (.seq (.seq (.reg [mV 48 0,mV 49 5,iE 50 5 48 49,fE 51 4 50,lE 52 51,mV 53 1,bE 54 .neq 52 53]) (.cond (.E 54) (.seq (.reg [oV 4 (.mv (ki (-1)))]) .ret) .skip)) (.reg [mV 55 1,oE 56 (.bin .add (.E 55) (ki 1)),vE 1 56]))))))))))) (.reg [mV 10 5,oE 11 (.bin .add (.E 10) (ki 1)),vE 5 11]))
def zkf:IC := .seq (.reg [oV 4 (.mv (ki 0))]) (.seq (.seq (.reg [oV 5 (.mv (ki 0))]) (.block 0 (.loop zlk))) (.seq (.reg [mV 57 1,vE 4 57]) .ret))
def zkg:List RV:=[.tmp [0] 4]
def zt1:List Nat:=[0,1,2,3,4]
def zkh:IC := .seq (.reg [oV 2 (.box (.V 0)),oV 3 (.box (.V 1)),oV 4 (.mv (kb false))]) (.seq (.seq (.reg [fV 5 0 2,lE 6 5,fV 7 0 3,lE 8 7,bE 9 .neq 6 8]) (.cond (.E 9) (.seq (.reg [oV 4 (.mv (kb false))]) .ret) .skip)) (.seq (.seq (.reg [fV 10 1 2,lE 11 10,fV 12 1 3,lE 13 12,bE 14 .neq 11 13]) (.cond (.E 14) (.seq (.reg [oV 4 (.mv (kb false))]) .ret) .skip)) (.seq (.seq (.reg [fV 15 2 2,lE 16 15,fV 17 2 3,lE 18 17,bE 19 .neq 16 18]) (.cond (.E 19) (.seq (.reg [oV 4 (.mv (kb false))]) .ret) .skip)) (.seq (.seq (.reg [fV 20 3 2,lE 21 20,fV 22 3 3,lE 23 22,bE 24 .neq 21 23]) (.cond (.E 24) (.seq (.reg [oV 4 (.mv (kb false))]) .ret) .skip)) (.seq (.seq (.reg [fV 25 4 2,lE 26 25,fV 27 4 3,lE 28 27,bE 29 .neq 26 28]) (.cond (.E 29) (.seq (.reg [oV 4 (.mv (kb false))]) .ret) .skip)) (.seq (.reg [oV 4 (.mv (kb true))]) .ret))))))
def zki:List RV:=[.tmp [0] 4]
def tbl:List (Nat×Fun):=[
 (zih,zar zii zij []),
 (zf6,zar zik zil []),
 (zeh,zar zjo zjp []),
 (zf7,zar zjq zjr []),
 (zhi,zar zjs zjt []),
 (zgk,zar zju zjv []),
 (zf8,zar zjw zjx []),
 (zhj,zar zjy zjz [true]),
 (zhk,zar zj0 zj1 [true]),
 (zgl,zar zj2 zj3 []),
 (zhl,zar zim zio []),
 (zhm,zar zj5 zj6 []),
 (zhn,zar zj7 zj8 []),
 (zho,zar zj9 zka []),
 (zgm,zar zkb zkc [true]),
 (zhp,zar zkd zke [true]),
 (zhq,zar zkf zkg []),
 (zhr,zar zkh zki [])]
def T:zb4:=fun f=>(tbl.find? fun q=>q.1 == f).map fun q=>q.2
theorem zkj:T zih=some (zar zii zij []):=rfl
@[simp] theorem z0z:zbt T zih=[]:=zcr zkj
theorem znv:T zf6=some (zar zik zil []):=rfl
@[simp] theorem z00:zbt T zf6=[]:=zcr znv
theorem znw:T zeh=some (zar zjo zjp []):=rfl
@[simp] theorem z01:zbt T zeh=[]:=zcr znw
theorem znx:T zf7=some (zar zjq zjr []):=rfl
@[simp] theorem z02:zbt T zf7=[]:=zcr znx
theorem zny:T zhi=some (zar zjs zjt []):=rfl
@[simp] theorem z03:zbt T zhi=[]:=zcr zny
theorem znz:T zgk=some (zar zju zjv []):=rfl
@[simp] theorem z04:zbt T zgk=[]:=zcr znz
theorem zn0:T zf8=some (zar zjw zjx []):=rfl
@[simp] theorem z05:zbt T zf8=[]:=zcr zn0
theorem zn1:T zhj=some (zar zjy zjz [true]):=rfl
@[simp] theorem z06:zbt T zhj=[true]:=zcr zn1
theorem zn2:T zhk=some (zar zj0 zj1 [true]):=rfl
@[simp] theorem z07:zbt T zhk=[true]:=zcr zn2
theorem zn3:T zgl=some (zar zj2 zj3 []):=rfl
@[simp] theorem z08:zbt T zgl=[]:=zcr zn3
theorem zll:T zhl=some (zar zim zio []):=rfl
@[simp] theorem z09:zbt T zhl=[]:=zcr zll
theorem zn4:T zhm=some (zar zj5 zj6 []):=rfl
@[simp] theorem z1a:zbt T zhm=[]:=zcr zn4
theorem zn5:T zhn=some (zar zj7 zj8 []):=rfl
@[simp] theorem z1b:zbt T zhn=[]:=zcr zn5
theorem zn6:T zho=some (zar zj9 zka []):=rfl
@[simp] theorem z1c:zbt T zho=[]:=zcr zn6
theorem zn7:T zgm=some (zar zkb zkc [true]):=rfl
@[simp] theorem z1d:zbt T zgm=[true]:=zcr zn7
theorem zn8:T zhp=some (zar zkd zke [true]):=rfl
@[simp] theorem z1e:zbt T zhp=[true]:=zcr zn8
theorem zn9:T zhq=some (zar zkf zkg []):=rfl
@[simp] theorem z1f:zbt T zhq=[]:=zcr zn9
theorem zoa:T zhr=some (zar zkh zki []):=rfl
@[simp] theorem z1g:zbt T zhr=[]:=zcr zoa
end Go.Pe
