/- The compact texts of the functions that the law reaches; no condition. -/
import Derived.Test.YtpcphbbcnmhcnaaGreatK0
set_option linter.all false
namespace Go.Pe
open Go
def z5y:IC := sr [bV 2 0,bV 3 1,oV 4 (.alloc [iv 0,iv 0]),fF 5] (sr [fV 11 0 2,lE 12 11,fV 13 0 3,lE 14 13,cE 15 zlv [([0],(.E 12)),([0],(.E 14))],wE 10 15,xE 16 0 10,xE 17 1 10,vE 6 16,vE 7 17] (sr [fV 19 1 2,lE 20 19,fV 21 1 3,lE 22 21,cE 23 zlv [([0],(.E 20)),([0],(.E 22))],wE 18 23,xE 24 0 18,xE 25 1 18,vE 8 24,vE 9 25] (.seq (sr [mV 26 7,uE 27 26,wE 28 27,gE 29 28 .false (.mv (.V 9)),gE 30 28 .false (.un .not (.E 29)),pT 31 28 30] (cd 31 (sr [oE 32 (.build [iv 0,iv 0] []),oN (.store [0,0] (.V 4) (.E 32)),fF 5] .ret) .skip)) (sr [mV 33 6,mV 34 8,oE 35 (.build [iv 0,iv 0] [(0,1,(.E 33)),(1,1,(.E 34))]),oN (.store [0,0] (.V 4) (.E 35)),fT 5] .ret))))
def yzs:List Nat:=[0,1,2,6,7]
def zxk:IC := sr [fF 6] (.seq (sr [oV 7 (.mv (.V 0))] (.block 0 (sr [oE 9 (.bin .eql (.V 7) (ki 1)),wE 8 9] (cd 8 (sr [mV 10 1,mV 11 2,bE 12 .leq 10 11,vE 6 12] .ret) (sr [oE 14 (.bin .eql (.V 7) (ki (-1))),wE 13 14] (cd 13 (sr [mV 15 1,mV 16 2,bE 17 .geq 15 16,vE 6 17] .ret) .skip)))))) (sr [fT 6] .ret))
def yzt:List Nat:=[0,1,2,4,5,6,7,8,9,10,11,12]
def z50:IC := sr [bV 2 0,fF 4] (sr [tV 14 6 2,mV 15 1,cE 16 zma [([0,0,0,0,0,0],(.E 14)),([0],(.E 15))],wE 13 16,xE 17 0 13,xE 18 1 13,oV 5 (.alloc [(.v (.bool false)),(.v (.int .u64 0)),(.v (.int .u64 0)),iv 0]),oN (.store [0,0,0,0] (.V 5) (.E 17)),vE 6 18] (sr [tV 20 6 2,cE 21 zte [([0,0,0,0,0,0],(.E 20))],wE 19 21,xE 22 0 19,xE 23 1 19,oV 7 (.alloc [iv 0,iv 0]),oN (.store [0,0] (.V 7) (.E 22)),vE 8 23] (sr [tV 25 2 7,mV 26 1,cE 27 zmd [([0,0],(.E 25)),([0],(.E 26))],wE 24 27,xE 28 0 24,xE 29 1 24,oV 9 (.alloc [(.v (.bool false)),(.v (.int .u64 0)),(.v (.int .u64 0)),iv 0]),oN (.store [0,0,0,0] (.V 9) (.E 28)),vE 10 29] (sr [tV 31 4 5,tV 32 4 9,cE 33 zog [([0,0,0,0],(.E 31)),([0,0,0,0],(.E 32))],wE 30 33,xE 34 0 30,xE 35 1 30,vE 11 34,vE 12 35] (sr [mV 36 6,wE 37 36,gE 38 37 .true (.mv (.V 8)),pF 39 37 38,wE 40 39,gE 41 40 .true (.mv (.V 10)),pF 42 40 41,wE 43 42,gE 44 43 .true (.mv (.V 12)),pF 45 43 44,wE 46 45,gE 47 46 .true (.mv (.V 11)),gE 48 46 .true (.bin .gtr (.E 47) (ki 0)),pF 49 46 48,vE 4 49] .ret)))))
def yzu:List Nat:=[0,1,2,4,5,6,7,8,9]
def z54:IC := sr [bV 2 0,oV 4 (.alloc [(.v (.bool false)),(.v (.int .u64 0)),(.v (.int .u64 0)),iv 0]),fF 5] (sr [fV 11 2 2,tE 12 2 11,mV 13 1,cE 14 zmd [([0,0],(.E 12)),([0],(.E 13))],wE 10 14,xE 15 0 10,xE 16 1 10,oV 6 (.alloc [(.v (.bool false)),(.v (.int .u64 0)),(.v (.int .u64 0)),iv 0]),oN (.store [0,0,0,0] (.V 6) (.E 15)),vE 7 16] (sr [fV 18 4 2,tE 19 2 18,mV 20 1,cE 21 zmd [([0,0],(.E 19)),([0],(.E 20))],wE 17 21,xE 22 0 17,xE 23 1 17,oV 8 (.alloc [(.v (.bool false)),(.v (.int .u64 0)),(.v (.int .u64 0)),iv 0]),oN (.store [0,0,0,0] (.V 8) (.E 22)),vE 9 23] (.seq (sr [mV 24 7,uE 25 24,wE 26 25,gE 27 26 .false (.mv (.V 9)),gE 28 26 .false (.un .not (.E 27)),pT 29 26 28] (cd 29 (sr [oE 30 (.build [(.v (.bool false)),(.v (.int .u64 0)),(.v (.int .u64 0)),iv 0] []),oN (.store [0,0,0,0] (.V 4) (.E 30)),fF 5] .ret) .skip)) (sr [tV 31 4 6,tV 32 4 8,cE 33 ztf [([0,0,0,0],(.E 31)),([0,0,0,0],(.E 32))],xE 34 0 33,xE 35 1 33,oN (.store [0,0,0,0] (.V 4) (.E 34)),vE 5 35] .ret))))
def z55:List RV:=[.cell [0,0,0,0] 4 true,.tmp [0] 5]
def yzv:List Nat:=[0,1,2,3,4,5,6,7,8]
def z56:IC := sr [bV 2 0,bV 3 1,f0 4,fF 5] (sr [tV 10 4 2,tV 11 4 3,cE 12 zoi [([0,0,0,0],(.E 10)),([0,0,0,0],(.E 11))],wE 9 12,xE 13 0 9,xE 14 1 9,xE 15 2 9,oV 6 (.alloc [(.v (.bool false)),(.v (.int .u64 0)),(.v (.int .u64 0))]),oV 7 (.alloc [(.v (.bool false)),(.v (.int .u64 0)),(.v (.int .u64 0))]),oN (.store [0,0,0] (.V 6) (.E 13)),oN (.store [0,0,0] (.V 7) (.E 14)),vE 8 15] (.seq (sr [mV 16 8,uE 17 16] (cd 17 (sr [f0 4,fF 5] .ret) .skip)) (sr [tV 18 3 6,tV 19 3 7,cE 20 ztg [([0,0,0],(.E 18)),([0,0,0],(.E 19))],vE 4 20,fT 5] .ret)))
def z58:IC := sr [bV 2 0,bV 3 1,fF 4] (.seq (.regD [(fV 5 0 2,0,0),(lE 6 5,0,0),(fV 7 0 3,0,0),(lE 8 7,0,0),(cE 9 zok [([0],(.E 6)),([0],(.E 8))],0,0),(fV 10 1 2,1,0),(lE 11 10,1,0),(fV 12 1 3,1,0),(lE 13 12,1,0),(cE 14 zok [([0],(.E 11)),([0],(.E 13))],0,0),(oE 15 (.bslice 2 1 [iv 0] [(0,(.E 9)),(1,(.E 14))]),0,0),(cE 16 zoj [([1],(.E 15))],0,0),(kE 17 .lss 16 0,0,0),(vE 4 17,0,0)]) .ret)
def z6a:IC := sr [bV 2 0,bV 3 1,oV 4 (.alloc [iv 0,iv 0]),fF 5] (sr [fV 11 0 2,lE 12 11,fV 13 0 3,lE 14 13,cE 15 zka [([0],(.E 12)),([0],(.E 14))],wE 10 15,xE 16 0 10,xE 17 1 10,vE 6 16,vE 7 17] (sr [fV 19 1 2,lE 20 19,fV 21 1 3,lE 22 21,cE 23 zka [([0],(.E 20)),([0],(.E 22))],wE 18 23,xE 24 0 18,xE 25 1 18,vE 8 24,vE 9 25] (.seq (sr [mV 26 7,uE 27 26,wE 28 27,gE 29 28 .false (.mv (.V 9)),gE 30 28 .false (.un .not (.E 29)),pT 31 28 30] (cd 31 (sr [oE 32 (.build [iv 0,iv 0] []),oN (.store [0,0] (.V 4) (.E 32)),fF 5] .ret) .skip)) (sr [mV 33 6,mV 34 8,oE 35 (.build [iv 0,iv 0] [(0,1,(.E 33)),(1,1,(.E 34))]),oN (.store [0,0] (.V 4) (.E 35)),fT 5] .ret))))
def zxm:IC := sr [fF 6] (sr [mV 7 0,kE 8 .neq 7 1,wE 9 8,gE 10 9 .true (.mv (.V 0)),gE 11 9 .true (.bin .neq (.E 10) (ki (-1))),pF 12 9 11,wE 13 12,gE 14 13 .false (.mv (.V 0)),gE 15 13 .false (.bin .eql (.E 14) (ki 1)),gE 16 13 .false (.mv (.E 15)),gE 17 16 .true (.mv (.V 1)),gE 18 16 .true (.mv (.V 2)),gE 19 16 .true (.bin .leq (.E 17) (.E 18)),gE 20 13 .false (.pick (.E 16) (.E 19) (kb false)),pT 21 13 20,wE 22 21,gE 23 22 .false (.mv (.V 0)),gE 24 22 .false (.bin .eql (.E 23) (ki (-1))),gE 25 22 .false (.mv (.E 24)),gE 26 25 .true (.mv (.V 1)),gE 27 25 .true (.mv (.V 2)),gE 28 25 .true (.bin .geq (.E 26) (.E 27)),gE 29 22 .false (.pick (.E 25) (.E 28) (kb false)),pT 30 22 29,vE 6 30] .ret)
def z6c:IC := sr [bV 2 0,fF 4] (sr [tV 14 6 2,cE 15 zth [([0,0,0,0,0,0],(.E 14))],wE 13 15,xE 16 0 13,xE 17 1 13,oV 5 (.alloc [iv 0,iv 0]),oN (.store [0,0] (.V 5) (.E 16)),vE 6 17] (sr [tV 19 6 2,mV 20 1,cE 21 zmc [([0,0,0,0,0,0],(.E 19)),([0],(.E 20))],wE 18 21,xE 22 0 18,xE 23 1 18,oV 7 (.alloc [(.v (.bool false)),(.v (.int .u64 0)),(.v (.int .u64 0)),iv 0]),oN (.store [0,0,0,0] (.V 7) (.E 22)),vE 8 23] (sr [tV 25 2 5,mV 26 1,cE 27 zme [([0,0],(.E 25)),([0],(.E 26))],wE 24 27,xE 28 0 24,xE 29 1 24,oV 9 (.alloc [(.v (.bool false)),(.v (.int .u64 0)),(.v (.int .u64 0)),iv 0]),oN (.store [0,0,0,0] (.V 9) (.E 28)),vE 10 29] (.seq (sr [mV 30 6,uE 31 30,wE 32 31,gE 33 32 .false (.mv (.V 8)),gE 34 32 .false (.un .not (.E 33)),pT 35 32 34,wE 36 35,gE 37 36 .false (.mv (.V 10)),gE 38 36 .false (.un .not (.E 37)),pT 39 36 38] (cd 39 (sr [fF 4] .ret) .skip)) (sr [tV 41 4 7,tV 42 4 9,cE 43 zoh [([0,0,0,0],(.E 41)),([0,0,0,0],(.E 42))],wE 40 43,xE 44 0 40,xE 45 1 40,vE 11 44,vE 12 45] (sr [mV 46 12,wE 47 46,gE 48 47 .true (.mv (.V 11)),gE 49 47 .true (.bin .gtr (.E 48) (ki 0)),pF 50 47 49,vE 4 50] .ret))))))
def z6e:IC := sr [bV 2 0,oV 4 (.alloc [(.v (.bool false)),(.v (.int .u64 0)),(.v (.int .u64 0)),iv 0]),fF 5] (sr [fV 11 2 2,tE 12 2 11,mV 13 1,cE 14 zme [([0,0],(.E 12)),([0],(.E 13))],wE 10 14,xE 15 0 10,xE 16 1 10,oV 6 (.alloc [(.v (.bool false)),(.v (.int .u64 0)),(.v (.int .u64 0)),iv 0]),oN (.store [0,0,0,0] (.V 6) (.E 15)),vE 7 16] (sr [fV 18 4 2,tE 19 2 18,mV 20 1,cE 21 zme [([0,0],(.E 19)),([0],(.E 20))],wE 17 21,xE 22 0 17,xE 23 1 17,oV 8 (.alloc [(.v (.bool false)),(.v (.int .u64 0)),(.v (.int .u64 0)),iv 0]),oN (.store [0,0,0,0] (.V 8) (.E 22)),vE 9 23] (.seq (sr [mV 24 7,uE 25 24,wE 26 25,gE 27 26 .false (.mv (.V 9)),gE 28 26 .false (.un .not (.E 27)),pT 29 26 28] (cd 29 (sr [oE 30 (.build [(.v (.bool false)),(.v (.int .u64 0)),(.v (.int .u64 0)),iv 0] []),oN (.store [0,0,0,0] (.V 4) (.E 30)),fF 5] .ret) .skip)) (sr [tV 31 4 6,tV 32 4 8,cE 33 zti [([0,0,0,0],(.E 31)),([0,0,0,0],(.E 32))],xE 34 0 33,xE 35 1 33,oN (.store [0,0,0,0] (.V 4) (.E 34)),vE 5 35] .ret))))
def z6g:IC := sr [bV 2 0,bV 3 1,f0 4,fF 5] (sr [tV 10 4 2,tV 11 4 3,cE 12 zol [([0,0,0,0],(.E 10)),([0,0,0,0],(.E 11))],wE 9 12,xE 13 0 9,xE 14 1 9,xE 15 2 9,oV 6 (.alloc [(.v (.bool false)),(.v (.int .u64 0)),(.v (.int .u64 0))]),oV 7 (.alloc [(.v (.bool false)),(.v (.int .u64 0)),(.v (.int .u64 0))]),oN (.store [0,0,0] (.V 6) (.E 13)),oN (.store [0,0,0] (.V 7) (.E 14)),vE 8 15] (.seq (sr [mV 16 8,uE 17 16] (cd 17 (sr [f0 4,fF 5] .ret) .skip)) (sr [tV 18 3 6,tV 19 3 7,cE 20 ztj [([0,0,0],(.E 18)),([0,0,0],(.E 19))],vE 4 20,fT 5] .ret)))
def zxo:IC := sr [bV 2 0,bV 3 1,fF 4] (sr [fV 5 0 2,lE 6 5,fV 7 0 3,lE 8 7,bE 9 .lss 6 8,wE 10 9,gE 11 10 .false (.faddr 0 (.V 2)),gE 12 10 .false (.load false 1 (.E 11)),gE 13 10 .false (.faddr 0 (.V 3)),gE 14 10 .false (.load false 1 (.E 13)),gE 15 10 .false (.bin .eql (.E 12) (.E 14)),gE 16 10 .false (.mv (.E 15)),gE 17 16 .true (.faddr 1 (.V 2)),gE 18 16 .true (.load false 1 (.E 17)),gE 19 16 .true (.faddr 1 (.V 3)),gE 20 16 .true (.load false 1 (.E 19)),gE 21 16 .true (.bin .lss (.E 18) (.E 20)),gE 22 10 .false (.pick (.E 16) (.E 21) (kb false)),pT 23 10 22,vE 4 23] .ret)
def yz3:List Nat:=[0,1,2,3]
def z6i:IC := sr [bV 1 0,oV 2 (.alloc [iv 0,iv 0]),fF 3] (sr [fV 4 2 1,tE 5 2 4,fV 6 4 1,tE 7 2 6,cE 8 zl9 [([0,0],(.E 5)),([0,0],(.E 7))],xE 9 0 8,xE 10 1 8,oN (.store [0,0] (.V 2) (.E 9)),vE 3 10] .ret)
def z6j:List RV:=[.cell [0,0] 2 true,.tmp [0] 3]
def zxq:IC := sr [bV 2 0,oV 4 (.alloc [(.v (.bool false)),(.v (.int .u64 0)),(.v (.int .u64 0)),iv 0]),fF 5] (.seq (sr [fV 6 0 2,lE 7 6,mV 8 1,cE 9 zn7 [([0],(.E 7)),([0],(.E 8))],uE 10 9] (cd 10 (sr [oE 11 (.build [(.v (.bool false)),(.v (.int .u64 0)),(.v (.int .u64 0)),iv 0] []),oN (.store [0,0,0,0] (.V 4) (.E 11)),fF 5] .ret) .skip)) (sr [fV 12 1 2,lE 13 12,fV 14 0 2,lE 15 14,mV 16 1,bE 17 .add 15 16,cE 18 ztk [([0],(.E 13)),([0],(.E 17))],xE 19 0 18,xE 20 1 18,oN (.store [0,0,0,0] (.V 4) (.E 19)),vE 5 20] .ret))
def zxs:IC := sr [bV 2 0,bV 3 1,oV 4 (.alloc [(.v (.bool false)),(.v (.int .u64 0)),(.v (.int .u64 0)),iv 0]),fF 5] (sr [tV 11 4 2,tV 12 4 3,cE 13 zoi [([0,0,0,0],(.E 11)),([0,0,0,0],(.E 12))],wE 10 13,xE 14 0 10,xE 15 1 10,xE 16 2 10,oV 6 (.alloc [(.v (.bool false)),(.v (.int .u64 0)),(.v (.int .u64 0))]),oV 7 (.alloc [(.v (.bool false)),(.v (.int .u64 0)),(.v (.int .u64 0))]),oN (.store [0,0,0] (.V 6) (.E 14)),oN (.store [0,0,0] (.V 7) (.E 15)),vE 8 16] (.seq (sr [mV 17 8,uE 18 17] (cd 18 (sr [oE 19 (.build [(.v (.bool false)),(.v (.int .u64 0)),(.v (.int .u64 0)),iv 0] []),oN (.store [0,0,0,0] (.V 4) (.E 19)),fF 5] .ret) .skip)) (sr [tV 21 3 6,tV 22 3 7,cE 23 ztl [([0,0,0],(.E 21)),([0,0,0],(.E 22))],wE 20 23,xE 24 0 20,xE 25 1 20,oV 9 (.alloc [(.v (.bool false)),(.v (.int .u64 0)),(.v (.int .u64 0))]),oN (.store [0,0,0] (.V 9) (.E 24)),vE 8 25] (.seq (sr [mV 26 8,uE 27 26] (cd 27 (sr [oE 28 (.build [(.v (.bool false)),(.v (.int .u64 0)),(.v (.int .u64 0)),iv 0] []),oN (.store [0,0,0,0] (.V 4) (.E 28)),fF 5] .ret) .skip)) (sr [tV 29 3 9,fV 30 3 2,lE 31 30,fV 32 3 3,lE 33 32,bE 34 .mul 31 33,cE 35 zon [([0,0,0],(.E 29)),([0],(.E 34))],xE 36 0 35,xE 37 1 35,oN (.store [0,0,0,0] (.V 4) (.E 36)),vE 5 37] .ret)))))
def yz6:List Nat:=[0,1,2,3,4,5,6,7,8,9,10]
def z6k:IC := sr [bV 2 0,bV 3 1,oV 4 (.alloc [(.v (.bool false)),(.v (.int .u64 0)),(.v (.int .u64 0))]),oV 5 (.alloc [(.v (.bool false)),(.v (.int .u64 0)),(.v (.int .u64 0))]),fF 6] (.seq (sr [tV 11 4 2,cE 12 zmf [([0,0,0,0],(.E 11))],uE 13 12,wE 14 13,gE 15 14 .false (.load true 4 (.V 3)),gE 16 14 .false (.call zmf [([0,0,0,0],(.E 15))]),gE 17 14 .false (.un .not (.E 16)),pT 18 14 17] (cd 18 (sr [oE 19 (.build [(.v (.bool false)),(.v (.int .u64 0)),(.v (.int .u64 0))] []),oE 20 (.build [(.v (.bool false)),(.v (.int .u64 0)),(.v (.int .u64 0))] []),oN (.store [0,0,0] (.V 4) (.E 19)),oN (.store [0,0,0] (.V 5) (.E 20)),fF 6] .ret) .skip)) (sr [fV 22 0 2,tE 23 3 22,fV 24 3 3,lE 25 24,cE 26 zoo [([0,0,0],(.E 23)),([0],(.E 25))],wE 21 26,xE 27 0 21,xE 28 1 21,oV 7 (.alloc [(.v (.bool false)),(.v (.int .u64 0)),(.v (.int .u64 0))]),oN (.store [0,0,0] (.V 7) (.E 27)),vE 8 28] (sr [fV 30 0 3,tE 31 3 30,fV 32 3 2,lE 33 32,cE 34 zoo [([0,0,0],(.E 31)),([0],(.E 33))],wE 29 34,xE 35 0 29,xE 36 1 29,oV 9 (.alloc [(.v (.bool false)),(.v (.int .u64 0)),(.v (.int .u64 0))]),oN (.store [0,0,0] (.V 9) (.E 35)),vE 10 36] (.seq (.regD [(tV 37 3 7,0,0),(tV 38 3 9,0,1),(mV 39 8,0,0),(wE 40 39,0,0),(gE 41 40 .true (.mv (.V 10)),0,0),(pF 42 40 41,0,0),(oN (.store [0,0,0] (.V 4) (.E 37)),0,0),(oN (.store [0,0,0] (.V 5) (.E 38)),0,0),(vE 6 42,0,0)]) .ret))))
def z6l:List RV:=[.cell [0,0,0] 4 true,.cell [0,0,0] 5 true,.tmp [0] 6]
def z6m:IC := sr [bV 2 0,bV 3 1,f0 4] (.seq (.regD [(fV 5 0 2,0,0),(lE 6 5,0,0),(fV 7 1 2,0,0),(lE 8 7,0,0),(fV 9 2 2,0,0),(lE 10 9,0,0),(cE 11 zhq [([0],(.E 6)),([0],(.E 8)),([0],(.E 10))],0,0),(fV 12 0 3,1,0),(lE 13 12,1,0),(fV 14 1 3,1,0),(lE 15 14,1,0),(fV 16 2 3,1,0),(lE 17 16,1,0),(cE 18 zhq [([0],(.E 13)),([0],(.E 15)),([0],(.E 17))],0,0),(oN (.store [0,0,0] (.V 2) (.E 11)),0,0),(oN (.store [0,0,0] (.V 3) (.E 18)),0,0)]) (.seq (.block 0 (sr [fV 20 0 2,lE 21 20,wE 22 21,gE 23 22 .true (.faddr 0 (.V 3)),gE 24 22 .true (.load false 1 (.E 23)),gE 25 22 .true (.un .not (.E 24)),pF 26 22 25,wE 19 26] (cd 19 (sr [oV 4 (.mv (ki (-1)))] .ret) (sr [fV 28 0 3,lE 29 28,wE 30 29,gE 31 30 .true (.faddr 0 (.V 2)),gE 32 30 .true (.load false 1 (.E 31)),gE 33 30 .true (.un .not (.E 32)),pF 34 30 33,wE 27 34] (cd 27 (sr [oV 4 (.mv (ki 1))] .ret) (sr [fV 36 0 2,lE 37 36,wE 35 37] (cd 35 (sr [tV 38 3 3,tV 39 3 2,cE 40 zmg [([0,0,0],(.E 38)),([0,0,0],(.E 39))],vE 4 40] .ret) .skip))))))) (sr [tV 41 3 2,tV 42 3 3,cE 43 zmg [([0,0,0],(.E 41)),([0,0,0],(.E 42))],vE 4 43] .ret)))
def yz8:List Nat:=[0,2,3,5,6,7,8]
def yf0:IC := sr [oE 9 (.bin .lss (.V 8) (.V 7))] (.seq (cd 9 .skip (.exit 0)) (.seq (.block 1 (sr [oE 10 (.iaddr 1 (.V 6) (.V 8)),lE 11 10,vE 5 11] (sr [mV 12 5,mV 13 3,bE 14 .neq 12 13] (cd 14 (sr [mV 15 5,vE 2 15] .ret) .skip)))) (.reg [oE 16 (.bin .add (.V 8) (ki 1)),vE 8 16])))
def z6o:IC := sr [f0 2] (sr [f0 3] (.seq (sr [oV 6 (.mv (.V 0)),oV 7 (.len (.V 6)),f0 8] (bl 0 yf0)) (sr [mV 17 3,vE 2 17] .ret)))
def zul:IC := sr [f0 4] (sr [mV 7 0,cE 8 zom [([0],(.E 7))],vE 5 8] (sr [mV 9 1,cE 10 zom [([0],(.E 9))],vE 6 10] (.seq (sr [mV 11 5] (cd 11 (.seq (sr [mV 12 6] (cd 12 (sr [f0 4] .ret) .skip)) (sr [oV 4 (.mv (ki (-1)))] .ret)) .skip)) (.seq (sr [mV 13 6] (cd 13 (sr [oV 4 (.mv (ki 1))] .ret) .skip)) (.seq (sr [mV 14 0,mV 15 1,bE 16 .lss 14 15] (cd 16 (sr [oV 4 (.mv (ki (-1)))] .ret) .skip)) (.seq (sr [mV 17 0,mV 18 1,bE 19 .gtr 17 18] (cd 19 (sr [oV 4 (.mv (ki 1))] .ret) .skip)) (sr [f0 4] .ret)))))))
def z6q:IC := sr [bV 1 0,oV 2 (.alloc [iv 0,iv 0]),fF 3] (sr [fV 4 2 1,tE 5 2 4,fV 6 4 1,tE 7 2 6,cE 8 zmb [([0,0],(.E 5)),([0,0],(.E 7))],xE 9 0 8,xE 10 1 8,oN (.store [0,0] (.V 2) (.E 9)),vE 3 10] .ret)
def zun:IC := sr [bV 2 0,oV 4 (.alloc [(.v (.bool false)),(.v (.int .u64 0)),(.v (.int .u64 0)),iv 0]),fF 5] (.seq (sr [fV 6 0 2,lE 7 6,cE 8 zbj [([0],(.E 7)),([0],(ki 0)),([0],(ki 40))],uE 9 8,wE 10 9,gE 11 10 .false (.mv (.V 1)),gE 12 10 .false (.call zbj [([0],(.E 11)),([0],(ki 1)),([0],(ki 100))]),gE 13 10 .false (.un .not (.E 12)),pT 14 10 13] (cd 14 (sr [oE 15 (.build [(.v (.bool false)),(.v (.int .u64 0)),(.v (.int .u64 0)),iv 0] []),oN (.store [0,0,0,0] (.V 4) (.E 15)),fF 5] .ret) .skip)) (sr [fV 16 1 2,lE 17 16,fV 18 0 2,lE 19 18,mV 20 1,bE 21 .add 19 20,cE 22 ztm [([0],(.E 17)),([0],(.E 21))],xE 23 0 22,xE 24 1 22,oN (.store [0,0,0,0] (.V 4) (.E 23)),vE 5 24] .ret))
def y0c:List Nat:=[0,1,2,3,4,5,6,7,8,9,10,11]
def zxu:IC := sr [bV 2 0,bV 3 1,oV 4 (.alloc [(.v (.bool false)),(.v (.int .u64 0)),(.v (.int .u64 0)),iv 0]),fF 5] (sr [tV 13 4 2,tV 14 4 3,cE 15 zol [([0,0,0,0],(.E 13)),([0,0,0,0],(.E 14))],wE 12 15,xE 16 0 12,xE 17 1 12,xE 18 2 12,oV 6 (.alloc [(.v (.bool false)),(.v (.int .u64 0)),(.v (.int .u64 0))]),oV 7 (.alloc [(.v (.bool false)),(.v (.int .u64 0)),(.v (.int .u64 0))]),oN (.store [0,0,0] (.V 6) (.E 16)),oN (.store [0,0,0] (.V 7) (.E 17)),vE 8 18] (.seq (sr [mV 19 8,uE 20 19] (cd 20 (sr [oE 21 (.build [(.v (.bool false)),(.v (.int .u64 0)),(.v (.int .u64 0)),iv 0] []),oN (.store [0,0,0,0] (.V 4) (.E 21)),fF 5] .ret) .skip)) (sr [tV 23 3 6,tV 24 3 7,cE 25 ztn [([0,0,0],(.E 23)),([0,0,0],(.E 24))],wE 22 25,xE 26 0 22,xE 27 1 22,oV 9 (.alloc [(.v (.bool false)),(.v (.int .u64 0)),(.v (.int .u64 0))]),oN (.store [0,0,0] (.V 9) (.E 26)),vE 10 27] (sr [tV 28 3 9,fV 29 3 2,lE 30 29,fV 31 3 3,lE 32 31,bE 33 .mul 30 32,oE 34 (.build [(.v (.bool false)),(.v (.int .u64 0)),(.v (.int .u64 0)),iv 0] [(0,3,(.E 28)),(3,1,(.E 33))]),oV 11 (.alloc [(.v (.bool false)),(.v (.int .u64 0)),(.v (.int .u64 0)),iv 0]),oN (.store [0,0,0,0] (.V 11) (.E 34))] (.seq (sr [mV 35 10,uE 36 35,wE 37 36,gE 38 37 .false (.load true 4 (.V 11)),gE 39 37 .false (.call zke [([0,0,0,0],(.E 38))]),gE 40 37 .false (.un .not (.E 39)),pT 41 37 40] (cd 41 (sr [oE 42 (.build [(.v (.bool false)),(.v (.int .u64 0)),(.v (.int .u64 0)),iv 0] []),oN (.store [0,0,0,0] (.V 4) (.E 42)),fF 5] .ret) .skip)) (sr [tV 43 4 11,oN (.store [0,0,0,0] (.V 4) (.E 43)),fT 5] .ret))))))
def z6s:IC := sr [bV 2 0,bV 3 1,oV 4 (.alloc [(.v (.bool false)),(.v (.int .u64 0)),(.v (.int .u64 0))]),oV 5 (.alloc [(.v (.bool false)),(.v (.int .u64 0)),(.v (.int .u64 0))]),fF 6] (.seq (sr [tV 11 4 2,cE 12 zke [([0,0,0,0],(.E 11))],uE 13 12,wE 14 13,gE 15 14 .false (.load true 4 (.V 3)),gE 16 14 .false (.call zke [([0,0,0,0],(.E 15))]),gE 17 14 .false (.un .not (.E 16)),pT 18 14 17] (cd 18 (sr [oE 19 (.build [(.v (.bool false)),(.v (.int .u64 0)),(.v (.int .u64 0))] []),oE 20 (.build [(.v (.bool false)),(.v (.int .u64 0)),(.v (.int .u64 0))] []),oN (.store [0,0,0] (.V 4) (.E 19)),oN (.store [0,0,0] (.V 5) (.E 20)),fF 6] .ret) .skip)) (sr [fV 22 0 2,tE 23 3 22,fV 24 3 3,lE 25 24,cE 26 zop [([0,0,0],(.E 23)),([0],(.E 25))],wE 21 26,xE 27 0 21,xE 28 1 21,oV 7 (.alloc [(.v (.bool false)),(.v (.int .u64 0)),(.v (.int .u64 0))]),oN (.store [0,0,0] (.V 7) (.E 27)),vE 8 28] (sr [fV 30 0 3,tE 31 3 30,fV 32 3 2,lE 33 32,cE 34 zop [([0,0,0],(.E 31)),([0],(.E 33))],wE 29 34,xE 35 0 29,xE 36 1 29,oV 9 (.alloc [(.v (.bool false)),(.v (.int .u64 0)),(.v (.int .u64 0))]),oN (.store [0,0,0] (.V 9) (.E 35)),vE 10 36] (.seq (.regD [(tV 37 3 7,0,0),(tV 38 3 9,0,1),(mV 39 8,0,0),(wE 40 39,0,0),(gE 41 40 .true (.mv (.V 10)),0,0),(pF 42 40 41,0,0),(oN (.store [0,0,0] (.V 4) (.E 37)),0,0),(oN (.store [0,0,0] (.V 5) (.E 38)),0,0),(vE 6 42,0,0)]) .ret))))
def z6u:IC := sr [bV 2 0,bV 3 1,f0 4] (sr [fV 7 0 2,lE 8 7,wE 9 8,gE 10 9 .true (.load true 3 (.V 2)),gE 11 9 .true (.call zkf [([0,0,0],(.E 10))]),gE 12 9 .true (.un .not (.E 11)),pF 13 9 12,vE 5 13] (sr [fV 14 0 3,lE 15 14,wE 16 15,gE 17 16 .true (.load true 3 (.V 3)),gE 18 16 .true (.call zkf [([0,0,0],(.E 17))]),gE 19 16 .true (.un .not (.E 18)),pF 20 16 19,vE 6 20] (.seq (.block 0 (sr [mV 22 5,wE 23 22,gE 24 23 .true (.mv (.V 6)),gE 25 23 .true (.un .not (.E 24)),pF 26 23 25,wE 21 26] (cd 21 (sr [oV 4 (.mv (ki (-1)))] .ret) (sr [mV 28 6,wE 29 28,gE 30 29 .true (.mv (.V 5)),gE 31 29 .true (.un .not (.E 30)),pF 32 29 31,wE 27 32] (cd 27 (sr [oV 4 (.mv (ki 1))] .ret) (sr [mV 34 5,wE 33 34] (cd 33 (sr [tV 35 3 3,tV 36 3 2,cE 37 zmh [([0,0,0],(.E 35)),([0,0,0],(.E 36))],vE 4 37] .ret) .skip))))))) (sr [tV 38 3 2,tV 39 3 3,cE 40 zmh [([0,0,0],(.E 38)),([0,0,0],(.E 39))],vE 4 40] .ret))))
def z6w:IC := sr [fF 2] (sr [mV 3 0,mV 4 0,bE 5 .neq 3 4,vE 2 5] .ret)
def z6y:IC := sr [oV 4 (.alloc [(.v (.bool false)),(.v (.int .u64 0)),(.v (.int .u64 0)),iv 0]),fF 5] (sr [mV 6 0,mV 7 0,cE 8 zto [([0],(.E 6)),([0],(.E 7))],mV 9 1,cE 10 zon [([0,0,0],(.E 8)),([0],(.E 9))],xE 11 0 10,xE 12 1 10,oN (.store [0,0,0,0] (.V 4) (.E 11)),vE 5 12] .ret)
def y0h:List Nat:=[0,1,2,3,4,5,6,7,8,10,11,12,14]
def zkx:IC := sr [bV 2 0,bV 3 1,oV 4 (.alloc [(.v (.bool false)),(.v (.int .u64 0)),(.v (.int .u64 0))]),fF 5] (.seq (sr [tV 15 3 2,cE 16 zif [([0,0,0],(.E 15))],uE 17 16,wE 18 17,gE 19 18 .false (.load true 3 (.V 3)),gE 20 18 .false (.call zif [([0,0,0],(.E 19))]),gE 21 18 .false (.un .not (.E 20)),pT 22 18 21] (cd 22 (sr [oE 23 (.build [(.v (.bool false)),(.v (.int .u64 0)),(.v (.int .u64 0))] []),oN (.store [0,0,0] (.V 4) (.E 23)),fF 5] .ret) .skip)) (.seq (sr [fV 24 0 2,lE 25 24,fV 26 0 3,lE 27 26,oE 28 (.eqb true [.b] (.E 25) (.E 27))] (cd 28 (.seq (sr [tV 29 3 2,tV 30 3 3,cE 31 zmg [([0,0,0],(.E 29)),([0,0,0],(.E 30))],kE 32 .lss 31 0] (cd 32 (.reg [tV 33 3 3,tV 34 3 2,oN (.store [0,0,0] (.V 2) (.E 33)),oN (.store [0,0,0] (.V 3) (.E 34))]) .skip)) (sr [fV 36 2 2,lE 37 36,fV 38 2 3,lE 39 38,cE 40 zmi [([0],(.E 37)),([0],(.E 39)),([0],(.C (.v (.int .u64 0))))],wE 35 40,xE 41 0 35,xE 42 1 35,vE 6 41,vE 7 42] (sr [fV 44 1 2,lE 45 44,fV 46 1 3,lE 47 46,mV 48 7,cE 49 zmi [([0],(.E 45)),([0],(.E 47)),([0],(.E 48))],wE 43 49,xE 50 0 43,xE 51 1 43,vE 8 50,wE 9 51] (sr [fV 52 0 2,lE 53 52,mV 54 8,mV 55 6,cE 56 zhq [([0],(.E 53)),([0],(.E 54)),([0],(.E 55))],oN (.store [0,0,0] (.V 4) (.E 56)),fT 5] .ret)))) .skip)) (sr [fV 58 2 2,lE 59 58,fV 60 2 3,lE 61 60,cE 62 zkg [([0],(.E 59)),([0],(.E 61)),([0],(.C (.v (.int .u64 0))))],wE 57 62,xE 63 0 57,xE 64 1 57,vE 10 63,vE 11 64] (sr [fV 66 1 2,lE 67 66,fV 68 1 3,lE 69 68,mV 70 11,cE 71 zkg [([0],(.E 67)),([0],(.E 69)),([0],(.E 70))],wE 65 71,xE 72 0 65,xE 73 1 65,vE 12 72,wE 13 73] (sr [fV 74 0 2,lE 75 74,mV 76 12,mV 77 10,cE 78 zhq [([0],(.E 75)),([0],(.E 76)),([0],(.E 77))],oV 14 (.alloc [(.v (.bool false)),(.v (.int .u64 0)),(.v (.int .u64 0))]),oN (.store [0,0,0] (.V 14) (.E 78))] (.seq (sr [tV 79 3 14,cE 80 zif [([0,0,0],(.E 79))],uE 81 80] (cd 81 (sr [oE 82 (.build [(.v (.bool false)),(.v (.int .u64 0)),(.v (.int .u64 0))] []),oN (.store [0,0,0] (.V 4) (.E 82)),fF 5] .ret) .skip)) (sr [tV 83 3 14,oN (.store [0,0,0] (.V 4) (.E 83)),fT 5] .ret)))))))
def zky:List RV:=[.cell [0,0,0] 4 true,.tmp [0] 5]
def z60:IC := sr [bV 2 0,oV 4 (.alloc [(.v (.bool false)),(.v (.int .u64 0)),(.v (.int .u64 0)),iv 0]),fF 5] (sr [tV 7 3 2,mV 8 1,oE 9 (.build [(.v (.bool false)),(.v (.int .u64 0)),(.v (.int .u64 0)),iv 0] [(0,3,(.E 7)),(3,1,(.E 8))]),oV 6 (.alloc [(.v (.bool false)),(.v (.int .u64 0)),(.v (.int .u64 0)),iv 0]),oN (.store [0,0,0,0] (.V 6) (.E 9))] (.seq (sr [tV 10 4 6,cE 11 zmf [([0,0,0,0],(.E 10))],uE 12 11] (cd 12 (sr [oE 13 (.build [(.v (.bool false)),(.v (.int .u64 0)),(.v (.int .u64 0)),iv 0] []),oN (.store [0,0,0,0] (.V 4) (.E 13)),fF 5] .ret) .skip)) (sr [tV 14 4 6,oN (.store [0,0,0,0] (.V 4) (.E 14)),fT 5] .ret)))
def z62:IC := sr [bV 1 0,fF 2] (sr [fV 3 0 1,tE 4 3 3,cE 5 zif [([0,0,0],(.E 4))],wE 6 5,gE 7 6 .true (.faddr 3 (.V 1)),gE 8 6 .true (.load false 1 (.E 7)),gE 9 6 .true (.call zbu [([0],(.E 8)),([0],(ki 1)),([0],(ki 1000000))]),pF 10 6 9,vE 2 10] .ret)
def zil:IC := sr [bV 2 0,oV 4 (.alloc [(.v (.bool false)),(.v (.int .u64 0)),(.v (.int .u64 0))]),fF 5] (.seq (sr [tV 13 3 2,cE 14 zif [([0,0,0],(.E 13))],uE 15 14] (cd 15 (sr [oE 16 (.build [(.v (.bool false)),(.v (.int .u64 0)),(.v (.int .u64 0))] []),oN (.store [0,0,0] (.V 4) (.E 16)),fF 5] .ret) .skip)) (sr [mV 17 1,cE 18 zmj [([0],(.E 17))],vE 6 18] (sr [fV 20 1 2,lE 21 20,mV 22 6,cE 23 zmk [([0],(.E 21)),([0],(.E 22))],wE 19 23,xE 24 0 19,xE 25 1 19,vE 7 24,vE 8 25] (sr [fV 27 2 2,lE 28 27,mV 29 6,cE 30 zmk [([0],(.E 28)),([0],(.E 29))],wE 26 30,xE 31 0 26,xE 32 1 26,vE 9 31,vE 10 32] (sr [mV 34 8,mV 35 9,cE 36 zkg [([0],(.E 34)),([0],(.E 35)),([0],(.C (.v (.int .u64 0))))],wE 33 36,xE 37 0 33,xE 38 1 33,vE 8 37,vE 11 38] (sr [fV 39 0 2,lE 40 39,mV 41 1,kE 42 .lss 41 0,oE 43 (.eqb true [.b] (.E 40) (.E 42)),mV 44 8,mV 45 10,cE 46 zhq [([0],(.E 43)),([0],(.E 44)),([0],(.E 45))],oV 12 (.alloc [(.v (.bool false)),(.v (.int .u64 0)),(.v (.int .u64 0))]),oN (.store [0,0,0] (.V 12) (.E 46))] (.seq (sr [mV 47 7,oE 48 (.bin .gtr (.E 47) (.C (.v (.int .u64 0)))),wE 49 48,gE 50 49 .false (.mv (.V 11)),gE 51 49 .false (.bin .gtr (.E 50) (.C (.v (.int .u64 0)))),pT 52 49 51,wE 53 52,gE 54 53 .false (.load true 3 (.V 12)),gE 55 53 .false (.call zif [([0,0,0],(.E 54))]),gE 56 53 .false (.un .not (.E 55)),pT 57 53 56] (cd 57 (sr [oE 58 (.build [(.v (.bool false)),(.v (.int .u64 0)),(.v (.int .u64 0))] []),oN (.store [0,0,0] (.V 4) (.E 58)),fF 5] .ret) .skip)) (sr [tV 59 3 12,oN (.store [0,0,0] (.V 4) (.E 59)),fT 5] .ret))))))))
def zup:IC := sr [oV 6 (.alloc [(.v (.bool false)),(.v (.int .u64 0)),(.v (.int .u64 0))])] (sr [mV 7 0,wE 8 7,gE 9 8 .true (.mv (.V 1)),gE 10 8 .true (.bin .gtr (.E 9) (.C (.v (.int .u64 0)))),gE 11 8 .true (.mv (.E 10)),gE 12 11 .false (.mv (.V 2)),gE 13 11 .false (.bin .gtr (.E 12) (.C (.v (.int .u64 0)))),gE 14 8 .true (.pick (.E 11) (kb true) (.E 13)),pF 15 8 14,mV 16 1,mV 17 2,oE 18 (.build [(.v (.bool false)),(.v (.int .u64 0)),(.v (.int .u64 0))] [(0,1,(.E 15)),(1,1,(.E 16)),(2,1,(.E 17))]),oN (.store [0,0,0] (.V 6) (.E 18))] .ret)
def zuq:List RV:=[.cell [0,0,0] 6 true]
def z64:IC := sr [bV 2 0,bV 3 1,f0 4] (.seq (.regD [(fV 5 1 2,0,0),(lE 6 5,0,0),(fV 7 1 3,0,0),(lE 8 7,0,0),(cE 9 zoq [([0],(.E 6)),([0],(.E 8))],0,0),(fV 10 2 2,1,0),(lE 11 10,1,0),(fV 12 2 3,1,0),(lE 13 12,1,0),(cE 14 zoq [([0],(.E 11)),([0],(.E 13))],0,0),(oE 15 (.bslice 2 1 [iv 0] [(0,(.E 9)),(1,(.E 14))]),0,0),(cE 16 zoj [([1],(.E 15))],0,0),(vE 4 16,0,0)]) .ret)
def z66:IC := sr [oV 4 (.alloc [(.v (.bool false)),(.v (.int .u64 0)),(.v (.int .u64 0)),iv 0]),fF 5] (sr [mV 7 0,mV 8 0,cE 9 ztp [([0],(.E 7)),([0],(.E 8))],mV 10 1,oE 11 (.build [(.v (.bool false)),(.v (.int .u64 0)),(.v (.int .u64 0)),iv 0] [(0,3,(.E 9)),(3,1,(.E 10))]),oV 6 (.alloc [(.v (.bool false)),(.v (.int .u64 0)),(.v (.int .u64 0)),iv 0]),oN (.store [0,0,0,0] (.V 6) (.E 11))] (.seq (sr [tV 12 4 6,cE 13 zke [([0,0,0,0],(.E 12))],uE 14 13] (cd 14 (sr [oE 15 (.build [(.v (.bool false)),(.v (.int .u64 0)),(.v (.int .u64 0)),iv 0] []),oN (.store [0,0,0,0] (.V 4) (.E 15)),fF 5] .ret) .skip)) (sr [tV 16 4 6,oN (.store [0,0,0,0] (.V 4) (.E 16)),fT 5] .ret)))
def zf9:IC := sr [bV 2 0,bV 3 1,oV 4 (.alloc [(.v (.bool false)),(.v (.int .u64 0)),(.v (.int .u64 0))]),fF 5] (.seq (sr [tV 10 3 2,cE 11 zig [([0,0,0],(.E 10))],uE 12 11,wE 13 12,gE 14 13 .false (.load true 3 (.V 3)),gE 15 13 .false (.call zig [([0,0,0],(.E 14))]),gE 16 13 .false (.un .not (.E 15)),pT 17 13 16] (cd 17 (sr [oE 18 (.build [(.v (.bool false)),(.v (.int .u64 0)),(.v (.int .u64 0))] []),oN (.store [0,0,0] (.V 4) (.E 18)),fF 5] .ret) .skip)) (.seq (sr [fV 19 0 2,lE 20 19,fV 21 0 3,lE 22 21,oE 23 (.eqb false [.b] (.E 20) (.E 22))] (cd 23 (sr [fV 24 0 2,lE 25 24,fV 26 1 2,lE 27 26,fV 28 1 3,lE 29 28,bE 30 .add 27 29,fV 31 2 2,lE 32 31,fV 33 2 3,lE 34 33,bE 35 .add 32 34,oE 36 (.build [(.v (.bool false)),(.v (.int .u64 0)),(.v (.int .u64 0))] [(0,1,(.E 25)),(1,1,(.E 30)),(2,1,(.E 35))]),oV 6 (.alloc [(.v (.bool false)),(.v (.int .u64 0)),(.v (.int .u64 0))]),oN (.store [0,0,0] (.V 6) (.E 36))] (.seq (sr [fV 37 2 6,lE 38 37,fV 39 2 2,lE 40 39,bE 41 .lss 38 40] (cd 41 (.reg [fV 42 1 6,lE 43 42,oE 44 (.bin .add (.E 43) (.C (.v (.int .u64 1)))),fV 45 1 6,oN (.store [0] (.E 45) (.E 44))]) .skip)) (.seq (sr [tV 46 3 6,cE 47 zig [([0,0,0],(.E 46))],uE 48 47] (cd 48 (sr [oE 49 (.build [(.v (.bool false)),(.v (.int .u64 0)),(.v (.int .u64 0))] []),oN (.store [0,0,0] (.V 4) (.E 49)),fF 5] .ret) .skip)) (sr [tV 50 3 6,oN (.store [0,0,0] (.V 4) (.E 50)),fT 5] .ret)))) .skip)) (sr [tV 51 3 2,oV 7 (.alloc [(.v (.bool false)),(.v (.int .u64 0)),(.v (.int .u64 0))]),oN (.store [0,0,0] (.V 7) (.E 51))] (sr [tV 52 3 3,oV 8 (.alloc [(.v (.bool false)),(.v (.int .u64 0)),(.v (.int .u64 0))]),oN (.store [0,0,0] (.V 8) (.E 52))] (.seq (sr [tV 53 3 2,tV 54 3 3,cE 55 zmh [([0,0,0],(.E 53)),([0,0,0],(.E 54))],kE 56 .lss 55 0] (cd 56 (sr [tV 57 3 3,oN (.store [0,0,0] (.V 7) (.E 57))] (.reg [tV 58 3 2,oN (.store [0,0,0] (.V 8) (.E 58))])) .skip)) (sr [fV 59 0 7,lE 60 59,fV 61 1 7,lE 62 61,fV 63 1 8,lE 64 63,bE 65 .sub 62 64,fV 66 2 7,lE 67 66,fV 68 2 8,lE 69 68,bE 70 .sub 67 69,oE 71 (.build [(.v (.bool false)),(.v (.int .u64 0)),(.v (.int .u64 0))] [(0,1,(.E 60)),(1,1,(.E 65)),(2,1,(.E 70))]),oV 9 (.alloc [(.v (.bool false)),(.v (.int .u64 0)),(.v (.int .u64 0))]),oN (.store [0,0,0] (.V 9) (.E 71))] (.seq (sr [fV 72 2 7,lE 73 72,fV 74 2 8,lE 75 74,bE 76 .lss 73 75] (cd 76 (.reg [fV 77 1 9,lE 78 77,oE 79 (.bin .sub (.E 78) (.C (.v (.int .u64 1)))),fV 80 1 9,oN (.store [0] (.E 80) (.E 79))]) .skip)) (.seq (sr [tV 81 3 9,cE 82 zkf [([0,0,0],(.E 81))]] (cd 82 (.reg [fV 83 0 9,oN (.store [0] (.E 83) (kb false))]) .skip)) (sr [tV 84 3 9,oN (.store [0,0,0] (.V 4) (.E 84)),fT 5] .ret)))))))))
def z68:IC := sr [bV 1 0,fF 2] (sr [fV 3 0 1,tE 4 3 3,cE 5 zig [([0,0,0],(.E 4))],wE 6 5,gE 7 6 .true (.faddr 3 (.V 1)),gE 8 6 .true (.load false 1 (.E 7)),gE 9 6 .true (.call zbj [([0],(.E 8)),([0],(ki 1)),([0],(ki 1000000))]),pF 10 6 9,vE 2 10] .ret)
def zio:IC := sr [bV 2 0,oV 4 (.alloc [(.v (.bool false)),(.v (.int .u64 0)),(.v (.int .u64 0))]),fF 5] (.seq (sr [tV 13 3 2,cE 14 zig [([0,0,0],(.E 13))],uE 15 14] (cd 15 (sr [oE 16 (.build [(.v (.bool false)),(.v (.int .u64 0)),(.v (.int .u64 0))] []),oN (.store [0,0,0] (.V 4) (.E 16)),fF 5] .ret) .skip)) (sr [mV 17 1,cE 18 zml [([0],(.E 17))],vE 6 18] (sr [fV 20 1 2,lE 21 20,mV 22 6,cE 23 zmm [([0],(.E 21)),([0],(.E 22))],wE 19 23,xE 24 0 19,xE 25 1 19,vE 7 24,vE 8 25] (sr [fV 27 2 2,lE 28 27,mV 29 6,cE 30 zmm [([0],(.E 28)),([0],(.E 29))],wE 26 30,xE 31 0 26,xE 32 1 26,vE 9 31,vE 10 32] (sr [mV 33 8,mV 34 9,bE 35 .add 33 34,vE 11 35] (sr [fV 36 0 2,lE 37 36,mV 38 1,kE 39 .lss 38 0,oE 40 (.eqb true [.b] (.E 37) (.E 39)),mV 41 11,mV 42 10,oE 43 (.build [(.v (.bool false)),(.v (.int .u64 0)),(.v (.int .u64 0))] [(0,1,(.E 40)),(1,1,(.E 41)),(2,1,(.E 42))]),oV 12 (.alloc [(.v (.bool false)),(.v (.int .u64 0)),(.v (.int .u64 0))]),oN (.store [0,0,0] (.V 12) (.E 43))] (.seq (sr [tV 44 3 12,cE 45 zkf [([0,0,0],(.E 44))]] (cd 45 (.reg [fV 46 0 12,oN (.store [0] (.E 46) (kb false))]) .skip)) (.seq (sr [mV 47 7,oE 48 (.bin .gtr (.E 47) (.C (.v (.int .u64 0)))),wE 49 48,gE 50 49 .false (.mv (.V 11)),gE 51 49 .false (.mv (.V 8)),gE 52 49 .false (.bin .lss (.E 50) (.E 51)),pT 53 49 52,wE 54 53,gE 55 54 .false (.load true 3 (.V 12)),gE 56 54 .false (.call zig [([0,0,0],(.E 55))]),gE 57 54 .false (.un .not (.E 56)),pT 58 54 57] (cd 58 (sr [oE 59 (.build [(.v (.bool false)),(.v (.int .u64 0)),(.v (.int .u64 0))] []),oN (.store [0,0,0] (.V 4) (.E 59)),fF 5] .ret) .skip)) (sr [tV 60 3 12,oN (.store [0,0,0] (.V 4) (.E 60)),fT 5] .ret)))))))))
def zxw:IC := sr [bV 1 0,fF 2] (sr [fV 3 1 1,lE 4 3,oE 5 (.bin .eql (.E 4) (.C (.v (.int .u64 0)))),wE 6 5,gE 7 6 .true (.faddr 2 (.V 1)),gE 8 6 .true (.load false 1 (.E 7)),gE 9 6 .true (.bin .eql (.E 8) (.C (.v (.int .u64 0)))),pF 10 6 9,vE 2 10] .ret)
def zmt:IC := sr [bV 2 0,bV 3 1,f0 4] (.seq (.block 0 (sr [fV 6 1 2,lE 7 6,fV 8 1 3,lE 9 8,bE 10 .lss 7 9,wE 11 10,gE 12 11 .false (.faddr 1 (.V 2)),gE 13 11 .false (.load false 1 (.E 12)),gE 14 11 .false (.faddr 1 (.V 3)),gE 15 11 .false (.load false 1 (.E 14)),gE 16 11 .false (.bin .eql (.E 13) (.E 15)),gE 17 11 .false (.mv (.E 16)),gE 18 17 .true (.faddr 2 (.V 2)),gE 19 17 .true (.load false 1 (.E 18)),gE 20 17 .true (.faddr 2 (.V 3)),gE 21 17 .true (.load false 1 (.E 20)),gE 22 17 .true (.bin .lss (.E 19) (.E 21)),gE 23 11 .false (.pick (.E 17) (.E 22) (kb false)),pT 24 11 23,wE 5 24] (cd 5 (sr [oV 4 (.mv (ki (-1)))] .ret) (sr [fV 26 1 2,lE 27 26,fV 28 1 3,lE 29 28,bE 30 .gtr 27 29,wE 31 30,gE 32 31 .false (.faddr 2 (.V 2)),gE 33 31 .false (.load false 1 (.E 32)),gE 34 31 .false (.faddr 2 (.V 3)),gE 35 31 .false (.load false 1 (.E 34)),gE 36 31 .false (.bin .gtr (.E 33) (.E 35)),pT 37 31 36,wE 25 37] (cd 25 (sr [oV 4 (.mv (ki 1))] .ret) .skip))))) (sr [f0 4] .ret))
def z7a:IC := sr [oV 4 (.alloc [(.v (.bool false)),(.v (.int .u64 0)),(.v (.int .u64 0))])] (sr [mV 8 0,cE 9 zmj [([0],(.E 8))],mV 10 1,cE 11 zmj [([0],(.E 10))],cE 12 zmk [([0],(.E 9)),([0],(.E 11))],wE 7 12,xE 13 0 7,xE 14 1 7,vE 5 13,vE 6 14] (sr [mV 15 0,kE 16 .lss 15 0,mV 17 1,kE 18 .lss 17 0,oE 19 (.eqb true [.b] (.E 16) (.E 18)),mV 20 5,mV 21 6,cE 22 zhq [([0],(.E 19)),([0],(.E 20)),([0],(.E 21))],oN (.store [0,0,0] (.V 4) (.E 22))] .ret))
def z7b:List RV:=[.cell [0,0,0] 4 true]
def zpb:IC := sr [bV 1 0,fF 2] (sr [fV 3 1 1,lE 4 3,oE 5 (.bin .lss (.E 4) (.C (.v (.int .u64 9223372036854775808)))),wE 6 5,gE 7 6 .true (.faddr 0 (.V 1)),gE 8 6 .true (.load false 1 (.E 7)),gE 9 6 .true (.un .not (.E 8)),gE 10 6 .true (.mv (.E 9)),gE 11 10 .false (.faddr 1 (.V 1)),gE 12 10 .false (.load false 1 (.E 11)),gE 13 10 .false (.bin .gtr (.E 12) (.C (.v (.int .u64 0)))),gE 14 6 .true (.pick (.E 10) (kb true) (.E 13)),gE 15 6 .true (.mv (.E 14)),gE 16 15 .false (.faddr 2 (.V 1)),gE 17 15 .false (.load false 1 (.E 16)),gE 18 15 .false (.bin .gtr (.E 17) (.C (.v (.int .u64 0)))),gE 19 6 .true (.pick (.E 15) (kb true) (.E 18)),pF 20 6 19,vE 2 20] .ret)
def z7c:IC := sr [oV 2 (.mv (.C (.v (.int .u64 0))))] (.seq (sr [mV 3 0,kE 4 .lss 3 0] (cd 4 (sr [mV 5 0,oE 6 (.convI .u64 (.E 5)),oE 7 (.un .neg (.E 6)),vE 2 7] .ret) .skip)) (sr [mV 8 0,oE 9 (.convI .u64 (.E 8)),vE 2 9] .ret))
def y0w:List Nat:=[0,1,4,5,6,7,8,9,10,11,12,13]
def z7e:IC := sr [oV 4 (.mv (.C (.v (.int .u64 0)))),oV 5 (.mv (.C (.v (.int .u64 0))))] (sr [mV 14 0,oE 15 (.bin .and (.E 14) (.C (.v (.int .u64 4294967295)))),vE 6 15] (sr [mV 16 0,oE 17 (.bin .shr (.E 16) (.C (.v (.int .u64 32)))),vE 7 17] (sr [mV 18 1,oE 19 (.bin .and (.E 18) (.C (.v (.int .u64 4294967295)))),vE 8 19] (sr [mV 20 1,oE 21 (.bin .shr (.E 20) (.C (.v (.int .u64 32)))),vE 9 21] (sr [mV 22 6,mV 23 8,bE 24 .mul 22 23,vE 10 24] (sr [mV 25 7,mV 26 8,bE 27 .mul 25 26,mV 28 10,oE 29 (.bin .shr (.E 28) (.C (.v (.int .u64 32)))),bE 30 .add 27 29,vE 11 30] (sr [mV 31 11,oE 32 (.bin .and (.E 31) (.C (.v (.int .u64 4294967295)))),vE 12 32] (sr [mV 33 11,oE 34 (.bin .shr (.E 33) (.C (.v (.int .u64 32)))),vE 13 34] (sr [mV 35 12,mV 36 6,mV 37 9,bE 38 .mul 36 37,bE 39 .add 35 38,vE 12 39] (sr [mV 40 7,mV 41 9,bE 42 .mul 40 41,mV 43 13,bE 44 .add 42 43,mV 45 12,oE 46 (.bin .shr (.E 45) (.C (.v (.int .u64 32)))),bE 47 .add 44 46,vE 4 47] (sr [mV 48 0,mV 49 1,bE 50 .mul 48 49,vE 5 50] .ret)))))))))))
def zur:IC := sr [f0 4] (sr [mV 7 0,cE 8 zor [([0],(.E 7))],vE 5 8] (sr [mV 9 1,cE 10 zor [([0],(.E 9))],vE 6 10] (.seq (sr [mV 11 5] (cd 11 (.seq (sr [mV 12 6] (cd 12 (sr [f0 4] .ret) .skip)) (sr [oV 4 (.mv (ki (-1)))] .ret)) .skip)) (.seq (sr [mV 13 6] (cd 13 (sr [oV 4 (.mv (ki 1))] .ret) .skip)) (.seq (sr [mV 14 0,mV 15 1,bE 16 .lss 14 15] (cd 16 (sr [oV 4 (.mv (ki (-1)))] .ret) .skip)) (.seq (sr [mV 17 0,mV 18 1,bE 19 .gtr 17 18] (cd 19 (sr [oV 4 (.mv (ki 1))] .ret) .skip)) (sr [f0 4] .ret)))))))
def z7g:IC := sr [oV 4 (.alloc [(.v (.bool false)),(.v (.int .u64 0)),(.v (.int .u64 0))])] (sr [mV 8 0,cE 9 zml [([0],(.E 8))],mV 10 1,cE 11 zml [([0],(.E 10))],cE 12 zmm [([0],(.E 9)),([0],(.E 11))],wE 7 12,xE 13 0 7,xE 14 1 7,vE 5 13,vE 6 14] (sr [mV 15 0,kE 16 .lss 15 0,mV 17 1,kE 18 .lss 17 0,oE 19 (.eqb true [.b] (.E 16) (.E 18)),wE 20 19,gE 21 20 .true (.mv (.V 0)),gE 22 20 .true (.bin .neq (.E 21) (ki 0)),pF 23 20 22,wE 24 23,gE 25 24 .true (.mv (.V 1)),gE 26 24 .true (.bin .neq (.E 25) (ki 0)),pF 27 24 26,mV 28 5,mV 29 6,oE 30 (.build [(.v (.bool false)),(.v (.int .u64 0)),(.v (.int .u64 0))] [(0,1,(.E 27)),(1,1,(.E 28)),(2,1,(.E 29))]),oN (.store [0,0,0] (.V 4) (.E 30))] .ret))
def zpd:IC := sr [bV 1 0,fF 2] (sr [fV 3 1 1,lE 4 3,oE 5 (.bin .lss (.E 4) (.C (.v (.int .u64 9223372036854775808)))),wE 6 5,gE 7 6 .true (.faddr 0 (.V 1)),gE 8 6 .true (.load false 1 (.E 7)),gE 9 6 .true (.un .not (.E 8)),gE 10 6 .true (.mv (.E 9)),gE 11 10 .false (.faddr 1 (.V 1)),gE 12 10 .false (.load false 1 (.E 11)),gE 13 10 .false (.bin .gtr (.E 12) (.C (.v (.int .u64 0)))),gE 14 6 .true (.pick (.E 10) (kb true) (.E 13)),gE 15 6 .true (.mv (.E 14)),gE 16 15 .false (.faddr 2 (.V 1)),gE 17 15 .false (.load false 1 (.E 16)),gE 18 15 .false (.bin .gtr (.E 17) (.C (.v (.int .u64 0)))),gE 19 6 .true (.pick (.E 15) (kb true) (.E 18)),pF 20 6 19,vE 2 20] .ret)
def z7i:IC := sr [oV 2 (.mv (.C (.v (.int .u64 0))))] (.seq (sr [mV 3 0,kE 4 .lss 3 0] (cd 4 (sr [mV 5 0,kE 6 .add 5 1,oE 7 (.un .neg (.E 6)),oE 8 (.convI .u64 (.E 7)),oE 9 (.bin .add (.E 8) (.C (.v (.int .u64 1)))),vE 2 9] .ret) .skip)) (sr [mV 10 0,oE 11 (.convI .u64 (.E 10)),vE 2 11] .ret))
def y01:List Nat:=[0,1,4,5,6,7,8,9,10,11,12]
def z7k:IC := sr [oV 4 (.mv (.C (.v (.int .u64 0)))),oV 5 (.mv (.C (.v (.int .u64 0))))] (sr [mV 13 0,oE 14 (.bin .shr (.E 13) (.C (.v (.int .u64 32)))),vE 6 14] (sr [mV 15 0,oE 16 (.bin .and (.E 15) (.C (.v (.int .u64 4294967295)))),vE 7 16] (sr [mV 17 1,oE 18 (.bin .shr (.E 17) (.C (.v (.int .u64 32)))),vE 8 18] (sr [mV 19 1,oE 20 (.bin .and (.E 19) (.C (.v (.int .u64 4294967295)))),vE 9 20] (sr [mV 21 7,mV 22 9,bE 23 .mul 21 22,vE 10 23] (sr [mV 24 6,mV 25 9,bE 26 .mul 24 25,mV 27 10,oE 28 (.bin .shr (.E 27) (.C (.v (.int .u64 32)))),bE 29 .add 26 28,vE 11 29] (sr [mV 30 7,mV 31 8,bE 32 .mul 30 31,mV 33 11,oE 34 (.bin .and (.E 33) (.C (.v (.int .u64 4294967295)))),bE 35 .add 32 34,vE 12 35] (sr [mV 36 6,mV 37 8,bE 38 .mul 36 37,mV 39 11,oE 40 (.bin .shr (.E 39) (.C (.v (.int .u64 32)))),bE 41 .add 38 40,mV 42 12,oE 43 (.bin .shr (.E 42) (.C (.v (.int .u64 32)))),bE 44 .add 41 43,mV 45 12,oE 46 (.bin .shl (.E 45) (.C (.v (.int .u64 32)))),mV 47 10,oE 48 (.bin .and (.E 47) (.C (.v (.int .u64 4294967295)))),bE 49 .add 46 48,vE 4 44,vE 5 49] .ret))))))))
def z7m:IC := sr [fF 2] (sr [mV 3 0,mV 4 0,bE 5 .neq 3 4,vE 2 5] .ret)
def tbl:List (Nat×Fun):=[
 (zvw,zaa ztq ztr []),
 (zqk,zaa zzj ztr []),
 (zlq,zaa zkh ztr []),
 (zlr,zaa zzl ztr []),
 (zql,zaa zvy zvz []),
 (zqm,zaa zzn zvz []),
 (zqn,zaa zzp zvz []),
 (zqo,zaa zzr zzs []),
 (zqp,zaa zkj zkk []),
 (zne,zaa zkl zkk []),
 (znf,zaa zzt zvz []),
 (zng,zaa zkn zvz []),
 (zqq,zaa zot zou []),
 (zbj,zaa zzv zzw []),
 (znh,zaa ztw ztr []),
 (zni,zaa zzx zvz []),
 (zj9,zaa zzz ztr []),
 (zqr,zaa zz1 zz2 []),
 (zqs,zaa zz3 zz4 []),
 (zqt,zaa zz5 zz4 []),
 (zgo,zaa zz7 zvz [true]),
 (zqu,zaa zih zii [true]),
 (znj,zaa zkp ztr []),
 (zls,zaa zz9 ztr []),
 (zqv,.known [] (zic 1 16)),
 (zqw,.known [] (zic 1 8)),
 (zqx,zaa z0b zz2 []),
 (zqy,zaa z0d z0e []),
 (zqz,zaa z0f zz2 []),
 (zq0,zaa zv0 zvz []),
 (zq1,zaa zv2 zvz []),
 (zq2,zaa zv5 zv6 []),
 (zlu,zaa zty ztz []),
 (zbu,zaa z0i zzw []),
 (zq3,zaa z0k ztr []),
 (zjh,zaa zv7 zvz []),
 (zq4,zaa z0m ztr []),
 (zq5,zaa z0o ztr []),
 (zlv,zaa zkr zks []),
 (znk,zaa z0q zks []),
 (zq6,zaa z0s zvz []),
 (za9,zaa zt0 zvz [true]),
 (zq7,zaa zij zik [true]),
 (znl,zaa zov ztr [true]),
 (zq8,zaa z0u zvz []),
 (zq9,zaa zt2 ztz []),
 (zra,zaa zv9 zwa []),
 (zrb,zaa zwb zwc []),
 (zrc,zaa z0y z0z []),
 (zrd,zaa z00 zvz []),
 (zre,zaa zwd zwa []),
 (zrf,zaa zwf zwc []),
 (zrg,zaa z02 z0z []),
 (zka,zaa zmo zks []),
 (zrh,zaa z04 zvz []),
 (zri,zaa z06 zvz []),
 (zrj,zaa z08 ztr []),
 (zrk,zaa z1a ztr []),
 (zrl,zaa z1d ztr []),
 (zlw,zaa zwj zmq [true]),
 (znm,zaa zox zoy [true]),
 (zrm,zaa zhr zmq [true]),
 (zrn,zaa zht zoy [true]),
 (zro,zaa z1g z1h [true]),
 (zd8,zaa z1i zvz [true,true,true]),
 (zlx,zaa z1k ztr []),
 (zrp,zaa z1m zvz []),
 (znn,zaa z1o z1p []),
 (zno,zaa z1q ztr []),
 (znp,zaa z1s zii []),
 (zly,zaa z1u zks []),
 (znq,zaa z1w zii []),
 (zrq,zaa z1y z1z []),
 (zrr,zaa zt4 z1z []),
 (zrs,zaa z18 zvz []),
 (zrt,zaa z2a ztr []),
 (zru,zaa z2c zvz []),
 (znr,zaa zwl zvz []),
 (zns,zaa z2e ztr []),
 (zrv,zaa z2g z1z []),
 (zie,zaa zwn ztr [true]),
 (zrw,zaa z2i zik [true]),
 (zlz,zaa zt6 ztr [true]),
 (znt,zaa z2k zvz []),
 (zrx,zaa z2m z1z []),
 (zry,zaa zt8 z1z []),
 (zrz,zaa z2p zvz []),
 (zl0,zaa zkv zks []),
 (znu,zaa zoz zzw []),
 (zr0,zaa z2r zz2 []),
 (zkb,zaa zwq ztr []),
 (zr1,zaa z2t z2u []),
 (zr2,zaa zua zub []),
 (zl1,zaa zws zwt []),
 (zr3,zaa z2v z2w []),
 (znv,zaa z2x z2y []),
 (zr4,zaa zuc zud []),
 (znw,zaa zwu zvz []),
 (zr5,zaa z2z z20 []),
 (zr6,zaa z21 zz2 []),
 (zr7,zaa z24 zks []),
 (znx,zaa zwx zvz []),
 (zl2,zaa zmr zks []),
 (zny,zaa zo1 zzw []),
 (zr8,zaa z26 zz2 []),
 (zr9,zaa z29 z2u []),
 (zsa,zaa zue zub []),
 (zl3,zaa zug zwt []),
 (zsb,zaa z3b z2w []),
 (zsc,zaa z3d z20 []),
 (znz,zaa z3f z2y []),
 (zsd,zaa zui zud []),
 (zn0,zaa zw0 zvz []),
 (zhp,zaa z3h ztr []),
 (zse,zaa z3j zks []),
 (zsf,zaa z3l z1z []),
 (zkc,zaa z3n ztr []),
 (zsg,zaa z3p zvz []),
 (zn1,zaa z3r zvz []),
 (zl4,zaa z3t zvz []),
 (zn2,zaa z3v zvz [true,true]),
 (zsh,zaa z3x zii []),
 (zsi,zaa z3z zz2 []),
 (zsj,zaa z31 z32 []),
 (zn3,zaa z33 ztr []),
 (zsk,zaa z35 zvz []),
 (zsl,.known [] (zic 5 40)),
 (zn4,zaa z38 zz2 []),
 (zsm,zaa z4a zz2 []),
 (zsn,zaa z4c zvz []),
 (zl5,zaa z4e ztr []),
 (zso,zaa zw3 zzw []),
 (zl6,zaa z4g zvz []),
 (zsp,zaa z4i zz2 []),
 (zsq,.known [true] zp2),
 (zn5,zaa zo3 ztr []),
 (zn6,zaa z4k ztr []),
 (zsr,zaa zw5 zw6 []),
 (zss,zaa z4o z4p []),
 (zst,zaa z4r z4s []),
 (zn7,zaa z4t zvz []),
 (zn8,zaa z4v ztr []),
 (zn9,zaa zw7 zzw []),
 (zsu,zaa z4x zvz []),
 (zoa,zaa zo6 ztr []),
 (zl7,zaa zw9 ztr []),
 (zsv,zaa zxb zw6 []),
 (zsw,zaa z40 z4p []),
 (zsx,zaa z43 z4s []),
 (zob,zaa z45 ztr []),
 (zoc,zaa zxe zzw []),
 (zsy,zaa z48 zvz []),
 (zsz,zaa z5a zii []),
 (zs0,.known [true] zp6),
 (zs1,zaa z5c ztr []),
 (zod,zaa z5e z1p []),
 (zs2,zaa zxg zxh []),
 (zoe,zaa z5g zzw []),
 (zof,zaa z5i zzw []),
 (zs3,zaa z5l z5m []),
 (zs4,zaa z5n z5o []),
 (zs5,zaa z5p ztr []),
 (zs6,zaa zxi zxh []),
 (zkd,zaa z5r zzw []),
 (zl8,zaa z5t zzw []),
 (zs7,zaa z5w z5m []),
 (zl9,zaa z5y z5o []),
 (zs8,zaa zxk zzw []),
 (zs9,zaa z50 zvz []),
 (zma,zaa z54 z55 []),
 (zog,zaa z56 zks []),
 (zta,zaa z58 zvz []),
 (zmb,zaa z6a z5o []),
 (ztb,zaa zxm zzw []),
 (ztc,zaa z6c zvz []),
 (zmc,zaa z6e z55 []),
 (zoh,zaa z6g zks []),
 (ztd,zaa zxo zvz []),
 (zte,zaa z6i z6j []),
 (zmd,zaa zxq z55 []),
 (ztf,zaa zxs z55 []),
 (zoi,zaa z6k z6l []),
 (ztg,zaa z6m zvz []),
 (zoj,zaa z6o ztr []),
 (zok,zaa zul zvz []),
 (zth,zaa z6q z6j []),
 (zme,zaa zun z55 []),
 (zti,zaa zxu z55 []),
 (zol,zaa z6s z6l []),
 (ztj,zaa z6u zvz []),
 (zom,zaa z6w ztr []),
 (ztk,zaa z6y z55 []),
 (ztl,zaa zkx zky []),
 (zon,zaa z60 z55 []),
 (zmf,zaa z62 ztr []),
 (zoo,zaa zil zky []),
 (zhq,zaa zup zuq []),
 (zmg,zaa z64 zvz []),
 (ztm,zaa z66 z55 []),
 (ztn,zaa zf9 zky []),
 (zke,zaa z68 ztr []),
 (zop,zaa zio zky []),
 (zkf,zaa zxw ztr []),
 (zmh,zaa zmt zvz []),
 (zto,zaa z7a z7b []),
 (zif,zaa zpb ztr []),
 (zmi,.ext zu8),
 (zkg,.ext zvc),
 (zmj,zaa z7c ztr []),
 (zmk,zaa z7e zks []),
 (zoq,zaa zur zvz []),
 (ztp,zaa z7g z7b []),
 (zig,zaa zpd ztr []),
 (zml,zaa z7i ztr []),
 (zmm,zaa z7k zks []),
 (zor,zaa z7m ztr [])]
def T:zci:=fun f=>(tbl.find? fun q=>q.1 == f).map fun q=>q.2
theorem ygl:T zqv=some (.known [] (zic 1 16)):=rfl
theorem ygm:T zqw=some (.known [] (zic 1 8)):=rfl
@[simp] theorem qko:zad T zd8=[true,true,true]:=rfl
@[simp] theorem ql8:zad T zn2=[true,true]:=rfl
theorem yi7:T zsl=some (.known [] (zic 5 40)):=rfl
theorem yjf:T zsq=some (.known [true] zp2):=rfl
theorem yjy:T zs0=some (.known [true] zp6):=rfl
theorem ylf:T zmi=some (.ext zu8):=rfl
theorem yah:T zkg=some (.ext zvc):=rfl
@[simp] theorem qiw:zad T zvw=[]∧zad T zqk=[]∧zad T zlq=[]∧zad T zlr=[]∧zad T zql=[]∧zad T zqm=[]∧zad T zqn=[]∧zad T zqo=[]∧zad T zqp=[]∧zad T zne=[]∧zad T znf=[]∧zad T zng=[]∧zad T zqq=[]∧zad T zbj=[]∧zad T znh=[]∧zad T zni=[]:=⟨rfl,rfl,rfl,rfl,rfl,rfl,rfl,rfl,rfl,rfl,rfl,rfl,rfl,rfl,rfl,rfl⟩
@[simp] theorem qjc:zad T zj9=[]∧zad T zqr=[]∧zad T zqs=[]∧zad T zqt=[]∧zad T zgo=[true]∧zad T zqu=[true]∧zad T znj=[]∧zad T zls=[]∧zad T zqv=[]∧zad T zqw=[]∧zad T zqx=[]∧zad T zqy=[]∧zad T zqz=[]∧zad T zq0=[]∧zad T zq1=[]∧zad T zq2=[]:=⟨rfl,rfl,rfl,rfl,rfl,rfl,rfl,rfl,zy5 ygl,zy5 ygm,rfl,rfl,rfl,rfl,rfl,rfl⟩
@[simp] theorem qjs:zad T zlu=[]∧zad T zbu=[]∧zad T zq3=[]∧zad T zjh=[]∧zad T zq4=[]∧zad T zq5=[]∧zad T zlv=[]∧zad T znk=[]∧zad T zq6=[]∧zad T za9=[true]∧zad T zq7=[true]∧zad T znl=[true]∧zad T zq8=[]∧zad T zq9=[]∧zad T zra=[]∧zad T zrb=[]:=⟨rfl,rfl,rfl,rfl,rfl,rfl,rfl,rfl,rfl,rfl,rfl,rfl,rfl,rfl,rfl,rfl⟩
@[simp] theorem qj8:zad T zrc=[]∧zad T zrd=[]∧zad T zre=[]∧zad T zrf=[]∧zad T zrg=[]∧zad T zka=[]∧zad T zrh=[]∧zad T zri=[]∧zad T zrj=[]∧zad T zrk=[]∧zad T zrl=[]∧zad T zlw=[true]∧zad T znm=[true]∧zad T zrm=[true]∧zad T zrn=[true]∧zad T zro=[true]:=⟨rfl,rfl,rfl,rfl,rfl,rfl,rfl,rfl,rfl,rfl,rfl,rfl,rfl,rfl,rfl,rfl⟩
@[simp] theorem qkp:zad T zlx=[]∧zad T zrp=[]∧zad T znn=[]∧zad T zno=[]∧zad T znp=[]∧zad T zly=[]∧zad T znq=[]∧zad T zrq=[]∧zad T zrr=[]∧zad T zrs=[]∧zad T zrt=[]∧zad T zru=[]∧zad T znr=[]∧zad T zns=[]∧zad T zrv=[]∧zad T zie=[true]:=⟨rfl,rfl,rfl,rfl,rfl,rfl,rfl,rfl,rfl,rfl,rfl,rfl,rfl,rfl,rfl,rfl⟩
@[simp] theorem qk5:zad T zrw=[true]∧zad T zlz=[true]∧zad T znt=[]∧zad T zrx=[]∧zad T zry=[]∧zad T zrz=[]∧zad T zl0=[]∧zad T znu=[]∧zad T zr0=[]∧zad T zkb=[]∧zad T zr1=[]∧zad T zr2=[]∧zad T zl1=[]∧zad T zr3=[]∧zad T znv=[]∧zad T zr4=[]:=⟨rfl,rfl,rfl,rfl,rfl,rfl,rfl,rfl,rfl,rfl,rfl,rfl,rfl,rfl,rfl,rfl⟩
@[simp] theorem qll:zad T znw=[]∧zad T zr5=[]∧zad T zr6=[]∧zad T zr7=[]∧zad T znx=[]∧zad T zl2=[]∧zad T zny=[]∧zad T zr8=[]∧zad T zr9=[]∧zad T zsa=[]∧zad T zl3=[]∧zad T zsb=[]∧zad T zsc=[]∧zad T znz=[]∧zad T zsd=[]∧zad T zn0=[]:=⟨rfl,rfl,rfl,rfl,rfl,rfl,rfl,rfl,rfl,rfl,rfl,rfl,rfl,rfl,rfl,rfl⟩
@[simp] theorem ql1:zad T zhp=[]∧zad T zse=[]∧zad T zsf=[]∧zad T zkc=[]∧zad T zsg=[]∧zad T zn1=[]∧zad T zl4=[]∧zad T zsh=[]∧zad T zsi=[]∧zad T zsj=[]∧zad T zn3=[]∧zad T zsk=[]∧zad T zsl=[]∧zad T zn4=[]∧zad T zsm=[]∧zad T zsn=[]:=⟨rfl,rfl,rfl,rfl,rfl,rfl,rfl,rfl,rfl,rfl,rfl,rfl,zy5 yi7,rfl,rfl,rfl⟩
@[simp] theorem qmi:zad T zl5=[]∧zad T zso=[]∧zad T zl6=[]∧zad T zsp=[]∧zad T zsq=[true]∧zad T zn5=[]∧zad T zn6=[]∧zad T zsr=[]∧zad T zss=[]∧zad T zst=[]∧zad T zn7=[]∧zad T zn8=[]∧zad T zn9=[]∧zad T zsu=[]∧zad T zoa=[]∧zad T zl7=[]:=⟨rfl,rfl,rfl,rfl,zy5 yjf,rfl,rfl,rfl,rfl,rfl,rfl,rfl,rfl,rfl,rfl,rfl⟩
@[simp] theorem qmy:zad T zsv=[]∧zad T zsw=[]∧zad T zsx=[]∧zad T zob=[]∧zad T zoc=[]∧zad T zsy=[]∧zad T zsz=[]∧zad T zs0=[true]∧zad T zs1=[]∧zad T zod=[]∧zad T zs2=[]∧zad T zoe=[]∧zad T zof=[]∧zad T zs3=[]∧zad T zs4=[]∧zad T zs5=[]:=⟨rfl,rfl,rfl,rfl,rfl,rfl,rfl,zy5 yjy,rfl,rfl,rfl,rfl,rfl,rfl,rfl,rfl⟩
@[simp] theorem qne:zad T zs6=[]∧zad T zkd=[]∧zad T zl8=[]∧zad T zs7=[]∧zad T zl9=[]∧zad T zs8=[]∧zad T zs9=[]∧zad T zma=[]∧zad T zog=[]∧zad T zta=[]∧zad T zmb=[]∧zad T ztb=[]∧zad T ztc=[]∧zad T zmc=[]∧zad T zoh=[]∧zad T ztd=[]:=⟨rfl,rfl,rfl,rfl,rfl,rfl,rfl,rfl,rfl,rfl,rfl,rfl,rfl,rfl,rfl,rfl⟩
@[simp] theorem qnu:zad T zte=[]∧zad T zmd=[]∧zad T ztf=[]∧zad T zoi=[]∧zad T ztg=[]∧zad T zoj=[]∧zad T zok=[]∧zad T zth=[]∧zad T zme=[]∧zad T zti=[]∧zad T zol=[]∧zad T ztj=[]∧zad T zom=[]∧zad T ztk=[]∧zad T ztl=[]∧zad T zon=[]:=⟨rfl,rfl,rfl,rfl,rfl,rfl,rfl,rfl,rfl,rfl,rfl,rfl,rfl,rfl,rfl,rfl⟩
@[simp] theorem qoa:zad T zmf=[]∧zad T zoo=[]∧zad T zhq=[]∧zad T zmg=[]∧zad T ztm=[]∧zad T ztn=[]∧zad T zke=[]∧zad T zop=[]∧zad T zkf=[]∧zad T zmh=[]∧zad T zto=[]∧zad T zif=[]∧zad T zmi=[]∧zad T zkg=[]∧zad T zmj=[]∧zad T zmk=[]:=⟨rfl,rfl,rfl,rfl,rfl,rfl,rfl,rfl,rfl,rfl,rfl,rfl,rfl,rfl,rfl,rfl⟩
@[simp] theorem qoq:zad T zoq=[]∧zad T ztp=[]∧zad T zig=[]∧zad T zml=[]∧zad T zmm=[]∧zad T zor=[]:=⟨rfl,rfl,rfl,rfl,rfl,rfl⟩
end Go.Pe
