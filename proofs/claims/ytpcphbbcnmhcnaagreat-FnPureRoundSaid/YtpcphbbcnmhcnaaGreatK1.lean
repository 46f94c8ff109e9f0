/- The compact texts of the functions that the law reaches; no condition. -/
import Derived.Test.YtpcphbbcnmhcnaaGreatK0
set_option linter.all false
namespace Go.Pe
open Go
def z5u:IC := sr [bV 2 0,bV 3 1,oV 4 (.alloc [iv 0,iv 0]),fF 5] (sr [fV 11 0 2,lE 12 11,fV 13 0 3,lE 14 13,cE 15 zli [([0],(.E 12)),([0],(.E 14))],wE 10 15,xE 16 0 10,xE 17 1 10,vE 6 16,vE 7 17] (sr [fV 19 1 2,lE 20 19,fV 21 1 3,lE 22 21,cE 23 zli [([0],(.E 20)),([0],(.E 22))],wE 18 23,xE 24 0 18,xE 25 1 18,vE 8 24,vE 9 25] (.seq (sr [mV 26 7,uE 27 26,wE 28 27,gE 29 28 .false (.mv (.V 9)),gE 30 28 .false (.un .not (.E 29)),pT 31 28 30] (cd 31 (sr [oE 32 (.build [iv 0,iv 0] []),oN (.store [0,0] (.V 4) (.E 32)),fF 5] .ret) .skip)) (sr [mV 33 6,mV 34 8,oE 35 (.build [iv 0,iv 0] [(0,1,(.E 33)),(1,1,(.E 34))]),oN (.store [0,0] (.V 4) (.E 35)),fT 5] .ret))))
def yy5:List Nat:=[0,1,2,6,7]
def zxc:IC := sr [fF 6] (.seq (sr [oV 7 (.mv (.V 0))] (.block 0 (sr [oE 9 (.bin .eql (.V 7) (ki 1)),wE 8 9] (cd 8 (sr [mV 10 1,mV 11 2,bE 12 .leq 10 11,vE 6 12] .ret) (sr [oE 14 (.bin .eql (.V 7) (ki (-1))),wE 13 14] (cd 13 (sr [mV 15 1,mV 16 2,bE 17 .geq 15 16,vE 6 17] .ret) .skip)))))) (sr [fT 6] .ret))
def yy6:List Nat:=[0,1,2,4,5,6,7,8,9,10,11,12]
def z5w:IC := sr [bV 2 0,fF 4] (sr [tV 14 6 2,mV 15 1,cE 16 zly [([0,0,0,0,0,0],(.E 14)),([0],(.E 15))],wE 13 16,xE 17 0 13,xE 18 1 13,oV 5 (.alloc [(.v (.bool false)),(.v (.int .u64 0)),(.v (.int .u64 0)),iv 0]),oN (.store [0,0,0,0] (.V 5) (.E 17)),vE 6 18] (sr [tV 20 6 2,cE 21 zs8 [([0,0,0,0,0,0],(.E 20))],wE 19 21,xE 22 0 19,xE 23 1 19,oV 7 (.alloc [iv 0,iv 0]),oN (.store [0,0] (.V 7) (.E 22)),vE 8 23] (sr [tV 25 2 7,mV 26 1,cE 27 zl1 [([0,0],(.E 25)),([0],(.E 26))],wE 24 27,xE 28 0 24,xE 29 1 24,oV 9 (.alloc [(.v (.bool false)),(.v (.int .u64 0)),(.v (.int .u64 0)),iv 0]),oN (.store [0,0,0,0] (.V 9) (.E 28)),vE 10 29] (sr [tV 31 4 5,tV 32 4 9,cE 33 zn7 [([0,0,0,0],(.E 31)),([0,0,0,0],(.E 32))],wE 30 33,xE 34 0 30,xE 35 1 30,vE 11 34,vE 12 35] (sr [mV 36 6,wE 37 36,gE 38 37 .true (.mv (.V 8)),pF 39 37 38,wE 40 39,gE 41 40 .true (.mv (.V 10)),pF 42 40 41,wE 43 42,gE 44 43 .true (.mv (.V 12)),pF 45 43 44,wE 46 45,gE 47 46 .true (.mv (.V 11)),gE 48 46 .true (.bin .gtr (.E 47) (ki 0)),pF 49 46 48,vE 4 49] .ret)))))
def yy7:List Nat:=[0,1,2,4,5,6,7,8,9]
def z5y:IC := sr [bV 2 0,oV 4 (.alloc [(.v (.bool false)),(.v (.int .u64 0)),(.v (.int .u64 0)),iv 0]),fF 5] (sr [fV 11 2 2,tE 12 2 11,mV 13 1,cE 14 zl1 [([0,0],(.E 12)),([0],(.E 13))],wE 10 14,xE 15 0 10,xE 16 1 10,oV 6 (.alloc [(.v (.bool false)),(.v (.int .u64 0)),(.v (.int .u64 0)),iv 0]),oN (.store [0,0,0,0] (.V 6) (.E 15)),vE 7 16] (sr [fV 18 4 2,tE 19 2 18,mV 20 1,cE 21 zl1 [([0,0],(.E 19)),([0],(.E 20))],wE 17 21,xE 22 0 17,xE 23 1 17,oV 8 (.alloc [(.v (.bool false)),(.v (.int .u64 0)),(.v (.int .u64 0)),iv 0]),oN (.store [0,0,0,0] (.V 8) (.E 22)),vE 9 23] (.seq (sr [mV 24 7,uE 25 24,wE 26 25,gE 27 26 .false (.mv (.V 9)),gE 28 26 .false (.un .not (.E 27)),pT 29 26 28] (cd 29 (sr [oE 30 (.build [(.v (.bool false)),(.v (.int .u64 0)),(.v (.int .u64 0)),iv 0] []),oN (.store [0,0,0,0] (.V 4) (.E 30)),fF 5] .ret) .skip)) (sr [tV 31 4 6,tV 32 4 8,cE 33 zs9 [([0,0,0,0],(.E 31)),([0,0,0,0],(.E 32))],xE 34 0 33,xE 35 1 33,oN (.store [0,0,0,0] (.V 4) (.E 34)),vE 5 35] .ret))))
def z5z:List RV:=[.cell [0,0,0,0] 4 true,.tmp [0] 5]
def yy8:List Nat:=[0,1,2,3,4,5,6,7,8]
def z50:IC := sr [bV 2 0,bV 3 1,f0 4,fF 5] (sr [tV 10 4 2,tV 11 4 3,cE 12 zn9 [([0,0,0,0],(.E 10)),([0,0,0,0],(.E 11))],wE 9 12,xE 13 0 9,xE 14 1 9,xE 15 2 9,oV 6 (.alloc [(.v (.bool false)),(.v (.int .u64 0)),(.v (.int .u64 0))]),oV 7 (.alloc [(.v (.bool false)),(.v (.int .u64 0)),(.v (.int .u64 0))]),oN (.store [0,0,0] (.V 6) (.E 13)),oN (.store [0,0,0] (.V 7) (.E 14)),vE 8 15] (.seq (sr [mV 16 8,uE 17 16] (cd 17 (sr [f0 4,fF 5] .ret) .skip)) (sr [tV 18 3 6,tV 19 3 7,cE 20 zta [([0,0,0],(.E 18)),([0,0,0],(.E 19))],vE 4 20,fT 5] .ret)))
def z54:IC := sr [bV 2 0,bV 3 1,fF 4] (.seq (.regD [(fV 5 0 2,0,0),(lE 6 5,0,0),(fV 7 0 3,0,0),(lE 8 7,0,0),(cE 9 zob [([0],(.E 6)),([0],(.E 8))],0,0),(fV 10 1 2,1,0),(lE 11 10,1,0),(fV 12 1 3,1,0),(lE 13 12,1,0),(cE 14 zob [([0],(.E 11)),([0],(.E 13))],0,0),(oE 15 (.bslice 2 1 [iv 0] [(0,(.E 9)),(1,(.E 14))]),0,0),(cE 16 zoa [([1],(.E 15))],0,0),(kE 17 .lss 16 0,0,0),(vE 4 17,0,0)]) .ret)
def z56:IC := sr [bV 2 0,bV 3 1,oV 4 (.alloc [iv 0,iv 0]),fF 5] (sr [fV 11 0 2,lE 12 11,fV 13 0 3,lE 14 13,cE 15 zjy [([0],(.E 12)),([0],(.E 14))],wE 10 15,xE 16 0 10,xE 17 1 10,vE 6 16,vE 7 17] (sr [fV 19 1 2,lE 20 19,fV 21 1 3,lE 22 21,cE 23 zjy [([0],(.E 20)),([0],(.E 22))],wE 18 23,xE 24 0 18,xE 25 1 18,vE 8 24,vE 9 25] (.seq (sr [mV 26 7,uE 27 26,wE 28 27,gE 29 28 .false (.mv (.V 9)),gE 30 28 .false (.un .not (.E 29)),pT 31 28 30] (cd 31 (sr [oE 32 (.build [iv 0,iv 0] []),oN (.store [0,0] (.V 4) (.E 32)),fF 5] .ret) .skip)) (sr [mV 33 6,mV 34 8,oE 35 (.build [iv 0,iv 0] [(0,1,(.E 33)),(1,1,(.E 34))]),oN (.store [0,0] (.V 4) (.E 35)),fT 5] .ret))))
def zxe:IC := sr [fF 6] (sr [mV 7 0,kE 8 .neq 7 1,wE 9 8,gE 10 9 .true (.mv (.V 0)),gE 11 9 .true (.bin .neq (.E 10) (ki (-1))),pF 12 9 11,wE 13 12,gE 14 13 .false (.mv (.V 0)),gE 15 13 .false (.bin .eql (.E 14) (ki 1)),gE 16 13 .false (.mv (.E 15)),gE 17 16 .true (.mv (.V 1)),gE 18 16 .true (.mv (.V 2)),gE 19 16 .true (.bin .leq (.E 17) (.E 18)),gE 20 13 .false (.pick (.E 16) (.E 19) (kb false)),pT 21 13 20,wE 22 21,gE 23 22 .false (.mv (.V 0)),gE 24 22 .false (.bin .eql (.E 23) (ki (-1))),gE 25 22 .false (.mv (.E 24)),gE 26 25 .true (.mv (.V 1)),gE 27 25 .true (.mv (.V 2)),gE 28 25 .true (.bin .geq (.E 26) (.E 27)),gE 29 22 .false (.pick (.E 25) (.E 28) (kb false)),pT 30 22 29,vE 6 30] .ret)
def z58:IC := sr [bV 2 0,fF 4] (sr [tV 14 6 2,cE 15 ztb [([0,0,0,0,0,0],(.E 14))],wE 13 15,xE 16 0 13,xE 17 1 13,oV 5 (.alloc [iv 0,iv 0]),oN (.store [0,0] (.V 5) (.E 16)),vE 6 17] (sr [tV 19 6 2,mV 20 1,cE 21 zl0 [([0,0,0,0,0,0],(.E 19)),([0],(.E 20))],wE 18 21,xE 22 0 18,xE 23 1 18,oV 7 (.alloc [(.v (.bool false)),(.v (.int .u64 0)),(.v (.int .u64 0)),iv 0]),oN (.store [0,0,0,0] (.V 7) (.E 22)),vE 8 23] (sr [tV 25 2 5,mV 26 1,cE 27 zl2 [([0,0],(.E 25)),([0],(.E 26))],wE 24 27,xE 28 0 24,xE 29 1 24,oV 9 (.alloc [(.v (.bool false)),(.v (.int .u64 0)),(.v (.int .u64 0)),iv 0]),oN (.store [0,0,0,0] (.V 9) (.E 28)),vE 10 29] (.seq (sr [mV 30 6,uE 31 30,wE 32 31,gE 33 32 .false (.mv (.V 8)),gE 34 32 .false (.un .not (.E 33)),pT 35 32 34,wE 36 35,gE 37 36 .false (.mv (.V 10)),gE 38 36 .false (.un .not (.E 37)),pT 39 36 38] (cd 39 (sr [fF 4] .ret) .skip)) (sr [tV 41 4 7,tV 42 4 9,cE 43 zn8 [([0,0,0,0],(.E 41)),([0,0,0,0],(.E 42))],wE 40 43,xE 44 0 40,xE 45 1 40,vE 11 44,vE 12 45] (sr [mV 46 12,wE 47 46,gE 48 47 .true (.mv (.V 11)),gE 49 47 .true (.bin .gtr (.E 48) (ki 0)),pF 50 47 49,vE 4 50] .ret))))))
def z6a:IC := sr [bV 2 0,oV 4 (.alloc [(.v (.bool false)),(.v (.int .u64 0)),(.v (.int .u64 0)),iv 0]),fF 5] (sr [fV 11 2 2,tE 12 2 11,mV 13 1,cE 14 zl2 [([0,0],(.E 12)),([0],(.E 13))],wE 10 14,xE 15 0 10,xE 16 1 10,oV 6 (.alloc [(.v (.bool false)),(.v (.int .u64 0)),(.v (.int .u64 0)),iv 0]),oN (.store [0,0,0,0] (.V 6) (.E 15)),vE 7 16] (sr [fV 18 4 2,tE 19 2 18,mV 20 1,cE 21 zl2 [([0,0],(.E 19)),([0],(.E 20))],wE 17 21,xE 22 0 17,xE 23 1 17,oV 8 (.alloc [(.v (.bool false)),(.v (.int .u64 0)),(.v (.int .u64 0)),iv 0]),oN (.store [0,0,0,0] (.V 8) (.E 22)),vE 9 23] (.seq (sr [mV 24 7,uE 25 24,wE 26 25,gE 27 26 .false (.mv (.V 9)),gE 28 26 .false (.un .not (.E 27)),pT 29 26 28] (cd 29 (sr [oE 30 (.build [(.v (.bool false)),(.v (.int .u64 0)),(.v (.int .u64 0)),iv 0] []),oN (.store [0,0,0,0] (.V 4) (.E 30)),fF 5] .ret) .skip)) (sr [tV 31 4 6,tV 32 4 8,cE 33 ztc [([0,0,0,0],(.E 31)),([0,0,0,0],(.E 32))],xE 34 0 33,xE 35 1 33,oN (.store [0,0,0,0] (.V 4) (.E 34)),vE 5 35] .ret))))
def z6c:IC := sr [bV 2 0,bV 3 1,f0 4,fF 5] (sr [tV 10 4 2,tV 11 4 3,cE 12 zoc [([0,0,0,0],(.E 10)),([0,0,0,0],(.E 11))],wE 9 12,xE 13 0 9,xE 14 1 9,xE 15 2 9,oV 6 (.alloc [(.v (.bool false)),(.v (.int .u64 0)),(.v (.int .u64 0))]),oV 7 (.alloc [(.v (.bool false)),(.v (.int .u64 0)),(.v (.int .u64 0))]),oN (.store [0,0,0] (.V 6) (.E 13)),oN (.store [0,0,0] (.V 7) (.E 14)),vE 8 15] (.seq (sr [mV 16 8,uE 17 16] (cd 17 (sr [f0 4,fF 5] .ret) .skip)) (sr [tV 18 3 6,tV 19 3 7,cE 20 ztd [([0,0,0],(.E 18)),([0,0,0],(.E 19))],vE 4 20,fT 5] .ret)))
def zxg:IC := sr [bV 2 0,bV 3 1,fF 4] (sr [fV 5 0 2,lE 6 5,fV 7 0 3,lE 8 7,bE 9 .lss 6 8,wE 10 9,gE 11 10 .false (.faddr 0 (.V 2)),gE 12 10 .false (.load false 1 (.E 11)),gE 13 10 .false (.faddr 0 (.V 3)),gE 14 10 .false (.load false 1 (.E 13)),gE 15 10 .false (.bin .eql (.E 12) (.E 14)),gE 16 10 .false (.mv (.E 15)),gE 17 16 .true (.faddr 1 (.V 2)),gE 18 16 .true (.load false 1 (.E 17)),gE 19 16 .true (.faddr 1 (.V 3)),gE 20 16 .true (.load false 1 (.E 19)),gE 21 16 .true (.bin .lss (.E 18) (.E 20)),gE 22 10 .false (.pick (.E 16) (.E 21) (kb false)),pT 23 10 22,vE 4 23] .ret)
def yzg:List Nat:=[0,1,2,3]
def z6e:IC := sr [bV 1 0,oV 2 (.alloc [iv 0,iv 0]),fF 3] (sr [fV 4 2 1,tE 5 2 4,fV 6 4 1,tE 7 2 6,cE 8 zlx [([0,0],(.E 5)),([0,0],(.E 7))],xE 9 0 8,xE 10 1 8,oN (.store [0,0] (.V 2) (.E 9)),vE 3 10] .ret)
def z6f:List RV:=[.cell [0,0] 2 true,.tmp [0] 3]
def zxi:IC := sr [bV 2 0,oV 4 (.alloc [(.v (.bool false)),(.v (.int .u64 0)),(.v (.int .u64 0)),iv 0]),fF 5] (.seq (sr [fV 6 0 2,lE 7 6,mV 8 1,cE 9 zny [([0],(.E 7)),([0],(.E 8))],uE 10 9] (cd 10 (sr [oE 11 (.build [(.v (.bool false)),(.v (.int .u64 0)),(.v (.int .u64 0)),iv 0] []),oN (.store [0,0,0,0] (.V 4) (.E 11)),fF 5] .ret) .skip)) (sr [fV 12 1 2,lE 13 12,fV 14 0 2,lE 15 14,mV 16 1,bE 17 .add 15 16,cE 18 zte [([0],(.E 13)),([0],(.E 17))],xE 19 0 18,xE 20 1 18,oN (.store [0,0,0,0] (.V 4) (.E 19)),vE 5 20] .ret))
def zxk:IC := sr [bV 2 0,bV 3 1,oV 4 (.alloc [(.v (.bool false)),(.v (.int .u64 0)),(.v (.int .u64 0)),iv 0]),fF 5] (sr [tV 11 4 2,tV 12 4 3,cE 13 zn9 [([0,0,0,0],(.E 11)),([0,0,0,0],(.E 12))],wE 10 13,xE 14 0 10,xE 15 1 10,xE 16 2 10,oV 6 (.alloc [(.v (.bool false)),(.v (.int .u64 0)),(.v (.int .u64 0))]),oV 7 (.alloc [(.v (.bool false)),(.v (.int .u64 0)),(.v (.int .u64 0))]),oN (.store [0,0,0] (.V 6) (.E 14)),oN (.store [0,0,0] (.V 7) (.E 15)),vE 8 16] (.seq (sr [mV 17 8,uE 18 17] (cd 18 (sr [oE 19 (.build [(.v (.bool false)),(.v (.int .u64 0)),(.v (.int .u64 0)),iv 0] []),oN (.store [0,0,0,0] (.V 4) (.E 19)),fF 5] .ret) .skip)) (sr [tV 21 3 6,tV 22 3 7,cE 23 ztf [([0,0,0],(.E 21)),([0,0,0],(.E 22))],wE 20 23,xE 24 0 20,xE 25 1 20,oV 9 (.alloc [(.v (.bool false)),(.v (.int .u64 0)),(.v (.int .u64 0))]),oN (.store [0,0,0] (.V 9) (.E 24)),vE 8 25] (.seq (sr [mV 26 8,uE 27 26] (cd 27 (sr [oE 28 (.build [(.v (.bool false)),(.v (.int .u64 0)),(.v (.int .u64 0)),iv 0] []),oN (.store [0,0,0,0] (.V 4) (.E 28)),fF 5] .ret) .skip)) (sr [tV 29 3 9,fV 30 3 2,lE 31 30,fV 32 3 3,lE 33 32,bE 34 .mul 31 33,cE 35 zoe [([0,0,0],(.E 29)),([0],(.E 34))],xE 36 0 35,xE 37 1 35,oN (.store [0,0,0,0] (.V 4) (.E 36)),vE 5 37] .ret)))))
def yzj:List Nat:=[0,1,2,3,4,5,6,7,8,9,10]
def z6g:IC := sr [bV 2 0,bV 3 1,oV 4 (.alloc [(.v (.bool false)),(.v (.int .u64 0)),(.v (.int .u64 0))]),oV 5 (.alloc [(.v (.bool false)),(.v (.int .u64 0)),(.v (.int .u64 0))]),fF 6] (.seq (sr [tV 11 4 2,cE 12 zl3 [([0,0,0,0],(.E 11))],uE 13 12,wE 14 13,gE 15 14 .false (.load true 4 (.V 3)),gE 16 14 .false (.call zl3 [([0,0,0,0],(.E 15))]),gE 17 14 .false (.un .not (.E 16)),pT 18 14 17] (cd 18 (sr [oE 19 (.build [(.v (.bool false)),(.v (.int .u64 0)),(.v (.int .u64 0))] []),oE 20 (.build [(.v (.bool false)),(.v (.int .u64 0)),(.v (.int .u64 0))] []),oN (.store [0,0,0] (.V 4) (.E 19)),oN (.store [0,0,0] (.V 5) (.E 20)),fF 6] .ret) .skip)) (sr [fV 22 0 2,tE 23 3 22,fV 24 3 3,lE 25 24,cE 26 zof [([0,0,0],(.E 23)),([0],(.E 25))],wE 21 26,xE 27 0 21,xE 28 1 21,oV 7 (.alloc [(.v (.bool false)),(.v (.int .u64 0)),(.v (.int .u64 0))]),oN (.store [0,0,0] (.V 7) (.E 27)),vE 8 28] (sr [fV 30 0 3,tE 31 3 30,fV 32 3 2,lE 33 32,cE 34 zof [([0,0,0],(.E 31)),([0],(.E 33))],wE 29 34,xE 35 0 29,xE 36 1 29,oV 9 (.alloc [(.v (.bool false)),(.v (.int .u64 0)),(.v (.int .u64 0))]),oN (.store [0,0,0] (.V 9) (.E 35)),vE 10 36] (.seq (.regD [(tV 37 3 7,0,0),(tV 38 3 9,0,1),(mV 39 8,0,0),(wE 40 39,0,0),(gE 41 40 .true (.mv (.V 10)),0,0),(pF 42 40 41,0,0),(oN (.store [0,0,0] (.V 4) (.E 37)),0,0),(oN (.store [0,0,0] (.V 5) (.E 38)),0,0),(vE 6 42,0,0)]) .ret))))
def z6h:List RV:=[.cell [0,0,0] 4 true,.cell [0,0,0] 5 true,.tmp [0] 6]
def z6i:IC := sr [bV 2 0,bV 3 1,f0 4] (.seq (.regD [(fV 5 0 2,0,0),(lE 6 5,0,0),(fV 7 1 2,0,0),(lE 8 7,0,0),(fV 9 2 2,0,0),(lE 10 9,0,0),(cE 11 zhb [([0],(.E 6)),([0],(.E 8)),([0],(.E 10))],0,0),(fV 12 0 3,1,0),(lE 13 12,1,0),(fV 14 1 3,1,0),(lE 15 14,1,0),(fV 16 2 3,1,0),(lE 17 16,1,0),(cE 18 zhb [([0],(.E 13)),([0],(.E 15)),([0],(.E 17))],0,0),(oN (.store [0,0,0] (.V 2) (.E 11)),0,0),(oN (.store [0,0,0] (.V 3) (.E 18)),0,0)]) (.seq (.block 0 (sr [fV 20 0 2,lE 21 20,wE 22 21,gE 23 22 .true (.faddr 0 (.V 3)),gE 24 22 .true (.load false 1 (.E 23)),gE 25 22 .true (.un .not (.E 24)),pF 26 22 25,wE 19 26] (cd 19 (sr [oV 4 (.mv (ki (-1)))] .ret) (sr [fV 28 0 3,lE 29 28,wE 30 29,gE 31 30 .true (.faddr 0 (.V 2)),gE 32 30 .true (.load false 1 (.E 31)),gE 33 30 .true (.un .not (.E 32)),pF 34 30 33,wE 27 34] (cd 27 (sr [oV 4 (.mv (ki 1))] .ret) (sr [fV 36 0 2,lE 37 36,wE 35 37] (cd 35 (sr [tV 38 3 3,tV 39 3 2,cE 40 zl4 [([0,0,0],(.E 38)),([0,0,0],(.E 39))],vE 4 40] .ret) .skip))))))) (sr [tV 41 3 2,tV 42 3 3,cE 43 zl4 [([0,0,0],(.E 41)),([0,0,0],(.E 42))],vE 4 43] .ret)))
def yzl:List Nat:=[0,2,3,5,6,7,8]
def yfd:IC := sr [oE 9 (.bin .lss (.V 8) (.V 7))] (.seq (cd 9 .skip (.exit 0)) (.seq (.block 1 (sr [oE 10 (.iaddr 1 (.V 6) (.V 8)),lE 11 10,vE 5 11] (sr [mV 12 5,mV 13 3,bE 14 .neq 12 13] (cd 14 (sr [mV 15 5,vE 2 15] .ret) .skip)))) (.reg [oE 16 (.bin .add (.V 8) (ki 1)),vE 8 16])))
def z6k:IC := sr [f0 2] (sr [f0 3] (.seq (sr [oV 6 (.mv (.V 0)),oV 7 (.len (.V 6)),f0 8] (bl 0 yfd)) (sr [mV 17 3,vE 2 17] .ret)))
def zud:IC := sr [f0 4] (sr [mV 7 0,cE 8 zod [([0],(.E 7))],vE 5 8] (sr [mV 9 1,cE 10 zod [([0],(.E 9))],vE 6 10] (.seq (sr [mV 11 5] (cd 11 (.seq (sr [mV 12 6] (cd 12 (sr [f0 4] .ret) .skip)) (sr [oV 4 (.mv (ki (-1)))] .ret)) .skip)) (.seq (sr [mV 13 6] (cd 13 (sr [oV 4 (.mv (ki 1))] .ret) .skip)) (.seq (sr [mV 14 0,mV 15 1,bE 16 .lss 14 15] (cd 16 (sr [oV 4 (.mv (ki (-1)))] .ret) .skip)) (.seq (sr [mV 17 0,mV 18 1,bE 19 .gtr 17 18] (cd 19 (sr [oV 4 (.mv (ki 1))] .ret) .skip)) (sr [f0 4] .ret)))))))
def z6m:IC := sr [bV 1 0,oV 2 (.alloc [iv 0,iv 0]),fF 3] (sr [fV 4 2 1,tE 5 2 4,fV 6 4 1,tE 7 2 6,cE 8 zlz [([0,0],(.E 5)),([0,0],(.E 7))],xE 9 0 8,xE 10 1 8,oN (.store [0,0] (.V 2) (.E 9)),vE 3 10] .ret)
def zuf:IC := sr [bV 2 0,oV 4 (.alloc [(.v (.bool false)),(.v (.int .u64 0)),(.v (.int .u64 0)),iv 0]),fF 5] (.seq (sr [fV 6 0 2,lE 7 6,cE 8 zbj [([0],(.E 7)),([0],(ki 0)),([0],(ki 40))],uE 9 8,wE 10 9,gE 11 10 .false (.mv (.V 1)),gE 12 10 .false (.call zbj [([0],(.E 11)),([0],(ki 1)),([0],(ki 100))]),gE 13 10 .false (.un .not (.E 12)),pT 14 10 13] (cd 14 (sr [oE 15 (.build [(.v (.bool false)),(.v (.int .u64 0)),(.v (.int .u64 0)),iv 0] []),oN (.store [0,0,0,0] (.V 4) (.E 15)),fF 5] .ret) .skip)) (sr [fV 16 1 2,lE 17 16,fV 18 0 2,lE 19 18,mV 20 1,bE 21 .add 19 20,cE 22 ztg [([0],(.E 17)),([0],(.E 21))],xE 23 0 22,xE 24 1 22,oN (.store [0,0,0,0] (.V 4) (.E 23)),vE 5 24] .ret))
def yzp:List Nat:=[0,1,2,3,4,5,6,7,8,9,10,11]
def zxm:IC := sr [bV 2 0,bV 3 1,oV 4 (.alloc [(.v (.bool false)),(.v (.int .u64 0)),(.v (.int .u64 0)),iv 0]),fF 5] (sr [tV 13 4 2,tV 14 4 3,cE 15 zoc [([0,0,0,0],(.E 13)),([0,0,0,0],(.E 14))],wE 12 15,xE 16 0 12,xE 17 1 12,xE 18 2 12,oV 6 (.alloc [(.v (.bool false)),(.v (.int .u64 0)),(.v (.int .u64 0))]),oV 7 (.alloc [(.v (.bool false)),(.v (.int .u64 0)),(.v (.int .u64 0))]),oN (.store [0,0,0] (.V 6) (.E 16)),oN (.store [0,0,0] (.V 7) (.E 17)),vE 8 18] (.seq (sr [mV 19 8,uE 20 19] (cd 20 (sr [oE 21 (.build [(.v (.bool false)),(.v (.int .u64 0)),(.v (.int .u64 0)),iv 0] []),oN (.store [0,0,0,0] (.V 4) (.E 21)),fF 5] .ret) .skip)) (sr [tV 23 3 6,tV 24 3 7,cE 25 zth [([0,0,0],(.E 23)),([0,0,0],(.E 24))],wE 22 25,xE 26 0 22,xE 27 1 22,oV 9 (.alloc [(.v (.bool false)),(.v (.int .u64 0)),(.v (.int .u64 0))]),oN (.store [0,0,0] (.V 9) (.E 26)),vE 10 27] (sr [tV 28 3 9,fV 29 3 2,lE 30 29,fV 31 3 3,lE 32 31,bE 33 .mul 30 32,oE 34 (.build [(.v (.bool false)),(.v (.int .u64 0)),(.v (.int .u64 0)),iv 0] [(0,3,(.E 28)),(3,1,(.E 33))]),oV 11 (.alloc [(.v (.bool false)),(.v (.int .u64 0)),(.v (.int .u64 0)),iv 0]),oN (.store [0,0,0,0] (.V 11) (.E 34))] (.seq (sr [mV 35 10,uE 36 35,wE 37 36,gE 38 37 .false (.load true 4 (.V 11)),gE 39 37 .false (.call zj2 [([0,0,0,0],(.E 38))]),gE 40 37 .false (.un .not (.E 39)),pT 41 37 40] (cd 41 (sr [oE 42 (.build [(.v (.bool false)),(.v (.int .u64 0)),(.v (.int .u64 0)),iv 0] []),oN (.store [0,0,0,0] (.V 4) (.E 42)),fF 5] .ret) .skip)) (sr [tV 43 4 11,oN (.store [0,0,0,0] (.V 4) (.E 43)),fT 5] .ret))))))
def z6o:IC := sr [bV 2 0,bV 3 1,oV 4 (.alloc [(.v (.bool false)),(.v (.int .u64 0)),(.v (.int .u64 0))]),oV 5 (.alloc [(.v (.bool false)),(.v (.int .u64 0)),(.v (.int .u64 0))]),fF 6] (.seq (sr [tV 11 4 2,cE 12 zj2 [([0,0,0,0],(.E 11))],uE 13 12,wE 14 13,gE 15 14 .false (.load true 4 (.V 3)),gE 16 14 .false (.call zj2 [([0,0,0,0],(.E 15))]),gE 17 14 .false (.un .not (.E 16)),pT 18 14 17] (cd 18 (sr [oE 19 (.build [(.v (.bool false)),(.v (.int .u64 0)),(.v (.int .u64 0))] []),oE 20 (.build [(.v (.bool false)),(.v (.int .u64 0)),(.v (.int .u64 0))] []),oN (.store [0,0,0] (.V 4) (.E 19)),oN (.store [0,0,0] (.V 5) (.E 20)),fF 6] .ret) .skip)) (sr [fV 22 0 2,tE 23 3 22,fV 24 3 3,lE 25 24,cE 26 zog [([0,0,0],(.E 23)),([0],(.E 25))],wE 21 26,xE 27 0 21,xE 28 1 21,oV 7 (.alloc [(.v (.bool false)),(.v (.int .u64 0)),(.v (.int .u64 0))]),oN (.store [0,0,0] (.V 7) (.E 27)),vE 8 28] (sr [fV 30 0 3,tE 31 3 30,fV 32 3 2,lE 33 32,cE 34 zog [([0,0,0],(.E 31)),([0],(.E 33))],wE 29 34,xE 35 0 29,xE 36 1 29,oV 9 (.alloc [(.v (.bool false)),(.v (.int .u64 0)),(.v (.int .u64 0))]),oN (.store [0,0,0] (.V 9) (.E 35)),vE 10 36] (.seq (.regD [(tV 37 3 7,0,0),(tV 38 3 9,0,1),(mV 39 8,0,0),(wE 40 39,0,0),(gE 41 40 .true (.mv (.V 10)),0,0),(pF 42 40 41,0,0),(oN (.store [0,0,0] (.V 4) (.E 37)),0,0),(oN (.store [0,0,0] (.V 5) (.E 38)),0,0),(vE 6 42,0,0)]) .ret))))
def z6q:IC := sr [bV 2 0,bV 3 1,f0 4] (sr [fV 7 0 2,lE 8 7,wE 9 8,gE 10 9 .true (.load true 3 (.V 2)),gE 11 9 .true (.call zj3 [([0,0,0],(.E 10))]),gE 12 9 .true (.un .not (.E 11)),pF 13 9 12,vE 5 13] (sr [fV 14 0 3,lE 15 14,wE 16 15,gE 17 16 .true (.load true 3 (.V 3)),gE 18 16 .true (.call zj3 [([0,0,0],(.E 17))]),gE 19 16 .true (.un .not (.E 18)),pF 20 16 19,vE 6 20] (.seq (.block 0 (sr [mV 22 5,wE 23 22,gE 24 23 .true (.mv (.V 6)),gE 25 23 .true (.un .not (.E 24)),pF 26 23 25,wE 21 26] (cd 21 (sr [oV 4 (.mv (ki (-1)))] .ret) (sr [mV 28 6,wE 29 28,gE 30 29 .true (.mv (.V 5)),gE 31 29 .true (.un .not (.E 30)),pF 32 29 31,wE 27 32] (cd 27 (sr [oV 4 (.mv (ki 1))] .ret) (sr [mV 34 5,wE 33 34] (cd 33 (sr [tV 35 3 3,tV 36 3 2,cE 37 zl5 [([0,0,0],(.E 35)),([0,0,0],(.E 36))],vE 4 37] .ret) .skip))))))) (sr [tV 38 3 2,tV 39 3 3,cE 40 zl5 [([0,0,0],(.E 38)),([0,0,0],(.E 39))],vE 4 40] .ret))))
def z6s:IC := sr [fF 2] (sr [mV 3 0,mV 4 0,bE 5 .neq 3 4,vE 2 5] .ret)
def z6u:IC := sr [oV 4 (.alloc [(.v (.bool false)),(.v (.int .u64 0)),(.v (.int .u64 0)),iv 0]),fF 5] (sr [mV 6 0,mV 7 0,cE 8 zti [([0],(.E 6)),([0],(.E 7))],mV 9 1,cE 10 zoe [([0,0,0],(.E 8)),([0],(.E 9))],xE 11 0 10,xE 12 1 10,oN (.store [0,0,0,0] (.V 4) (.E 11)),vE 5 12] .ret)
def yzu:List Nat:=[0,1,2,3,4,5,6,7,8,10,11,12,14]
def zkl:IC := sr [bV 2 0,bV 3 1,oV 4 (.alloc [(.v (.bool false)),(.v (.int .u64 0)),(.v (.int .u64 0))]),fF 5] (.seq (sr [tV 15 3 2,cE 16 zhx [([0,0,0],(.E 15))],uE 17 16,wE 18 17,gE 19 18 .false (.load true 3 (.V 3)),gE 20 18 .false (.call zhx [([0,0,0],(.E 19))]),gE 21 18 .false (.un .not (.E 20)),pT 22 18 21] (cd 22 (sr [oE 23 (.build [(.v (.bool false)),(.v (.int .u64 0)),(.v (.int .u64 0))] []),oN (.store [0,0,0] (.V 4) (.E 23)),fF 5] .ret) .skip)) (.seq (sr [fV 24 0 2,lE 25 24,fV 26 0 3,lE 27 26,oE 28 (.eqb true [.b] (.E 25) (.E 27))] (cd 28 (.seq (sr [tV 29 3 2,tV 30 3 3,cE 31 zl4 [([0,0,0],(.E 29)),([0,0,0],(.E 30))],kE 32 .lss 31 0] (cd 32 (.reg [tV 33 3 3,tV 34 3 2,oN (.store [0,0,0] (.V 2) (.E 33)),oN (.store [0,0,0] (.V 3) (.E 34))]) .skip)) (sr [fV 36 2 2,lE 37 36,fV 38 2 3,lE 39 38,cE 40 zl6 [([0],(.E 37)),([0],(.E 39)),([0],(.C (.v (.int .u64 0))))],wE 35 40,xE 41 0 35,xE 42 1 35,vE 6 41,vE 7 42] (sr [fV 44 1 2,lE 45 44,fV 46 1 3,lE 47 46,mV 48 7,cE 49 zl6 [([0],(.E 45)),([0],(.E 47)),([0],(.E 48))],wE 43 49,xE 50 0 43,xE 51 1 43,vE 8 50,wE 9 51] (sr [fV 52 0 2,lE 53 52,mV 54 8,mV 55 6,cE 56 zhb [([0],(.E 53)),([0],(.E 54)),([0],(.E 55))],oN (.store [0,0,0] (.V 4) (.E 56)),fT 5] .ret)))) .skip)) (sr [fV 58 2 2,lE 59 58,fV 60 2 3,lE 61 60,cE 62 zj4 [([0],(.E 59)),([0],(.E 61)),([0],(.C (.v (.int .u64 0))))],wE 57 62,xE 63 0 57,xE 64 1 57,vE 10 63,vE 11 64] (sr [fV 66 1 2,lE 67 66,fV 68 1 3,lE 69 68,mV 70 11,cE 71 zj4 [([0],(.E 67)),([0],(.E 69)),([0],(.E 70))],wE 65 71,xE 72 0 65,xE 73 1 65,vE 12 72,wE 13 73] (sr [fV 74 0 2,lE 75 74,mV 76 12,mV 77 10,cE 78 zhb [([0],(.E 75)),([0],(.E 76)),([0],(.E 77))],oV 14 (.alloc [(.v (.bool false)),(.v (.int .u64 0)),(.v (.int .u64 0))]),oN (.store [0,0,0] (.V 14) (.E 78))] (.seq (sr [tV 79 3 14,cE 80 zhx [([0,0,0],(.E 79))],uE 81 80] (cd 81 (sr [oE 82 (.build [(.v (.bool false)),(.v (.int .u64 0)),(.v (.int .u64 0))] []),oN (.store [0,0,0] (.V 4) (.E 82)),fF 5] .ret) .skip)) (sr [tV 83 3 14,oN (.store [0,0,0] (.V 4) (.E 83)),fT 5] .ret)))))))
def zkm:List RV:=[.cell [0,0,0] 4 true,.tmp [0] 5]
def z6w:IC := sr [bV 2 0,oV 4 (.alloc [(.v (.bool false)),(.v (.int .u64 0)),(.v (.int .u64 0)),iv 0]),fF 5] (sr [tV 7 3 2,mV 8 1,oE 9 (.build [(.v (.bool false)),(.v (.int .u64 0)),(.v (.int .u64 0)),iv 0] [(0,3,(.E 7)),(3,1,(.E 8))]),oV 6 (.alloc [(.v (.bool false)),(.v (.int .u64 0)),(.v (.int .u64 0)),iv 0]),oN (.store [0,0,0,0] (.V 6) (.E 9))] (.seq (sr [tV 10 4 6,cE 11 zl3 [([0,0,0,0],(.E 10))],uE 12 11] (cd 12 (sr [oE 13 (.build [(.v (.bool false)),(.v (.int .u64 0)),(.v (.int .u64 0)),iv 0] []),oN (.store [0,0,0,0] (.V 4) (.E 13)),fF 5] .ret) .skip)) (sr [tV 14 4 6,oN (.store [0,0,0,0] (.V 4) (.E 14)),fT 5] .ret)))
def z6y:IC := sr [bV 1 0,fF 2] (sr [fV 3 0 1,tE 4 3 3,cE 5 zhx [([0,0,0],(.E 4))],wE 6 5,gE 7 6 .true (.faddr 3 (.V 1)),gE 8 6 .true (.load false 1 (.E 7)),gE 9 6 .true (.call zbu [([0],(.E 8)),([0],(ki 1)),([0],(ki 1000000))]),pF 10 6 9,vE 2 10] .ret)
def zh3:IC := sr [bV 2 0,oV 4 (.alloc [(.v (.bool false)),(.v (.int .u64 0)),(.v (.int .u64 0))]),fF 5] (.seq (sr [tV 13 3 2,cE 14 zhx [([0,0,0],(.E 13))],uE 15 14] (cd 15 (sr [oE 16 (.build [(.v (.bool false)),(.v (.int .u64 0)),(.v (.int .u64 0))] []),oN (.store [0,0,0] (.V 4) (.E 16)),fF 5] .ret) .skip)) (sr [mV 17 1,cE 18 zl7 [([0],(.E 17))],vE 6 18] (sr [fV 20 1 2,lE 21 20,mV 22 6,cE 23 zl8 [([0],(.E 21)),([0],(.E 22))],wE 19 23,xE 24 0 19,xE 25 1 19,vE 7 24,vE 8 25] (sr [fV 27 2 2,lE 28 27,mV 29 6,cE 30 zl8 [([0],(.E 28)),([0],(.E 29))],wE 26 30,xE 31 0 26,xE 32 1 26,vE 9 31,vE 10 32] (sr [mV 34 8,mV 35 9,cE 36 zj4 [([0],(.E 34)),([0],(.E 35)),([0],(.C (.v (.int .u64 0))))],wE 33 36,xE 37 0 33,xE 38 1 33,vE 8 37,vE 11 38] (sr [fV 39 0 2,lE 40 39,mV 41 1,kE 42 .lss 41 0,oE 43 (.eqb true [.b] (.E 40) (.E 42)),mV 44 8,mV 45 10,cE 46 zhb [([0],(.E 43)),([0],(.E 44)),([0],(.E 45))],oV 12 (.alloc [(.v (.bool false)),(.v (.int .u64 0)),(.v (.int .u64 0))]),oN (.store [0,0,0] (.V 12) (.E 46))] (.seq (sr [mV 47 7,oE 48 (.bin .gtr (.E 47) (.C (.v (.int .u64 0)))),wE 49 48,gE 50 49 .false (.mv (.V 11)),gE 51 49 .false (.bin .gtr (.E 50) (.C (.v (.int .u64 0)))),pT 52 49 51,wE 53 52,gE 54 53 .false (.load true 3 (.V 12)),gE 55 53 .false (.call zhx [([0,0,0],(.E 54))]),gE 56 53 .false (.un .not (.E 55)),pT 57 53 56] (cd 57 (sr [oE 58 (.build [(.v (.bool false)),(.v (.int .u64 0)),(.v (.int .u64 0))] []),oN (.store [0,0,0] (.V 4) (.E 58)),fF 5] .ret) .skip)) (sr [tV 59 3 12,oN (.store [0,0,0] (.V 4) (.E 59)),fT 5] .ret))))))))
def zuh:IC := sr [oV 6 (.alloc [(.v (.bool false)),(.v (.int .u64 0)),(.v (.int .u64 0))])] (sr [mV 7 0,wE 8 7,gE 9 8 .true (.mv (.V 1)),gE 10 8 .true (.bin .gtr (.E 9) (.C (.v (.int .u64 0)))),gE 11 8 .true (.mv (.E 10)),gE 12 11 .false (.mv (.V 2)),gE 13 11 .false (.bin .gtr (.E 12) (.C (.v (.int .u64 0)))),gE 14 8 .true (.pick (.E 11) (kb true) (.E 13)),pF 15 8 14,mV 16 1,mV 17 2,oE 18 (.build [(.v (.bool false)),(.v (.int .u64 0)),(.v (.int .u64 0))] [(0,1,(.E 15)),(1,1,(.E 16)),(2,1,(.E 17))]),oN (.store [0,0,0] (.V 6) (.E 18))] .ret)
def zui:List RV:=[.cell [0,0,0] 6 true]
def z60:IC := sr [bV 2 0,bV 3 1,f0 4] (.seq (.regD [(fV 5 1 2,0,0),(lE 6 5,0,0),(fV 7 1 3,0,0),(lE 8 7,0,0),(cE 9 zoh [([0],(.E 6)),([0],(.E 8))],0,0),(fV 10 2 2,1,0),(lE 11 10,1,0),(fV 12 2 3,1,0),(lE 13 12,1,0),(cE 14 zoh [([0],(.E 11)),([0],(.E 13))],0,0),(oE 15 (.bslice 2 1 [iv 0] [(0,(.E 9)),(1,(.E 14))]),0,0),(cE 16 zoa [([1],(.E 15))],0,0),(vE 4 16,0,0)]) .ret)
def z62:IC := sr [oV 4 (.alloc [(.v (.bool false)),(.v (.int .u64 0)),(.v (.int .u64 0)),iv 0]),fF 5] (sr [mV 7 0,mV 8 0,cE 9 ztj [([0],(.E 7)),([0],(.E 8))],mV 10 1,oE 11 (.build [(.v (.bool false)),(.v (.int .u64 0)),(.v (.int .u64 0)),iv 0] [(0,3,(.E 9)),(3,1,(.E 10))]),oV 6 (.alloc [(.v (.bool false)),(.v (.int .u64 0)),(.v (.int .u64 0)),iv 0]),oN (.store [0,0,0,0] (.V 6) (.E 11))] (.seq (sr [tV 12 4 6,cE 13 zj2 [([0,0,0,0],(.E 12))],uE 14 13] (cd 14 (sr [oE 15 (.build [(.v (.bool false)),(.v (.int .u64 0)),(.v (.int .u64 0)),iv 0] []),oN (.store [0,0,0,0] (.V 4) (.E 15)),fF 5] .ret) .skip)) (sr [tV 16 4 6,oN (.store [0,0,0,0] (.V 4) (.E 16)),fT 5] .ret)))
def zfy:IC := sr [bV 2 0,bV 3 1,oV 4 (.alloc [(.v (.bool false)),(.v (.int .u64 0)),(.v (.int .u64 0))]),fF 5] (.seq (sr [tV 10 3 2,cE 11 zhy [([0,0,0],(.E 10))],uE 12 11,wE 13 12,gE 14 13 .false (.load true 3 (.V 3)),gE 15 13 .false (.call zhy [([0,0,0],(.E 14))]),gE 16 13 .false (.un .not (.E 15)),pT 17 13 16] (cd 17 (sr [oE 18 (.build [(.v (.bool false)),(.v (.int .u64 0)),(.v (.int .u64 0))] []),oN (.store [0,0,0] (.V 4) (.E 18)),fF 5] .ret) .skip)) (.seq (sr [fV 19 0 2,lE 20 19,fV 21 0 3,lE 22 21,oE 23 (.eqb false [.b] (.E 20) (.E 22))] (cd 23 (sr [fV 24 0 2,lE 25 24,fV 26 1 2,lE 27 26,fV 28 1 3,lE 29 28,bE 30 .add 27 29,fV 31 2 2,lE 32 31,fV 33 2 3,lE 34 33,bE 35 .add 32 34,oE 36 (.build [(.v (.bool false)),(.v (.int .u64 0)),(.v (.int .u64 0))] [(0,1,(.E 25)),(1,1,(.E 30)),(2,1,(.E 35))]),oV 6 (.alloc [(.v (.bool false)),(.v (.int .u64 0)),(.v (.int .u64 0))]),oN (.store [0,0,0] (.V 6) (.E 36))] (.seq (sr [fV 37 2 6,lE 38 37,fV 39 2 2,lE 40 39,bE 41 .lss 38 40] (cd 41 (.reg [fV 42 1 6,lE 43 42,oE 44 (.bin .add (.E 43) (.C (.v (.int .u64 1)))),fV 45 1 6,oN (.store [0] (.E 45) (.E 44))]) .skip)) (.seq (sr [tV 46 3 6,cE 47 zhy [([0,0,0],(.E 46))],uE 48 47] (cd 48 (sr [oE 49 (.build [(.v (.bool false)),(.v (.int .u64 0)),(.v (.int .u64 0))] []),oN (.store [0,0,0] (.V 4) (.E 49)),fF 5] .ret) .skip)) (sr [tV 50 3 6,oN (.store [0,0,0] (.V 4) (.E 50)),fT 5] .ret)))) .skip)) (sr [tV 51 3 2,oV 7 (.alloc [(.v (.bool false)),(.v (.int .u64 0)),(.v (.int .u64 0))]),oN (.store [0,0,0] (.V 7) (.E 51))] (sr [tV 52 3 3,oV 8 (.alloc [(.v (.bool false)),(.v (.int .u64 0)),(.v (.int .u64 0))]),oN (.store [0,0,0] (.V 8) (.E 52))] (.seq (sr [tV 53 3 2,tV 54 3 3,cE 55 zl5 [([0,0,0],(.E 53)),([0,0,0],(.E 54))],kE 56 .lss 55 0] (cd 56 (sr [tV 57 3 3,oN (.store [0,0,0] (.V 7) (.E 57))] (.reg [tV 58 3 2,oN (.store [0,0,0] (.V 8) (.E 58))])) .skip)) (sr [fV 59 0 7,lE 60 59,fV 61 1 7,lE 62 61,fV 63 1 8,lE 64 63,bE 65 .sub 62 64,fV 66 2 7,lE 67 66,fV 68 2 8,lE 69 68,bE 70 .sub 67 69,oE 71 (.build [(.v (.bool false)),(.v (.int .u64 0)),(.v (.int .u64 0))] [(0,1,(.E 60)),(1,1,(.E 65)),(2,1,(.E 70))]),oV 9 (.alloc [(.v (.bool false)),(.v (.int .u64 0)),(.v (.int .u64 0))]),oN (.store [0,0,0] (.V 9) (.E 71))] (.seq (sr [fV 72 2 7,lE 73 72,fV 74 2 8,lE 75 74,bE 76 .lss 73 75] (cd 76 (.reg [fV 77 1 9,lE 78 77,oE 79 (.bin .sub (.E 78) (.C (.v (.int .u64 1)))),fV 80 1 9,oN (.store [0] (.E 80) (.E 79))]) .skip)) (.seq (sr [tV 81 3 9,cE 82 zj3 [([0,0,0],(.E 81))]] (cd 82 (.reg [fV 83 0 9,oN (.store [0] (.E 83) (kb false))]) .skip)) (sr [tV 84 3 9,oN (.store [0,0,0] (.V 4) (.E 84)),fT 5] .ret)))))))))
def z64:IC := sr [bV 1 0,fF 2] (sr [fV 3 0 1,tE 4 3 3,cE 5 zhy [([0,0,0],(.E 4))],wE 6 5,gE 7 6 .true (.faddr 3 (.V 1)),gE 8 6 .true (.load false 1 (.E 7)),gE 9 6 .true (.call zbj [([0],(.E 8)),([0],(ki 1)),([0],(ki 1000000))]),pF 10 6 9,vE 2 10] .ret)
def zh5:IC := sr [bV 2 0,oV 4 (.alloc [(.v (.bool false)),(.v (.int .u64 0)),(.v (.int .u64 0))]),fF 5] (.seq (sr [tV 13 3 2,cE 14 zhy [([0,0,0],(.E 13))],uE 15 14] (cd 15 (sr [oE 16 (.build [(.v (.bool false)),(.v (.int .u64 0)),(.v (.int .u64 0))] []),oN (.store [0,0,0] (.V 4) (.E 16)),fF 5] .ret) .skip)) (sr [mV 17 1,cE 18 zl9 [([0],(.E 17))],vE 6 18] (sr [fV 20 1 2,lE 21 20,mV 22 6,cE 23 zma [([0],(.E 21)),([0],(.E 22))],wE 19 23,xE 24 0 19,xE 25 1 19,vE 7 24,vE 8 25] (sr [fV 27 2 2,lE 28 27,mV 29 6,cE 30 zma [([0],(.E 28)),([0],(.E 29))],wE 26 30,xE 31 0 26,xE 32 1 26,vE 9 31,vE 10 32] (sr [mV 33 8,mV 34 9,bE 35 .add 33 34,vE 11 35] (sr [fV 36 0 2,lE 37 36,mV 38 1,kE 39 .lss 38 0,oE 40 (.eqb true [.b] (.E 37) (.E 39)),mV 41 11,mV 42 10,oE 43 (.build [(.v (.bool false)),(.v (.int .u64 0)),(.v (.int .u64 0))] [(0,1,(.E 40)),(1,1,(.E 41)),(2,1,(.E 42))]),oV 12 (.alloc [(.v (.bool false)),(.v (.int .u64 0)),(.v (.int .u64 0))]),oN (.store [0,0,0] (.V 12) (.E 43))] (.seq (sr [tV 44 3 12,cE 45 zj3 [([0,0,0],(.E 44))]] (cd 45 (.reg [fV 46 0 12,oN (.store [0] (.E 46) (kb false))]) .skip)) (.seq (sr [mV 47 7,oE 48 (.bin .gtr (.E 47) (.C (.v (.int .u64 0)))),wE 49 48,gE 50 49 .false (.mv (.V 11)),gE 51 49 .false (.mv (.V 8)),gE 52 49 .false (.bin .lss (.E 50) (.E 51)),pT 53 49 52,wE 54 53,gE 55 54 .false (.load true 3 (.V 12)),gE 56 54 .false (.call zhy [([0,0,0],(.E 55))]),gE 57 54 .false (.un .not (.E 56)),pT 58 54 57] (cd 58 (sr [oE 59 (.build [(.v (.bool false)),(.v (.int .u64 0)),(.v (.int .u64 0))] []),oN (.store [0,0,0] (.V 4) (.E 59)),fF 5] .ret) .skip)) (sr [tV 60 3 12,oN (.store [0,0,0] (.V 4) (.E 60)),fT 5] .ret)))))))))
def zxo:IC := sr [bV 1 0,fF 2] (sr [fV 3 1 1,lE 4 3,oE 5 (.bin .eql (.E 4) (.C (.v (.int .u64 0)))),wE 6 5,gE 7 6 .true (.faddr 2 (.V 1)),gE 8 6 .true (.load false 1 (.E 7)),gE 9 6 .true (.bin .eql (.E 8) (.C (.v (.int .u64 0)))),pF 10 6 9,vE 2 10] .ret)
def zmh:IC := sr [bV 2 0,bV 3 1,f0 4] (.seq (.block 0 (sr [fV 6 1 2,lE 7 6,fV 8 1 3,lE 9 8,bE 10 .lss 7 9,wE 11 10,gE 12 11 .false (.faddr 1 (.V 2)),gE 13 11 .false (.load false 1 (.E 12)),gE 14 11 .false (.faddr 1 (.V 3)),gE 15 11 .false (.load false 1 (.E 14)),gE 16 11 .false (.bin .eql (.E 13) (.E 15)),gE 17 11 .false (.mv (.E 16)),gE 18 17 .true (.faddr 2 (.V 2)),gE 19 17 .true (.load false 1 (.E 18)),gE 20 17 .true (.faddr 2 (.V 3)),gE 21 17 .true (.load false 1 (.E 20)),gE 22 17 .true (.bin .lss (.E 19) (.E 21)),gE 23 11 .false (.pick (.E 17) (.E 22) (kb false)),pT 24 11 23,wE 5 24] (cd 5 (sr [oV 4 (.mv (ki (-1)))] .ret) (sr [fV 26 1 2,lE 27 26,fV 28 1 3,lE 29 28,bE 30 .gtr 27 29,wE 31 30,gE 32 31 .false (.faddr 2 (.V 2)),gE 33 31 .false (.load false 1 (.E 32)),gE 34 31 .false (.faddr 2 (.V 3)),gE 35 31 .false (.load false 1 (.E 34)),gE 36 31 .false (.bin .gtr (.E 33) (.E 35)),pT 37 31 36,wE 25 37] (cd 25 (sr [oV 4 (.mv (ki 1))] .ret) .skip))))) (sr [f0 4] .ret))
def z66:IC := sr [oV 4 (.alloc [(.v (.bool false)),(.v (.int .u64 0)),(.v (.int .u64 0))])] (sr [mV 8 0,cE 9 zl7 [([0],(.E 8))],mV 10 1,cE 11 zl7 [([0],(.E 10))],cE 12 zl8 [([0],(.E 9)),([0],(.E 11))],wE 7 12,xE 13 0 7,xE 14 1 7,vE 5 13,vE 6 14] (sr [mV 15 0,kE 16 .lss 15 0,mV 17 1,kE 18 .lss 17 0,oE 19 (.eqb true [.b] (.E 16) (.E 18)),mV 20 5,mV 21 6,cE 22 zhb [([0],(.E 19)),([0],(.E 20)),([0],(.E 21))],oN (.store [0,0,0] (.V 4) (.E 22))] .ret))
def z67:List RV:=[.cell [0,0,0] 4 true]
def zo2:IC := sr [bV 1 0,fF 2] (sr [fV 3 1 1,lE 4 3,oE 5 (.bin .lss (.E 4) (.C (.v (.int .u64 9223372036854775808)))),wE 6 5,gE 7 6 .true (.faddr 0 (.V 1)),gE 8 6 .true (.load false 1 (.E 7)),gE 9 6 .true (.un .not (.E 8)),gE 10 6 .true (.mv (.E 9)),gE 11 10 .false (.faddr 1 (.V 1)),gE 12 10 .false (.load false 1 (.E 11)),gE 13 10 .false (.bin .gtr (.E 12) (.C (.v (.int .u64 0)))),gE 14 6 .true (.pick (.E 10) (kb true) (.E 13)),gE 15 6 .true (.mv (.E 14)),gE 16 15 .false (.faddr 2 (.V 1)),gE 17 15 .false (.load false 1 (.E 16)),gE 18 15 .false (.bin .gtr (.E 17) (.C (.v (.int .u64 0)))),gE 19 6 .true (.pick (.E 15) (kb true) (.E 18)),pF 20 6 19,vE 2 20] .ret)
def z68:IC := sr [oV 2 (.mv (.C (.v (.int .u64 0))))] (.seq (sr [mV 3 0,kE 4 .lss 3 0] (cd 4 (sr [mV 5 0,oE 6 (.convI .u64 (.E 5)),oE 7 (.un .neg (.E 6)),vE 2 7] .ret) .skip)) (sr [mV 8 0,oE 9 (.convI .u64 (.E 8)),vE 2 9] .ret))
def yz9:List Nat:=[0,1,4,5,6,7,8,9,10,11,12,13]
def z7a:IC := sr [oV 4 (.mv (.C (.v (.int .u64 0)))),oV 5 (.mv (.C (.v (.int .u64 0))))] (sr [mV 14 0,oE 15 (.bin .and (.E 14) (.C (.v (.int .u64 4294967295)))),vE 6 15] (sr [mV 16 0,oE 17 (.bin .shr (.E 16) (.C (.v (.int .u64 32)))),vE 7 17] (sr [mV 18 1,oE 19 (.bin .and (.E 18) (.C (.v (.int .u64 4294967295)))),vE 8 19] (sr [mV 20 1,oE 21 (.bin .shr (.E 20) (.C (.v (.int .u64 32)))),vE 9 21] (sr [mV 22 6,mV 23 8,bE 24 .mul 22 23,vE 10 24] (sr [mV 25 7,mV 26 8,bE 27 .mul 25 26,mV 28 10,oE 29 (.bin .shr (.E 28) (.C (.v (.int .u64 32)))),bE 30 .add 27 29,vE 11 30] (sr [mV 31 11,oE 32 (.bin .and (.E 31) (.C (.v (.int .u64 4294967295)))),vE 12 32] (sr [mV 33 11,oE 34 (.bin .shr (.E 33) (.C (.v (.int .u64 32)))),vE 13 34] (sr [mV 35 12,mV 36 6,mV 37 9,bE 38 .mul 36 37,bE 39 .add 35 38,vE 12 39] (sr [mV 40 7,mV 41 9,bE 42 .mul 40 41,mV 43 13,bE 44 .add 42 43,mV 45 12,oE 46 (.bin .shr (.E 45) (.C (.v (.int .u64 32)))),bE 47 .add 44 46,vE 4 47] (sr [mV 48 0,mV 49 1,bE 50 .mul 48 49,vE 5 50] .ret)))))))))))
def zuj:IC := sr [f0 4] (sr [mV 7 0,cE 8 zoi [([0],(.E 7))],vE 5 8] (sr [mV 9 1,cE 10 zoi [([0],(.E 9))],vE 6 10] (.seq (sr [mV 11 5] (cd 11 (.seq (sr [mV 12 6] (cd 12 (sr [f0 4] .ret) .skip)) (sr [oV 4 (.mv (ki (-1)))] .ret)) .skip)) (.seq (sr [mV 13 6] (cd 13 (sr [oV 4 (.mv (ki 1))] .ret) .skip)) (.seq (sr [mV 14 0,mV 15 1,bE 16 .lss 14 15] (cd 16 (sr [oV 4 (.mv (ki (-1)))] .ret) .skip)) (.seq (sr [mV 17 0,mV 18 1,bE 19 .gtr 17 18] (cd 19 (sr [oV 4 (.mv (ki 1))] .ret) .skip)) (sr [f0 4] .ret)))))))
def z7c:IC := sr [oV 4 (.alloc [(.v (.bool false)),(.v (.int .u64 0)),(.v (.int .u64 0))])] (sr [mV 8 0,cE 9 zl9 [([0],(.E 8))],mV 10 1,cE 11 zl9 [([0],(.E 10))],cE 12 zma [([0],(.E 9)),([0],(.E 11))],wE 7 12,xE 13 0 7,xE 14 1 7,vE 5 13,vE 6 14] (sr [mV 15 0,kE 16 .lss 15 0,mV 17 1,kE 18 .lss 17 0,oE 19 (.eqb true [.b] (.E 16) (.E 18)),wE 20 19,gE 21 20 .true (.mv (.V 0)),gE 22 20 .true (.bin .neq (.E 21) (ki 0)),pF 23 20 22,wE 24 23,gE 25 24 .true (.mv (.V 1)),gE 26 24 .true (.bin .neq (.E 25) (ki 0)),pF 27 24 26,mV 28 5,mV 29 6,oE 30 (.build [(.v (.bool false)),(.v (.int .u64 0)),(.v (.int .u64 0))] [(0,1,(.E 27)),(1,1,(.E 28)),(2,1,(.E 29))]),oN (.store [0,0,0] (.V 4) (.E 30))] .ret))
def zo4:IC := sr [bV 1 0,fF 2] (sr [fV 3 1 1,lE 4 3,oE 5 (.bin .lss (.E 4) (.C (.v (.int .u64 9223372036854775808)))),wE 6 5,gE 7 6 .true (.faddr 0 (.V 1)),gE 8 6 .true (.load false 1 (.E 7)),gE 9 6 .true (.un .not (.E 8)),gE 10 6 .true (.mv (.E 9)),gE 11 10 .false (.faddr 1 (.V 1)),gE 12 10 .false (.load false 1 (.E 11)),gE 13 10 .false (.bin .gtr (.E 12) (.C (.v (.int .u64 0)))),gE 14 6 .true (.pick (.E 10) (kb true) (.E 13)),gE 15 6 .true (.mv (.E 14)),gE 16 15 .false (.faddr 2 (.V 1)),gE 17 15 .false (.load false 1 (.E 16)),gE 18 15 .false (.bin .gtr (.E 17) (.C (.v (.int .u64 0)))),gE 19 6 .true (.pick (.E 15) (kb true) (.E 18)),pF 20 6 19,vE 2 20] .ret)
def z7e:IC := sr [oV 2 (.mv (.C (.v (.int .u64 0))))] (.seq (sr [mV 3 0,kE 4 .lss 3 0] (cd 4 (sr [mV 5 0,kE 6 .add 5 1,oE 7 (.un .neg (.E 6)),oE 8 (.convI .u64 (.E 7)),oE 9 (.bin .add (.E 8) (.C (.v (.int .u64 1)))),vE 2 9] .ret) .skip)) (sr [mV 10 0,oE 11 (.convI .u64 (.E 10)),vE 2 11] .ret))
def y0e:List Nat:=[0,1,4,5,6,7,8,9,10,11,12]
def z7g:IC := sr [oV 4 (.mv (.C (.v (.int .u64 0)))),oV 5 (.mv (.C (.v (.int .u64 0))))] (sr [mV 13 0,oE 14 (.bin .shr (.E 13) (.C (.v (.int .u64 32)))),vE 6 14] (sr [mV 15 0,oE 16 (.bin .and (.E 15) (.C (.v (.int .u64 4294967295)))),vE 7 16] (sr [mV 17 1,oE 18 (.bin .shr (.E 17) (.C (.v (.int .u64 32)))),vE 8 18] (sr [mV 19 1,oE 20 (.bin .and (.E 19) (.C (.v (.int .u64 4294967295)))),vE 9 20] (sr [mV 21 7,mV 22 9,bE 23 .mul 21 22,vE 10 23] (sr [mV 24 6,mV 25 9,bE 26 .mul 24 25,mV 27 10,oE 28 (.bin .shr (.E 27) (.C (.v (.int .u64 32)))),bE 29 .add 26 28,vE 11 29] (sr [mV 30 7,mV 31 8,bE 32 .mul 30 31,mV 33 11,oE 34 (.bin .and (.E 33) (.C (.v (.int .u64 4294967295)))),bE 35 .add 32 34,vE 12 35] (sr [mV 36 6,mV 37 8,bE 38 .mul 36 37,mV 39 11,oE 40 (.bin .shr (.E 39) (.C (.v (.int .u64 32)))),bE 41 .add 38 40,mV 42 12,oE 43 (.bin .shr (.E 42) (.C (.v (.int .u64 32)))),bE 44 .add 41 43,mV 45 12,oE 46 (.bin .shl (.E 45) (.C (.v (.int .u64 32)))),mV 47 10,oE 48 (.bin .and (.E 47) (.C (.v (.int .u64 4294967295)))),bE 49 .add 46 48,vE 4 44,vE 5 49] .ret))))))))
def z7i:IC := sr [fF 2] (sr [mV 3 0,mV 4 0,bE 5 .neq 3 4,vE 2 5] .ret)
def tbl:List (Nat×Fun):=[
 (zvm,zaa zvn zvo []),
 (zqc,zaa zzf zvo []),
 (zle,zaa zj5 zvo []),
 (zlf,zaa zzh zvo []),
 (zqd,zaa zvq zvr []),
 (zqe,zaa zzj zvr []),
 (zqf,zaa zzl zvr []),
 (zqg,zaa zzn zzo []),
 (zqh,zaa zj7 zj8 []),
 (zm7,zaa zj9 zj8 []),
 (zqi,zaa zzp zvr []),
 (zqj,zaa zkb zvr []),
 (zqk,zaa zok zol []),
 (zbj,zaa zzr zzs []),
 (zm8,zaa zto zvo []),
 (zm9,zaa zzt zvr []),
 (zjx,zaa zzv zvo []),
 (zql,zaa zzx zzy []),
 (zqm,zaa zzz zz0 []),
 (zqn,zaa zz1 zz0 []),
 (zgc,zaa zz3 zvr [true]),
 (zqo,zaa zhz zh0 [true]),
 (zna,zaa zkd zvo []),
 (zlg,zaa zz5 zvo []),
 (zqp,.known [] (zhj 1 16)),
 (zqq,.known [] (zhj 1 8)),
 (zqr,zaa zz7 zzy []),
 (zqs,zaa zz9 z0a []),
 (zqt,zaa z0b zzy []),
 (zqu,zaa zvs zvr []),
 (zqv,zaa zvu zvr []),
 (zqw,zaa zvx zvy []),
 (zlh,zaa ztq ztr []),
 (zbu,zaa z0e zzs []),
 (zqx,zaa z0g zvo []),
 (zi0,zaa zvz zvr []),
 (zqy,zaa z0i zvo []),
 (zqz,zaa z0k zvo []),
 (zli,zaa zkf zkg []),
 (znb,zaa z0m zkg []),
 (zq0,zaa z0o zvr []),
 (za8,zaa zts zvr [true]),
 (zq1,zaa zh1 zh2 [true]),
 (znc,zaa zom zvo [true]),
 (zq2,zaa z0q zvr []),
 (zq3,zaa ztu ztr []),
 (zq4,zaa zv1 zv2 []),
 (zq5,zaa zv3 zv4 []),
 (zq6,zaa z0u z0v []),
 (zq7,zaa z0w zvr []),
 (zq8,zaa zv5 zv2 []),
 (zq9,zaa zv7 zv4 []),
 (zra,zaa z0y z0v []),
 (zjy,zaa zmc zkg []),
 (zrb,zaa z00 zvr []),
 (zrc,zaa z02 zvr []),
 (zrd,zaa z04 zvo []),
 (zre,zaa z06 zvo []),
 (zrf,zaa z09 zvo []),
 (zlj,zaa zwb zme [true]),
 (znd,zaa zoo zop [true]),
 (zrg,zaa zhc zme [true]),
 (zrh,zaa zhe zop [true]),
 (zri,zaa z1c z1d [true]),
 (zd3,zaa z1e zvr [true,true,true]),
 (zlk,zaa z1g zvo []),
 (zrj,zaa z1i zvr []),
 (zne,zaa z1k z1l []),
 (znf,zaa z1m zvo []),
 (zng,zaa z1o zh0 []),
 (zll,zaa z1q zkg []),
 (znh,zaa z1s zh0 []),
 (zrk,zaa z1u z1v []),
 (zrl,zaa ztw z1v []),
 (zrm,zaa z1x zvr []),
 (zrn,zaa z1z zvo []),
 (zro,zaa z18 zvr []),
 (zni,zaa zwd zvr []),
 (znj,zaa z2a zvo []),
 (zrp,zaa z2c z1v []),
 (zhw,zaa zwf zvo [true]),
 (zrq,zaa z2e zh2 [true]),
 (zlm,zaa zty zvo [true]),
 (znk,zaa z2g zvr []),
 (zrr,zaa z2i z1v []),
 (zrs,zaa zt0 z1v []),
 (zrt,zaa z2l zvr []),
 (zln,zaa zkj zkg []),
 (znl,zaa zoq zzs []),
 (zru,zaa z2n zzy []),
 (zjz,zaa zwi zvo []),
 (zrv,zaa z2p z2q []),
 (zrw,zaa zt2 zt3 []),
 (zlo,zaa zwk zwl []),
 (zrx,zaa z2r z2s []),
 (znm,zaa z2t z2u []),
 (zry,zaa zt4 zt5 []),
 (znn,zaa zwm zvr []),
 (zrz,zaa z2v z2w []),
 (zr0,zaa z2x zzy []),
 (zr1,zaa z2z zkg []),
 (zno,zaa zwp zvr []),
 (zlp,zaa zmf zkg []),
 (znp,zaa zos zzs []),
 (zr2,zaa z21 zzy []),
 (zr3,zaa z24 z2q []),
 (zr4,zaa zt6 zt3 []),
 (zlq,zaa zt8 zwl []),
 (zr5,zaa z26 z2s []),
 (zr6,zaa z29 z2w []),
 (znq,zaa z3b z2u []),
 (zr7,zaa zua zt5 []),
 (znr,zaa zws zvr []),
 (zha,zaa z3d zvo []),
 (zr8,zaa z3f zkg []),
 (zr9,zaa z3h z1v []),
 (zj0,zaa z3j zvo []),
 (zsa,zaa z3l zvr []),
 (zns,zaa z3n zvr []),
 (zlr,zaa z3p zvr []),
 (znt,zaa z3r zvr [true,true]),
 (zsb,zaa z3t zh0 []),
 (zsc,zaa z3v zzy []),
 (zsd,zaa z3x z3y []),
 (znu,zaa z3z zvo []),
 (zse,zaa z31 zvr []),
 (zsf,.known [] (zhj 5 40)),
 (znv,zaa z34 zzy []),
 (zsg,zaa z36 zzy []),
 (zsh,zaa z38 zvr []),
 (zls,zaa z4a zvo []),
 (zsi,zaa zwv zzs []),
 (zlu,zaa z4c zvr []),
 (zsj,zaa z4e zzy []),
 (zsk,.known [true] zpc),
 (znw,zaa zou zvo []),
 (znx,zaa z4g zvo []),
 (zsl,zaa zwx zwy []),
 (zsm,zaa z4k z4l []),
 (zsn,zaa z4n z4o []),
 (zny,zaa z4p zvr []),
 (znz,zaa z4r zvo []),
 (zn0,zaa zwz zzs []),
 (zso,zaa z4t zvr []),
 (zn1,zaa zox zvo []),
 (zlv,zaa zw1 zvo []),
 (zsp,zaa zw3 zwy []),
 (zsq,zaa z4w z4l []),
 (zsr,zaa z4z z4o []),
 (zn2,zaa z41 zvo []),
 (zn3,zaa zw6 zzs []),
 (zss,zaa z43 zvr []),
 (zst,zaa z45 zh0 []),
 (zsu,.known [true] zpu),
 (zsv,zaa z48 zvo []),
 (zn4,zaa z5a z1l []),
 (zsw,zaa zw8 zw9 []),
 (zn5,zaa z5c zzs []),
 (zn6,zaa z5e zzs []),
 (zsx,zaa z5h z5i []),
 (zsy,zaa z5j z5k []),
 (zsz,zaa z5l zvo []),
 (zs0,zaa zxa zw9 []),
 (zj1,zaa z5n zzs []),
 (zlw,zaa z5p zzs []),
 (zs1,zaa z5s z5i []),
 (zlx,zaa z5u z5k []),
 (zs2,zaa zxc zzs []),
 (zs3,zaa z5w zvr []),
 (zly,zaa z5y z5z []),
 (zn7,zaa z50 zkg []),
 (zs4,zaa z54 zvr []),
 (zlz,zaa z56 z5k []),
 (zs5,zaa zxe zzs []),
 (zs6,zaa z58 zvr []),
 (zl0,zaa z6a z5z []),
 (zn8,zaa z6c zkg []),
 (zs7,zaa zxg zvr []),
 (zs8,zaa z6e z6f []),
 (zl1,zaa zxi z5z []),
 (zs9,zaa zxk z5z []),
 (zn9,zaa z6g z6h []),
 (zta,zaa z6i zvr []),
 (zoa,zaa z6k zvo []),
 (zob,zaa zud zvr []),
 (ztb,zaa z6m z6f []),
 (zl2,zaa zuf z5z []),
 (ztc,zaa zxm z5z []),
 (zoc,zaa z6o z6h []),
 (ztd,zaa z6q zvr []),
 (zod,zaa z6s zvo []),
 (zte,zaa z6u z5z []),
 (ztf,zaa zkl zkm []),
 (zoe,zaa z6w z5z []),
 (zl3,zaa z6y zvo []),
 (zof,zaa zh3 zkm []),
 (zhb,zaa zuh zui []),
 (zl4,zaa z60 zvr []),
 (ztg,zaa z62 z5z []),
 (zth,zaa zfy zkm []),
 (zj2,zaa z64 zvo []),
 (zog,zaa zh5 zkm []),
 (zj3,zaa zxo zvo []),
 (zl5,zaa zmh zvr []),
 (zti,zaa z66 z67 []),
 (zhx,zaa zo2 zvo []),
 (zl6,.ext zu7),
 (zj4,.ext zvb),
 (zl7,zaa z68 zvo []),
 (zl8,zaa z7a zkg []),
 (zoh,zaa zuj zvr []),
 (ztj,zaa z7c z67 []),
 (zhy,zaa zo4 zvo []),
 (zl9,zaa z7e zvo []),
 (zma,zaa z7g zkg []),
 (zoi,zaa z7i zvo [])]
def T:zch:=fun f=>(tbl.find? fun q=>q.1 == f).map fun q=>q.2
theorem yfy:T zqp=some (.known [] (zhj 1 16)):=rfl
theorem yfz:T zqq=some (.known [] (zhj 1 8)):=rfl
@[simp] theorem qj4:zad T zd3=[true,true,true]:=rfl
@[simp] theorem qlo:zad T znt=[true,true]:=rfl
theorem yik:T zsf=some (.known [] (zhj 5 40)):=rfl
theorem yis:T zsk=some (.known [true] zpc):=rfl
theorem yjb:T zsu=some (.known [true] zpu):=rfl
theorem yks:T zl6=some (.ext zu7):=rfl
theorem z98:T zj4=some (.ext zvb):=rfl
@[simp] theorem qic:zad T zvm=[]∧zad T zqc=[]∧zad T zle=[]∧zad T zlf=[]∧zad T zqd=[]∧zad T zqe=[]∧zad T zqf=[]∧zad T zqg=[]∧zad T zqh=[]∧zad T zm7=[]∧zad T zqi=[]∧zad T zqj=[]∧zad T zqk=[]∧zad T zbj=[]∧zad T zm8=[]∧zad T zm9=[]:=⟨rfl,rfl,rfl,rfl,rfl,rfl,rfl,rfl,rfl,rfl,rfl,rfl,rfl,rfl,rfl,rfl⟩
@[simp] theorem qis:zad T zjx=[]∧zad T zql=[]∧zad T zqm=[]∧zad T zqn=[]∧zad T zgc=[true]∧zad T zqo=[true]∧zad T zna=[]∧zad T zlg=[]∧zad T zqp=[]∧zad T zqq=[]∧zad T zqr=[]∧zad T zqs=[]∧zad T zqt=[]∧zad T zqu=[]∧zad T zqv=[]∧zad T zqw=[]:=⟨rfl,rfl,rfl,rfl,rfl,rfl,rfl,rfl,zy3 yfy,zy3 yfz,rfl,rfl,rfl,rfl,rfl,rfl⟩
@[simp] theorem qi8:zad T zlh=[]∧zad T zbu=[]∧zad T zqx=[]∧zad T zi0=[]∧zad T zqy=[]∧zad T zqz=[]∧zad T zli=[]∧zad T znb=[]∧zad T zq0=[]∧zad T za8=[true]∧zad T zq1=[true]∧zad T znc=[true]∧zad T zq2=[]∧zad T zq3=[]∧zad T zq4=[]∧zad T zq5=[]:=⟨rfl,rfl,rfl,rfl,rfl,rfl,rfl,rfl,rfl,rfl,rfl,rfl,rfl,rfl,rfl,rfl⟩
@[simp] theorem qjo:zad T zq6=[]∧zad T zq7=[]∧zad T zq8=[]∧zad T zq9=[]∧zad T zra=[]∧zad T zjy=[]∧zad T zrb=[]∧zad T zrc=[]∧zad T zrd=[]∧zad T zre=[]∧zad T zrf=[]∧zad T zlj=[true]∧zad T znd=[true]∧zad T zrg=[true]∧zad T zrh=[true]∧zad T zri=[true]:=⟨rfl,rfl,rfl,rfl,rfl,rfl,rfl,rfl,rfl,rfl,rfl,rfl,rfl,rfl,rfl,rfl⟩
@[simp] theorem qj5:zad T zlk=[]∧zad T zrj=[]∧zad T zne=[]∧zad T znf=[]∧zad T zng=[]∧zad T zll=[]∧zad T znh=[]∧zad T zrk=[]∧zad T zrl=[]∧zad T zrm=[]∧zad T zrn=[]∧zad T zro=[]∧zad T zni=[]∧zad T znj=[]∧zad T zrp=[]∧zad T zhw=[true]:=⟨rfl,rfl,rfl,rfl,rfl,rfl,rfl,rfl,rfl,rfl,rfl,rfl,rfl,rfl,rfl,rfl⟩
@[simp] theorem qkl:zad T zrq=[true]∧zad T zlm=[true]∧zad T znk=[]∧zad T zrr=[]∧zad T zrs=[]∧zad T zrt=[]∧zad T zln=[]∧zad T znl=[]∧zad T zru=[]∧zad T zjz=[]∧zad T zrv=[]∧zad T zrw=[]∧zad T zlo=[]∧zad T zrx=[]∧zad T znm=[]∧zad T zry=[]:=⟨rfl,rfl,rfl,rfl,rfl,rfl,rfl,rfl,rfl,rfl,rfl,rfl,rfl,rfl,rfl,rfl⟩
@[simp] theorem qk1:zad T znn=[]∧zad T zrz=[]∧zad T zr0=[]∧zad T zr1=[]∧zad T zno=[]∧zad T zlp=[]∧zad T znp=[]∧zad T zr2=[]∧zad T zr3=[]∧zad T zr4=[]∧zad T zlq=[]∧zad T zr5=[]∧zad T zr6=[]∧zad T znq=[]∧zad T zr7=[]∧zad T znr=[]:=⟨rfl,rfl,rfl,rfl,rfl,rfl,rfl,rfl,rfl,rfl,rfl,rfl,rfl,rfl,rfl,rfl⟩
@[simp] theorem qlh:zad T zha=[]∧zad T zr8=[]∧zad T zr9=[]∧zad T zj0=[]∧zad T zsa=[]∧zad T zns=[]∧zad T zlr=[]∧zad T zsb=[]∧zad T zsc=[]∧zad T zsd=[]∧zad T znu=[]∧zad T zse=[]∧zad T zsf=[]∧zad T znv=[]∧zad T zsg=[]∧zad T zsh=[]:=⟨rfl,rfl,rfl,rfl,rfl,rfl,rfl,rfl,rfl,rfl,rfl,rfl,zy3 yik,rfl,rfl,rfl⟩
@[simp] theorem qly:zad T zls=[]∧zad T zsi=[]∧zad T zlu=[]∧zad T zsj=[]∧zad T zsk=[true]∧zad T znw=[]∧zad T znx=[]∧zad T zsl=[]∧zad T zsm=[]∧zad T zsn=[]∧zad T zny=[]∧zad T znz=[]∧zad T zn0=[]∧zad T zso=[]∧zad T zn1=[]∧zad T zlv=[]:=⟨rfl,rfl,rfl,rfl,zy3 yis,rfl,rfl,rfl,rfl,rfl,rfl,rfl,rfl,rfl,rfl,rfl⟩
@[simp] theorem qme:zad T zsp=[]∧zad T zsq=[]∧zad T zsr=[]∧zad T zn2=[]∧zad T zn3=[]∧zad T zss=[]∧zad T zst=[]∧zad T zsu=[true]∧zad T zsv=[]∧zad T zn4=[]∧zad T zsw=[]∧zad T zn5=[]∧zad T zn6=[]∧zad T zsx=[]∧zad T zsy=[]∧zad T zsz=[]:=⟨rfl,rfl,rfl,rfl,rfl,rfl,rfl,zy3 yjb,rfl,rfl,rfl,rfl,rfl,rfl,rfl,rfl⟩
@[simp] theorem qmu:zad T zs0=[]∧zad T zj1=[]∧zad T zlw=[]∧zad T zs1=[]∧zad T zlx=[]∧zad T zs2=[]∧zad T zs3=[]∧zad T zly=[]∧zad T zn7=[]∧zad T zs4=[]∧zad T zlz=[]∧zad T zs5=[]∧zad T zs6=[]∧zad T zl0=[]∧zad T zn8=[]∧zad T zs7=[]:=⟨rfl,rfl,rfl,rfl,rfl,rfl,rfl,rfl,rfl,rfl,rfl,rfl,rfl,rfl,rfl,rfl⟩
@[simp] theorem qna:zad T zs8=[]∧zad T zl1=[]∧zad T zs9=[]∧zad T zn9=[]∧zad T zta=[]∧zad T zoa=[]∧zad T zob=[]∧zad T ztb=[]∧zad T zl2=[]∧zad T ztc=[]∧zad T zoc=[]∧zad T ztd=[]∧zad T zod=[]∧zad T zte=[]∧zad T ztf=[]∧zad T zoe=[]:=⟨rfl,rfl,rfl,rfl,rfl,rfl,rfl,rfl,rfl,rfl,rfl,rfl,rfl,rfl,rfl,rfl⟩
@[simp] theorem qnq:zad T zl3=[]∧zad T zof=[]∧zad T zhb=[]∧zad T zl4=[]∧zad T ztg=[]∧zad T zth=[]∧zad T zj2=[]∧zad T zog=[]∧zad T zj3=[]∧zad T zl5=[]∧zad T zti=[]∧zad T zhx=[]∧zad T zl6=[]∧zad T zj4=[]∧zad T zl7=[]∧zad T zl8=[]:=⟨rfl,rfl,rfl,rfl,rfl,rfl,rfl,rfl,rfl,rfl,rfl,rfl,rfl,rfl,rfl,rfl⟩
@[simp] theorem qn6:zad T zoh=[]∧zad T ztj=[]∧zad T zhy=[]∧zad T zl9=[]∧zad T zma=[]∧zad T zoi=[]:=⟨rfl,rfl,rfl,rfl,rfl,rfl⟩
end Go.Pe
