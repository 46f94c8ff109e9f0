/- The compact texts of the functions that the law reaches; no condition. -/
import Derived.Test.YtpcphbbcnmhcnaaGreatK0
set_option linter.all false
namespace Go.Pe
open Go
def zxa:IC := sr [bV 2 0,bV 3 1,oV 4 (.alloc [(.v (.bool false)),(.v (.int .u64 0)),(.v (.int .u64 0)),iv 0]),fF 5] (sr [tV 11 4 2,tV 12 4 3,cE 13 znu [([0,0,0,0],(.E 11)),([0,0,0,0],(.E 12))],wE 10 13,xE 14 0 10,xE 15 1 10,xE 16 2 10,oV 6 (.alloc [(.v (.bool false)),(.v (.int .u64 0)),(.v (.int .u64 0))]),oV 7 (.alloc [(.v (.bool false)),(.v (.int .u64 0)),(.v (.int .u64 0))]),oN (.store [0,0,0] (.V 6) (.E 14)),oN (.store [0,0,0] (.V 7) (.E 15)),vE 8 16] (.seq (sr [mV 17 8,uE 18 17] (cd 18 (sr [oE 19 (.build [(.v (.bool false)),(.v (.int .u64 0)),(.v (.int .u64 0)),iv 0] []),oN (.store [0,0,0,0] (.V 4) (.E 19)),fF 5] .ret) .skip)) (sr [tV 21 3 6,tV 22 3 7,cE 23 zs0 [([0,0,0],(.E 21)),([0,0,0],(.E 22))],wE 20 23,xE 24 0 20,xE 25 1 20,oV 9 (.alloc [(.v (.bool false)),(.v (.int .u64 0)),(.v (.int .u64 0))]),oN (.store [0,0,0] (.V 9) (.E 24)),vE 8 25] (.seq (sr [mV 26 8,uE 27 26] (cd 27 (sr [oE 28 (.build [(.v (.bool false)),(.v (.int .u64 0)),(.v (.int .u64 0)),iv 0] []),oN (.store [0,0,0,0] (.V 4) (.E 28)),fF 5] .ret) .skip)) (sr [tV 29 3 9,fV 30 3 2,lE 31 30,fV 32 3 3,lE 33 32,bE 34 .mul 31 33,cE 35 znz [([0,0,0],(.E 29)),([0],(.E 34))],xE 36 0 35,xE 37 1 35,oN (.store [0,0,0,0] (.V 4) (.E 36)),vE 5 37] .ret)))))
def yz7:List Nat:=[0,1,2,3,4,5,6,7,8,9,10]
def z6e:IC := sr [bV 2 0,bV 3 1,oV 4 (.alloc [(.v (.bool false)),(.v (.int .u64 0)),(.v (.int .u64 0))]),oV 5 (.alloc [(.v (.bool false)),(.v (.int .u64 0)),(.v (.int .u64 0))]),fF 6] (.seq (sr [tV 11 4 2,cE 12 zlw [([0,0,0,0],(.E 11))],uE 13 12,wE 14 13,gE 15 14 .false (.load true 4 (.V 3)),gE 16 14 .false (.call zlw [([0,0,0,0],(.E 15))]),gE 17 14 .false (.un .not (.E 16)),pT 18 14 17] (cd 18 (sr [oE 19 (.build [(.v (.bool false)),(.v (.int .u64 0)),(.v (.int .u64 0))] []),oE 20 (.build [(.v (.bool false)),(.v (.int .u64 0)),(.v (.int .u64 0))] []),oN (.store [0,0,0] (.V 4) (.E 19)),oN (.store [0,0,0] (.V 5) (.E 20)),fF 6] .ret) .skip)) (sr [fV 22 0 2,tE 23 3 22,fV 24 3 3,lE 25 24,cE 26 zn0 [([0,0,0],(.E 23)),([0],(.E 25))],wE 21 26,xE 27 0 21,xE 28 1 21,oV 7 (.alloc [(.v (.bool false)),(.v (.int .u64 0)),(.v (.int .u64 0))]),oN (.store [0,0,0] (.V 7) (.E 27)),vE 8 28] (sr [fV 30 0 3,tE 31 3 30,fV 32 3 2,lE 33 32,cE 34 zn0 [([0,0,0],(.E 31)),([0],(.E 33))],wE 29 34,xE 35 0 29,xE 36 1 29,oV 9 (.alloc [(.v (.bool false)),(.v (.int .u64 0)),(.v (.int .u64 0))]),oN (.store [0,0,0] (.V 9) (.E 35)),vE 10 36] (.seq (.regD [(tV 37 3 7,0,0),(tV 38 3 9,0,1),(mV 39 8,0,0),(wE 40 39,0,0),(gE 41 40 .true (.mv (.V 10)),0,0),(pF 42 40 41,0,0),(oN (.store [0,0,0] (.V 4) (.E 37)),0,0),(oN (.store [0,0,0] (.V 5) (.E 38)),0,0),(vE 6 42,0,0)]) .ret))))
def z6f:List RV:=[.cell [0,0,0] 4 true,.cell [0,0,0] 5 true,.tmp [0] 6]
def z6g:IC := sr [bV 2 0,bV 3 1,f0 4] (.seq (.regD [(fV 5 0 2,0,0),(lE 6 5,0,0),(fV 7 1 2,0,0),(lE 8 7,0,0),(fV 9 2 2,0,0),(lE 10 9,0,0),(cE 11 zhd [([0],(.E 6)),([0],(.E 8)),([0],(.E 10))],0,0),(fV 12 0 3,1,0),(lE 13 12,1,0),(fV 14 1 3,1,0),(lE 15 14,1,0),(fV 16 2 3,1,0),(lE 17 16,1,0),(cE 18 zhd [([0],(.E 13)),([0],(.E 15)),([0],(.E 17))],0,0),(oN (.store [0,0,0] (.V 2) (.E 11)),0,0),(oN (.store [0,0,0] (.V 3) (.E 18)),0,0)]) (.seq (.block 0 (sr [fV 20 0 2,lE 21 20,wE 22 21,gE 23 22 .true (.faddr 0 (.V 3)),gE 24 22 .true (.load false 1 (.E 23)),gE 25 22 .true (.un .not (.E 24)),pF 26 22 25,wE 19 26] (cd 19 (sr [oV 4 (.mv (ki (-1)))] .ret) (sr [fV 28 0 3,lE 29 28,wE 30 29,gE 31 30 .true (.faddr 0 (.V 2)),gE 32 30 .true (.load false 1 (.E 31)),gE 33 30 .true (.un .not (.E 32)),pF 34 30 33,wE 27 34] (cd 27 (sr [oV 4 (.mv (ki 1))] .ret) (sr [fV 36 0 2,lE 37 36,wE 35 37] (cd 35 (sr [tV 38 3 3,tV 39 3 2,cE 40 zlx [([0,0,0],(.E 38)),([0,0,0],(.E 39))],vE 4 40] .ret) .skip))))))) (sr [tV 41 3 2,tV 42 3 3,cE 43 zlx [([0,0,0],(.E 41)),([0,0,0],(.E 42))],vE 4 43] .ret)))
def yz9:List Nat:=[0,2,3,5,6,7,8]
def yf2:IC := sr [oE 9 (.bin .lss (.V 8) (.V 7))] (.seq (cd 9 .skip (.exit 0)) (.seq (.block 1 (sr [oE 10 (.iaddr 1 (.V 6) (.V 8)),lE 11 10,vE 5 11] (sr [mV 12 5,mV 13 3,bE 14 .neq 12 13] (cd 14 (sr [mV 15 5,vE 2 15] .ret) .skip)))) (.reg [oE 16 (.bin .add (.V 8) (ki 1)),vE 8 16])))
def z6i:IC := sr [f0 2] (sr [f0 3] (.seq (sr [oV 6 (.mv (.V 0)),oV 7 (.len (.V 6)),f0 8] (bl 0 yf2)) (sr [mV 17 3,vE 2 17] .ret)))
def zt0:IC := sr [f0 4] (sr [mV 7 0,cE 8 zny [([0],(.E 7))],vE 5 8] (sr [mV 9 1,cE 10 zny [([0],(.E 9))],vE 6 10] (.seq (sr [mV 11 5] (cd 11 (.seq (sr [mV 12 6] (cd 12 (sr [f0 4] .ret) .skip)) (sr [oV 4 (.mv (ki (-1)))] .ret)) .skip)) (.seq (sr [mV 13 6] (cd 13 (sr [oV 4 (.mv (ki 1))] .ret) .skip)) (.seq (sr [mV 14 0,mV 15 1,bE 16 .lss 14 15] (cd 16 (sr [oV 4 (.mv (ki (-1)))] .ret) .skip)) (.seq (sr [mV 17 0,mV 18 1,bE 19 .gtr 17 18] (cd 19 (sr [oV 4 (.mv (ki 1))] .ret) .skip)) (sr [f0 4] .ret)))))))
def z6k:IC := sr [bV 1 0,oV 2 (.alloc [iv 0,iv 0]),fF 3] (sr [fV 4 2 1,tE 5 2 4,fV 6 4 1,tE 7 2 6,cE 8 zlr [([0,0],(.E 5)),([0,0],(.E 7))],xE 9 0 8,xE 10 1 8,oN (.store [0,0] (.V 2) (.E 9)),vE 3 10] .ret)
def zt2:IC := sr [bV 2 0,oV 4 (.alloc [(.v (.bool false)),(.v (.int .u64 0)),(.v (.int .u64 0)),iv 0]),fF 5] (.seq (sr [fV 6 0 2,lE 7 6,cE 8 zbs [([0],(.E 7)),([0],(ki 0)),([0],(ki 40))],uE 9 8,wE 10 9,gE 11 10 .false (.mv (.V 1)),gE 12 10 .false (.call zbs [([0],(.E 11)),([0],(ki 1)),([0],(ki 100))]),gE 13 10 .false (.un .not (.E 12)),pT 14 10 13] (cd 14 (sr [oE 15 (.build [(.v (.bool false)),(.v (.int .u64 0)),(.v (.int .u64 0)),iv 0] []),oN (.store [0,0,0,0] (.V 4) (.E 15)),fF 5] .ret) .skip)) (sr [fV 16 1 2,lE 17 16,fV 18 0 2,lE 19 18,mV 20 1,bE 21 .add 19 20,cE 22 zs1 [([0],(.E 17)),([0],(.E 21))],xE 23 0 22,xE 24 1 22,oN (.store [0,0,0,0] (.V 4) (.E 23)),vE 5 24] .ret))
def zxc:IC := sr [bV 2 0,bV 3 1,oV 4 (.alloc [(.v (.bool false)),(.v (.int .u64 0)),(.v (.int .u64 0)),iv 0]),fF 5] (sr [tV 13 4 2,tV 14 4 3,cE 15 znx [([0,0,0,0],(.E 13)),([0,0,0,0],(.E 14))],wE 12 15,xE 16 0 12,xE 17 1 12,xE 18 2 12,oV 6 (.alloc [(.v (.bool false)),(.v (.int .u64 0)),(.v (.int .u64 0))]),oV 7 (.alloc [(.v (.bool false)),(.v (.int .u64 0)),(.v (.int .u64 0))]),oN (.store [0,0,0] (.V 6) (.E 16)),oN (.store [0,0,0] (.V 7) (.E 17)),vE 8 18] (.seq (sr [mV 19 8,uE 20 19] (cd 20 (sr [oE 21 (.build [(.v (.bool false)),(.v (.int .u64 0)),(.v (.int .u64 0)),iv 0] []),oN (.store [0,0,0,0] (.V 4) (.E 21)),fF 5] .ret) .skip)) (sr [tV 23 3 6,tV 24 3 7,cE 25 zs2 [([0,0,0],(.E 23)),([0,0,0],(.E 24))],wE 22 25,xE 26 0 22,xE 27 1 22,oV 9 (.alloc [(.v (.bool false)),(.v (.int .u64 0)),(.v (.int .u64 0))]),oN (.store [0,0,0] (.V 9) (.E 26)),vE 10 27] (sr [tV 28 3 9,fV 29 3 2,lE 30 29,fV 31 3 3,lE 32 31,bE 33 .mul 30 32,oE 34 (.build [(.v (.bool false)),(.v (.int .u64 0)),(.v (.int .u64 0)),iv 0] [(0,3,(.E 28)),(3,1,(.E 33))]),oV 11 (.alloc [(.v (.bool false)),(.v (.int .u64 0)),(.v (.int .u64 0)),iv 0]),oN (.store [0,0,0,0] (.V 11) (.E 34))] (.seq (sr [mV 35 10,uE 36 35,wE 37 36,gE 38 37 .false (.load true 4 (.V 11)),gE 39 37 .false (.call zjx [([0,0,0,0],(.E 38))]),gE 40 37 .false (.un .not (.E 39)),pT 41 37 40] (cd 41 (sr [oE 42 (.build [(.v (.bool false)),(.v (.int .u64 0)),(.v (.int .u64 0)),iv 0] []),oN (.store [0,0,0,0] (.V 4) (.E 42)),fF 5] .ret) .skip)) (sr [tV 43 4 11,oN (.store [0,0,0,0] (.V 4) (.E 43)),fT 5] .ret))))))
def z6m:IC := sr [bV 2 0,bV 3 1,oV 4 (.alloc [(.v (.bool false)),(.v (.int .u64 0)),(.v (.int .u64 0))]),oV 5 (.alloc [(.v (.bool false)),(.v (.int .u64 0)),(.v (.int .u64 0))]),fF 6] (.seq (sr [tV 11 4 2,cE 12 zjx [([0,0,0,0],(.E 11))],uE 13 12,wE 14 13,gE 15 14 .false (.load true 4 (.V 3)),gE 16 14 .false (.call zjx [([0,0,0,0],(.E 15))]),gE 17 14 .false (.un .not (.E 16)),pT 18 14 17] (cd 18 (sr [oE 19 (.build [(.v (.bool false)),(.v (.int .u64 0)),(.v (.int .u64 0))] []),oE 20 (.build [(.v (.bool false)),(.v (.int .u64 0)),(.v (.int .u64 0))] []),oN (.store [0,0,0] (.V 4) (.E 19)),oN (.store [0,0,0] (.V 5) (.E 20)),fF 6] .ret) .skip)) (sr [fV 22 0 2,tE 23 3 22,fV 24 3 3,lE 25 24,cE 26 zn1 [([0,0,0],(.E 23)),([0],(.E 25))],wE 21 26,xE 27 0 21,xE 28 1 21,oV 7 (.alloc [(.v (.bool false)),(.v (.int .u64 0)),(.v (.int .u64 0))]),oN (.store [0,0,0] (.V 7) (.E 27)),vE 8 28] (sr [fV 30 0 3,tE 31 3 30,fV 32 3 2,lE 33 32,cE 34 zn1 [([0,0,0],(.E 31)),([0],(.E 33))],wE 29 34,xE 35 0 29,xE 36 1 29,oV 9 (.alloc [(.v (.bool false)),(.v (.int .u64 0)),(.v (.int .u64 0))]),oN (.store [0,0,0] (.V 9) (.E 35)),vE 10 36] (.seq (.regD [(tV 37 3 7,0,0),(tV 38 3 9,0,1),(mV 39 8,0,0),(wE 40 39,0,0),(gE 41 40 .true (.mv (.V 10)),0,0),(pF 42 40 41,0,0),(oN (.store [0,0,0] (.V 4) (.E 37)),0,0),(oN (.store [0,0,0] (.V 5) (.E 38)),0,0),(vE 6 42,0,0)]) .ret))))
def z6o:IC := sr [bV 2 0,bV 3 1,f0 4] (sr [fV 7 0 2,lE 8 7,wE 9 8,gE 10 9 .true (.load true 3 (.V 2)),gE 11 9 .true (.call zjy [([0,0,0],(.E 10))]),gE 12 9 .true (.un .not (.E 11)),pF 13 9 12,vE 5 13] (sr [fV 14 0 3,lE 15 14,wE 16 15,gE 17 16 .true (.load true 3 (.V 3)),gE 18 16 .true (.call zjy [([0,0,0],(.E 17))]),gE 19 16 .true (.un .not (.E 18)),pF 20 16 19,vE 6 20] (.seq (.block 0 (sr [mV 22 5,wE 23 22,gE 24 23 .true (.mv (.V 6)),gE 25 23 .true (.un .not (.E 24)),pF 26 23 25,wE 21 26] (cd 21 (sr [oV 4 (.mv (ki (-1)))] .ret) (sr [mV 28 6,wE 29 28,gE 30 29 .true (.mv (.V 5)),gE 31 29 .true (.un .not (.E 30)),pF 32 29 31,wE 27 32] (cd 27 (sr [oV 4 (.mv (ki 1))] .ret) (sr [mV 34 5,wE 33 34] (cd 33 (sr [tV 35 3 3,tV 36 3 2,cE 37 zly [([0,0,0],(.E 35)),([0,0,0],(.E 36))],vE 4 37] .ret) .skip))))))) (sr [tV 38 3 2,tV 39 3 3,cE 40 zly [([0,0,0],(.E 38)),([0,0,0],(.E 39))],vE 4 40] .ret))))
def z6q:IC := sr [fF 2] (sr [mV 3 0,mV 4 0,bE 5 .neq 3 4,vE 2 5] .ret)
def z6s:IC := sr [oV 4 (.alloc [(.v (.bool false)),(.v (.int .u64 0)),(.v (.int .u64 0)),iv 0]),fF 5] (sr [mV 6 0,mV 7 0,cE 8 zs3 [([0],(.E 6)),([0],(.E 7))],mV 9 1,cE 10 znz [([0,0,0],(.E 8)),([0],(.E 9))],xE 11 0 10,xE 12 1 10,oN (.store [0,0,0,0] (.V 4) (.E 11)),vE 5 12] .ret)
def y0i:List Nat:=[0,1,2,3,4,5,6,7,8,10,11,12,14]
def zke:IC := sr [bV 2 0,bV 3 1,oV 4 (.alloc [(.v (.bool false)),(.v (.int .u64 0)),(.v (.int .u64 0))]),fF 5] (.seq (sr [tV 15 3 2,cE 16 zht [([0,0,0],(.E 15))],uE 17 16,wE 18 17,gE 19 18 .false (.load true 3 (.V 3)),gE 20 18 .false (.call zht [([0,0,0],(.E 19))]),gE 21 18 .false (.un .not (.E 20)),pT 22 18 21] (cd 22 (sr [oE 23 (.build [(.v (.bool false)),(.v (.int .u64 0)),(.v (.int .u64 0))] []),oN (.store [0,0,0] (.V 4) (.E 23)),fF 5] .ret) .skip)) (.seq (sr [fV 24 0 2,lE 25 24,fV 26 0 3,lE 27 26,oE 28 (.eqb true [.b] (.E 25) (.E 27))] (cd 28 (.seq (sr [tV 29 3 2,tV 30 3 3,cE 31 zlx [([0,0,0],(.E 29)),([0,0,0],(.E 30))],kE 32 .lss 31 0] (cd 32 (.reg [tV 33 3 3,tV 34 3 2,oN (.store [0,0,0] (.V 2) (.E 33)),oN (.store [0,0,0] (.V 3) (.E 34))]) .skip)) (sr [fV 36 2 2,lE 37 36,fV 38 2 3,lE 39 38,cE 40 zlz [([0],(.E 37)),([0],(.E 39)),([0],(.C (.v (.int .u64 0))))],wE 35 40,xE 41 0 35,xE 42 1 35,vE 6 41,vE 7 42] (sr [fV 44 1 2,lE 45 44,fV 46 1 3,lE 47 46,mV 48 7,cE 49 zlz [([0],(.E 45)),([0],(.E 47)),([0],(.E 48))],wE 43 49,xE 50 0 43,xE 51 1 43,vE 8 50,wE 9 51] (sr [fV 52 0 2,lE 53 52,mV 54 8,mV 55 6,cE 56 zhd [([0],(.E 53)),([0],(.E 54)),([0],(.E 55))],oN (.store [0,0,0] (.V 4) (.E 56)),fT 5] .ret)))) .skip)) (sr [fV 58 2 2,lE 59 58,fV 60 2 3,lE 61 60,cE 62 zjz [([0],(.E 59)),([0],(.E 61)),([0],(.C (.v (.int .u64 0))))],wE 57 62,xE 63 0 57,xE 64 1 57,vE 10 63,vE 11 64] (sr [fV 66 1 2,lE 67 66,fV 68 1 3,lE 69 68,mV 70 11,cE 71 zjz [([0],(.E 67)),([0],(.E 69)),([0],(.E 70))],wE 65 71,xE 72 0 65,xE 73 1 65,vE 12 72,wE 13 73] (sr [fV 74 0 2,lE 75 74,mV 76 12,mV 77 10,cE 78 zhd [([0],(.E 75)),([0],(.E 76)),([0],(.E 77))],oV 14 (.alloc [(.v (.bool false)),(.v (.int .u64 0)),(.v (.int .u64 0))]),oN (.store [0,0,0] (.V 14) (.E 78))] (.seq (sr [tV 79 3 14,cE 80 zht [([0,0,0],(.E 79))],uE 81 80] (cd 81 (sr [oE 82 (.build [(.v (.bool false)),(.v (.int .u64 0)),(.v (.int .u64 0))] []),oN (.store [0,0,0] (.V 4) (.E 82)),fF 5] .ret) .skip)) (sr [tV 83 3 14,oN (.store [0,0,0] (.V 4) (.E 83)),fT 5] .ret)))))))
def zkf:List RV:=[.cell [0,0,0] 4 true,.tmp [0] 5]
def z6u:IC := sr [bV 2 0,oV 4 (.alloc [(.v (.bool false)),(.v (.int .u64 0)),(.v (.int .u64 0)),iv 0]),fF 5] (sr [tV 7 3 2,mV 8 1,oE 9 (.build [(.v (.bool false)),(.v (.int .u64 0)),(.v (.int .u64 0)),iv 0] [(0,3,(.E 7)),(3,1,(.E 8))]),oV 6 (.alloc [(.v (.bool false)),(.v (.int .u64 0)),(.v (.int .u64 0)),iv 0]),oN (.store [0,0,0,0] (.V 6) (.E 9))] (.seq (sr [tV 10 4 6,cE 11 zlw [([0,0,0,0],(.E 10))],uE 12 11] (cd 12 (sr [oE 13 (.build [(.v (.bool false)),(.v (.int .u64 0)),(.v (.int .u64 0)),iv 0] []),oN (.store [0,0,0,0] (.V 4) (.E 13)),fF 5] .ret) .skip)) (sr [tV 14 4 6,oN (.store [0,0,0,0] (.V 4) (.E 14)),fT 5] .ret)))
def z6w:IC := sr [bV 1 0,fF 2] (sr [fV 3 0 1,tE 4 3 3,cE 5 zht [([0,0,0],(.E 4))],wE 6 5,gE 7 6 .true (.faddr 3 (.V 1)),gE 8 6 .true (.load false 1 (.E 7)),gE 9 6 .true (.call zbt [([0],(.E 8)),([0],(ki 1)),([0],(ki 1000000))]),pF 10 6 9,vE 2 10] .ret)
def zhv:IC := sr [bV 2 0,oV 4 (.alloc [(.v (.bool false)),(.v (.int .u64 0)),(.v (.int .u64 0))]),fF 5] (.seq (sr [tV 13 3 2,cE 14 zht [([0,0,0],(.E 13))],uE 15 14] (cd 15 (sr [oE 16 (.build [(.v (.bool false)),(.v (.int .u64 0)),(.v (.int .u64 0))] []),oN (.store [0,0,0] (.V 4) (.E 16)),fF 5] .ret) .skip)) (sr [mV 17 1,cE 18 zl0 [([0],(.E 17))],vE 6 18] (sr [fV 20 1 2,lE 21 20,mV 22 6,cE 23 zl1 [([0],(.E 21)),([0],(.E 22))],wE 19 23,xE 24 0 19,xE 25 1 19,vE 7 24,vE 8 25] (sr [fV 27 2 2,lE 28 27,mV 29 6,cE 30 zl1 [([0],(.E 28)),([0],(.E 29))],wE 26 30,xE 31 0 26,xE 32 1 26,vE 9 31,vE 10 32] (sr [mV 34 8,mV 35 9,cE 36 zjz [([0],(.E 34)),([0],(.E 35)),([0],(.C (.v (.int .u64 0))))],wE 33 36,xE 37 0 33,xE 38 1 33,vE 8 37,vE 11 38] (sr [fV 39 0 2,lE 40 39,mV 41 1,kE 42 .lss 41 0,oE 43 (.eqb true [.b] (.E 40) (.E 42)),mV 44 8,mV 45 10,cE 46 zhd [([0],(.E 43)),([0],(.E 44)),([0],(.E 45))],oV 12 (.alloc [(.v (.bool false)),(.v (.int .u64 0)),(.v (.int .u64 0))]),oN (.store [0,0,0] (.V 12) (.E 46))] (.seq (sr [mV 47 7,oE 48 (.bin .gtr (.E 47) (.C (.v (.int .u64 0)))),wE 49 48,gE 50 49 .false (.mv (.V 11)),gE 51 49 .false (.bin .gtr (.E 50) (.C (.v (.int .u64 0)))),pT 52 49 51,wE 53 52,gE 54 53 .false (.load true 3 (.V 12)),gE 55 53 .false (.call zht [([0,0,0],(.E 54))]),gE 56 53 .false (.un .not (.E 55)),pT 57 53 56] (cd 57 (sr [oE 58 (.build [(.v (.bool false)),(.v (.int .u64 0)),(.v (.int .u64 0))] []),oN (.store [0,0,0] (.V 4) (.E 58)),fF 5] .ret) .skip)) (sr [tV 59 3 12,oN (.store [0,0,0] (.V 4) (.E 59)),fT 5] .ret))))))))
def zt4:IC := sr [oV 6 (.alloc [(.v (.bool false)),(.v (.int .u64 0)),(.v (.int .u64 0))])] (sr [mV 7 0,wE 8 7,gE 9 8 .true (.mv (.V 1)),gE 10 8 .true (.bin .gtr (.E 9) (.C (.v (.int .u64 0)))),gE 11 8 .true (.mv (.E 10)),gE 12 11 .false (.mv (.V 2)),gE 13 11 .false (.bin .gtr (.E 12) (.C (.v (.int .u64 0)))),gE 14 8 .true (.pick (.E 11) (kb true) (.E 13)),pF 15 8 14,mV 16 1,mV 17 2,oE 18 (.build [(.v (.bool false)),(.v (.int .u64 0)),(.v (.int .u64 0))] [(0,1,(.E 15)),(1,1,(.E 16)),(2,1,(.E 17))]),oN (.store [0,0,0] (.V 6) (.E 18))] .ret)
def zt5:List RV:=[.cell [0,0,0] 6 true]
def z6y:IC := sr [bV 2 0,bV 3 1,f0 4] (.seq (.regD [(fV 5 1 2,0,0),(lE 6 5,0,0),(fV 7 1 3,0,0),(lE 8 7,0,0),(cE 9 zn2 [([0],(.E 6)),([0],(.E 8))],0,0),(fV 10 2 2,1,0),(lE 11 10,1,0),(fV 12 2 3,1,0),(lE 13 12,1,0),(cE 14 zn2 [([0],(.E 11)),([0],(.E 13))],0,0),(oE 15 (.bslice 2 1 [iv 0] [(0,(.E 9)),(1,(.E 14))]),0,0),(cE 16 znv [([1],(.E 15))],0,0),(vE 4 16,0,0)]) .ret)
def z60:IC := sr [oV 4 (.alloc [(.v (.bool false)),(.v (.int .u64 0)),(.v (.int .u64 0)),iv 0]),fF 5] (sr [mV 7 0,mV 8 0,cE 9 zs4 [([0],(.E 7)),([0],(.E 8))],mV 10 1,oE 11 (.build [(.v (.bool false)),(.v (.int .u64 0)),(.v (.int .u64 0)),iv 0] [(0,3,(.E 9)),(3,1,(.E 10))]),oV 6 (.alloc [(.v (.bool false)),(.v (.int .u64 0)),(.v (.int .u64 0)),iv 0]),oN (.store [0,0,0,0] (.V 6) (.E 11))] (.seq (sr [tV 12 4 6,cE 13 zjx [([0,0,0,0],(.E 12))],uE 14 13] (cd 14 (sr [oE 15 (.build [(.v (.bool false)),(.v (.int .u64 0)),(.v (.int .u64 0)),iv 0] []),oN (.store [0,0,0,0] (.V 4) (.E 15)),fF 5] .ret) .skip)) (sr [tV 16 4 6,oN (.store [0,0,0,0] (.V 4) (.E 16)),fT 5] .ret)))
def zf0:IC := sr [bV 2 0,bV 3 1,oV 4 (.alloc [(.v (.bool false)),(.v (.int .u64 0)),(.v (.int .u64 0))]),fF 5] (.seq (sr [tV 10 3 2,cE 11 zhu [([0,0,0],(.E 10))],uE 12 11,wE 13 12,gE 14 13 .false (.load true 3 (.V 3)),gE 15 13 .false (.call zhu [([0,0,0],(.E 14))]),gE 16 13 .false (.un .not (.E 15)),pT 17 13 16] (cd 17 (sr [oE 18 (.build [(.v (.bool false)),(.v (.int .u64 0)),(.v (.int .u64 0))] []),oN (.store [0,0,0] (.V 4) (.E 18)),fF 5] .ret) .skip)) (.seq (sr [fV 19 0 2,lE 20 19,fV 21 0 3,lE 22 21,oE 23 (.eqb false [.b] (.E 20) (.E 22))] (cd 23 (sr [fV 24 0 2,lE 25 24,fV 26 1 2,lE 27 26,fV 28 1 3,lE 29 28,bE 30 .add 27 29,fV 31 2 2,lE 32 31,fV 33 2 3,lE 34 33,bE 35 .add 32 34,oE 36 (.build [(.v (.bool false)),(.v (.int .u64 0)),(.v (.int .u64 0))] [(0,1,(.E 25)),(1,1,(.E 30)),(2,1,(.E 35))]),oV 6 (.alloc [(.v (.bool false)),(.v (.int .u64 0)),(.v (.int .u64 0))]),oN (.store [0,0,0] (.V 6) (.E 36))] (.seq (sr [fV 37 2 6,lE 38 37,fV 39 2 2,lE 40 39,bE 41 .lss 38 40] (cd 41 (.reg [fV 42 1 6,lE 43 42,oE 44 (.bin .add (.E 43) (.C (.v (.int .u64 1)))),fV 45 1 6,oN (.store [0] (.E 45) (.E 44))]) .skip)) (.seq (sr [tV 46 3 6,cE 47 zhu [([0,0,0],(.E 46))],uE 48 47] (cd 48 (sr [oE 49 (.build [(.v (.bool false)),(.v (.int .u64 0)),(.v (.int .u64 0))] []),oN (.store [0,0,0] (.V 4) (.E 49)),fF 5] .ret) .skip)) (sr [tV 50 3 6,oN (.store [0,0,0] (.V 4) (.E 50)),fT 5] .ret)))) .skip)) (sr [tV 51 3 2,oV 7 (.alloc [(.v (.bool false)),(.v (.int .u64 0)),(.v (.int .u64 0))]),oN (.store [0,0,0] (.V 7) (.E 51))] (sr [tV 52 3 3,oV 8 (.alloc [(.v (.bool false)),(.v (.int .u64 0)),(.v (.int .u64 0))]),oN (.store [0,0,0] (.V 8) (.E 52))] (.seq (sr [tV 53 3 2,tV 54 3 3,cE 55 zly [([0,0,0],(.E 53)),([0,0,0],(.E 54))],kE 56 .lss 55 0] (cd 56 (sr [tV 57 3 3,oN (.store [0,0,0] (.V 7) (.E 57))] (.reg [tV 58 3 2,oN (.store [0,0,0] (.V 8) (.E 58))])) .skip)) (sr [fV 59 0 7,lE 60 59,fV 61 1 7,lE 62 61,fV 63 1 8,lE 64 63,bE 65 .sub 62 64,fV 66 2 7,lE 67 66,fV 68 2 8,lE 69 68,bE 70 .sub 67 69,oE 71 (.build [(.v (.bool false)),(.v (.int .u64 0)),(.v (.int .u64 0))] [(0,1,(.E 60)),(1,1,(.E 65)),(2,1,(.E 70))]),oV 9 (.alloc [(.v (.bool false)),(.v (.int .u64 0)),(.v (.int .u64 0))]),oN (.store [0,0,0] (.V 9) (.E 71))] (.seq (sr [fV 72 2 7,lE 73 72,fV 74 2 8,lE 75 74,bE 76 .lss 73 75] (cd 76 (.reg [fV 77 1 9,lE 78 77,oE 79 (.bin .sub (.E 78) (.C (.v (.int .u64 1)))),fV 80 1 9,oN (.store [0] (.E 80) (.E 79))]) .skip)) (.seq (sr [tV 81 3 9,cE 82 zjy [([0,0,0],(.E 81))]] (cd 82 (.reg [fV 83 0 9,oN (.store [0] (.E 83) (kb false))]) .skip)) (sr [tV 84 3 9,oN (.store [0,0,0] (.V 4) (.E 84)),fT 5] .ret)))))))))
def z62:IC := sr [bV 1 0,fF 2] (sr [fV 3 0 1,tE 4 3 3,cE 5 zhu [([0,0,0],(.E 4))],wE 6 5,gE 7 6 .true (.faddr 3 (.V 1)),gE 8 6 .true (.load false 1 (.E 7)),gE 9 6 .true (.call zbs [([0],(.E 8)),([0],(ki 1)),([0],(ki 1000000))]),pF 10 6 9,vE 2 10] .ret)
def zhx:IC := sr [bV 2 0,oV 4 (.alloc [(.v (.bool false)),(.v (.int .u64 0)),(.v (.int .u64 0))]),fF 5] (.seq (sr [tV 13 3 2,cE 14 zhu [([0,0,0],(.E 13))],uE 15 14] (cd 15 (sr [oE 16 (.build [(.v (.bool false)),(.v (.int .u64 0)),(.v (.int .u64 0))] []),oN (.store [0,0,0] (.V 4) (.E 16)),fF 5] .ret) .skip)) (sr [mV 17 1,cE 18 zl2 [([0],(.E 17))],vE 6 18] (sr [fV 20 1 2,lE 21 20,mV 22 6,cE 23 zl3 [([0],(.E 21)),([0],(.E 22))],wE 19 23,xE 24 0 19,xE 25 1 19,vE 7 24,vE 8 25] (sr [fV 27 2 2,lE 28 27,mV 29 6,cE 30 zl3 [([0],(.E 28)),([0],(.E 29))],wE 26 30,xE 31 0 26,xE 32 1 26,vE 9 31,vE 10 32] (sr [mV 33 8,mV 34 9,bE 35 .add 33 34,vE 11 35] (sr [fV 36 0 2,lE 37 36,mV 38 1,kE 39 .lss 38 0,oE 40 (.eqb true [.b] (.E 37) (.E 39)),mV 41 11,mV 42 10,oE 43 (.build [(.v (.bool false)),(.v (.int .u64 0)),(.v (.int .u64 0))] [(0,1,(.E 40)),(1,1,(.E 41)),(2,1,(.E 42))]),oV 12 (.alloc [(.v (.bool false)),(.v (.int .u64 0)),(.v (.int .u64 0))]),oN (.store [0,0,0] (.V 12) (.E 43))] (.seq (sr [tV 44 3 12,cE 45 zjy [([0,0,0],(.E 44))]] (cd 45 (.reg [fV 46 0 12,oN (.store [0] (.E 46) (kb false))]) .skip)) (.seq (sr [mV 47 7,oE 48 (.bin .gtr (.E 47) (.C (.v (.int .u64 0)))),wE 49 48,gE 50 49 .false (.mv (.V 11)),gE 51 49 .false (.mv (.V 8)),gE 52 49 .false (.bin .lss (.E 50) (.E 51)),pT 53 49 52,wE 54 53,gE 55 54 .false (.load true 3 (.V 12)),gE 56 54 .false (.call zhu [([0,0,0],(.E 55))]),gE 57 54 .false (.un .not (.E 56)),pT 58 54 57] (cd 58 (sr [oE 59 (.build [(.v (.bool false)),(.v (.int .u64 0)),(.v (.int .u64 0))] []),oN (.store [0,0,0] (.V 4) (.E 59)),fF 5] .ret) .skip)) (sr [tV 60 3 12,oN (.store [0,0,0] (.V 4) (.E 60)),fT 5] .ret)))))))))
def zxe:IC := sr [bV 1 0,fF 2] (sr [fV 3 1 1,lE 4 3,oE 5 (.bin .eql (.E 4) (.C (.v (.int .u64 0)))),wE 6 5,gE 7 6 .true (.faddr 2 (.V 1)),gE 8 6 .true (.load false 1 (.E 7)),gE 9 6 .true (.bin .eql (.E 8) (.C (.v (.int .u64 0)))),pF 10 6 9,vE 2 10] .ret)
def zma:IC := sr [bV 2 0,bV 3 1,f0 4] (.seq (.block 0 (sr [fV 6 1 2,lE 7 6,fV 8 1 3,lE 9 8,bE 10 .lss 7 9,wE 11 10,gE 12 11 .false (.faddr 1 (.V 2)),gE 13 11 .false (.load false 1 (.E 12)),gE 14 11 .false (.faddr 1 (.V 3)),gE 15 11 .false (.load false 1 (.E 14)),gE 16 11 .false (.bin .eql (.E 13) (.E 15)),gE 17 11 .false (.mv (.E 16)),gE 18 17 .true (.faddr 2 (.V 2)),gE 19 17 .true (.load false 1 (.E 18)),gE 20 17 .true (.faddr 2 (.V 3)),gE 21 17 .true (.load false 1 (.E 20)),gE 22 17 .true (.bin .lss (.E 19) (.E 21)),gE 23 11 .false (.pick (.E 17) (.E 22) (kb false)),pT 24 11 23,wE 5 24] (cd 5 (sr [oV 4 (.mv (ki (-1)))] .ret) (sr [fV 26 1 2,lE 27 26,fV 28 1 3,lE 29 28,bE 30 .gtr 27 29,wE 31 30,gE 32 31 .false (.faddr 2 (.V 2)),gE 33 31 .false (.load false 1 (.E 32)),gE 34 31 .false (.faddr 2 (.V 3)),gE 35 31 .false (.load false 1 (.E 34)),gE 36 31 .false (.bin .gtr (.E 33) (.E 35)),pT 37 31 36,wE 25 37] (cd 25 (sr [oV 4 (.mv (ki 1))] .ret) .skip))))) (sr [f0 4] .ret))
def z64:IC := sr [oV 4 (.alloc [(.v (.bool false)),(.v (.int .u64 0)),(.v (.int .u64 0))])] (sr [mV 8 0,cE 9 zl0 [([0],(.E 8))],mV 10 1,cE 11 zl0 [([0],(.E 10))],cE 12 zl1 [([0],(.E 9)),([0],(.E 11))],wE 7 12,xE 13 0 7,xE 14 1 7,vE 5 13,vE 6 14] (sr [mV 15 0,kE 16 .lss 15 0,mV 17 1,kE 18 .lss 17 0,oE 19 (.eqb true [.b] (.E 16) (.E 18)),mV 20 5,mV 21 6,cE 22 zhd [([0],(.E 19)),([0],(.E 20)),([0],(.E 21))],oN (.store [0,0,0] (.V 4) (.E 22))] .ret))
def z65:List RV:=[.cell [0,0,0] 4 true]
def zoh:IC := sr [bV 1 0,fF 2] (sr [fV 3 1 1,lE 4 3,oE 5 (.bin .lss (.E 4) (.C (.v (.int .u64 9223372036854775808)))),wE 6 5,gE 7 6 .true (.faddr 0 (.V 1)),gE 8 6 .true (.load false 1 (.E 7)),gE 9 6 .true (.un .not (.E 8)),gE 10 6 .true (.mv (.E 9)),gE 11 10 .false (.faddr 1 (.V 1)),gE 12 10 .false (.load false 1 (.E 11)),gE 13 10 .false (.bin .gtr (.E 12) (.C (.v (.int .u64 0)))),gE 14 6 .true (.pick (.E 10) (kb true) (.E 13)),gE 15 6 .true (.mv (.E 14)),gE 16 15 .false (.faddr 2 (.V 1)),gE 17 15 .false (.load false 1 (.E 16)),gE 18 15 .false (.bin .gtr (.E 17) (.C (.v (.int .u64 0)))),gE 19 6 .true (.pick (.E 15) (kb true) (.E 18)),pF 20 6 19,vE 2 20] .ret)
def z66:IC := sr [oV 2 (.mv (.C (.v (.int .u64 0))))] (.seq (sr [mV 3 0,kE 4 .lss 3 0] (cd 4 (sr [mV 5 0,oE 6 (.convI .u64 (.E 5)),oE 7 (.un .neg (.E 6)),vE 2 7] .ret) .skip)) (sr [mV 8 0,oE 9 (.convI .u64 (.E 8)),vE 2 9] .ret))
def y0x:List Nat:=[0,1,4,5,6,7,8,9,10,11,12,13]
def z68:IC := sr [oV 4 (.mv (.C (.v (.int .u64 0)))),oV 5 (.mv (.C (.v (.int .u64 0))))] (sr [mV 14 0,oE 15 (.bin .and (.E 14) (.C (.v (.int .u64 4294967295)))),vE 6 15] (sr [mV 16 0,oE 17 (.bin .shr (.E 16) (.C (.v (.int .u64 32)))),vE 7 17] (sr [mV 18 1,oE 19 (.bin .and (.E 18) (.C (.v (.int .u64 4294967295)))),vE 8 19] (sr [mV 20 1,oE 21 (.bin .shr (.E 20) (.C (.v (.int .u64 32)))),vE 9 21] (sr [mV 22 6,mV 23 8,bE 24 .mul 22 23,vE 10 24] (sr [mV 25 7,mV 26 8,bE 27 .mul 25 26,mV 28 10,oE 29 (.bin .shr (.E 28) (.C (.v (.int .u64 32)))),bE 30 .add 27 29,vE 11 30] (sr [mV 31 11,oE 32 (.bin .and (.E 31) (.C (.v (.int .u64 4294967295)))),vE 12 32] (sr [mV 33 11,oE 34 (.bin .shr (.E 33) (.C (.v (.int .u64 32)))),vE 13 34] (sr [mV 35 12,mV 36 6,mV 37 9,bE 38 .mul 36 37,bE 39 .add 35 38,vE 12 39] (sr [mV 40 7,mV 41 9,bE 42 .mul 40 41,mV 43 13,bE 44 .add 42 43,mV 45 12,oE 46 (.bin .shr (.E 45) (.C (.v (.int .u64 32)))),bE 47 .add 44 46,vE 4 47] (sr [mV 48 0,mV 49 1,bE 50 .mul 48 49,vE 5 50] .ret)))))))))))
def zt6:IC := sr [f0 4] (sr [mV 7 0,cE 8 zn3 [([0],(.E 7))],vE 5 8] (sr [mV 9 1,cE 10 zn3 [([0],(.E 9))],vE 6 10] (.seq (sr [mV 11 5] (cd 11 (.seq (sr [mV 12 6] (cd 12 (sr [f0 4] .ret) .skip)) (sr [oV 4 (.mv (ki (-1)))] .ret)) .skip)) (.seq (sr [mV 13 6] (cd 13 (sr [oV 4 (.mv (ki 1))] .ret) .skip)) (.seq (sr [mV 14 0,mV 15 1,bE 16 .lss 14 15] (cd 16 (sr [oV 4 (.mv (ki (-1)))] .ret) .skip)) (.seq (sr [mV 17 0,mV 18 1,bE 19 .gtr 17 18] (cd 19 (sr [oV 4 (.mv (ki 1))] .ret) .skip)) (sr [f0 4] .ret)))))))
def z7a:IC := sr [oV 4 (.alloc [(.v (.bool false)),(.v (.int .u64 0)),(.v (.int .u64 0))])] (sr [mV 8 0,cE 9 zl2 [([0],(.E 8))],mV 10 1,cE 11 zl2 [([0],(.E 10))],cE 12 zl3 [([0],(.E 9)),([0],(.E 11))],wE 7 12,xE 13 0 7,xE 14 1 7,vE 5 13,vE 6 14] (sr [mV 15 0,kE 16 .lss 15 0,mV 17 1,kE 18 .lss 17 0,oE 19 (.eqb true [.b] (.E 16) (.E 18)),wE 20 19,gE 21 20 .true (.mv (.V 0)),gE 22 20 .true (.bin .neq (.E 21) (ki 0)),pF 23 20 22,wE 24 23,gE 25 24 .true (.mv (.V 1)),gE 26 24 .true (.bin .neq (.E 25) (ki 0)),pF 27 24 26,mV 28 5,mV 29 6,oE 30 (.build [(.v (.bool false)),(.v (.int .u64 0)),(.v (.int .u64 0))] [(0,1,(.E 27)),(1,1,(.E 28)),(2,1,(.E 29))]),oN (.store [0,0,0] (.V 4) (.E 30))] .ret))
def zoj:IC := sr [bV 1 0,fF 2] (sr [fV 3 1 1,lE 4 3,oE 5 (.bin .lss (.E 4) (.C (.v (.int .u64 9223372036854775808)))),wE 6 5,gE 7 6 .true (.faddr 0 (.V 1)),gE 8 6 .true (.load false 1 (.E 7)),gE 9 6 .true (.un .not (.E 8)),gE 10 6 .true (.mv (.E 9)),gE 11 10 .false (.faddr 1 (.V 1)),gE 12 10 .false (.load false 1 (.E 11)),gE 13 10 .false (.bin .gtr (.E 12) (.C (.v (.int .u64 0)))),gE 14 6 .true (.pick (.E 10) (kb true) (.E 13)),gE 15 6 .true (.mv (.E 14)),gE 16 15 .false (.faddr 2 (.V 1)),gE 17 15 .false (.load false 1 (.E 16)),gE 18 15 .false (.bin .gtr (.E 17) (.C (.v (.int .u64 0)))),gE 19 6 .true (.pick (.E 15) (kb true) (.E 18)),pF 20 6 19,vE 2 20] .ret)
def z7c:IC := sr [oV 2 (.mv (.C (.v (.int .u64 0))))] (.seq (sr [mV 3 0,kE 4 .lss 3 0] (cd 4 (sr [mV 5 0,kE 6 .add 5 1,oE 7 (.un .neg (.E 6)),oE 8 (.convI .u64 (.E 7)),oE 9 (.bin .add (.E 8) (.C (.v (.int .u64 1)))),vE 2 9] .ret) .skip)) (sr [mV 10 0,oE 11 (.convI .u64 (.E 10)),vE 2 11] .ret))
def y02:List Nat:=[0,1,4,5,6,7,8,9,10,11,12]
def z7e:IC := sr [oV 4 (.mv (.C (.v (.int .u64 0)))),oV 5 (.mv (.C (.v (.int .u64 0))))] (sr [mV 13 0,oE 14 (.bin .shr (.E 13) (.C (.v (.int .u64 32)))),vE 6 14] (sr [mV 15 0,oE 16 (.bin .and (.E 15) (.C (.v (.int .u64 4294967295)))),vE 7 16] (sr [mV 17 1,oE 18 (.bin .shr (.E 17) (.C (.v (.int .u64 32)))),vE 8 18] (sr [mV 19 1,oE 20 (.bin .and (.E 19) (.C (.v (.int .u64 4294967295)))),vE 9 20] (sr [mV 21 7,mV 22 9,bE 23 .mul 21 22,vE 10 23] (sr [mV 24 6,mV 25 9,bE 26 .mul 24 25,mV 27 10,oE 28 (.bin .shr (.E 27) (.C (.v (.int .u64 32)))),bE 29 .add 26 28,vE 11 29] (sr [mV 30 7,mV 31 8,bE 32 .mul 30 31,mV 33 11,oE 34 (.bin .and (.E 33) (.C (.v (.int .u64 4294967295)))),bE 35 .add 32 34,vE 12 35] (sr [mV 36 6,mV 37 8,bE 38 .mul 36 37,mV 39 11,oE 40 (.bin .shr (.E 39) (.C (.v (.int .u64 32)))),bE 41 .add 38 40,mV 42 12,oE 43 (.bin .shr (.E 42) (.C (.v (.int .u64 32)))),bE 44 .add 41 43,mV 45 12,oE 46 (.bin .shl (.E 45) (.C (.v (.int .u64 32)))),mV 47 10,oE 48 (.bin .and (.E 47) (.C (.v (.int .u64 4294967295)))),bE 49 .add 46 48,vE 4 44,vE 5 49] .ret))))))))
def z7g:IC := sr [fF 2] (sr [mV 3 0,mV 4 0,bE 5 .neq 3 4,vE 2 5] .ret)
def tbl:List (Nat×Fun):=[
 (zvb,zaa zs5 zs6 []),
 (zmu,zaa zvc zvd []),
 (zk7,zaa zj0 zj1 []),
 (zjm,zaa zyu zj1 []),
 (zpq,zaa zs9 zta []),
 (zpr,zaa zyw zyx []),
 (zps,zaa zyy zs6 []),
 (zpt,zaa zj2 zj3 []),
 (zpu,zaa zj4 zj3 []),
 (zpv,zaa zy0 zs6 []),
 (zpw,zaa zl4 zs6 []),
 (zpx,zaa zvf zs6 []),
 (zjn,zaa zy2 zy3 []),
 (zjo,zaa zy4 zy5 []),
 (zk8,zaa zy6 zs6 []),
 (zpy,zaa zy8 zs6 []),
 (zpz,zaa zza zs6 []),
 (zp0,zaa zzc zs6 [true]),
 (zp1,zaa zze zs6 [true]),
 (zp2,zaa zzg zs6 [true]),
 (zmv,zaa zzi zs6 []),
 (zp3,zaa ztd zte []),
 (zbs,zaa zzk zzl []),
 (zmw,zaa ztf zj1 []),
 (zmx,zaa zzm zs6 []),
 (zk9,zaa zzo zj1 []),
 (zp4,zaa zzq zzr []),
 (zp5,zaa zzs zzt []),
 (zp6,zaa zzu zzt []),
 (zla,zaa zj6 zj1 []),
 (zjp,zaa zzw zj1 []),
 (zp7,.known [] (zhk 1 16)),
 (zp8,.known [] (zhk 1 8)),
 (zp9,zaa zzy zzr []),
 (zqa,zaa zz0 zyx []),
 (zqb,zaa zz2 zzr []),
 (zqc,zaa zvh zs6 []),
 (zqd,zaa zvj zs6 []),
 (zqe,zaa zvm zvn []),
 (zmy,zaa zth zti []),
 (zbt,zaa zz5 zzl []),
 (zqf,zaa zz7 zj1 []),
 (zis,zaa zvo zs6 []),
 (zqg,zaa zz9 zj1 []),
 (zqh,zaa z0b zj1 []),
 (zjq,zaa zj8 zj9 []),
 (zlb,zaa z0d zj9 []),
 (zqi,zaa z0f zs6 []),
 (zqj,zaa z0h zs6 []),
 (zmz,zaa ztj zti []),
 (zqk,zaa zvq zvr []),
 (zql,zaa zvs zvt []),
 (zqm,zaa z0l z0m []),
 (zqn,zaa z0n zs6 []),
 (zqo,zaa zvu zvr []),
 (zqp,zaa zvw zvt []),
 (zqq,zaa z0p z0m []),
 (zjr,zaa zl6 zj9 []),
 (zqr,zaa z0r zs6 []),
 (zqs,zaa z0t zs6 []),
 (zqt,zaa z0v zs6 []),
 (zlc,zaa z0x zs6 []),
 (zqu,zaa z0z zzr []),
 (zqv,zaa z01 zzr []),
 (zld,zaa z03 zzr []),
 (zjs,zaa z05 zs6 []),
 (zqw,zaa z07 zs6 []),
 (zqx,zaa z09 zs6 []),
 (zqy,zaa z1b zs6 []),
 (zqz,zaa z1d zs6 [true]),
 (zq0,zaa z1f zs6 [true]),
 (zjt,zaa z1h zs6 [true]),
 (zq1,zaa z1j zs6 [true]),
 (zq2,zaa z1l zs6 []),
 (zq3,zaa z1n zs6 []),
 (zq4,zaa zv0 zvn []),
 (zle,zaa z1p zj1 []),
 (zq5,zaa z1r zs6 []),
 (zm0,zaa z1t z1u []),
 (zm1,zaa z1v zj1 []),
 (zm2,zaa z1x z1y []),
 (zlf,zaa z1z zj9 []),
 (zm3,zaa z13 z1y []),
 (zq6,zaa z17 z18 []),
 (zq7,zaa ztl z18 []),
 (zq8,zaa z2a zs6 []),
 (zq9,zaa z2c zj1 []),
 (zra,zaa z2e zs6 []),
 (zm4,zaa zv3 zs6 []),
 (zm5,zaa z2g zj1 []),
 (zrb,zaa z2i z18 []),
 (zm6,zaa z2k zs6 []),
 (zrc,zaa z2m z18 []),
 (zrd,zaa ztn z18 []),
 (zre,zaa z2p zs6 []),
 (zlg,zaa zkc zj9 []),
 (zm7,zaa zn5 zzl []),
 (zrf,zaa z2r zzr []),
 (zju,zaa zv6 zj1 []),
 (zrg,zaa z2t z2u []),
 (zrh,zaa ztp ztq []),
 (zlh,zaa zv8 zv9 []),
 (zri,zaa z2v z2w []),
 (zm8,zaa z2x z2y []),
 (zrj,zaa ztr zts []),
 (zm9,zaa zwa zs6 []),
 (zrk,zaa z2z z20 []),
 (zrl,zaa z21 zzr []),
 (zrm,zaa z24 zj9 []),
 (zna,zaa zwd zs6 []),
 (zli,zaa zl8 zj9 []),
 (znb,zaa zn7 zzl []),
 (zrn,zaa z26 zzr []),
 (zro,zaa z29 z2u []),
 (zrp,zaa ztt ztq []),
 (zlj,zaa ztv zv9 []),
 (zrq,zaa z3b z2w []),
 (zrr,zaa z3d z20 []),
 (znc,zaa z3f z2y []),
 (zrs,zaa ztx zts []),
 (znd,zaa zwg zs6 []),
 (zne,zaa z3h zj1 []),
 (zrt,zaa z3j zj9 []),
 (zru,zaa z3l z18 []),
 (zlk,zaa z3n zj1 []),
 (zrv,zaa z3p zs6 []),
 (zjv,zaa zwi zj1 []),
 (zrw,zaa z3r zs6 [true]),
 (zrx,zaa z3t zs6 []),
 (znf,zaa z3v zj1 []),
 (zry,zaa z3x zs6 []),
 (zrz,.known [] (zhk 5 40)),
 (zng,zaa z30 zzr []),
 (zr0,zaa z32 zzr []),
 (zr1,zaa z34 zs6 []),
 (zll,zaa z36 zj1 []),
 (zr2,zaa zwl zzl []),
 (zlm,zaa z38 zs6 []),
 (zr3,zaa z4a zzr []),
 (zr4,.known [true] zo0),
 (znh,zaa zn9 zj1 []),
 (zni,zaa z4c zj1 []),
 (zr5,zaa zwn zwo []),
 (zr6,zaa z4g z4h []),
 (zr7,zaa z4j z4k []),
 (znj,zaa z4l zs6 []),
 (znk,zaa z4n zj1 []),
 (znl,zaa zwp zzl []),
 (zr8,zaa z4p zs6 []),
 (znm,zaa zoc zj1 []),
 (zln,zaa zwr zj1 []),
 (zr9,zaa zwt zwo []),
 (zsa,zaa z4s z4h []),
 (zsb,zaa z4v z4k []),
 (znn,zaa z4x zj1 []),
 (zno,zaa zww zzl []),
 (zsc,zaa z4z zs6 []),
 (zsd,zaa z41 zs6 []),
 (zse,.known [true] zot),
 (zsf,zaa z43 zj1 []),
 (znp,zaa z45 z1u []),
 (zsg,zaa zwy zwz []),
 (znq,zaa z48 zzl []),
 (znr,zaa z5a zzl []),
 (zsh,zaa z5d z5e []),
 (zsi,zaa z5f z5g []),
 (zsj,zaa z5h zj1 []),
 (zsk,zaa zw0 zwz []),
 (zjw,zaa z5j zzl []),
 (zlo,zaa z5l zzl []),
 (zsl,zaa z5o z5e []),
 (zsm,zaa z5q zs6 []),
 (zlp,zaa z5s z5g []),
 (zsn,zaa zw2 zzl []),
 (zso,zaa z5u zs6 []),
 (zlq,zaa z5w z5x []),
 (zns,zaa z5y zj9 []),
 (zsp,zaa z50 zs6 []),
 (zlr,zaa z54 z5g []),
 (zsq,zaa zw4 zzl []),
 (zsr,zaa z56 zs6 []),
 (zls,zaa z58 z5x []),
 (znt,zaa z6a zj9 []),
 (zss,zaa zw6 zs6 []),
 (zst,zaa z6c z6d []),
 (zlu,zaa zw8 z5x []),
 (zsu,zaa zxa z5x []),
 (znu,zaa z6e z6f []),
 (zsv,zaa z6g zs6 []),
 (znv,zaa z6i zj1 []),
 (znw,zaa zt0 zs6 []),
 (zsw,zaa z6k z6d []),
 (zlv,zaa zt2 z5x []),
 (zsx,zaa zxc z5x []),
 (znx,zaa z6m z6f []),
 (zsy,zaa z6o zs6 []),
 (zny,zaa z6q zj1 []),
 (zsz,zaa z6s z5x []),
 (zs0,zaa zke zkf []),
 (znz,zaa z6u z5x []),
 (zlw,zaa z6w zj1 []),
 (zn0,zaa zhv zkf []),
 (zhd,zaa zt4 zt5 []),
 (zlx,zaa z6y zs6 []),
 (zs1,zaa z60 z5x []),
 (zs2,zaa zf0 zkf []),
 (zjx,zaa z62 zj1 []),
 (zn1,zaa zhx zkf []),
 (zjy,zaa zxe zj1 []),
 (zly,zaa zma zs6 []),
 (zs3,zaa z64 z65 []),
 (zht,zaa zoh zj1 []),
 (zlz,.ext zup),
 (zjz,.ext zum),
 (zl0,zaa z66 zj1 []),
 (zl1,zaa z68 zj9 []),
 (zn2,zaa zt6 zs6 []),
 (zs4,zaa z7a z65 []),
 (zhu,zaa zoj zj1 []),
 (zl2,zaa z7c zj1 []),
 (zl3,zaa z7e zj9 []),
 (zn3,zaa z7g zj1 [])]
def T:zcg:=fun f=>(tbl.find? fun q=>q.1 == f).map fun q=>q.2
theorem ygs:T zp7=some (.known [] (zhk 1 16)):=rfl
theorem ygt:T zp8=some (.known [] (zhk 1 8)):=rfl
theorem yjc:T zrz=some (.known [] (zhk 5 40)):=rfl
theorem yjk:T zr4=some (.known [true] zo0):=rfl
theorem yj3:T zse=some (.known [true] zot):=rfl
theorem yll:T zlz=some (.ext zup):=rfl
theorem yaq:T zjz=some (.ext zum):=rfl
@[simp] theorem qja:zad T zvb=[]∧zad T zmu=[]∧zad T zk7=[]∧zad T zjm=[]∧zad T zpq=[]∧zad T zpr=[]∧zad T zps=[]∧zad T zpt=[]∧zad T zpu=[]∧zad T zpv=[]∧zad T zpw=[]∧zad T zpx=[]∧zad T zjn=[]∧zad T zjo=[]∧zad T zk8=[]∧zad T zpy=[]:=⟨rfl,rfl,rfl,rfl,rfl,rfl,rfl,rfl,rfl,rfl,rfl,rfl,rfl,rfl,rfl,rfl⟩
@[simp] theorem qjq:zad T zpz=[]∧zad T zp0=[true]∧zad T zp1=[true]∧zad T zp2=[true]∧zad T zmv=[]∧zad T zp3=[]∧zad T zbs=[]∧zad T zmw=[]∧zad T zmx=[]∧zad T zk9=[]∧zad T zp4=[]∧zad T zp5=[]∧zad T zp6=[]∧zad T zla=[]∧zad T zjp=[]∧zad T zp7=[]:=⟨rfl,rfl,rfl,rfl,rfl,rfl,rfl,rfl,rfl,rfl,rfl,rfl,rfl,rfl,rfl,zxu ygs⟩
@[simp] theorem qj6:zad T zp8=[]∧zad T zp9=[]∧zad T zqa=[]∧zad T zqb=[]∧zad T zqc=[]∧zad T zqd=[]∧zad T zqe=[]∧zad T zmy=[]∧zad T zbt=[]∧zad T zqf=[]∧zad T zis=[]∧zad T zqg=[]∧zad T zqh=[]∧zad T zjq=[]∧zad T zlb=[]∧zad T zqi=[]:=⟨zxu ygt,rfl,rfl,rfl,rfl,rfl,rfl,rfl,rfl,rfl,rfl,rfl,rfl,rfl,rfl,rfl⟩
@[simp] theorem qkm:zad T zqj=[]∧zad T zmz=[]∧zad T zqk=[]∧zad T zql=[]∧zad T zqm=[]∧zad T zqn=[]∧zad T zqo=[]∧zad T zqp=[]∧zad T zqq=[]∧zad T zjr=[]∧zad T zqr=[]∧zad T zqs=[]∧zad T zqt=[]∧zad T zlc=[]∧zad T zqu=[]∧zad T zqv=[]:=⟨rfl,rfl,rfl,rfl,rfl,rfl,rfl,rfl,rfl,rfl,rfl,rfl,rfl,rfl,rfl,rfl⟩
@[simp] theorem qk2:zad T zld=[]∧zad T zjs=[]∧zad T zqw=[]∧zad T zqx=[]∧zad T zqy=[]∧zad T zqz=[true]∧zad T zq0=[true]∧zad T zjt=[true]∧zad T zq1=[true]∧zad T zq2=[]∧zad T zq3=[]∧zad T zq4=[]∧zad T zle=[]∧zad T zq5=[]∧zad T zm0=[]∧zad T zm1=[]:=⟨rfl,rfl,rfl,rfl,rfl,rfl,rfl,rfl,rfl,rfl,rfl,rfl,rfl,rfl,rfl,rfl⟩
@[simp] theorem qli:zad T zm2=[]∧zad T zlf=[]∧zad T zm3=[]∧zad T zq6=[]∧zad T zq7=[]∧zad T zq8=[]∧zad T zq9=[]∧zad T zra=[]∧zad T zm4=[]∧zad T zm5=[]∧zad T zrb=[]∧zad T zm6=[]∧zad T zrc=[]∧zad T zrd=[]∧zad T zre=[]∧zad T zlg=[]:=⟨rfl,rfl,rfl,rfl,rfl,rfl,rfl,rfl,rfl,rfl,rfl,rfl,rfl,rfl,rfl,rfl⟩
@[simp] theorem qly:zad T zm7=[]∧zad T zrf=[]∧zad T zju=[]∧zad T zrg=[]∧zad T zrh=[]∧zad T zlh=[]∧zad T zri=[]∧zad T zm8=[]∧zad T zrj=[]∧zad T zm9=[]∧zad T zrk=[]∧zad T zrl=[]∧zad T zrm=[]∧zad T zna=[]∧zad T zli=[]∧zad T znb=[]:=⟨rfl,rfl,rfl,rfl,rfl,rfl,rfl,rfl,rfl,rfl,rfl,rfl,rfl,rfl,rfl,rfl⟩
@[simp] theorem qme:zad T zrn=[]∧zad T zro=[]∧zad T zrp=[]∧zad T zlj=[]∧zad T zrq=[]∧zad T zrr=[]∧zad T znc=[]∧zad T zrs=[]∧zad T znd=[]∧zad T zne=[]∧zad T zrt=[]∧zad T zru=[]∧zad T zlk=[]∧zad T zrv=[]∧zad T zjv=[]∧zad T zrw=[true]:=⟨rfl,rfl,rfl,rfl,rfl,rfl,rfl,rfl,rfl,rfl,rfl,rfl,rfl,rfl,rfl,rfl⟩
@[simp] theorem qmu:zad T zrx=[]∧zad T znf=[]∧zad T zry=[]∧zad T zrz=[]∧zad T zng=[]∧zad T zr0=[]∧zad T zr1=[]∧zad T zll=[]∧zad T zr2=[]∧zad T zlm=[]∧zad T zr3=[]∧zad T zr4=[true]∧zad T znh=[]∧zad T zni=[]∧zad T zr5=[]∧zad T zr6=[]:=⟨rfl,rfl,rfl,zxu yjc,rfl,rfl,rfl,rfl,rfl,rfl,rfl,zxu yjk,rfl,rfl,rfl,rfl⟩
@[simp] theorem qna:zad T zr7=[]∧zad T znj=[]∧zad T znk=[]∧zad T znl=[]∧zad T zr8=[]∧zad T znm=[]∧zad T zln=[]∧zad T zr9=[]∧zad T zsa=[]∧zad T zsb=[]∧zad T znn=[]∧zad T zno=[]∧zad T zsc=[]∧zad T zsd=[]∧zad T zse=[true]∧zad T zsf=[]:=⟨rfl,rfl,rfl,rfl,rfl,rfl,rfl,rfl,rfl,rfl,rfl,rfl,rfl,rfl,zxu yj3,rfl⟩
@[simp] theorem qnq:zad T znp=[]∧zad T zsg=[]∧zad T znq=[]∧zad T znr=[]∧zad T zsh=[]∧zad T zsi=[]∧zad T zsj=[]∧zad T zsk=[]∧zad T zjw=[]∧zad T zlo=[]∧zad T zsl=[]∧zad T zsm=[]∧zad T zlp=[]∧zad T zsn=[]∧zad T zso=[]∧zad T zlq=[]:=⟨rfl,rfl,rfl,rfl,rfl,rfl,rfl,rfl,rfl,rfl,rfl,rfl,rfl,rfl,rfl,rfl⟩
@[simp] theorem qn6:zad T zns=[]∧zad T zsp=[]∧zad T zlr=[]∧zad T zsq=[]∧zad T zsr=[]∧zad T zls=[]∧zad T znt=[]∧zad T zss=[]∧zad T zst=[]∧zad T zlu=[]∧zad T zsu=[]∧zad T znu=[]∧zad T zsv=[]∧zad T znv=[]∧zad T znw=[]∧zad T zsw=[]:=⟨rfl,rfl,rfl,rfl,rfl,rfl,rfl,rfl,rfl,rfl,rfl,rfl,rfl,rfl,rfl,rfl⟩
@[simp] theorem qom:zad T zlv=[]∧zad T zsx=[]∧zad T znx=[]∧zad T zsy=[]∧zad T zny=[]∧zad T zsz=[]∧zad T zs0=[]∧zad T znz=[]∧zad T zlw=[]∧zad T zn0=[]∧zad T zhd=[]∧zad T zlx=[]∧zad T zs1=[]∧zad T zs2=[]∧zad T zjx=[]∧zad T zn1=[]:=⟨rfl,rfl,rfl,rfl,rfl,rfl,rfl,rfl,rfl,rfl,rfl,rfl,rfl,rfl,rfl,rfl⟩
@[simp] theorem qo2:zad T zjy=[]∧zad T zly=[]∧zad T zs3=[]∧zad T zht=[]∧zad T zlz=[]∧zad T zjz=[]∧zad T zl0=[]∧zad T zl1=[]∧zad T zn2=[]∧zad T zs4=[]∧zad T zhu=[]∧zad T zl2=[]∧zad T zl3=[]∧zad T zn3=[]:=⟨rfl,rfl,rfl,rfl,rfl,rfl,rfl,rfl,rfl,rfl,rfl,rfl,rfl,rfl⟩
end Go.Pe
