/- The compact texts of the functions that the law reaches; no condition. -/
import Derived.Test.YtpcphbbcnmhcnaaGreatK0
set_option linter.all false
namespace Go.Pe
open Go
def zw5:IC := sr [bV 2 0,oV 4 (.alloc [(.v (.bool false)),(.v (.int .u64 0)),(.v (.int .u64 0)),iv 0]),fF 5] (.seq (sr [fV 6 0 2,lE 7 6,mV 8 1,cE 9 znn [([0],(.E 7)),([0],(.E 8))],uE 10 9] (cd 10 (sr [oE 11 (.build [(.v (.bool false)),(.v (.int .u64 0)),(.v (.int .u64 0)),iv 0] []),oN (.store [0,0,0,0] (.V 4) (.E 11)),fF 5] .ret) .skip)) (sr [fV 12 1 2,lE 13 12,fV 14 0 2,lE 15 14,mV 16 1,bE 17 .add 15 16,cE 18 zs4 [([0],(.E 13)),([0],(.E 17))],xE 19 0 18,xE 20 1 18,oN (.store [0,0,0,0] (.V 4) (.E 19)),vE 5 20] .ret))
def zw7:IC := sr [bV 2 0,bV 3 1,oV 4 (.alloc [(.v (.bool false)),(.v (.int .u64 0)),(.v (.int .u64 0)),iv 0]),fF 5] (sr [tV 11 4 2,tV 12 4 3,cE 13 zny [([0,0,0,0],(.E 11)),([0,0,0,0],(.E 12))],wE 10 13,xE 14 0 10,xE 15 1 10,xE 16 2 10,oV 6 (.alloc [(.v (.bool false)),(.v (.int .u64 0)),(.v (.int .u64 0))]),oV 7 (.alloc [(.v (.bool false)),(.v (.int .u64 0)),(.v (.int .u64 0))]),oN (.store [0,0,0] (.V 6) (.E 14)),oN (.store [0,0,0] (.V 7) (.E 15)),vE 8 16] (.seq (sr [mV 17 8,uE 18 17] (cd 18 (sr [oE 19 (.build [(.v (.bool false)),(.v (.int .u64 0)),(.v (.int .u64 0)),iv 0] []),oN (.store [0,0,0,0] (.V 4) (.E 19)),fF 5] .ret) .skip)) (sr [tV 21 3 6,tV 22 3 7,cE 23 zs5 [([0,0,0],(.E 21)),([0,0,0],(.E 22))],wE 20 23,xE 24 0 20,xE 25 1 20,oV 9 (.alloc [(.v (.bool false)),(.v (.int .u64 0)),(.v (.int .u64 0))]),oN (.store [0,0,0] (.V 9) (.E 24)),vE 8 25] (.seq (sr [mV 26 8,uE 27 26] (cd 27 (sr [oE 28 (.build [(.v (.bool false)),(.v (.int .u64 0)),(.v (.int .u64 0)),iv 0] []),oN (.store [0,0,0,0] (.V 4) (.E 28)),fF 5] .ret) .skip)) (sr [tV 29 3 9,fV 30 3 2,lE 31 30,fV 32 3 3,lE 33 32,bE 34 .mul 31 33,cE 35 zn3 [([0,0,0],(.E 29)),([0],(.E 34))],xE 36 0 35,xE 37 1 35,oN (.store [0,0,0,0] (.V 4) (.E 36)),vE 5 37] .ret)))))
def y0k:List Nat:=[0,1,2,3,4,5,6,7,8,9,10]
def z6u:IC := sr [bV 2 0,bV 3 1,oV 4 (.alloc [(.v (.bool false)),(.v (.int .u64 0)),(.v (.int .u64 0))]),oV 5 (.alloc [(.v (.bool false)),(.v (.int .u64 0)),(.v (.int .u64 0))]),fF 6] (.seq (sr [tV 11 4 2,cE 12 zlv [([0,0,0,0],(.E 11))],uE 13 12,wE 14 13,gE 15 14 .false (.load true 4 (.V 3)),gE 16 14 .false (.call zlv [([0,0,0,0],(.E 15))]),gE 17 14 .false (.un .not (.E 16)),pT 18 14 17] (cd 18 (sr [oE 19 (.build [(.v (.bool false)),(.v (.int .u64 0)),(.v (.int .u64 0))] []),oE 20 (.build [(.v (.bool false)),(.v (.int .u64 0)),(.v (.int .u64 0))] []),oN (.store [0,0,0] (.V 4) (.E 19)),oN (.store [0,0,0] (.V 5) (.E 20)),fF 6] .ret) .skip)) (sr [fV 22 0 2,tE 23 3 22,fV 24 3 3,lE 25 24,cE 26 zn4 [([0,0,0],(.E 23)),([0],(.E 25))],wE 21 26,xE 27 0 21,xE 28 1 21,oV 7 (.alloc [(.v (.bool false)),(.v (.int .u64 0)),(.v (.int .u64 0))]),oN (.store [0,0,0] (.V 7) (.E 27)),vE 8 28] (sr [fV 30 0 3,tE 31 3 30,fV 32 3 2,lE 33 32,cE 34 zn4 [([0,0,0],(.E 31)),([0],(.E 33))],wE 29 34,xE 35 0 29,xE 36 1 29,oV 9 (.alloc [(.v (.bool false)),(.v (.int .u64 0)),(.v (.int .u64 0))]),oN (.store [0,0,0] (.V 9) (.E 35)),vE 10 36] (.seq (.regD [(tV 37 3 7,0,0),(tV 38 3 9,0,1),(mV 39 8,0,0),(wE 40 39,0,0),(gE 41 40 .true (.mv (.V 10)),0,0),(pF 42 40 41,0,0),(oN (.store [0,0,0] (.V 4) (.E 37)),0,0),(oN (.store [0,0,0] (.V 5) (.E 38)),0,0),(vE 6 42,0,0)]) .ret))))
def z6v:List RV:=[.cell [0,0,0] 4 true,.cell [0,0,0] 5 true,.tmp [0] 6]
def z6w:IC := sr [bV 2 0,bV 3 1,f0 4] (.seq (.regD [(fV 5 0 2,0,0),(lE 6 5,0,0),(fV 7 1 2,0,0),(lE 8 7,0,0),(fV 9 2 2,0,0),(lE 10 9,0,0),(cE 11 zhc [([0],(.E 6)),([0],(.E 8)),([0],(.E 10))],0,0),(fV 12 0 3,1,0),(lE 13 12,1,0),(fV 14 1 3,1,0),(lE 15 14,1,0),(fV 16 2 3,1,0),(lE 17 16,1,0),(cE 18 zhc [([0],(.E 13)),([0],(.E 15)),([0],(.E 17))],0,0),(oN (.store [0,0,0] (.V 2) (.E 11)),0,0),(oN (.store [0,0,0] (.V 3) (.E 18)),0,0)]) (.seq (.block 0 (sr [fV 20 0 2,lE 21 20,wE 22 21,gE 23 22 .true (.faddr 0 (.V 3)),gE 24 22 .true (.load false 1 (.E 23)),gE 25 22 .true (.un .not (.E 24)),pF 26 22 25,wE 19 26] (cd 19 (sr [oV 4 (.mv (ki (-1)))] .ret) (sr [fV 28 0 3,lE 29 28,wE 30 29,gE 31 30 .true (.faddr 0 (.V 2)),gE 32 30 .true (.load false 1 (.E 31)),gE 33 30 .true (.un .not (.E 32)),pF 34 30 33,wE 27 34] (cd 27 (sr [oV 4 (.mv (ki 1))] .ret) (sr [fV 36 0 2,lE 37 36,wE 35 37] (cd 35 (sr [tV 38 3 3,tV 39 3 2,cE 40 zlw [([0,0,0],(.E 38)),([0,0,0],(.E 39))],vE 4 40] .ret) .skip))))))) (sr [tV 41 3 2,tV 42 3 3,cE 43 zlw [([0,0,0],(.E 41)),([0,0,0],(.E 42))],vE 4 43] .ret)))
def y0m:List Nat:=[0,2,3,5,6,7,8]
def yf2:IC := sr [oE 9 (.bin .lss (.V 8) (.V 7))] (.seq (cd 9 .skip (.exit 0)) (.seq (.block 1 (sr [oE 10 (.iaddr 1 (.V 6) (.V 8)),lE 11 10,vE 5 11] (sr [mV 12 5,mV 13 3,bE 14 .neq 12 13] (cd 14 (sr [mV 15 5,vE 2 15] .ret) .skip)))) (.reg [oE 16 (.bin .add (.V 8) (ki 1)),vE 8 16])))
def z6y:IC := sr [f0 2] (sr [f0 3] (.seq (sr [oV 6 (.mv (.V 0)),oV 7 (.len (.V 6)),f0 8] (bl 0 yf2)) (sr [mV 17 3,vE 2 17] .ret)))
def zt3:IC := sr [f0 4] (sr [mV 7 0,cE 8 zn2 [([0],(.E 7))],vE 5 8] (sr [mV 9 1,cE 10 zn2 [([0],(.E 9))],vE 6 10] (.seq (sr [mV 11 5] (cd 11 (.seq (sr [mV 12 6] (cd 12 (sr [f0 4] .ret) .skip)) (sr [oV 4 (.mv (ki (-1)))] .ret)) .skip)) (.seq (sr [mV 13 6] (cd 13 (sr [oV 4 (.mv (ki 1))] .ret) .skip)) (.seq (sr [mV 14 0,mV 15 1,bE 16 .lss 14 15] (cd 16 (sr [oV 4 (.mv (ki (-1)))] .ret) .skip)) (.seq (sr [mV 17 0,mV 18 1,bE 19 .gtr 17 18] (cd 19 (sr [oV 4 (.mv (ki 1))] .ret) .skip)) (sr [f0 4] .ret)))))))
def z60:IC := sr [bV 1 0,oV 2 (.alloc [iv 0,iv 0]),fF 3] (sr [fV 4 2 1,tE 5 2 4,fV 6 4 1,tE 7 2 6,cE 8 zlq [([0,0],(.E 5)),([0,0],(.E 7))],xE 9 0 8,xE 10 1 8,oN (.store [0,0] (.V 2) (.E 9)),vE 3 10] .ret)
def zt5:IC := sr [bV 2 0,oV 4 (.alloc [(.v (.bool false)),(.v (.int .u64 0)),(.v (.int .u64 0)),iv 0]),fF 5] (.seq (sr [fV 6 0 2,lE 7 6,cE 8 zbo [([0],(.E 7)),([0],(ki 0)),([0],(ki 40))],uE 9 8,wE 10 9,gE 11 10 .false (.mv (.V 1)),gE 12 10 .false (.call zbo [([0],(.E 11)),([0],(ki 1)),([0],(ki 100))]),gE 13 10 .false (.un .not (.E 12)),pT 14 10 13] (cd 14 (sr [oE 15 (.build [(.v (.bool false)),(.v (.int .u64 0)),(.v (.int .u64 0)),iv 0] []),oN (.store [0,0,0,0] (.V 4) (.E 15)),fF 5] .ret) .skip)) (sr [fV 16 1 2,lE 17 16,fV 18 0 2,lE 19 18,mV 20 1,bE 21 .add 19 20,cE 22 zs6 [([0],(.E 17)),([0],(.E 21))],xE 23 0 22,xE 24 1 22,oN (.store [0,0,0,0] (.V 4) (.E 23)),vE 5 24] .ret))
def y0q:List Nat:=[0,1,2,3,4,5,6,7,8,9,10,11]
def zw9:IC := sr [bV 2 0,bV 3 1,oV 4 (.alloc [(.v (.bool false)),(.v (.int .u64 0)),(.v (.int .u64 0)),iv 0]),fF 5] (sr [tV 13 4 2,tV 14 4 3,cE 15 zn1 [([0,0,0,0],(.E 13)),([0,0,0,0],(.E 14))],wE 12 15,xE 16 0 12,xE 17 1 12,xE 18 2 12,oV 6 (.alloc [(.v (.bool false)),(.v (.int .u64 0)),(.v (.int .u64 0))]),oV 7 (.alloc [(.v (.bool false)),(.v (.int .u64 0)),(.v (.int .u64 0))]),oN (.store [0,0,0] (.V 6) (.E 16)),oN (.store [0,0,0] (.V 7) (.E 17)),vE 8 18] (.seq (sr [mV 19 8,uE 20 19] (cd 20 (sr [oE 21 (.build [(.v (.bool false)),(.v (.int .u64 0)),(.v (.int .u64 0)),iv 0] []),oN (.store [0,0,0,0] (.V 4) (.E 21)),fF 5] .ret) .skip)) (sr [tV 23 3 6,tV 24 3 7,cE 25 zs7 [([0,0,0],(.E 23)),([0,0,0],(.E 24))],wE 22 25,xE 26 0 22,xE 27 1 22,oV 9 (.alloc [(.v (.bool false)),(.v (.int .u64 0)),(.v (.int .u64 0))]),oN (.store [0,0,0] (.V 9) (.E 26)),vE 10 27] (sr [tV 28 3 9,fV 29 3 2,lE 30 29,fV 31 3 3,lE 32 31,bE 33 .mul 30 32,oE 34 (.build [(.v (.bool false)),(.v (.int .u64 0)),(.v (.int .u64 0)),iv 0] [(0,3,(.E 28)),(3,1,(.E 33))]),oV 11 (.alloc [(.v (.bool false)),(.v (.int .u64 0)),(.v (.int .u64 0)),iv 0]),oN (.store [0,0,0,0] (.V 11) (.E 34))] (.seq (sr [mV 35 10,uE 36 35,wE 37 36,gE 38 37 .false (.load true 4 (.V 11)),gE 39 37 .false (.call zjv [([0,0,0,0],(.E 38))]),gE 40 37 .false (.un .not (.E 39)),pT 41 37 40] (cd 41 (sr [oE 42 (.build [(.v (.bool false)),(.v (.int .u64 0)),(.v (.int .u64 0)),iv 0] []),oN (.store [0,0,0,0] (.V 4) (.E 42)),fF 5] .ret) .skip)) (sr [tV 43 4 11,oN (.store [0,0,0,0] (.V 4) (.E 43)),fT 5] .ret))))))
def z62:IC := sr [bV 2 0,bV 3 1,oV 4 (.alloc [(.v (.bool false)),(.v (.int .u64 0)),(.v (.int .u64 0))]),oV 5 (.alloc [(.v (.bool false)),(.v (.int .u64 0)),(.v (.int .u64 0))]),fF 6] (.seq (sr [tV 11 4 2,cE 12 zjv [([0,0,0,0],(.E 11))],uE 13 12,wE 14 13,gE 15 14 .false (.load true 4 (.V 3)),gE 16 14 .false (.call zjv [([0,0,0,0],(.E 15))]),gE 17 14 .false (.un .not (.E 16)),pT 18 14 17] (cd 18 (sr [oE 19 (.build [(.v (.bool false)),(.v (.int .u64 0)),(.v (.int .u64 0))] []),oE 20 (.build [(.v (.bool false)),(.v (.int .u64 0)),(.v (.int .u64 0))] []),oN (.store [0,0,0] (.V 4) (.E 19)),oN (.store [0,0,0] (.V 5) (.E 20)),fF 6] .ret) .skip)) (sr [fV 22 0 2,tE 23 3 22,fV 24 3 3,lE 25 24,cE 26 zn5 [([0,0,0],(.E 23)),([0],(.E 25))],wE 21 26,xE 27 0 21,xE 28 1 21,oV 7 (.alloc [(.v (.bool false)),(.v (.int .u64 0)),(.v (.int .u64 0))]),oN (.store [0,0,0] (.V 7) (.E 27)),vE 8 28] (sr [fV 30 0 3,tE 31 3 30,fV 32 3 2,lE 33 32,cE 34 zn5 [([0,0,0],(.E 31)),([0],(.E 33))],wE 29 34,xE 35 0 29,xE 36 1 29,oV 9 (.alloc [(.v (.bool false)),(.v (.int .u64 0)),(.v (.int .u64 0))]),oN (.store [0,0,0] (.V 9) (.E 35)),vE 10 36] (.seq (.regD [(tV 37 3 7,0,0),(tV 38 3 9,0,1),(mV 39 8,0,0),(wE 40 39,0,0),(gE 41 40 .true (.mv (.V 10)),0,0),(pF 42 40 41,0,0),(oN (.store [0,0,0] (.V 4) (.E 37)),0,0),(oN (.store [0,0,0] (.V 5) (.E 38)),0,0),(vE 6 42,0,0)]) .ret))))
def z64:IC := sr [bV 2 0,bV 3 1,f0 4] (sr [fV 7 0 2,lE 8 7,wE 9 8,gE 10 9 .true (.load true 3 (.V 2)),gE 11 9 .true (.call zjw [([0,0,0],(.E 10))]),gE 12 9 .true (.un .not (.E 11)),pF 13 9 12,vE 5 13] (sr [fV 14 0 3,lE 15 14,wE 16 15,gE 17 16 .true (.load true 3 (.V 3)),gE 18 16 .true (.call zjw [([0,0,0],(.E 17))]),gE 19 16 .true (.un .not (.E 18)),pF 20 16 19,vE 6 20] (.seq (.block 0 (sr [mV 22 5,wE 23 22,gE 24 23 .true (.mv (.V 6)),gE 25 23 .true (.un .not (.E 24)),pF 26 23 25,wE 21 26] (cd 21 (sr [oV 4 (.mv (ki (-1)))] .ret) (sr [mV 28 6,wE 29 28,gE 30 29 .true (.mv (.V 5)),gE 31 29 .true (.un .not (.E 30)),pF 32 29 31,wE 27 32] (cd 27 (sr [oV 4 (.mv (ki 1))] .ret) (sr [mV 34 5,wE 33 34] (cd 33 (sr [tV 35 3 3,tV 36 3 2,cE 37 zlx [([0,0,0],(.E 35)),([0,0,0],(.E 36))],vE 4 37] .ret) .skip))))))) (sr [tV 38 3 2,tV 39 3 3,cE 40 zlx [([0,0,0],(.E 38)),([0,0,0],(.E 39))],vE 4 40] .ret))))
def z66:IC := sr [fF 2] (sr [mV 3 0,mV 4 0,bE 5 .neq 3 4,vE 2 5] .ret)
def z68:IC := sr [oV 4 (.alloc [(.v (.bool false)),(.v (.int .u64 0)),(.v (.int .u64 0)),iv 0]),fF 5] (sr [mV 6 0,mV 7 0,cE 8 zs8 [([0],(.E 6)),([0],(.E 7))],mV 9 1,cE 10 zn3 [([0,0,0],(.E 8)),([0],(.E 9))],xE 11 0 10,xE 12 1 10,oN (.store [0,0,0,0] (.V 4) (.E 11)),vE 5 12] .ret)
def y0v:List Nat:=[0,1,2,3,4,5,6,7,8,10,11,12,14]
def zkc:IC := sr [bV 2 0,bV 3 1,oV 4 (.alloc [(.v (.bool false)),(.v (.int .u64 0)),(.v (.int .u64 0))]),fF 5] (.seq (sr [tV 15 3 2,cE 16 zhq [([0,0,0],(.E 15))],uE 17 16,wE 18 17,gE 19 18 .false (.load true 3 (.V 3)),gE 20 18 .false (.call zhq [([0,0,0],(.E 19))]),gE 21 18 .false (.un .not (.E 20)),pT 22 18 21] (cd 22 (sr [oE 23 (.build [(.v (.bool false)),(.v (.int .u64 0)),(.v (.int .u64 0))] []),oN (.store [0,0,0] (.V 4) (.E 23)),fF 5] .ret) .skip)) (.seq (sr [fV 24 0 2,lE 25 24,fV 26 0 3,lE 27 26,oE 28 (.eqb true [.b] (.E 25) (.E 27))] (cd 28 (.seq (sr [tV 29 3 2,tV 30 3 3,cE 31 zlw [([0,0,0],(.E 29)),([0,0,0],(.E 30))],kE 32 .lss 31 0] (cd 32 (.reg [tV 33 3 3,tV 34 3 2,oN (.store [0,0,0] (.V 2) (.E 33)),oN (.store [0,0,0] (.V 3) (.E 34))]) .skip)) (sr [fV 36 2 2,lE 37 36,fV 38 2 3,lE 39 38,cE 40 zly [([0],(.E 37)),([0],(.E 39)),([0],(.C (.v (.int .u64 0))))],wE 35 40,xE 41 0 35,xE 42 1 35,vE 6 41,vE 7 42] (sr [fV 44 1 2,lE 45 44,fV 46 1 3,lE 47 46,mV 48 7,cE 49 zly [([0],(.E 45)),([0],(.E 47)),([0],(.E 48))],wE 43 49,xE 50 0 43,xE 51 1 43,vE 8 50,wE 9 51] (sr [fV 52 0 2,lE 53 52,mV 54 8,mV 55 6,cE 56 zhc [([0],(.E 53)),([0],(.E 54)),([0],(.E 55))],oN (.store [0,0,0] (.V 4) (.E 56)),fT 5] .ret)))) .skip)) (sr [fV 58 2 2,lE 59 58,fV 60 2 3,lE 61 60,cE 62 zjx [([0],(.E 59)),([0],(.E 61)),([0],(.C (.v (.int .u64 0))))],wE 57 62,xE 63 0 57,xE 64 1 57,vE 10 63,vE 11 64] (sr [fV 66 1 2,lE 67 66,fV 68 1 3,lE 69 68,mV 70 11,cE 71 zjx [([0],(.E 67)),([0],(.E 69)),([0],(.E 70))],wE 65 71,xE 72 0 65,xE 73 1 65,vE 12 72,wE 13 73] (sr [fV 74 0 2,lE 75 74,mV 76 12,mV 77 10,cE 78 zhc [([0],(.E 75)),([0],(.E 76)),([0],(.E 77))],oV 14 (.alloc [(.v (.bool false)),(.v (.int .u64 0)),(.v (.int .u64 0))]),oN (.store [0,0,0] (.V 14) (.E 78))] (.seq (sr [tV 79 3 14,cE 80 zhq [([0,0,0],(.E 79))],uE 81 80] (cd 81 (sr [oE 82 (.build [(.v (.bool false)),(.v (.int .u64 0)),(.v (.int .u64 0))] []),oN (.store [0,0,0] (.V 4) (.E 82)),fF 5] .ret) .skip)) (sr [tV 83 3 14,oN (.store [0,0,0] (.V 4) (.E 83)),fT 5] .ret)))))))
def zkd:List RV:=[.cell [0,0,0] 4 true,.tmp [0] 5]
def z7a:IC := sr [bV 2 0,oV 4 (.alloc [(.v (.bool false)),(.v (.int .u64 0)),(.v (.int .u64 0)),iv 0]),fF 5] (sr [tV 7 3 2,mV 8 1,oE 9 (.build [(.v (.bool false)),(.v (.int .u64 0)),(.v (.int .u64 0)),iv 0] [(0,3,(.E 7)),(3,1,(.E 8))]),oV 6 (.alloc [(.v (.bool false)),(.v (.int .u64 0)),(.v (.int .u64 0)),iv 0]),oN (.store [0,0,0,0] (.V 6) (.E 9))] (.seq (sr [tV 10 4 6,cE 11 zlv [([0,0,0,0],(.E 10))],uE 12 11] (cd 12 (sr [oE 13 (.build [(.v (.bool false)),(.v (.int .u64 0)),(.v (.int .u64 0)),iv 0] []),oN (.store [0,0,0,0] (.V 4) (.E 13)),fF 5] .ret) .skip)) (sr [tV 14 4 6,oN (.store [0,0,0,0] (.V 4) (.E 14)),fT 5] .ret)))
def z7c:IC := sr [bV 1 0,fF 2] (sr [fV 3 0 1,tE 4 3 3,cE 5 zhq [([0,0,0],(.E 4))],wE 6 5,gE 7 6 .true (.faddr 3 (.V 1)),gE 8 6 .true (.load false 1 (.E 7)),gE 9 6 .true (.call zbp [([0],(.E 8)),([0],(ki 1)),([0],(ki 1000000))]),pF 10 6 9,vE 2 10] .ret)
def zhs:IC := sr [bV 2 0,oV 4 (.alloc [(.v (.bool false)),(.v (.int .u64 0)),(.v (.int .u64 0))]),fF 5] (.seq (sr [tV 13 3 2,cE 14 zhq [([0,0,0],(.E 13))],uE 15 14] (cd 15 (sr [oE 16 (.build [(.v (.bool false)),(.v (.int .u64 0)),(.v (.int .u64 0))] []),oN (.store [0,0,0] (.V 4) (.E 16)),fF 5] .ret) .skip)) (sr [mV 17 1,cE 18 zlz [([0],(.E 17))],vE 6 18] (sr [fV 20 1 2,lE 21 20,mV 22 6,cE 23 zl0 [([0],(.E 21)),([0],(.E 22))],wE 19 23,xE 24 0 19,xE 25 1 19,vE 7 24,vE 8 25] (sr [fV 27 2 2,lE 28 27,mV 29 6,cE 30 zl0 [([0],(.E 28)),([0],(.E 29))],wE 26 30,xE 31 0 26,xE 32 1 26,vE 9 31,vE 10 32] (sr [mV 34 8,mV 35 9,cE 36 zjx [([0],(.E 34)),([0],(.E 35)),([0],(.C (.v (.int .u64 0))))],wE 33 36,xE 37 0 33,xE 38 1 33,vE 8 37,vE 11 38] (sr [fV 39 0 2,lE 40 39,mV 41 1,kE 42 .lss 41 0,oE 43 (.eqb true [.b] (.E 40) (.E 42)),mV 44 8,mV 45 10,cE 46 zhc [([0],(.E 43)),([0],(.E 44)),([0],(.E 45))],oV 12 (.alloc [(.v (.bool false)),(.v (.int .u64 0)),(.v (.int .u64 0))]),oN (.store [0,0,0] (.V 12) (.E 46))] (.seq (sr [mV 47 7,oE 48 (.bin .gtr (.E 47) (.C (.v (.int .u64 0)))),wE 49 48,gE 50 49 .false (.mv (.V 11)),gE 51 49 .false (.bin .gtr (.E 50) (.C (.v (.int .u64 0)))),pT 52 49 51,wE 53 52,gE 54 53 .false (.load true 3 (.V 12)),gE 55 53 .false (.call zhq [([0,0,0],(.E 54))]),gE 56 53 .false (.un .not (.E 55)),pT 57 53 56] (cd 57 (sr [oE 58 (.build [(.v (.bool false)),(.v (.int .u64 0)),(.v (.int .u64 0))] []),oN (.store [0,0,0] (.V 4) (.E 58)),fF 5] .ret) .skip)) (sr [tV 59 3 12,oN (.store [0,0,0] (.V 4) (.E 59)),fT 5] .ret))))))))
def zt7:IC := sr [oV 6 (.alloc [(.v (.bool false)),(.v (.int .u64 0)),(.v (.int .u64 0))])] (sr [mV 7 0,wE 8 7,gE 9 8 .true (.mv (.V 1)),gE 10 8 .true (.bin .gtr (.E 9) (.C (.v (.int .u64 0)))),gE 11 8 .true (.mv (.E 10)),gE 12 11 .false (.mv (.V 2)),gE 13 11 .false (.bin .gtr (.E 12) (.C (.v (.int .u64 0)))),gE 14 8 .true (.pick (.E 11) (kb true) (.E 13)),pF 15 8 14,mV 16 1,mV 17 2,oE 18 (.build [(.v (.bool false)),(.v (.int .u64 0)),(.v (.int .u64 0))] [(0,1,(.E 15)),(1,1,(.E 16)),(2,1,(.E 17))]),oN (.store [0,0,0] (.V 6) (.E 18))] .ret)
def zt8:List RV:=[.cell [0,0,0] 6 true]
def z7e:IC := sr [bV 2 0,bV 3 1,f0 4] (.seq (.regD [(fV 5 1 2,0,0),(lE 6 5,0,0),(fV 7 1 3,0,0),(lE 8 7,0,0),(cE 9 zn6 [([0],(.E 6)),([0],(.E 8))],0,0),(fV 10 2 2,1,0),(lE 11 10,1,0),(fV 12 2 3,1,0),(lE 13 12,1,0),(cE 14 zn6 [([0],(.E 11)),([0],(.E 13))],0,0),(oE 15 (.bslice 2 1 [iv 0] [(0,(.E 9)),(1,(.E 14))]),0,0),(cE 16 znz [([1],(.E 15))],0,0),(vE 4 16,0,0)]) .ret)
def z7g:IC := sr [oV 4 (.alloc [(.v (.bool false)),(.v (.int .u64 0)),(.v (.int .u64 0)),iv 0]),fF 5] (sr [mV 7 0,mV 8 0,cE 9 zs9 [([0],(.E 7)),([0],(.E 8))],mV 10 1,oE 11 (.build [(.v (.bool false)),(.v (.int .u64 0)),(.v (.int .u64 0)),iv 0] [(0,3,(.E 9)),(3,1,(.E 10))]),oV 6 (.alloc [(.v (.bool false)),(.v (.int .u64 0)),(.v (.int .u64 0)),iv 0]),oN (.store [0,0,0,0] (.V 6) (.E 11))] (.seq (sr [tV 12 4 6,cE 13 zjv [([0,0,0,0],(.E 12))],uE 14 13] (cd 14 (sr [oE 15 (.build [(.v (.bool false)),(.v (.int .u64 0)),(.v (.int .u64 0)),iv 0] []),oN (.store [0,0,0,0] (.V 4) (.E 15)),fF 5] .ret) .skip)) (sr [tV 16 4 6,oN (.store [0,0,0,0] (.V 4) (.E 16)),fT 5] .ret)))
def zfw:IC := sr [bV 2 0,bV 3 1,oV 4 (.alloc [(.v (.bool false)),(.v (.int .u64 0)),(.v (.int .u64 0))]),fF 5] (.seq (sr [tV 10 3 2,cE 11 zhr [([0,0,0],(.E 10))],uE 12 11,wE 13 12,gE 14 13 .false (.load true 3 (.V 3)),gE 15 13 .false (.call zhr [([0,0,0],(.E 14))]),gE 16 13 .false (.un .not (.E 15)),pT 17 13 16] (cd 17 (sr [oE 18 (.build [(.v (.bool false)),(.v (.int .u64 0)),(.v (.int .u64 0))] []),oN (.store [0,0,0] (.V 4) (.E 18)),fF 5] .ret) .skip)) (.seq (sr [fV 19 0 2,lE 20 19,fV 21 0 3,lE 22 21,oE 23 (.eqb false [.b] (.E 20) (.E 22))] (cd 23 (sr [fV 24 0 2,lE 25 24,fV 26 1 2,lE 27 26,fV 28 1 3,lE 29 28,bE 30 .add 27 29,fV 31 2 2,lE 32 31,fV 33 2 3,lE 34 33,bE 35 .add 32 34,oE 36 (.build [(.v (.bool false)),(.v (.int .u64 0)),(.v (.int .u64 0))] [(0,1,(.E 25)),(1,1,(.E 30)),(2,1,(.E 35))]),oV 6 (.alloc [(.v (.bool false)),(.v (.int .u64 0)),(.v (.int .u64 0))]),oN (.store [0,0,0] (.V 6) (.E 36))] (.seq (sr [fV 37 2 6,lE 38 37,fV 39 2 2,lE 40 39,bE 41 .lss 38 40] (cd 41 (.reg [fV 42 1 6,lE 43 42,oE 44 (.bin .add (.E 43) (.C (.v (.int .u64 1)))),fV 45 1 6,oN (.store [0] (.E 45) (.E 44))]) .skip)) (.seq (sr [tV 46 3 6,cE 47 zhr [([0,0,0],(.E 46))],uE 48 47] (cd 48 (sr [oE 49 (.build [(.v (.bool false)),(.v (.int .u64 0)),(.v (.int .u64 0))] []),oN (.store [0,0,0] (.V 4) (.E 49)),fF 5] .ret) .skip)) (sr [tV 50 3 6,oN (.store [0,0,0] (.V 4) (.E 50)),fT 5] .ret)))) .skip)) (sr [tV 51 3 2,oV 7 (.alloc [(.v (.bool false)),(.v (.int .u64 0)),(.v (.int .u64 0))]),oN (.store [0,0,0] (.V 7) (.E 51))] (sr [tV 52 3 3,oV 8 (.alloc [(.v (.bool false)),(.v (.int .u64 0)),(.v (.int .u64 0))]),oN (.store [0,0,0] (.V 8) (.E 52))] (.seq (sr [tV 53 3 2,tV 54 3 3,cE 55 zlx [([0,0,0],(.E 53)),([0,0,0],(.E 54))],kE 56 .lss 55 0] (cd 56 (sr [tV 57 3 3,oN (.store [0,0,0] (.V 7) (.E 57))] (.reg [tV 58 3 2,oN (.store [0,0,0] (.V 8) (.E 58))])) .skip)) (sr [fV 59 0 7,lE 60 59,fV 61 1 7,lE 62 61,fV 63 1 8,lE 64 63,bE 65 .sub 62 64,fV 66 2 7,lE 67 66,fV 68 2 8,lE 69 68,bE 70 .sub 67 69,oE 71 (.build [(.v (.bool false)),(.v (.int .u64 0)),(.v (.int .u64 0))] [(0,1,(.E 60)),(1,1,(.E 65)),(2,1,(.E 70))]),oV 9 (.alloc [(.v (.bool false)),(.v (.int .u64 0)),(.v (.int .u64 0))]),oN (.store [0,0,0] (.V 9) (.E 71))] (.seq (sr [fV 72 2 7,lE 73 72,fV 74 2 8,lE 75 74,bE 76 .lss 73 75] (cd 76 (.reg [fV 77 1 9,lE 78 77,oE 79 (.bin .sub (.E 78) (.C (.v (.int .u64 1)))),fV 80 1 9,oN (.store [0] (.E 80) (.E 79))]) .skip)) (.seq (sr [tV 81 3 9,cE 82 zjw [([0,0,0],(.E 81))]] (cd 82 (.reg [fV 83 0 9,oN (.store [0] (.E 83) (kb false))]) .skip)) (sr [tV 84 3 9,oN (.store [0,0,0] (.V 4) (.E 84)),fT 5] .ret)))))))))
def z7i:IC := sr [bV 1 0,fF 2] (sr [fV 3 0 1,tE 4 3 3,cE 5 zhr [([0,0,0],(.E 4))],wE 6 5,gE 7 6 .true (.faddr 3 (.V 1)),gE 8 6 .true (.load false 1 (.E 7)),gE 9 6 .true (.call zbo [([0],(.E 8)),([0],(ki 1)),([0],(ki 1000000))]),pF 10 6 9,vE 2 10] .ret)
def zhu:IC := sr [bV 2 0,oV 4 (.alloc [(.v (.bool false)),(.v (.int .u64 0)),(.v (.int .u64 0))]),fF 5] (.seq (sr [tV 13 3 2,cE 14 zhr [([0,0,0],(.E 13))],uE 15 14] (cd 15 (sr [oE 16 (.build [(.v (.bool false)),(.v (.int .u64 0)),(.v (.int .u64 0))] []),oN (.store [0,0,0] (.V 4) (.E 16)),fF 5] .ret) .skip)) (sr [mV 17 1,cE 18 zl1 [([0],(.E 17))],vE 6 18] (sr [fV 20 1 2,lE 21 20,mV 22 6,cE 23 zl2 [([0],(.E 21)),([0],(.E 22))],wE 19 23,xE 24 0 19,xE 25 1 19,vE 7 24,vE 8 25] (sr [fV 27 2 2,lE 28 27,mV 29 6,cE 30 zl2 [([0],(.E 28)),([0],(.E 29))],wE 26 30,xE 31 0 26,xE 32 1 26,vE 9 31,vE 10 32] (sr [mV 33 8,mV 34 9,bE 35 .add 33 34,vE 11 35] (sr [fV 36 0 2,lE 37 36,mV 38 1,kE 39 .lss 38 0,oE 40 (.eqb true [.b] (.E 37) (.E 39)),mV 41 11,mV 42 10,oE 43 (.build [(.v (.bool false)),(.v (.int .u64 0)),(.v (.int .u64 0))] [(0,1,(.E 40)),(1,1,(.E 41)),(2,1,(.E 42))]),oV 12 (.alloc [(.v (.bool false)),(.v (.int .u64 0)),(.v (.int .u64 0))]),oN (.store [0,0,0] (.V 12) (.E 43))] (.seq (sr [tV 44 3 12,cE 45 zjw [([0,0,0],(.E 44))]] (cd 45 (.reg [fV 46 0 12,oN (.store [0] (.E 46) (kb false))]) .skip)) (.seq (sr [mV 47 7,oE 48 (.bin .gtr (.E 47) (.C (.v (.int .u64 0)))),wE 49 48,gE 50 49 .false (.mv (.V 11)),gE 51 49 .false (.mv (.V 8)),gE 52 49 .false (.bin .lss (.E 50) (.E 51)),pT 53 49 52,wE 54 53,gE 55 54 .false (.load true 3 (.V 12)),gE 56 54 .false (.call zhr [([0,0,0],(.E 55))]),gE 57 54 .false (.un .not (.E 56)),pT 58 54 57] (cd 58 (sr [oE 59 (.build [(.v (.bool false)),(.v (.int .u64 0)),(.v (.int .u64 0))] []),oN (.store [0,0,0] (.V 4) (.E 59)),fF 5] .ret) .skip)) (sr [tV 60 3 12,oN (.store [0,0,0] (.V 4) (.E 60)),fT 5] .ret)))))))))
def zxb:IC := sr [bV 1 0,fF 2] (sr [fV 3 1 1,lE 4 3,oE 5 (.bin .eql (.E 4) (.C (.v (.int .u64 0)))),wE 6 5,gE 7 6 .true (.faddr 2 (.V 1)),gE 8 6 .true (.load false 1 (.E 7)),gE 9 6 .true (.bin .eql (.E 8) (.C (.v (.int .u64 0)))),pF 10 6 9,vE 2 10] .ret)
def zmb:IC := sr [bV 2 0,bV 3 1,f0 4] (.seq (.block 0 (sr [fV 6 1 2,lE 7 6,fV 8 1 3,lE 9 8,bE 10 .lss 7 9,wE 11 10,gE 12 11 .false (.faddr 1 (.V 2)),gE 13 11 .false (.load false 1 (.E 12)),gE 14 11 .false (.faddr 1 (.V 3)),gE 15 11 .false (.load false 1 (.E 14)),gE 16 11 .false (.bin .eql (.E 13) (.E 15)),gE 17 11 .false (.mv (.E 16)),gE 18 17 .true (.faddr 2 (.V 2)),gE 19 17 .true (.load false 1 (.E 18)),gE 20 17 .true (.faddr 2 (.V 3)),gE 21 17 .true (.load false 1 (.E 20)),gE 22 17 .true (.bin .lss (.E 19) (.E 21)),gE 23 11 .false (.pick (.E 17) (.E 22) (kb false)),pT 24 11 23,wE 5 24] (cd 5 (sr [oV 4 (.mv (ki (-1)))] .ret) (sr [fV 26 1 2,lE 27 26,fV 28 1 3,lE 29 28,bE 30 .gtr 27 29,wE 31 30,gE 32 31 .false (.faddr 2 (.V 2)),gE 33 31 .false (.load false 1 (.E 32)),gE 34 31 .false (.faddr 2 (.V 3)),gE 35 31 .false (.load false 1 (.E 34)),gE 36 31 .false (.bin .gtr (.E 33) (.E 35)),pT 37 31 36,wE 25 37] (cd 25 (sr [oV 4 (.mv (ki 1))] .ret) .skip))))) (sr [f0 4] .ret))
def z7k:IC := sr [oV 4 (.alloc [(.v (.bool false)),(.v (.int .u64 0)),(.v (.int .u64 0))])] (sr [mV 8 0,cE 9 zlz [([0],(.E 8))],mV 10 1,cE 11 zlz [([0],(.E 10))],cE 12 zl0 [([0],(.E 9)),([0],(.E 11))],wE 7 12,xE 13 0 7,xE 14 1 7,vE 5 13,vE 6 14] (sr [mV 15 0,kE 16 .lss 15 0,mV 17 1,kE 18 .lss 17 0,oE 19 (.eqb true [.b] (.E 16) (.E 18)),mV 20 5,mV 21 6,cE 22 zhc [([0],(.E 19)),([0],(.E 20)),([0],(.E 21))],oN (.store [0,0,0] (.V 4) (.E 22))] .ret))
def z7l:List RV:=[.cell [0,0,0] 4 true]
def zol:IC := sr [bV 1 0,fF 2] (sr [fV 3 1 1,lE 4 3,oE 5 (.bin .lss (.E 4) (.C (.v (.int .u64 9223372036854775808)))),wE 6 5,gE 7 6 .true (.faddr 0 (.V 1)),gE 8 6 .true (.load false 1 (.E 7)),gE 9 6 .true (.un .not (.E 8)),gE 10 6 .true (.mv (.E 9)),gE 11 10 .false (.faddr 1 (.V 1)),gE 12 10 .false (.load false 1 (.E 11)),gE 13 10 .false (.bin .gtr (.E 12) (.C (.v (.int .u64 0)))),gE 14 6 .true (.pick (.E 10) (kb true) (.E 13)),gE 15 6 .true (.mv (.E 14)),gE 16 15 .false (.faddr 2 (.V 1)),gE 17 15 .false (.load false 1 (.E 16)),gE 18 15 .false (.bin .gtr (.E 17) (.C (.v (.int .u64 0)))),gE 19 6 .true (.pick (.E 15) (kb true) (.E 18)),pF 20 6 19,vE 2 20] .ret)
def z7m:IC := sr [oV 2 (.mv (.C (.v (.int .u64 0))))] (.seq (sr [mV 3 0,kE 4 .lss 3 0] (cd 4 (sr [mV 5 0,oE 6 (.convI .u64 (.E 5)),oE 7 (.un .neg (.E 6)),vE 2 7] .ret) .skip)) (sr [mV 8 0,oE 9 (.convI .u64 (.E 8)),vE 2 9] .ret))
def y1a:List Nat:=[0,1,4,5,6,7,8,9,10,11,12,13]
def z7o:IC := sr [oV 4 (.mv (.C (.v (.int .u64 0)))),oV 5 (.mv (.C (.v (.int .u64 0))))] (sr [mV 14 0,oE 15 (.bin .and (.E 14) (.C (.v (.int .u64 4294967295)))),vE 6 15] (sr [mV 16 0,oE 17 (.bin .shr (.E 16) (.C (.v (.int .u64 32)))),vE 7 17] (sr [mV 18 1,oE 19 (.bin .and (.E 18) (.C (.v (.int .u64 4294967295)))),vE 8 19] (sr [mV 20 1,oE 21 (.bin .shr (.E 20) (.C (.v (.int .u64 32)))),vE 9 21] (sr [mV 22 6,mV 23 8,bE 24 .mul 22 23,vE 10 24] (sr [mV 25 7,mV 26 8,bE 27 .mul 25 26,mV 28 10,oE 29 (.bin .shr (.E 28) (.C (.v (.int .u64 32)))),bE 30 .add 27 29,vE 11 30] (sr [mV 31 11,oE 32 (.bin .and (.E 31) (.C (.v (.int .u64 4294967295)))),vE 12 32] (sr [mV 33 11,oE 34 (.bin .shr (.E 33) (.C (.v (.int .u64 32)))),vE 13 34] (sr [mV 35 12,mV 36 6,mV 37 9,bE 38 .mul 36 37,bE 39 .add 35 38,vE 12 39] (sr [mV 40 7,mV 41 9,bE 42 .mul 40 41,mV 43 13,bE 44 .add 42 43,mV 45 12,oE 46 (.bin .shr (.E 45) (.C (.v (.int .u64 32)))),bE 47 .add 44 46,vE 4 47] (sr [mV 48 0,mV 49 1,bE 50 .mul 48 49,vE 5 50] .ret)))))))))))
def zt9:IC := sr [f0 4] (sr [mV 7 0,cE 8 zn7 [([0],(.E 7))],vE 5 8] (sr [mV 9 1,cE 10 zn7 [([0],(.E 9))],vE 6 10] (.seq (sr [mV 11 5] (cd 11 (.seq (sr [mV 12 6] (cd 12 (sr [f0 4] .ret) .skip)) (sr [oV 4 (.mv (ki (-1)))] .ret)) .skip)) (.seq (sr [mV 13 6] (cd 13 (sr [oV 4 (.mv (ki 1))] .ret) .skip)) (.seq (sr [mV 14 0,mV 15 1,bE 16 .lss 14 15] (cd 16 (sr [oV 4 (.mv (ki (-1)))] .ret) .skip)) (.seq (sr [mV 17 0,mV 18 1,bE 19 .gtr 17 18] (cd 19 (sr [oV 4 (.mv (ki 1))] .ret) .skip)) (sr [f0 4] .ret)))))))
def z7q:IC := sr [oV 4 (.alloc [(.v (.bool false)),(.v (.int .u64 0)),(.v (.int .u64 0))])] (sr [mV 8 0,cE 9 zl1 [([0],(.E 8))],mV 10 1,cE 11 zl1 [([0],(.E 10))],cE 12 zl2 [([0],(.E 9)),([0],(.E 11))],wE 7 12,xE 13 0 7,xE 14 1 7,vE 5 13,vE 6 14] (sr [mV 15 0,kE 16 .lss 15 0,mV 17 1,kE 18 .lss 17 0,oE 19 (.eqb true [.b] (.E 16) (.E 18)),wE 20 19,gE 21 20 .true (.mv (.V 0)),gE 22 20 .true (.bin .neq (.E 21) (ki 0)),pF 23 20 22,wE 24 23,gE 25 24 .true (.mv (.V 1)),gE 26 24 .true (.bin .neq (.E 25) (ki 0)),pF 27 24 26,mV 28 5,mV 29 6,oE 30 (.build [(.v (.bool false)),(.v (.int .u64 0)),(.v (.int .u64 0))] [(0,1,(.E 27)),(1,1,(.E 28)),(2,1,(.E 29))]),oN (.store [0,0,0] (.V 4) (.E 30))] .ret))
def zon:IC := sr [bV 1 0,fF 2] (sr [fV 3 1 1,lE 4 3,oE 5 (.bin .lss (.E 4) (.C (.v (.int .u64 9223372036854775808)))),wE 6 5,gE 7 6 .true (.faddr 0 (.V 1)),gE 8 6 .true (.load false 1 (.E 7)),gE 9 6 .true (.un .not (.E 8)),gE 10 6 .true (.mv (.E 9)),gE 11 10 .false (.faddr 1 (.V 1)),gE 12 10 .false (.load false 1 (.E 11)),gE 13 10 .false (.bin .gtr (.E 12) (.C (.v (.int .u64 0)))),gE 14 6 .true (.pick (.E 10) (kb true) (.E 13)),gE 15 6 .true (.mv (.E 14)),gE 16 15 .false (.faddr 2 (.V 1)),gE 17 15 .false (.load false 1 (.E 16)),gE 18 15 .false (.bin .gtr (.E 17) (.C (.v (.int .u64 0)))),gE 19 6 .true (.pick (.E 15) (kb true) (.E 18)),pF 20 6 19,vE 2 20] .ret)
def z7s:IC := sr [oV 2 (.mv (.C (.v (.int .u64 0))))] (.seq (sr [mV 3 0,kE 4 .lss 3 0] (cd 4 (sr [mV 5 0,kE 6 .add 5 1,oE 7 (.un .neg (.E 6)),oE 8 (.convI .u64 (.E 7)),oE 9 (.bin .add (.E 8) (.C (.v (.int .u64 1)))),vE 2 9] .ret) .skip)) (sr [mV 10 0,oE 11 (.convI .u64 (.E 10)),vE 2 11] .ret))
def y1f:List Nat:=[0,1,4,5,6,7,8,9,10,11,12]
def z7u:IC := sr [oV 4 (.mv (.C (.v (.int .u64 0)))),oV 5 (.mv (.C (.v (.int .u64 0))))] (sr [mV 13 0,oE 14 (.bin .shr (.E 13) (.C (.v (.int .u64 32)))),vE 6 14] (sr [mV 15 0,oE 16 (.bin .and (.E 15) (.C (.v (.int .u64 4294967295)))),vE 7 16] (sr [mV 17 1,oE 18 (.bin .shr (.E 17) (.C (.v (.int .u64 32)))),vE 8 18] (sr [mV 19 1,oE 20 (.bin .and (.E 19) (.C (.v (.int .u64 4294967295)))),vE 9 20] (sr [mV 21 7,mV 22 9,bE 23 .mul 21 22,vE 10 23] (sr [mV 24 6,mV 25 9,bE 26 .mul 24 25,mV 27 10,oE 28 (.bin .shr (.E 27) (.C (.v (.int .u64 32)))),bE 29 .add 26 28,vE 11 29] (sr [mV 30 7,mV 31 8,bE 32 .mul 30 31,mV 33 11,oE 34 (.bin .and (.E 33) (.C (.v (.int .u64 4294967295)))),bE 35 .add 32 34,vE 12 35] (sr [mV 36 6,mV 37 8,bE 38 .mul 36 37,mV 39 11,oE 40 (.bin .shr (.E 39) (.C (.v (.int .u64 32)))),bE 41 .add 38 40,mV 42 12,oE 43 (.bin .shr (.E 42) (.C (.v (.int .u64 32)))),bE 44 .add 41 43,mV 45 12,oE 46 (.bin .shl (.E 45) (.C (.v (.int .u64 32)))),mV 47 10,oE 48 (.bin .and (.E 47) (.C (.v (.int .u64 4294967295)))),bE 49 .add 46 48,vE 4 44,vE 5 49] .ret))))))))
def z7w:IC := sr [fF 2] (sr [mV 3 0,mV 4 0,bE 5 .neq 3 4,vE 2 5] .ret)
def tbl:List (Nat×Fun):=[
 (zvc,zaa zl3 zl4 []),
 (zmw,zaa zjy zjz []),
 (zk4,zaa zyw zjz []),
 (zpu,zaa zyy zyz []),
 (zmx,zaa zj0 zj1 []),
 (zpv,zaa zj2 zj1 []),
 (zpw,zaa zy0 zyz []),
 (zpx,zaa zl5 zyz []),
 (zpy,zaa zve zyz []),
 (zjj,zaa zy2 zy3 []),
 (zjk,zaa zy4 zy5 []),
 (zjl,zaa zy6 zyz []),
 (zpz,zaa zy8 zyz []),
 (zp0,zaa zza zyz []),
 (zp1,zaa zzc zyz [true]),
 (zp2,zaa zze zyz [true]),
 (zk5,zaa zvg zyz [true]),
 (zmy,zaa zzg zyz []),
 (zp3,zaa zte zyz []),
 (zp4,zaa ztg zyz []),
 (zjm,zaa zzi zzj []),
 (zjn,zaa zzk zzj []),
 (zp5,zaa zzm zyz []),
 (zp6,zaa zzo zyz [true]),
 (zbo,zaa zzq zzr []),
 (zmz,zaa zti zjz []),
 (zm0,zaa zzs zyz []),
 (zk6,zaa zzu zjz []),
 (zp7,zaa zzw zzx []),
 (zp8,zaa zzy zzz []),
 (zp9,zaa zz0 zzz []),
 (zm1,zaa zj4 zjz []),
 (zk7,zaa zz2 zjz []),
 (zqa,.known [] (zhf 1 16)),
 (zqb,.known [] (zhf 1 8)),
 (zqc,zaa zz4 zzx []),
 (zqd,zaa zz6 zzx []),
 (zqe,zaa zvi zyz []),
 (zqf,zaa zvk zyz []),
 (zqg,zaa ztk ztl []),
 (zbp,zaa zz9 zzr []),
 (zqh,zaa z0b zjz []),
 (zip,zaa zvm zyz []),
 (zqi,zaa z0d zjz []),
 (zqj,zaa z0f zjz []),
 (zk8,zaa zj6 zj7 []),
 (zm2,zaa z0h zj7 []),
 (zqk,zaa z0j zyz []),
 (zql,zaa z0l zyz []),
 (zqm,zaa ztm ztl []),
 (zqn,zaa zvo zvp []),
 (zqo,zaa zvq zvr []),
 (zqp,zaa z0p z0q []),
 (zqq,zaa z0r zyz []),
 (zqr,zaa zvs zvp []),
 (zqs,zaa zvu zvr []),
 (zqt,zaa z0t z0q []),
 (zk9,zaa zl7 zj7 []),
 (zqu,zaa z0v zyz []),
 (zqv,zaa z0x zyz []),
 (zla,zaa z0z zyz []),
 (zjo,zaa z01 zyz []),
 (zqw,zaa z03 zzx []),
 (zlb,zaa z05 zzx []),
 (zjp,zaa z07 zzx []),
 (zjq,zaa z09 zyz []),
 (zqx,zaa z1b zyz []),
 (zqy,zaa z1d zyz []),
 (zlc,zaa z1f zyz []),
 (zqz,zaa z1h zyz [true]),
 (zld,zaa z1j zyz [true]),
 (zjr,zaa z1l zyz [true]),
 (zq0,zaa z1n zyz [true]),
 (zq1,zaa z1p zyz []),
 (zq2,zaa z1r zyz []),
 (zq3,zaa z1t zyz []),
 (zq4,zaa z1v zzx []),
 (zle,zaa z1x zjz []),
 (zq5,zaa z1z zyz []),
 (zm3,zaa z13 z16 []),
 (zm4,zaa z17 zjz []),
 (zm5,zaa z19 z2a []),
 (zm6,zaa z2b zj7 []),
 (zm7,zaa z2d z2a []),
 (zq6,zaa z2f z2g []),
 (zq7,zaa zto z2g []),
 (zq8,zaa z2i zyz []),
 (zq9,zaa z2k zjz []),
 (zra,zaa z2m zyz []),
 (zm8,zaa zvy zyz []),
 (zm9,zaa z2o zjz []),
 (zrb,zaa z2q z2g []),
 (zna,zaa z2s zyz []),
 (zrc,zaa z2u z2g []),
 (zrd,zaa ztq z2g []),
 (zre,zaa z2x zyz []),
 (zlf,zaa zka zj7 []),
 (znb,zaa zn9 zzr []),
 (zrf,zaa z2z zzx []),
 (zjs,zaa zv1 zjz []),
 (zrg,zaa z21 z23 []),
 (zrh,zaa zts ztt []),
 (zlg,zaa zv3 zv4 []),
 (zri,zaa z24 z25 []),
 (znc,zaa z26 z27 []),
 (zrj,zaa ztu ztv []),
 (znd,zaa zv5 zyz []),
 (zrk,zaa z29 z3a []),
 (zrl,zaa z3b zzx []),
 (zrm,zaa z3d zj7 []),
 (zne,zaa zv8 zyz []),
 (zlh,zaa zl9 zj7 []),
 (znf,zaa zob zzr []),
 (zrn,zaa z3f zzx []),
 (zro,zaa z3h z23 []),
 (zrp,zaa ztw ztt []),
 (zli,zaa zty zv4 []),
 (zrq,zaa z3j z25 []),
 (zrr,zaa z3l z3a []),
 (zng,zaa z3n z27 []),
 (zrs,zaa zt0 ztv []),
 (znh,zaa zwb zyz []),
 (zni,zaa z3p zjz []),
 (zrt,zaa z3r zj7 []),
 (zru,zaa z3t z2g []),
 (zlj,zaa z3v zjz []),
 (zrv,zaa z3x zyz []),
 (zjt,zaa zwd zjz []),
 (zrw,zaa z3z zyz [true]),
 (zrx,zaa z31 zyz []),
 (zry,zaa zwf zyz []),
 (zrz,zaa z33 z2a []),
 (znj,zaa z35 zjz []),
 (zr0,zaa z37 zyz []),
 (zr1,.known [] (zhf 5 40)),
 (znk,zaa z4a zzx []),
 (zr2,zaa z4c zzx []),
 (zr3,zaa z4e zyz []),
 (zlk,zaa z4g zjz []),
 (zr4,zaa zwi zzr []),
 (zll,zaa z4i zyz []),
 (zr5,zaa z4k zzx []),
 (zr6,.known [true] zov),
 (znl,zaa zod zjz []),
 (znm,zaa z4m zjz []),
 (zr7,zaa zwk zwl []),
 (zr8,zaa z4q z4r []),
 (zr9,zaa z4t z4u []),
 (znn,zaa z4v zyz []),
 (zno,zaa z4x zjz []),
 (znp,zaa zwm zzr []),
 (zsa,zaa z4z zyz []),
 (znq,zaa zog zjz []),
 (zlm,zaa zwo zjz []),
 (zsb,zaa zwq zwl []),
 (zsc,zaa z42 z4r []),
 (zsd,zaa z45 z4u []),
 (znr,zaa z48 zjz []),
 (zns,zaa zwt zzr []),
 (zse,zaa z5a zyz []),
 (zsf,zaa z5c zyz []),
 (zsg,zaa z5e zyz []),
 (zsh,zaa z5g z5h []),
 (zsi,.known [true] zo6),
 (zsj,zaa z5i zjz []),
 (znt,zaa z5k z16 []),
 (zsk,zaa zwv zww []),
 (znu,zaa z5m zzr []),
 (znv,zaa z5o zzr []),
 (zsl,zaa z5r z5s []),
 (zsm,zaa z5t z5u []),
 (zsn,zaa z5v zjz []),
 (zso,zaa zwx zww []),
 (zju,zaa z5x zzr []),
 (zln,zaa z5z zzr []),
 (zsp,zaa z54 z5s []),
 (zsq,zaa z56 zyz []),
 (zsr,zaa z58 z59 []),
 (zlo,zaa z6a z5u []),
 (zss,zaa zwz zzr []),
 (zst,zaa z6c zyz []),
 (zlp,zaa z6e z6f []),
 (znw,zaa z6g zj7 []),
 (zsu,zaa z6i zyz []),
 (zlq,zaa z6k z5u []),
 (zsv,zaa zw1 zzr []),
 (zsw,zaa z6m zyz []),
 (zlr,zaa z6o z6f []),
 (znx,zaa z6q zj7 []),
 (zsx,zaa zw3 zyz []),
 (zsy,zaa z6s z6t []),
 (zls,zaa zw5 z6f []),
 (zsz,zaa zw7 z6f []),
 (zny,zaa z6u z6v []),
 (zs0,zaa z6w zyz []),
 (znz,zaa z6y zjz []),
 (zn0,zaa zt3 zyz []),
 (zs1,zaa z60 z6t []),
 (zlu,zaa zt5 z6f []),
 (zs2,zaa zw9 z6f []),
 (zn1,zaa z62 z6v []),
 (zs3,zaa z64 zyz []),
 (zn2,zaa z66 zjz []),
 (zs4,zaa z68 z6f []),
 (zs5,zaa zkc zkd []),
 (zn3,zaa z7a z6f []),
 (zlv,zaa z7c zjz []),
 (zn4,zaa zhs zkd []),
 (zhc,zaa zt7 zt8 []),
 (zlw,zaa z7e zyz []),
 (zs6,zaa z7g z6f []),
 (zs7,zaa zfw zkd []),
 (zjv,zaa z7i zjz []),
 (zn5,zaa zhu zkd []),
 (zjw,zaa zxb zjz []),
 (zlx,zaa zmb zyz []),
 (zs8,zaa z7k z7l []),
 (zhq,zaa zol zjz []),
 (zly,.ext zva),
 (zjx,.ext zu8),
 (zlz,zaa z7m zjz []),
 (zl0,zaa z7o zj7 []),
 (zn6,zaa zt9 zyz []),
 (zs9,zaa z7q z7l []),
 (zhr,zaa zon zjz []),
 (zl1,zaa z7s zjz []),
 (zl2,zaa z7u zj7 []),
 (zn7,zaa z7w zjz [])]
def T:zcd:=fun f=>(tbl.find? fun q=>q.1 == f).map fun q=>q.2
theorem ygw:T zqa=some (.known [] (zhf 1 16)):=rfl
theorem ygx:T zqb=some (.known [] (zhf 1 8)):=rfl
theorem yjh:T zr1=some (.known [] (zhf 5 40)):=rfl
theorem yjp:T zr6=some (.known [true] zov):=rfl
theorem yka:T zsi=some (.known [true] zo6):=rfl
theorem ylt:T zly=some (.ext zva):=rfl
theorem yax:T zjx=some (.ext zu8):=rfl
@[simp] theorem qjt:zac T zvc=[]∧zac T zmw=[]∧zac T zk4=[]∧zac T zpu=[]∧zac T zmx=[]∧zac T zpv=[]∧zac T zpw=[]∧zac T zpx=[]∧zac T zpy=[]∧zac T zjj=[]∧zac T zjk=[]∧zac T zjl=[]∧zac T zpz=[]∧zac T zp0=[]∧zac T zp1=[true]∧zac T zp2=[true]:=⟨rfl,rfl,rfl,rfl,rfl,rfl,rfl,rfl,rfl,rfl,rfl,rfl,rfl,rfl,rfl,rfl⟩
@[simp] theorem qj9:zac T zk5=[true]∧zac T zmy=[]∧zac T zp3=[]∧zac T zp4=[]∧zac T zjm=[]∧zac T zjn=[]∧zac T zp5=[]∧zac T zp6=[true]∧zac T zbo=[]∧zac T zmz=[]∧zac T zm0=[]∧zac T zk6=[]∧zac T zp7=[]∧zac T zp8=[]∧zac T zp9=[]∧zac T zm1=[]:=⟨rfl,rfl,rfl,rfl,rfl,rfl,rfl,rfl,rfl,rfl,rfl,rfl,rfl,rfl,rfl,rfl⟩
@[simp] theorem qkp:zac T zk7=[]∧zac T zqa=[]∧zac T zqb=[]∧zac T zqc=[]∧zac T zqd=[]∧zac T zqe=[]∧zac T zqf=[]∧zac T zqg=[]∧zac T zbp=[]∧zac T zqh=[]∧zac T zip=[]∧zac T zqi=[]∧zac T zqj=[]∧zac T zk8=[]∧zac T zm2=[]∧zac T zqk=[]:=⟨rfl,zxw ygw,zxw ygx,rfl,rfl,rfl,rfl,rfl,rfl,rfl,rfl,rfl,rfl,rfl,rfl,rfl⟩
@[simp] theorem qk5:zac T zql=[]∧zac T zqm=[]∧zac T zqn=[]∧zac T zqo=[]∧zac T zqp=[]∧zac T zqq=[]∧zac T zqr=[]∧zac T zqs=[]∧zac T zqt=[]∧zac T zk9=[]∧zac T zqu=[]∧zac T zqv=[]∧zac T zla=[]∧zac T zjo=[]∧zac T zqw=[]∧zac T zlb=[]:=⟨rfl,rfl,rfl,rfl,rfl,rfl,rfl,rfl,rfl,rfl,rfl,rfl,rfl,rfl,rfl,rfl⟩
@[simp] theorem qll:zac T zjp=[]∧zac T zjq=[]∧zac T zqx=[]∧zac T zqy=[]∧zac T zlc=[]∧zac T zqz=[true]∧zac T zld=[true]∧zac T zjr=[true]∧zac T zq0=[true]∧zac T zq1=[]∧zac T zq2=[]∧zac T zq3=[]∧zac T zq4=[]∧zac T zle=[]∧zac T zq5=[]∧zac T zm3=[]:=⟨rfl,rfl,rfl,rfl,rfl,rfl,rfl,rfl,rfl,rfl,rfl,rfl,rfl,rfl,rfl,rfl⟩
@[simp] theorem ql1:zac T zm4=[]∧zac T zm5=[]∧zac T zm6=[]∧zac T zm7=[]∧zac T zq6=[]∧zac T zq7=[]∧zac T zq8=[]∧zac T zq9=[]∧zac T zra=[]∧zac T zm8=[]∧zac T zm9=[]∧zac T zrb=[]∧zac T zna=[]∧zac T zrc=[]∧zac T zrd=[]∧zac T zre=[]:=⟨rfl,rfl,rfl,rfl,rfl,rfl,rfl,rfl,rfl,rfl,rfl,rfl,rfl,rfl,rfl,rfl⟩
@[simp] theorem qmh:zac T zlf=[]∧zac T znb=[]∧zac T zrf=[]∧zac T zjs=[]∧zac T zrg=[]∧zac T zrh=[]∧zac T zlg=[]∧zac T zri=[]∧zac T znc=[]∧zac T zrj=[]∧zac T znd=[]∧zac T zrk=[]∧zac T zrl=[]∧zac T zrm=[]∧zac T zne=[]∧zac T zlh=[]:=⟨rfl,rfl,rfl,rfl,rfl,rfl,rfl,rfl,rfl,rfl,rfl,rfl,rfl,rfl,rfl,rfl⟩
@[simp] theorem qmx:zac T znf=[]∧zac T zrn=[]∧zac T zro=[]∧zac T zrp=[]∧zac T zli=[]∧zac T zrq=[]∧zac T zrr=[]∧zac T zng=[]∧zac T zrs=[]∧zac T znh=[]∧zac T zni=[]∧zac T zrt=[]∧zac T zru=[]∧zac T zlj=[]∧zac T zrv=[]∧zac T zjt=[]:=⟨rfl,rfl,rfl,rfl,rfl,rfl,rfl,rfl,rfl,rfl,rfl,rfl,rfl,rfl,rfl,rfl⟩
@[simp] theorem qnd:zac T zrw=[true]∧zac T zrx=[]∧zac T zry=[]∧zac T zrz=[]∧zac T znj=[]∧zac T zr0=[]∧zac T zr1=[]∧zac T znk=[]∧zac T zr2=[]∧zac T zr3=[]∧zac T zlk=[]∧zac T zr4=[]∧zac T zll=[]∧zac T zr5=[]∧zac T zr6=[true]∧zac T znl=[]:=⟨rfl,rfl,rfl,rfl,rfl,rfl,zxw yjh,rfl,rfl,rfl,rfl,rfl,rfl,rfl,zxw yjp,rfl⟩
@[simp] theorem qnt:zac T znm=[]∧zac T zr7=[]∧zac T zr8=[]∧zac T zr9=[]∧zac T znn=[]∧zac T zno=[]∧zac T znp=[]∧zac T zsa=[]∧zac T znq=[]∧zac T zlm=[]∧zac T zsb=[]∧zac T zsc=[]∧zac T zsd=[]∧zac T znr=[]∧zac T zns=[]∧zac T zse=[]:=⟨rfl,rfl,rfl,rfl,rfl,rfl,rfl,rfl,rfl,rfl,rfl,rfl,rfl,rfl,rfl,rfl⟩
@[simp] theorem qn9:zac T zsf=[]∧zac T zsg=[]∧zac T zsh=[]∧zac T zsi=[true]∧zac T zsj=[]∧zac T znt=[]∧zac T zsk=[]∧zac T znu=[]∧zac T znv=[]∧zac T zsl=[]∧zac T zsm=[]∧zac T zsn=[]∧zac T zso=[]∧zac T zju=[]∧zac T zln=[]∧zac T zsp=[]:=⟨rfl,rfl,rfl,zxw yka,rfl,rfl,rfl,rfl,rfl,rfl,rfl,rfl,rfl,rfl,rfl,rfl⟩
@[simp] theorem qop:zac T zsq=[]∧zac T zsr=[]∧zac T zlo=[]∧zac T zss=[]∧zac T zst=[]∧zac T zlp=[]∧zac T znw=[]∧zac T zsu=[]∧zac T zlq=[]∧zac T zsv=[]∧zac T zsw=[]∧zac T zlr=[]∧zac T znx=[]∧zac T zsx=[]∧zac T zsy=[]∧zac T zls=[]:=⟨rfl,rfl,rfl,rfl,rfl,rfl,rfl,rfl,rfl,rfl,rfl,rfl,rfl,rfl,rfl,rfl⟩
@[simp] theorem qo5:zac T zsz=[]∧zac T zny=[]∧zac T zs0=[]∧zac T znz=[]∧zac T zn0=[]∧zac T zs1=[]∧zac T zlu=[]∧zac T zs2=[]∧zac T zn1=[]∧zac T zs3=[]∧zac T zn2=[]∧zac T zs4=[]∧zac T zs5=[]∧zac T zn3=[]∧zac T zlv=[]∧zac T zn4=[]:=⟨rfl,rfl,rfl,rfl,rfl,rfl,rfl,rfl,rfl,rfl,rfl,rfl,rfl,rfl,rfl,rfl⟩
@[simp] theorem qpl:zac T zhc=[]∧zac T zlw=[]∧zac T zs6=[]∧zac T zs7=[]∧zac T zjv=[]∧zac T zn5=[]∧zac T zjw=[]∧zac T zlx=[]∧zac T zs8=[]∧zac T zhq=[]∧zac T zly=[]∧zac T zjx=[]∧zac T zlz=[]∧zac T zl0=[]∧zac T zn6=[]∧zac T zs9=[]:=⟨rfl,rfl,rfl,rfl,rfl,rfl,rfl,rfl,rfl,rfl,rfl,rfl,rfl,rfl,rfl,rfl⟩
@[simp] theorem qp1:zac T zhr=[]∧zac T zl1=[]∧zac T zl2=[]∧zac T zn7=[]:=⟨rfl,rfl,rfl,rfl⟩
end Go.Pe
