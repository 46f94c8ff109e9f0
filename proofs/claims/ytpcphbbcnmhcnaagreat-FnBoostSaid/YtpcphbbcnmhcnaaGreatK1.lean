/- The compact texts of the functions that the law reaches; no condition. -/
import Derived.Test.YtpcphbbcnmhcnaaGreatK0
set_option linter.all false
namespace Go.Pe
open Go
def zw7:IC := sr [bV 2 0,bV 3 1,oV 4 (.alloc [(.v (.bool false)),(.v (.int .u64 0)),(.v (.int .u64 0)),iv 0]),fF 5] (sr [tV 13 4 2,tV 14 4 3,cE 15 zny [([0,0,0,0],(.E 13)),([0,0,0,0],(.E 14))],wE 12 15,xE 16 0 12,xE 17 1 12,xE 18 2 12,oV 6 (.alloc [(.v (.bool false)),(.v (.int .u64 0)),(.v (.int .u64 0))]),oV 7 (.alloc [(.v (.bool false)),(.v (.int .u64 0)),(.v (.int .u64 0))]),oN (.store [0,0,0] (.V 6) (.E 16)),oN (.store [0,0,0] (.V 7) (.E 17)),vE 8 18] (.seq (sr [mV 19 8,uE 20 19] (cd 20 (sr [oE 21 (.build [(.v (.bool false)),(.v (.int .u64 0)),(.v (.int .u64 0)),iv 0] []),oN (.store [0,0,0,0] (.V 4) (.E 21)),fF 5] .ret) .skip)) (sr [tV 23 3 6,tV 24 3 7,cE 25 zsv [([0,0,0],(.E 23)),([0,0,0],(.E 24))],wE 22 25,xE 26 0 22,xE 27 1 22,oV 9 (.alloc [(.v (.bool false)),(.v (.int .u64 0)),(.v (.int .u64 0))]),oN (.store [0,0,0] (.V 9) (.E 26)),vE 10 27] (sr [tV 28 3 9,fV 29 3 2,lE 30 29,fV 31 3 3,lE 32 31,bE 33 .mul 30 32,oE 34 (.build [(.v (.bool false)),(.v (.int .u64 0)),(.v (.int .u64 0)),iv 0] [(0,3,(.E 28)),(3,1,(.E 33))]),oV 11 (.alloc [(.v (.bool false)),(.v (.int .u64 0)),(.v (.int .u64 0)),iv 0]),oN (.store [0,0,0,0] (.V 11) (.E 34))] (.seq (sr [mV 35 10,uE 36 35,wE 37 36,gE 38 37 .false (.load true 4 (.V 11)),gE 39 37 .false (.call zj0 [([0,0,0,0],(.E 38))]),gE 40 37 .false (.un .not (.E 39)),pT 41 37 40] (cd 41 (sr [oE 42 (.build [(.v (.bool false)),(.v (.int .u64 0)),(.v (.int .u64 0)),iv 0] []),oN (.store [0,0,0,0] (.V 4) (.E 42)),fF 5] .ret) .skip)) (sr [tV 43 4 11,oN (.store [0,0,0,0] (.V 4) (.E 43)),fT 5] .ret))))))
def z47:IC := sr [bV 2 0,bV 3 1,oV 4 (.alloc [(.v (.bool false)),(.v (.int .u64 0)),(.v (.int .u64 0))]),oV 5 (.alloc [(.v (.bool false)),(.v (.int .u64 0)),(.v (.int .u64 0))]),fF 6] (.seq (sr [tV 11 4 2,cE 12 zj0 [([0,0,0,0],(.E 11))],uE 13 12,wE 14 13,gE 15 14 .false (.load true 4 (.V 3)),gE 16 14 .false (.call zj0 [([0,0,0,0],(.E 15))]),gE 17 14 .false (.un .not (.E 16)),pT 18 14 17] (cd 18 (sr [oE 19 (.build [(.v (.bool false)),(.v (.int .u64 0)),(.v (.int .u64 0))] []),oE 20 (.build [(.v (.bool false)),(.v (.int .u64 0)),(.v (.int .u64 0))] []),oN (.store [0,0,0] (.V 4) (.E 19)),oN (.store [0,0,0] (.V 5) (.E 20)),fF 6] .ret) .skip)) (sr [fV 22 0 2,tE 23 3 22,fV 24 3 3,lE 25 24,cE 26 zn2 [([0,0,0],(.E 23)),([0],(.E 25))],wE 21 26,xE 27 0 21,xE 28 1 21,oV 7 (.alloc [(.v (.bool false)),(.v (.int .u64 0)),(.v (.int .u64 0))]),oN (.store [0,0,0] (.V 7) (.E 27)),vE 8 28] (sr [fV 30 0 3,tE 31 3 30,fV 32 3 2,lE 33 32,cE 34 zn2 [([0,0,0],(.E 31)),([0],(.E 33))],wE 29 34,xE 35 0 29,xE 36 1 29,oV 9 (.alloc [(.v (.bool false)),(.v (.int .u64 0)),(.v (.int .u64 0))]),oN (.store [0,0,0] (.V 9) (.E 35)),vE 10 36] (.seq (.regD [(tV 37 3 7,0,0),(tV 38 3 9,0,1),(mV 39 8,0,0),(wE 40 39,0,0),(gE 41 40 .true (.mv (.V 10)),0,0),(pF 42 40 41,0,0),(oN (.store [0,0,0] (.V 4) (.E 37)),0,0),(oN (.store [0,0,0] (.V 5) (.E 38)),0,0),(vE 6 42,0,0)]) .ret))))
def z49:IC := sr [bV 2 0,bV 3 1,f0 4] (sr [fV 7 0 2,lE 8 7,wE 9 8,gE 10 9 .true (.load true 3 (.V 2)),gE 11 9 .true (.call zj1 [([0,0,0],(.E 10))]),gE 12 9 .true (.un .not (.E 11)),pF 13 9 12,vE 5 13] (sr [fV 14 0 3,lE 15 14,wE 16 15,gE 17 16 .true (.load true 3 (.V 3)),gE 18 16 .true (.call zj1 [([0,0,0],(.E 17))]),gE 19 16 .true (.un .not (.E 18)),pF 20 16 19,vE 6 20] (.seq (.block 0 (sr [mV 22 5,wE 23 22,gE 24 23 .true (.mv (.V 6)),gE 25 23 .true (.un .not (.E 24)),pF 26 23 25,wE 21 26] (cd 21 (sr [oV 4 (.mv (ki (-1)))] .ret) (sr [mV 28 6,wE 29 28,gE 30 29 .true (.mv (.V 5)),gE 31 29 .true (.un .not (.E 30)),pF 32 29 31,wE 27 32] (cd 27 (sr [oV 4 (.mv (ki 1))] .ret) (sr [mV 34 5,wE 33 34] (cd 33 (sr [tV 35 3 3,tV 36 3 2,cE 37 zlx [([0,0,0],(.E 35)),([0,0,0],(.E 36))],vE 4 37] .ret) .skip))))))) (sr [tV 38 3 2,tV 39 3 3,cE 40 zlx [([0,0,0],(.E 38)),([0,0,0],(.E 39))],vE 4 40] .ret))))
def z5b:IC := sr [fF 2] (sr [mV 3 0,mV 4 0,bE 5 .neq 3 4,vE 2 5] .ret)
def z5d:IC := sr [oV 4 (.alloc [(.v (.bool false)),(.v (.int .u64 0)),(.v (.int .u64 0)),iv 0]),fF 5] (sr [mV 6 0,mV 7 0,cE 8 zsw [([0],(.E 6)),([0],(.E 7))],mV 9 1,cE 10 zn0 [([0,0,0],(.E 8)),([0],(.E 9))],xE 11 0 10,xE 12 1 10,oN (.store [0,0,0,0] (.V 4) (.E 11)),vE 5 12] .ret)
def yxb:List Nat:=[0,1,2,3,4,5,6,7,8,10,11,12,14]
def zkh:IC := sr [bV 2 0,bV 3 1,oV 4 (.alloc [(.v (.bool false)),(.v (.int .u64 0)),(.v (.int .u64 0))]),fF 5] (.seq (sr [tV 15 3 2,cE 16 zh0 [([0,0,0],(.E 15))],uE 17 16,wE 18 17,gE 19 18 .false (.load true 3 (.V 3)),gE 20 18 .false (.call zh0 [([0,0,0],(.E 19))]),gE 21 18 .false (.un .not (.E 20)),pT 22 18 21] (cd 22 (sr [oE 23 (.build [(.v (.bool false)),(.v (.int .u64 0)),(.v (.int .u64 0))] []),oN (.store [0,0,0] (.V 4) (.E 23)),fF 5] .ret) .skip)) (.seq (sr [fV 24 0 2,lE 25 24,fV 26 0 3,lE 27 26,oE 28 (.eqb true [.b] (.E 25) (.E 27))] (cd 28 (.seq (sr [tV 29 3 2,tV 30 3 3,cE 31 zlw [([0,0,0],(.E 29)),([0,0,0],(.E 30))],kE 32 .lss 31 0] (cd 32 (.reg [tV 33 3 3,tV 34 3 2,oN (.store [0,0,0] (.V 2) (.E 33)),oN (.store [0,0,0] (.V 3) (.E 34))]) .skip)) (sr [fV 36 2 2,lE 37 36,fV 38 2 3,lE 39 38,cE 40 zly [([0],(.E 37)),([0],(.E 39)),([0],(.C (.v (.int .u64 0))))],wE 35 40,xE 41 0 35,xE 42 1 35,vE 6 41,vE 7 42] (sr [fV 44 1 2,lE 45 44,fV 46 1 3,lE 47 46,mV 48 7,cE 49 zly [([0],(.E 45)),([0],(.E 47)),([0],(.E 48))],wE 43 49,xE 50 0 43,xE 51 1 43,vE 8 50,wE 9 51] (sr [fV 52 0 2,lE 53 52,mV 54 8,mV 55 6,cE 56 zhe [([0],(.E 53)),([0],(.E 54)),([0],(.E 55))],oN (.store [0,0,0] (.V 4) (.E 56)),fT 5] .ret)))) .skip)) (sr [fV 58 2 2,lE 59 58,fV 60 2 3,lE 61 60,cE 62 zj2 [([0],(.E 59)),([0],(.E 61)),([0],(.C (.v (.int .u64 0))))],wE 57 62,xE 63 0 57,xE 64 1 57,vE 10 63,vE 11 64] (sr [fV 66 1 2,lE 67 66,fV 68 1 3,lE 69 68,mV 70 11,cE 71 zj2 [([0],(.E 67)),([0],(.E 69)),([0],(.E 70))],wE 65 71,xE 72 0 65,xE 73 1 65,vE 12 72,wE 13 73] (sr [fV 74 0 2,lE 75 74,mV 76 12,mV 77 10,cE 78 zhe [([0],(.E 75)),([0],(.E 76)),([0],(.E 77))],oV 14 (.alloc [(.v (.bool false)),(.v (.int .u64 0)),(.v (.int .u64 0))]),oN (.store [0,0,0] (.V 14) (.E 78))] (.seq (sr [tV 79 3 14,cE 80 zh0 [([0,0,0],(.E 79))],uE 81 80] (cd 81 (sr [oE 82 (.build [(.v (.bool false)),(.v (.int .u64 0)),(.v (.int .u64 0))] []),oN (.store [0,0,0] (.V 4) (.E 82)),fF 5] .ret) .skip)) (sr [tV 83 3 14,oN (.store [0,0,0] (.V 4) (.E 83)),fT 5] .ret)))))))
def zki:List RV:=[.cell [0,0,0] 4 true,.tmp [0] 5]
def z5f:IC := sr [bV 2 0,oV 4 (.alloc [(.v (.bool false)),(.v (.int .u64 0)),(.v (.int .u64 0)),iv 0]),fF 5] (sr [tV 7 3 2,mV 8 1,oE 9 (.build [(.v (.bool false)),(.v (.int .u64 0)),(.v (.int .u64 0)),iv 0] [(0,3,(.E 7)),(3,1,(.E 8))]),oV 6 (.alloc [(.v (.bool false)),(.v (.int .u64 0)),(.v (.int .u64 0)),iv 0]),oN (.store [0,0,0,0] (.V 6) (.E 9))] (.seq (sr [tV 10 4 6,cE 11 zlv [([0,0,0,0],(.E 10))],uE 12 11] (cd 12 (sr [oE 13 (.build [(.v (.bool false)),(.v (.int .u64 0)),(.v (.int .u64 0)),iv 0] []),oN (.store [0,0,0,0] (.V 4) (.E 13)),fF 5] .ret) .skip)) (sr [tV 14 4 6,oN (.store [0,0,0,0] (.V 4) (.E 14)),fT 5] .ret)))
def z5h:IC := sr [bV 1 0,fF 2] (sr [fV 3 0 1,tE 4 3 3,cE 5 zh0 [([0,0,0],(.E 4))],wE 6 5,gE 7 6 .true (.faddr 3 (.V 1)),gE 8 6 .true (.load false 1 (.E 7)),gE 9 6 .true (.call zbt [([0],(.E 8)),([0],(ki 1)),([0],(ki 1000000))]),pF 10 6 9,vE 2 10] .ret)
def zh2:IC := sr [bV 2 0,oV 4 (.alloc [(.v (.bool false)),(.v (.int .u64 0)),(.v (.int .u64 0))]),fF 5] (.seq (sr [tV 13 3 2,cE 14 zh0 [([0,0,0],(.E 13))],uE 15 14] (cd 15 (sr [oE 16 (.build [(.v (.bool false)),(.v (.int .u64 0)),(.v (.int .u64 0))] []),oN (.store [0,0,0] (.V 4) (.E 16)),fF 5] .ret) .skip)) (sr [mV 17 1,cE 18 zlz [([0],(.E 17))],vE 6 18] (sr [fV 20 1 2,lE 21 20,mV 22 6,cE 23 zl0 [([0],(.E 21)),([0],(.E 22))],wE 19 23,xE 24 0 19,xE 25 1 19,vE 7 24,vE 8 25] (sr [fV 27 2 2,lE 28 27,mV 29 6,cE 30 zl0 [([0],(.E 28)),([0],(.E 29))],wE 26 30,xE 31 0 26,xE 32 1 26,vE 9 31,vE 10 32] (sr [mV 34 8,mV 35 9,cE 36 zj2 [([0],(.E 34)),([0],(.E 35)),([0],(.C (.v (.int .u64 0))))],wE 33 36,xE 37 0 33,xE 38 1 33,vE 8 37,vE 11 38] (sr [fV 39 0 2,lE 40 39,mV 41 1,kE 42 .lss 41 0,oE 43 (.eqb true [.b] (.E 40) (.E 42)),mV 44 8,mV 45 10,cE 46 zhe [([0],(.E 43)),([0],(.E 44)),([0],(.E 45))],oV 12 (.alloc [(.v (.bool false)),(.v (.int .u64 0)),(.v (.int .u64 0))]),oN (.store [0,0,0] (.V 12) (.E 46))] (.seq (sr [mV 47 7,oE 48 (.bin .gtr (.E 47) (.C (.v (.int .u64 0)))),wE 49 48,gE 50 49 .false (.mv (.V 11)),gE 51 49 .false (.bin .gtr (.E 50) (.C (.v (.int .u64 0)))),pT 52 49 51,wE 53 52,gE 54 53 .false (.load true 3 (.V 12)),gE 55 53 .false (.call zh0 [([0,0,0],(.E 54))]),gE 56 53 .false (.un .not (.E 55)),pT 57 53 56] (cd 57 (sr [oE 58 (.build [(.v (.bool false)),(.v (.int .u64 0)),(.v (.int .u64 0))] []),oN (.store [0,0,0] (.V 4) (.E 58)),fF 5] .ret) .skip)) (sr [tV 59 3 12,oN (.store [0,0,0] (.V 4) (.E 59)),fT 5] .ret))))))))
def ztz:IC := sr [oV 6 (.alloc [(.v (.bool false)),(.v (.int .u64 0)),(.v (.int .u64 0))])] (sr [mV 7 0,wE 8 7,gE 9 8 .true (.mv (.V 1)),gE 10 8 .true (.bin .gtr (.E 9) (.C (.v (.int .u64 0)))),gE 11 8 .true (.mv (.E 10)),gE 12 11 .false (.mv (.V 2)),gE 13 11 .false (.bin .gtr (.E 12) (.C (.v (.int .u64 0)))),gE 14 8 .true (.pick (.E 11) (kb true) (.E 13)),pF 15 8 14,mV 16 1,mV 17 2,oE 18 (.build [(.v (.bool false)),(.v (.int .u64 0)),(.v (.int .u64 0))] [(0,1,(.E 15)),(1,1,(.E 16)),(2,1,(.E 17))]),oN (.store [0,0,0] (.V 6) (.E 18))] .ret)
def zt0:List RV:=[.cell [0,0,0] 6 true]
def z5j:IC := sr [bV 2 0,bV 3 1,f0 4] (.seq (.regD [(fV 5 1 2,0,0),(lE 6 5,0,0),(fV 7 1 3,0,0),(lE 8 7,0,0),(cE 9 zn3 [([0],(.E 6)),([0],(.E 8))],0,0),(fV 10 2 2,1,0),(lE 11 10,1,0),(fV 12 2 3,1,0),(lE 13 12,1,0),(cE 14 zn3 [([0],(.E 11)),([0],(.E 13))],0,0),(oE 15 (.bslice 2 1 [iv 0] [(0,(.E 9)),(1,(.E 14))]),0,0),(cE 16 znw [([1],(.E 15))],0,0),(vE 4 16,0,0)]) .ret)
def z5l:IC := sr [oV 4 (.alloc [(.v (.bool false)),(.v (.int .u64 0)),(.v (.int .u64 0)),iv 0]),fF 5] (sr [mV 7 0,mV 8 0,cE 9 zsx [([0],(.E 7)),([0],(.E 8))],mV 10 1,oE 11 (.build [(.v (.bool false)),(.v (.int .u64 0)),(.v (.int .u64 0)),iv 0] [(0,3,(.E 9)),(3,1,(.E 10))]),oV 6 (.alloc [(.v (.bool false)),(.v (.int .u64 0)),(.v (.int .u64 0)),iv 0]),oN (.store [0,0,0,0] (.V 6) (.E 11))] (.seq (sr [tV 12 4 6,cE 13 zj0 [([0,0,0,0],(.E 12))],uE 14 13] (cd 14 (sr [oE 15 (.build [(.v (.bool false)),(.v (.int .u64 0)),(.v (.int .u64 0)),iv 0] []),oN (.store [0,0,0,0] (.V 4) (.E 15)),fF 5] .ret) .skip)) (sr [tV 16 4 6,oN (.store [0,0,0,0] (.V 4) (.E 16)),fT 5] .ret)))
def zfz:IC := sr [bV 2 0,bV 3 1,oV 4 (.alloc [(.v (.bool false)),(.v (.int .u64 0)),(.v (.int .u64 0))]),fF 5] (.seq (sr [tV 10 3 2,cE 11 zh1 [([0,0,0],(.E 10))],uE 12 11,wE 13 12,gE 14 13 .false (.load true 3 (.V 3)),gE 15 13 .false (.call zh1 [([0,0,0],(.E 14))]),gE 16 13 .false (.un .not (.E 15)),pT 17 13 16] (cd 17 (sr [oE 18 (.build [(.v (.bool false)),(.v (.int .u64 0)),(.v (.int .u64 0))] []),oN (.store [0,0,0] (.V 4) (.E 18)),fF 5] .ret) .skip)) (.seq (sr [fV 19 0 2,lE 20 19,fV 21 0 3,lE 22 21,oE 23 (.eqb false [.b] (.E 20) (.E 22))] (cd 23 (sr [fV 24 0 2,lE 25 24,fV 26 1 2,lE 27 26,fV 28 1 3,lE 29 28,bE 30 .add 27 29,fV 31 2 2,lE 32 31,fV 33 2 3,lE 34 33,bE 35 .add 32 34,oE 36 (.build [(.v (.bool false)),(.v (.int .u64 0)),(.v (.int .u64 0))] [(0,1,(.E 25)),(1,1,(.E 30)),(2,1,(.E 35))]),oV 6 (.alloc [(.v (.bool false)),(.v (.int .u64 0)),(.v (.int .u64 0))]),oN (.store [0,0,0] (.V 6) (.E 36))] (.seq (sr [fV 37 2 6,lE 38 37,fV 39 2 2,lE 40 39,bE 41 .lss 38 40] (cd 41 (.reg [fV 42 1 6,lE 43 42,oE 44 (.bin .add (.E 43) (.C (.v (.int .u64 1)))),fV 45 1 6,oN (.store [0] (.E 45) (.E 44))]) .skip)) (.seq (sr [tV 46 3 6,cE 47 zh1 [([0,0,0],(.E 46))],uE 48 47] (cd 48 (sr [oE 49 (.build [(.v (.bool false)),(.v (.int .u64 0)),(.v (.int .u64 0))] []),oN (.store [0,0,0] (.V 4) (.E 49)),fF 5] .ret) .skip)) (sr [tV 50 3 6,oN (.store [0,0,0] (.V 4) (.E 50)),fT 5] .ret)))) .skip)) (sr [tV 51 3 2,oV 7 (.alloc [(.v (.bool false)),(.v (.int .u64 0)),(.v (.int .u64 0))]),oN (.store [0,0,0] (.V 7) (.E 51))] (sr [tV 52 3 3,oV 8 (.alloc [(.v (.bool false)),(.v (.int .u64 0)),(.v (.int .u64 0))]),oN (.store [0,0,0] (.V 8) (.E 52))] (.seq (sr [tV 53 3 2,tV 54 3 3,cE 55 zlx [([0,0,0],(.E 53)),([0,0,0],(.E 54))],kE 56 .lss 55 0] (cd 56 (sr [tV 57 3 3,oN (.store [0,0,0] (.V 7) (.E 57))] (.reg [tV 58 3 2,oN (.store [0,0,0] (.V 8) (.E 58))])) .skip)) (sr [fV 59 0 7,lE 60 59,fV 61 1 7,lE 62 61,fV 63 1 8,lE 64 63,bE 65 .sub 62 64,fV 66 2 7,lE 67 66,fV 68 2 8,lE 69 68,bE 70 .sub 67 69,oE 71 (.build [(.v (.bool false)),(.v (.int .u64 0)),(.v (.int .u64 0))] [(0,1,(.E 60)),(1,1,(.E 65)),(2,1,(.E 70))]),oV 9 (.alloc [(.v (.bool false)),(.v (.int .u64 0)),(.v (.int .u64 0))]),oN (.store [0,0,0] (.V 9) (.E 71))] (.seq (sr [fV 72 2 7,lE 73 72,fV 74 2 8,lE 75 74,bE 76 .lss 73 75] (cd 76 (.reg [fV 77 1 9,lE 78 77,oE 79 (.bin .sub (.E 78) (.C (.v (.int .u64 1)))),fV 80 1 9,oN (.store [0] (.E 80) (.E 79))]) .skip)) (.seq (sr [tV 81 3 9,cE 82 zj1 [([0,0,0],(.E 81))]] (cd 82 (.reg [fV 83 0 9,oN (.store [0] (.E 83) (kb false))]) .skip)) (sr [tV 84 3 9,oN (.store [0,0,0] (.V 4) (.E 84)),fT 5] .ret)))))))))
def z5n:IC := sr [bV 1 0,fF 2] (sr [fV 3 0 1,tE 4 3 3,cE 5 zh1 [([0,0,0],(.E 4))],wE 6 5,gE 7 6 .true (.faddr 3 (.V 1)),gE 8 6 .true (.load false 1 (.E 7)),gE 9 6 .true (.call zbs [([0],(.E 8)),([0],(ki 1)),([0],(ki 1000000))]),pF 10 6 9,vE 2 10] .ret)
def zh4:IC := sr [bV 2 0,oV 4 (.alloc [(.v (.bool false)),(.v (.int .u64 0)),(.v (.int .u64 0))]),fF 5] (.seq (sr [tV 13 3 2,cE 14 zh1 [([0,0,0],(.E 13))],uE 15 14] (cd 15 (sr [oE 16 (.build [(.v (.bool false)),(.v (.int .u64 0)),(.v (.int .u64 0))] []),oN (.store [0,0,0] (.V 4) (.E 16)),fF 5] .ret) .skip)) (sr [mV 17 1,cE 18 zl1 [([0],(.E 17))],vE 6 18] (sr [fV 20 1 2,lE 21 20,mV 22 6,cE 23 zl2 [([0],(.E 21)),([0],(.E 22))],wE 19 23,xE 24 0 19,xE 25 1 19,vE 7 24,vE 8 25] (sr [fV 27 2 2,lE 28 27,mV 29 6,cE 30 zl2 [([0],(.E 28)),([0],(.E 29))],wE 26 30,xE 31 0 26,xE 32 1 26,vE 9 31,vE 10 32] (sr [mV 33 8,mV 34 9,bE 35 .add 33 34,vE 11 35] (sr [fV 36 0 2,lE 37 36,mV 38 1,kE 39 .lss 38 0,oE 40 (.eqb true [.b] (.E 37) (.E 39)),mV 41 11,mV 42 10,oE 43 (.build [(.v (.bool false)),(.v (.int .u64 0)),(.v (.int .u64 0))] [(0,1,(.E 40)),(1,1,(.E 41)),(2,1,(.E 42))]),oV 12 (.alloc [(.v (.bool false)),(.v (.int .u64 0)),(.v (.int .u64 0))]),oN (.store [0,0,0] (.V 12) (.E 43))] (.seq (sr [tV 44 3 12,cE 45 zj1 [([0,0,0],(.E 44))]] (cd 45 (.reg [fV 46 0 12,oN (.store [0] (.E 46) (kb false))]) .skip)) (.seq (sr [mV 47 7,oE 48 (.bin .gtr (.E 47) (.C (.v (.int .u64 0)))),wE 49 48,gE 50 49 .false (.mv (.V 11)),gE 51 49 .false (.mv (.V 8)),gE 52 49 .false (.bin .lss (.E 50) (.E 51)),pT 53 49 52,wE 54 53,gE 55 54 .false (.load true 3 (.V 12)),gE 56 54 .false (.call zh1 [([0,0,0],(.E 55))]),gE 57 54 .false (.un .not (.E 56)),pT 58 54 57] (cd 58 (sr [oE 59 (.build [(.v (.bool false)),(.v (.int .u64 0)),(.v (.int .u64 0))] []),oN (.store [0,0,0] (.V 4) (.E 59)),fF 5] .ret) .skip)) (sr [tV 60 3 12,oN (.store [0,0,0] (.V 4) (.E 60)),fT 5] .ret)))))))))
def zw9:IC := sr [bV 1 0,fF 2] (sr [fV 3 1 1,lE 4 3,oE 5 (.bin .eql (.E 4) (.C (.v (.int .u64 0)))),wE 6 5,gE 7 6 .true (.faddr 2 (.V 1)),gE 8 6 .true (.load false 1 (.E 7)),gE 9 6 .true (.bin .eql (.E 8) (.C (.v (.int .u64 0)))),pF 10 6 9,vE 2 10] .ret)
def zl8:IC := sr [bV 2 0,bV 3 1,f0 4] (.seq (.block 0 (sr [fV 6 1 2,lE 7 6,fV 8 1 3,lE 9 8,bE 10 .lss 7 9,wE 11 10,gE 12 11 .false (.faddr 1 (.V 2)),gE 13 11 .false (.load false 1 (.E 12)),gE 14 11 .false (.faddr 1 (.V 3)),gE 15 11 .false (.load false 1 (.E 14)),gE 16 11 .false (.bin .eql (.E 13) (.E 15)),gE 17 11 .false (.mv (.E 16)),gE 18 17 .true (.faddr 2 (.V 2)),gE 19 17 .true (.load false 1 (.E 18)),gE 20 17 .true (.faddr 2 (.V 3)),gE 21 17 .true (.load false 1 (.E 20)),gE 22 17 .true (.bin .lss (.E 19) (.E 21)),gE 23 11 .false (.pick (.E 17) (.E 22) (kb false)),pT 24 11 23,wE 5 24] (cd 5 (sr [oV 4 (.mv (ki (-1)))] .ret) (sr [fV 26 1 2,lE 27 26,fV 28 1 3,lE 29 28,bE 30 .gtr 27 29,wE 31 30,gE 32 31 .false (.faddr 2 (.V 2)),gE 33 31 .false (.load false 1 (.E 32)),gE 34 31 .false (.faddr 2 (.V 3)),gE 35 31 .false (.load false 1 (.E 34)),gE 36 31 .false (.bin .gtr (.E 33) (.E 35)),pT 37 31 36,wE 25 37] (cd 25 (sr [oV 4 (.mv (ki 1))] .ret) .skip))))) (sr [f0 4] .ret))
def z5p:IC := sr [oV 4 (.alloc [(.v (.bool false)),(.v (.int .u64 0)),(.v (.int .u64 0))])] (sr [mV 8 0,cE 9 zlz [([0],(.E 8))],mV 10 1,cE 11 zlz [([0],(.E 10))],cE 12 zl0 [([0],(.E 9)),([0],(.E 11))],wE 7 12,xE 13 0 7,xE 14 1 7,vE 5 13,vE 6 14] (sr [mV 15 0,kE 16 .lss 15 0,mV 17 1,kE 18 .lss 17 0,oE 19 (.eqb true [.b] (.E 16) (.E 18)),mV 20 5,mV 21 6,cE 22 zhe [([0],(.E 19)),([0],(.E 20)),([0],(.E 21))],oN (.store [0,0,0] (.V 4) (.E 22))] .ret))
def z5q:List RV:=[.cell [0,0,0] 4 true]
def zoq:IC := sr [bV 1 0,fF 2] (sr [fV 3 1 1,lE 4 3,oE 5 (.bin .lss (.E 4) (.C (.v (.int .u64 9223372036854775808)))),wE 6 5,gE 7 6 .true (.faddr 0 (.V 1)),gE 8 6 .true (.load false 1 (.E 7)),gE 9 6 .true (.un .not (.E 8)),gE 10 6 .true (.mv (.E 9)),gE 11 10 .false (.faddr 1 (.V 1)),gE 12 10 .false (.load false 1 (.E 11)),gE 13 10 .false (.bin .gtr (.E 12) (.C (.v (.int .u64 0)))),gE 14 6 .true (.pick (.E 10) (kb true) (.E 13)),gE 15 6 .true (.mv (.E 14)),gE 16 15 .false (.faddr 2 (.V 1)),gE 17 15 .false (.load false 1 (.E 16)),gE 18 15 .false (.bin .gtr (.E 17) (.C (.v (.int .u64 0)))),gE 19 6 .true (.pick (.E 15) (kb true) (.E 18)),pF 20 6 19,vE 2 20] .ret)
def z5r:IC := sr [oV 2 (.mv (.C (.v (.int .u64 0))))] (.seq (sr [mV 3 0,kE 4 .lss 3 0] (cd 4 (sr [mV 5 0,oE 6 (.convI .u64 (.E 5)),oE 7 (.un .neg (.E 6)),vE 2 7] .ret) .skip)) (sr [mV 8 0,oE 9 (.convI .u64 (.E 8)),vE 2 9] .ret))
def yxq:List Nat:=[0,1,4,5,6,7,8,9,10,11,12,13]
def z5t:IC := sr [oV 4 (.mv (.C (.v (.int .u64 0)))),oV 5 (.mv (.C (.v (.int .u64 0))))] (sr [mV 14 0,oE 15 (.bin .and (.E 14) (.C (.v (.int .u64 4294967295)))),vE 6 15] (sr [mV 16 0,oE 17 (.bin .shr (.E 16) (.C (.v (.int .u64 32)))),vE 7 17] (sr [mV 18 1,oE 19 (.bin .and (.E 18) (.C (.v (.int .u64 4294967295)))),vE 8 19] (sr [mV 20 1,oE 21 (.bin .shr (.E 20) (.C (.v (.int .u64 32)))),vE 9 21] (sr [mV 22 6,mV 23 8,bE 24 .mul 22 23,vE 10 24] (sr [mV 25 7,mV 26 8,bE 27 .mul 25 26,mV 28 10,oE 29 (.bin .shr (.E 28) (.C (.v (.int .u64 32)))),bE 30 .add 27 29,vE 11 30] (sr [mV 31 11,oE 32 (.bin .and (.E 31) (.C (.v (.int .u64 4294967295)))),vE 12 32] (sr [mV 33 11,oE 34 (.bin .shr (.E 33) (.C (.v (.int .u64 32)))),vE 13 34] (sr [mV 35 12,mV 36 6,mV 37 9,bE 38 .mul 36 37,bE 39 .add 35 38,vE 12 39] (sr [mV 40 7,mV 41 9,bE 42 .mul 40 41,mV 43 13,bE 44 .add 42 43,mV 45 12,oE 46 (.bin .shr (.E 45) (.C (.v (.int .u64 32)))),bE 47 .add 44 46,vE 4 47] (sr [mV 48 0,mV 49 1,bE 50 .mul 48 49,vE 5 50] .ret)))))))))))
def zt1:IC := sr [f0 4] (sr [mV 7 0,cE 8 zn4 [([0],(.E 7))],vE 5 8] (sr [mV 9 1,cE 10 zn4 [([0],(.E 9))],vE 6 10] (.seq (sr [mV 11 5] (cd 11 (.seq (sr [mV 12 6] (cd 12 (sr [f0 4] .ret) .skip)) (sr [oV 4 (.mv (ki (-1)))] .ret)) .skip)) (.seq (sr [mV 13 6] (cd 13 (sr [oV 4 (.mv (ki 1))] .ret) .skip)) (.seq (sr [mV 14 0,mV 15 1,bE 16 .lss 14 15] (cd 16 (sr [oV 4 (.mv (ki (-1)))] .ret) .skip)) (.seq (sr [mV 17 0,mV 18 1,bE 19 .gtr 17 18] (cd 19 (sr [oV 4 (.mv (ki 1))] .ret) .skip)) (sr [f0 4] .ret)))))))
def z5v:IC := sr [oV 4 (.alloc [(.v (.bool false)),(.v (.int .u64 0)),(.v (.int .u64 0))])] (sr [mV 8 0,cE 9 zl1 [([0],(.E 8))],mV 10 1,cE 11 zl1 [([0],(.E 10))],cE 12 zl2 [([0],(.E 9)),([0],(.E 11))],wE 7 12,xE 13 0 7,xE 14 1 7,vE 5 13,vE 6 14] (sr [mV 15 0,kE 16 .lss 15 0,mV 17 1,kE 18 .lss 17 0,oE 19 (.eqb true [.b] (.E 16) (.E 18)),wE 20 19,gE 21 20 .true (.mv (.V 0)),gE 22 20 .true (.bin .neq (.E 21) (ki 0)),pF 23 20 22,wE 24 23,gE 25 24 .true (.mv (.V 1)),gE 26 24 .true (.bin .neq (.E 25) (ki 0)),pF 27 24 26,mV 28 5,mV 29 6,oE 30 (.build [(.v (.bool false)),(.v (.int .u64 0)),(.v (.int .u64 0))] [(0,1,(.E 27)),(1,1,(.E 28)),(2,1,(.E 29))]),oN (.store [0,0,0] (.V 4) (.E 30))] .ret))
def zos:IC := sr [bV 1 0,fF 2] (sr [fV 3 1 1,lE 4 3,oE 5 (.bin .lss (.E 4) (.C (.v (.int .u64 9223372036854775808)))),wE 6 5,gE 7 6 .true (.faddr 0 (.V 1)),gE 8 6 .true (.load false 1 (.E 7)),gE 9 6 .true (.un .not (.E 8)),gE 10 6 .true (.mv (.E 9)),gE 11 10 .false (.faddr 1 (.V 1)),gE 12 10 .false (.load false 1 (.E 11)),gE 13 10 .false (.bin .gtr (.E 12) (.C (.v (.int .u64 0)))),gE 14 6 .true (.pick (.E 10) (kb true) (.E 13)),gE 15 6 .true (.mv (.E 14)),gE 16 15 .false (.faddr 2 (.V 1)),gE 17 15 .false (.load false 1 (.E 16)),gE 18 15 .false (.bin .gtr (.E 17) (.C (.v (.int .u64 0)))),gE 19 6 .true (.pick (.E 15) (kb true) (.E 18)),pF 20 6 19,vE 2 20] .ret)
def z5x:IC := sr [oV 2 (.mv (.C (.v (.int .u64 0))))] (.seq (sr [mV 3 0,kE 4 .lss 3 0] (cd 4 (sr [mV 5 0,kE 6 .add 5 1,oE 7 (.un .neg (.E 6)),oE 8 (.convI .u64 (.E 7)),oE 9 (.bin .add (.E 8) (.C (.v (.int .u64 1)))),vE 2 9] .ret) .skip)) (sr [mV 10 0,oE 11 (.convI .u64 (.E 10)),vE 2 11] .ret))
def yxv:List Nat:=[0,1,4,5,6,7,8,9,10,11,12]
def z5z:IC := sr [oV 4 (.mv (.C (.v (.int .u64 0)))),oV 5 (.mv (.C (.v (.int .u64 0))))] (sr [mV 13 0,oE 14 (.bin .shr (.E 13) (.C (.v (.int .u64 32)))),vE 6 14] (sr [mV 15 0,oE 16 (.bin .and (.E 15) (.C (.v (.int .u64 4294967295)))),vE 7 16] (sr [mV 17 1,oE 18 (.bin .shr (.E 17) (.C (.v (.int .u64 32)))),vE 8 18] (sr [mV 19 1,oE 20 (.bin .and (.E 19) (.C (.v (.int .u64 4294967295)))),vE 9 20] (sr [mV 21 7,mV 22 9,bE 23 .mul 21 22,vE 10 23] (sr [mV 24 6,mV 25 9,bE 26 .mul 24 25,mV 27 10,oE 28 (.bin .shr (.E 27) (.C (.v (.int .u64 32)))),bE 29 .add 26 28,vE 11 29] (sr [mV 30 7,mV 31 8,bE 32 .mul 30 31,mV 33 11,oE 34 (.bin .and (.E 33) (.C (.v (.int .u64 4294967295)))),bE 35 .add 32 34,vE 12 35] (sr [mV 36 6,mV 37 8,bE 38 .mul 36 37,mV 39 11,oE 40 (.bin .shr (.E 39) (.C (.v (.int .u64 32)))),bE 41 .add 38 40,mV 42 12,oE 43 (.bin .shr (.E 42) (.C (.v (.int .u64 32)))),bE 44 .add 41 43,mV 45 12,oE 46 (.bin .shl (.E 45) (.C (.v (.int .u64 32)))),mV 47 10,oE 48 (.bin .and (.E 47) (.C (.v (.int .u64 4294967295)))),bE 49 .add 46 48,vE 4 44,vE 5 49] .ret))))))))
def z52:IC := sr [fF 2] (sr [mV 3 0,mV 4 0,bE 5 .neq 3 4,vE 2 5] .ret)
def tbl:List (Nat×Fun):=[
 (zu6,zaa zn5 zn6 []),
 (zp1,zaa zyr zn6 []),
 (zp2,zaa zyt zyu []),
 (zp3,zaa zu7 zu8 []),
 (zju,zaa zj3 zn6 []),
 (zi0,zaa zyv zn6 []),
 (zp4,zaa zs0 zs1 []),
 (zmr,zaa zyx zyy []),
 (zms,zaa zyz zy0 []),
 (zp5,zaa zj5 zj6 []),
 (zp6,zaa zj7 zj6 []),
 (zp7,zaa zy1 zy0 []),
 (zp8,zaa zn8 zn9 []),
 (zp9,zaa zs4 zs5 []),
 (zbs,zaa zy3 zy4 []),
 (zmt,zaa zs6 zn6 []),
 (zmu,zaa zy5 zy0 []),
 (zla,zaa zy7 zn6 []),
 (zqa,zaa zy9 zza []),
 (zqb,zaa zzb zzc []),
 (zqc,zaa zzd zzc []),
 (zgf,zaa zzf zy0 [true]),
 (zlb,zaa zj9 zn6 []),
 (zjv,zaa zzh zn6 []),
 (zqd,.known [] (zhs 1 16)),
 (zqe,.known [] (zhs 1 8)),
 (zqf,zaa zzj zza []),
 (zqg,zaa zzl zyy []),
 (zqh,zaa zzn zza []),
 (zqi,zaa zva zy0 []),
 (zqj,zaa zvc zy0 []),
 (zqk,zaa zvf zvg []),
 (zmv,zaa zs8 zs9 []),
 (zbt,zaa zzq zy4 []),
 (zql,zaa zzs zn6 []),
 (zi1,zaa zvh zy0 []),
 (zqm,zaa zzu zn6 []),
 (zqn,zaa zzw zn6 []),
 (zjw,zaa zkb zkc []),
 (zlc,zaa zzy zkc []),
 (zqo,zaa zz0 zy0 []),
 (zb9,zaa zta zy0 [true]),
 (zqp,zaa zoa zn6 [true]),
 (zqq,zaa zz2 zy0 []),
 (zmw,zaa ztc zs9 []),
 (zqr,zaa zvj zvk []),
 (zqs,zaa zvl zvm []),
 (zqt,zaa zz6 zz7 []),
 (zqu,zaa zz8 zy0 []),
 (zqv,zaa zvn zvk []),
 (zqw,zaa zvp zvm []),
 (zqx,zaa z0a zz7 []),
 (zjx,zaa zl3 zkc []),
 (zqy,zaa z0c zy0 []),
 (zqz,zaa z0f zn6 []),
 (zmx,zaa zvt zl5 [true]),
 (zmy,zaa zoc zod [true]),
 (zq0,zaa zhf zl5 [true]),
 (zq1,zaa zhh zod [true]),
 (zq2,zaa zvv zvg []),
 (zfy,zaa z0i zy0 [true,true,true]),
 (zld,zaa z0k zn6 []),
 (zq3,zaa z0m zy0 []),
 (zmz,zaa z0o z0p []),
 (zm0,zaa z0q zn6 []),
 (zm1,zaa z0s z0t []),
 (zle,zaa z0u zkc []),
 (zm2,zaa z0w z0t []),
 (zq4,zaa z0y z0z []),
 (zq5,zaa zte z0z []),
 (zq6,zaa z01 zy0 []),
 (zq7,zaa z03 zn6 []),
 (zq8,zaa z05 zy0 []),
 (zm3,zaa zvy zy0 []),
 (zm4,zaa z07 zn6 []),
 (zq9,zaa z09 z0z []),
 (zhz,zaa zv0 zn6 [true]),
 (zm5,zaa ztg zn6 [true]),
 (zm6,zaa z1b zy0 []),
 (zra,zaa z1d z0z []),
 (zrb,zaa zti z0z []),
 (zrc,zaa z1g zy0 []),
 (zlf,zaa zkf zkc []),
 (zm7,zaa zoe zy4 []),
 (zrd,zaa z1i zza []),
 (zjy,zaa zv3 zn6 []),
 (zre,zaa z1k z1l []),
 (zrf,zaa ztk ztl []),
 (zlg,zaa zv5 zv6 []),
 (zrg,zaa z1m z1n []),
 (zm8,zaa z1o z1p []),
 (zrh,zaa ztm ztn []),
 (zm9,zaa zv7 zy0 []),
 (zri,zaa z1q z1r []),
 (zrj,zaa z1s zza []),
 (zrk,zaa z1u zkc []),
 (zna,zaa zwa zy0 []),
 (zlh,zaa zl6 zkc []),
 (znb,zaa zog zy4 []),
 (zrl,zaa z1w zza []),
 (zrm,zaa z1y z1l []),
 (zrn,zaa zto ztl []),
 (zli,zaa ztq zv6 []),
 (zro,zaa z12 z1n []),
 (zrp,zaa z16 z1r []),
 (znc,zaa z18 z1p []),
 (zrq,zaa zts ztn []),
 (znd,zaa zwd zy0 []),
 (zne,zaa z2a zn6 []),
 (zrr,zaa z2c zkc []),
 (zrs,zaa z2e z0z []),
 (zlj,zaa z2g zn6 []),
 (znf,zaa z2i zy0 [true,true]),
 (zng,zaa z2k zn6 []),
 (zrt,zaa z2m zy0 []),
 (zru,.known [] (zhs 5 40)),
 (znh,zaa z2p zza []),
 (zrv,zaa z2r zza []),
 (zrw,zaa z2t zy0 []),
 (zlk,zaa z2v zn6 []),
 (zrx,zaa zwg zy4 []),
 (zll,zaa z2x zy0 []),
 (zry,zaa z2z zza []),
 (zrz,.known [true] zo4),
 (zni,zaa zoi zn6 []),
 (znj,zaa z21 zn6 []),
 (zr0,zaa zwi zwj []),
 (zr1,zaa z26 z27 []),
 (zr2,zaa z3a z3b []),
 (znk,zaa z3c zy0 []),
 (znl,zaa z3e zn6 []),
 (znm,zaa zwk zy4 []),
 (zr3,zaa z3g zy0 []),
 (znn,zaa zol zn6 []),
 (zlm,zaa zwm zn6 []),
 (zr4,zaa zwo zwj []),
 (zr5,zaa z3j z27 []),
 (zr6,zaa z3m z3b []),
 (zno,zaa z3o zn6 []),
 (znp,zaa zwr zy4 []),
 (zr7,zaa z3q zy0 []),
 (zr8,.known [true] zpq),
 (zr9,zaa z3s zn6 []),
 (znq,zaa z3u z0p []),
 (zsa,zaa zwt zwu []),
 (znr,zaa z3w zy4 []),
 (zns,zaa z3y zy4 []),
 (zsb,zaa z31 z32 []),
 (zsc,zaa z33 z34 []),
 (zsd,zaa z35 zn6 []),
 (zse,zaa zwv zwu []),
 (zjz,zaa z37 zy4 []),
 (zln,zaa z39 zy4 []),
 (zsf,zaa z4c z32 []),
 (zlo,zaa z4e z34 []),
 (zsg,zaa zwx zy4 []),
 (zsh,zaa z4g zy0 []),
 (zlp,zaa z4i z4j []),
 (znt,zaa z4k zkc []),
 (zsi,zaa z4m zy0 []),
 (zlq,zaa z4o z34 []),
 (zsj,zaa zwz zy4 []),
 (zsk,zaa z4q zy0 []),
 (zlr,zaa z4s z4j []),
 (znu,zaa z4u zkc []),
 (zsl,zaa zw1 zy0 []),
 (zsm,zaa z4w z4x []),
 (zls,zaa zw3 z4j []),
 (zsn,zaa zw5 z4j []),
 (znv,zaa z4y z4z []),
 (zso,zaa z40 zy0 []),
 (znw,zaa z42 zn6 []),
 (znx,zaa ztv zy0 []),
 (zsp,zaa z44 z4x []),
 (zlu,zaa ztx z4j []),
 (zsq,zaa zw7 z4j []),
 (zny,zaa z47 z4z []),
 (zsr,zaa z49 zy0 []),
 (znz,zaa z5b zn6 []),
 (zss,zaa z5d z4j []),
 (zst,zaa zkh zki []),
 (zn0,zaa z5f z4j []),
 (zlv,zaa z5h zn6 []),
 (zn1,zaa zh2 zki []),
 (zhe,zaa ztz zt0 []),
 (zlw,zaa z5j zy0 []),
 (zsu,zaa z5l z4j []),
 (zsv,zaa zfz zki []),
 (zj0,zaa z5n zn6 []),
 (zn2,zaa zh4 zki []),
 (zj1,zaa zw9 zn6 []),
 (zlx,zaa zl8 zy0 []),
 (zsw,zaa z5p z5q []),
 (zh0,zaa zoq zn6 []),
 (zly,.ext zuv),
 (zj2,.ext zuf),
 (zlz,zaa z5r zn6 []),
 (zl0,zaa z5t zkc []),
 (zn3,zaa zt1 zy0 []),
 (zsx,zaa z5v z5q []),
 (zh1,zaa zos zn6 []),
 (zl1,zaa z5x zn6 []),
 (zl2,zaa z5z zkc []),
 (zn4,zaa z52 zn6 [])]
def T:zcm:=fun f=>(tbl.find? fun q=>q.1 == f).map fun q=>q.2
theorem yea:T zqd=some (.known [] (zhs 1 16)):=rfl
theorem yeb:T zqe=some (.known [] (zhs 1 8)):=rfl
@[simp] theorem qgh:zad T zfy=[true,true,true]:=rfl
@[simp] theorem qhx:zad T znf=[true,true]:=rfl
theorem ygm:T zru=some (.known [] (zhs 5 40)):=rfl
theorem ygu:T zrz=some (.known [true] zo4):=rfl
theorem yhc:T zr8=some (.known [true] zpq):=rfl
theorem yit:T zly=some (.ext zuv):=rfl
theorem z81:T zj2=some (.ext zuf):=rfl
@[simp] theorem qet:zad T zu6=[]∧zad T zp1=[]∧zad T zp2=[]∧zad T zp3=[]∧zad T zju=[]∧zad T zi0=[]∧zad T zp4=[]∧zad T zmr=[]∧zad T zms=[]∧zad T zp5=[]∧zad T zp6=[]∧zad T zp7=[]∧zad T zp8=[]∧zad T zp9=[]∧zad T zbs=[]∧zad T zmt=[]:=⟨rfl,rfl,rfl,rfl,rfl,rfl,rfl,rfl,rfl,rfl,rfl,rfl,rfl,rfl,rfl,rfl⟩
@[simp] theorem qe9:zad T zmu=[]∧zad T zla=[]∧zad T zqa=[]∧zad T zqb=[]∧zad T zqc=[]∧zad T zgf=[true]∧zad T zlb=[]∧zad T zjv=[]∧zad T zqd=[]∧zad T zqe=[]∧zad T zqf=[]∧zad T zqg=[]∧zad T zqh=[]∧zad T zqi=[]∧zad T zqj=[]∧zad T zqk=[]:=⟨rfl,rfl,rfl,rfl,rfl,rfl,rfl,rfl,zxk yea,zxk yeb,rfl,rfl,rfl,rfl,rfl,rfl⟩
@[simp] theorem qfp:zad T zmv=[]∧zad T zbt=[]∧zad T zql=[]∧zad T zi1=[]∧zad T zqm=[]∧zad T zqn=[]∧zad T zjw=[]∧zad T zlc=[]∧zad T zqo=[]∧zad T zb9=[true]∧zad T zqp=[true]∧zad T zqq=[]∧zad T zmw=[]∧zad T zqr=[]∧zad T zqs=[]∧zad T zqt=[]:=⟨rfl,rfl,rfl,rfl,rfl,rfl,rfl,rfl,rfl,rfl,rfl,rfl,rfl,rfl,rfl,rfl⟩
@[simp] theorem qf5:zad T zqu=[]∧zad T zqv=[]∧zad T zqw=[]∧zad T zqx=[]∧zad T zjx=[]∧zad T zqy=[]∧zad T zqz=[]∧zad T zmx=[true]∧zad T zmy=[true]∧zad T zq0=[true]∧zad T zq1=[true]∧zad T zq2=[]∧zad T zld=[]∧zad T zq3=[]∧zad T zmz=[]∧zad T zm0=[]:=⟨rfl,rfl,rfl,rfl,rfl,rfl,rfl,rfl,rfl,rfl,rfl,rfl,rfl,rfl,rfl,rfl⟩
@[simp] theorem qgm:zad T zm1=[]∧zad T zle=[]∧zad T zm2=[]∧zad T zq4=[]∧zad T zq5=[]∧zad T zq6=[]∧zad T zq7=[]∧zad T zq8=[]∧zad T zm3=[]∧zad T zm4=[]∧zad T zq9=[]∧zad T zhz=[true]∧zad T zm5=[true]∧zad T zm6=[]∧zad T zra=[]∧zad T zrb=[]:=⟨rfl,rfl,rfl,rfl,rfl,rfl,rfl,rfl,rfl,rfl,rfl,rfl,rfl,rfl,rfl,rfl⟩
@[simp] theorem qg2:zad T zrc=[]∧zad T zlf=[]∧zad T zm7=[]∧zad T zrd=[]∧zad T zjy=[]∧zad T zre=[]∧zad T zrf=[]∧zad T zlg=[]∧zad T zrg=[]∧zad T zm8=[]∧zad T zrh=[]∧zad T zm9=[]∧zad T zri=[]∧zad T zrj=[]∧zad T zrk=[]∧zad T zna=[]:=⟨rfl,rfl,rfl,rfl,rfl,rfl,rfl,rfl,rfl,rfl,rfl,rfl,rfl,rfl,rfl,rfl⟩
@[simp] theorem qhi:zad T zlh=[]∧zad T znb=[]∧zad T zrl=[]∧zad T zrm=[]∧zad T zrn=[]∧zad T zli=[]∧zad T zro=[]∧zad T zrp=[]∧zad T znc=[]∧zad T zrq=[]∧zad T znd=[]∧zad T zne=[]∧zad T zrr=[]∧zad T zrs=[]∧zad T zlj=[]∧zad T zng=[]:=⟨rfl,rfl,rfl,rfl,rfl,rfl,rfl,rfl,rfl,rfl,rfl,rfl,rfl,rfl,rfl,rfl⟩
@[simp] theorem qhz:zad T zrt=[]∧zad T zru=[]∧zad T znh=[]∧zad T zrv=[]∧zad T zrw=[]∧zad T zlk=[]∧zad T zrx=[]∧zad T zll=[]∧zad T zry=[]∧zad T zrz=[true]∧zad T zni=[]∧zad T znj=[]∧zad T zr0=[]∧zad T zr1=[]∧zad T zr2=[]∧zad T znk=[]:=⟨rfl,zxk ygm,rfl,rfl,rfl,rfl,rfl,rfl,rfl,zxk ygu,rfl,rfl,rfl,rfl,rfl,rfl⟩
@[simp] theorem qif:zad T znl=[]∧zad T znm=[]∧zad T zr3=[]∧zad T znn=[]∧zad T zlm=[]∧zad T zr4=[]∧zad T zr5=[]∧zad T zr6=[]∧zad T zno=[]∧zad T znp=[]∧zad T zr7=[]∧zad T zr8=[true]∧zad T zr9=[]∧zad T znq=[]∧zad T zsa=[]∧zad T znr=[]:=⟨rfl,rfl,rfl,rfl,rfl,rfl,rfl,rfl,rfl,rfl,rfl,zxk yhc,rfl,rfl,rfl,rfl⟩
@[simp] theorem qiv:zad T zns=[]∧zad T zsb=[]∧zad T zsc=[]∧zad T zsd=[]∧zad T zse=[]∧zad T zjz=[]∧zad T zln=[]∧zad T zsf=[]∧zad T zlo=[]∧zad T zsg=[]∧zad T zsh=[]∧zad T zlp=[]∧zad T znt=[]∧zad T zsi=[]∧zad T zlq=[]∧zad T zsj=[]:=⟨rfl,rfl,rfl,rfl,rfl,rfl,rfl,rfl,rfl,rfl,rfl,rfl,rfl,rfl,rfl,rfl⟩
@[simp] theorem qjb:zad T zsk=[]∧zad T zlr=[]∧zad T znu=[]∧zad T zsl=[]∧zad T zsm=[]∧zad T zls=[]∧zad T zsn=[]∧zad T znv=[]∧zad T zso=[]∧zad T znw=[]∧zad T znx=[]∧zad T zsp=[]∧zad T zlu=[]∧zad T zsq=[]∧zad T zny=[]∧zad T zsr=[]:=⟨rfl,rfl,rfl,rfl,rfl,rfl,rfl,rfl,rfl,rfl,rfl,rfl,rfl,rfl,rfl,rfl⟩
@[simp] theorem qjr:zad T znz=[]∧zad T zss=[]∧zad T zst=[]∧zad T zn0=[]∧zad T zlv=[]∧zad T zn1=[]∧zad T zhe=[]∧zad T zlw=[]∧zad T zsu=[]∧zad T zsv=[]∧zad T zj0=[]∧zad T zn2=[]∧zad T zj1=[]∧zad T zlx=[]∧zad T zsw=[]∧zad T zh0=[]:=⟨rfl,rfl,rfl,rfl,rfl,rfl,rfl,rfl,rfl,rfl,rfl,rfl,rfl,rfl,rfl,rfl⟩
@[simp] theorem qj7:zad T zly=[]∧zad T zj2=[]∧zad T zlz=[]∧zad T zl0=[]∧zad T zn3=[]∧zad T zsx=[]∧zad T zh1=[]∧zad T zl1=[]∧zad T zl2=[]∧zad T zn4=[]:=⟨rfl,rfl,rfl,rfl,rfl,rfl,rfl,rfl,rfl,rfl⟩
end Go.Pe
