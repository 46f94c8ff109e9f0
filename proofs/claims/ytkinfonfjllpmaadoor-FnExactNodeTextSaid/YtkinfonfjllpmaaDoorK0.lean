/- The compact texts of the functions that the law reaches; no condition. -/
import Derived.Test.YtkinfonfjllpmaaDoorEvA0
set_option linter.all false
namespace Go.Pe
open Go
abbrev fF (n:Nat):zaa:=⟨some (.V n),.mv (kb false),none⟩
abbrev fT (n:Nat):zaa:=⟨some (.V n),.mv (kb true),none⟩
abbrev f0 (n:Nat):zaa:=⟨some (.V n),.mv (ki 0),none⟩
abbrev fN (n:Nat):zaa:=⟨some (.V n),.mv (.C .e0),none⟩
abbrev bV (n k:Nat):zaa:=⟨some (.V n),.box (.V k),none⟩
abbrev uE (n k:Nat):zaa:=⟨some (.E n),.un .not (.E k),none⟩
abbrev kE (n:Nat) (o:BinOp) (a:Nat) (k:Int):zaa:=⟨some (.E n),.bin o (.E a) (ki k),none⟩
abbrev cE (n f:Nat) (l:List (List Nat×Opd)):zaa:=⟨some (.E n),.call f l,none⟩
abbrev cV (n f:Nat) (l:List (List Nat×Opd)):zaa:=⟨some (.V n),.call f l,none⟩
abbrev pF (n a b:Nat):zaa:=⟨some (.E n),.pick (.E a) (.E b) (kb false),none⟩
abbrev pT (n a b:Nat):zaa:=⟨some (.E n),.pick (.E a) (kb true) (.E b),none⟩
abbrev sr (l:List zaa) (b:IC):IC:=.seq (.reg l) b
abbrev cd (n:Nat) (a b:IC):IC:=.cond (.E n) a b
abbrev bl (n:Nat) (a:IC):IC:=.block n (.loop a)
abbrev gE (n g:Nat) (b:Bool) (o:IOp):zaa:=⟨some (.E n),o,some (.E g,b)⟩
abbrev gV (n g:Nat) (b:Bool) (o:IOp):zaa:=⟨some (.V n),o,some (.E g,b)⟩
abbrev fV (n i k:Nat):zaa:=⟨some (.E n),.faddr i (.V k),none⟩
abbrev fE (n i k:Nat):zaa:=⟨some (.E n),.faddr i (.E k),none⟩
abbrev lE (n k:Nat):zaa:=⟨some (.E n),.load false 1 (.E k),none⟩
abbrev tV (n i k:Nat):zaa:=⟨some (.E n),.load true i (.V k),none⟩
abbrev tE (n i k:Nat):zaa:=⟨some (.E n),.load true i (.E k),none⟩
abbrev iE (n i a b:Nat):zaa:=⟨some (.E n),.iaddr i (.E a) (.E b),none⟩
abbrev nE (n k:Nat):zaa:=⟨some (.E n),.len (.E k),none⟩
abbrev bE (n:Nat) (o:BinOp) (a b:Nat):zaa:=⟨some (.E n),.bin o (.E a) (.E b),none⟩
abbrev wE (n k:Nat):zaa:=⟨some (.E n),.mv (.E k),none⟩
def bs (l:List UInt8):ByteArray:=⟨l.toArray⟩
def zik:Nat:=3
def zhn:Nat:=4
def zgp:Nat:=5
def zho:Nat:=6
def zhp:Nat:=7
def ze4:Nat:=8
def ze5:Nat:=9
def zhq:Nat:=10
def zhr:Nat:=11
def ze6:Nat:=12
def ze7:Nat:=13
def zhs:Nat:=14
def zil:Nat:=15
def ztl:List Nat:=[0,1,2,3,4]
def zju:IC := sr [bV 1 0,fF 2] (sr [tV 5 5 1,cE 6 zgp [([0,0,0,0,0],(.E 5))],cE 7 zhn [([0,0,0,0,0],(.E 6))],vE 3 7] (sr [tV 8 5 1,cE 9 zgp [([0,0,0,0,0],(.E 8))],cE 10 zho [([0,0,0,0,0],(.E 9))],vE 4 10] (.seq (sr [mV 11 4,mV 12 3,bE 13 .neq 11 12] (cd 13 (sr [fF 2] .ret) .skip)) (sr [fT 2] .ret))))
def zjv:List RV:=[.tmp [0] 2]
def ztm:List Nat:=[0,1,2]
def zeg:IC := sr [bV 1 0,oV 2 (.mv (.C (.v (.string (bs [])))))] (.seq (sr [tV 3 5 1,cE 4 zhp [([0,0,0,0,0],(.E 3))],uE 5 4] (cd 5 (.seq (sr [tV 6 5 1,fV 7 4 1,lE 8 7,oE 9 (.build [iv 0,iv 0,iv 0,iv 0,iv 0] [(0,1,(ki (-1))),(4,1,(.E 8))]),oE 10 (.eqb true [.i .i64,.i .i64,.i .i64,.i .i64,.i .i64] (.E 6) (.E 9))] (cd 10 (sr [oV 2 (.mv (.C (.v (.string (bs [])))))] .ret) .skip)) (sr [fV 11 4 1,lE 12 11,cE 13 ze4 [([0],(.E 12))],oE 14 (.bin .add (.C (.v (.string (bs [61])))) (.E 13)),vE 2 14] .ret)) .skip)) (.seq (sr [fV 15 0 1,lE 16 15,cE 17 ze5 [([0],(.E 16)),([0],(ki 0)),([0],(ki 3))],uE 18 17,wE 19 18,gE 20 19 .false (.faddr 1 (.V 1)),gE 21 19 .false (.load false 1 (.E 20)),gE 22 19 .false (.call zhq [([0],(.E 21))]),gE 23 19 .false (.un .not (.E 22)),pT 24 19 23,wE 25 24,gE 26 25 .false (.faddr 2 (.V 1)),gE 27 25 .false (.load false 1 (.E 26)),gE 28 25 .false (.call ze5 [([0],(.E 27)),([0],(ki 1)),([0],(ki 30))]),gE 29 25 .false (.un .not (.E 28)),pT 30 25 29,wE 31 30,gE 32 31 .false (.faddr 3 (.V 1)),gE 33 31 .false (.load false 1 (.E 32)),gE 34 31 .false (.call ze5 [([0],(.E 33)),([0],(ki 1)),([0],(ki 30))]),gE 35 31 .false (.un .not (.E 34)),pT 36 31 35,wE 37 36,gE 38 37 .false (.faddr 4 (.V 1)),gE 39 37 .false (.load false 1 (.E 38)),gE 40 37 .false (.bin .neq (.E 39) (ki 0)),pT 41 37 40] (cd 41 (sr [oV 2 (.mv (.C (.v (.string (bs [])))))] .ret) .skip)) (.seq (.regD [(fV 42 0 1,0,0),(lE 43 42,0,0),(cE 44 ze4 [([0],(.E 43))],0,0),(oE 45 (.bin .add (.E 44) (.C (.v (.string (bs [60]))))),0,0),(fV 46 1 1,1,0),(lE 47 46,1,0),(cE 48 ze4 [([0],(.E 47))],0,0),(bE 49 .add 45 48,0,0),(oE 50 (.bin .add (.E 49) (.C (.v (.string (bs [58]))))),0,0),(fV 51 2 1,2,0),(lE 52 51,2,0),(cE 53 ze4 [([0],(.E 52))],0,0),(bE 54 .add 50 53,0,0),(oE 55 (.bin .add (.E 54) (.C (.v (.string (bs [44]))))),0,0),(fV 56 3 1,3,0),(lE 57 56,3,0),(cE 58 ze4 [([0],(.E 57))],0,0),(bE 59 .add 55 58,0,0),(vE 2 59,0,0)]) .ret)))
def ztn:List Nat:=[0,1,2,3]
def zjw:IC := sr [bV 1 0,oV 2 (.alloc [iv 0,iv 0,iv 0,iv 0,iv 0])] (sr [oV 3 (.alloc [iv 0,iv 0,iv 0,iv 0,iv 0])] (sr [fV 4 0 1,lE 5 4,fV 6 0 3,oN (.store [0] (.E 6) (.E 5))] (sr [fV 7 1 1,lE 8 7,fV 9 1 3,oN (.store [0] (.E 9) (.E 8))] (sr [fV 10 2 1,lE 11 10,fV 12 2 3,oN (.store [0] (.E 12) (.E 11))] (sr [fV 13 3 1,lE 14 13,fV 15 3 3,oN (.store [0] (.E 15) (.E 14))] (sr [fV 16 4 1,lE 17 16,fV 18 4 3,oN (.store [0] (.E 18) (.E 17))] (sr [tV 19 5 3,oN (.store [0,0,0,0,0] (.V 2) (.E 19))] .ret)))))))
def zjx:List RV:=[.cell [0,0,0,0,0] 2 true]
def zei:IC := sr [bV 1 0,oV 2 (.mv (.C (.v (.string (bs [])))))] (.seq (sr [tV 3 5 1,cE 4 zhr [([0,0,0,0,0],(.E 3))]] (cd 4 (.seq (sr [tV 5 5 1,fV 6 4 1,lE 7 6,oE 8 (.build [iv 0,iv 0,iv 0,iv 0,iv 0] [(0,1,(ki (-1))),(4,1,(.E 7))]),oE 9 (.eqb true [.i .i64,.i .i64,.i .i64,.i .i64,.i .i64] (.E 5) (.E 8))] (cd 9 (sr [oV 2 (.mv (.C (.v (.string (bs [])))))] .ret) .skip)) (sr [fV 10 4 1,lE 11 10,cE 12 ze6 [([0],(.E 11))],oE 13 (.bin .add (.C (.v (.string (bs [61])))) (.E 12)),vE 2 13] .ret)) .skip)) (.seq (sr [fV 14 0 1,lE 15 14,cE 16 ze7 [([0],(.E 15)),([0],(ki 0)),([0],(ki 3))],uE 17 16,wE 18 17,gE 19 18 .false (.faddr 1 (.V 1)),gE 20 18 .false (.load false 1 (.E 19)),gE 21 18 .false (.call zhs [([0],(.E 20))]),gE 22 18 .false (.un .not (.E 21)),pT 23 18 22,wE 24 23,gE 25 24 .false (.faddr 2 (.V 1)),gE 26 24 .false (.load false 1 (.E 25)),gE 27 24 .false (.call ze7 [([0],(.E 26)),([0],(ki 1)),([0],(ki 30))]),gE 28 24 .false (.un .not (.E 27)),pT 29 24 28,wE 30 29,gE 31 30 .false (.faddr 3 (.V 1)),gE 32 30 .false (.load false 1 (.E 31)),gE 33 30 .false (.call ze7 [([0],(.E 32)),([0],(ki 1)),([0],(ki 30))]),gE 34 30 .false (.un .not (.E 33)),pT 35 30 34,wE 36 35,gE 37 36 .false (.faddr 4 (.V 1)),gE 38 36 .false (.load false 1 (.E 37)),gE 39 36 .false (.bin .neq (.E 38) (ki 0)),pT 40 36 39] (cd 40 (sr [oV 2 (.mv (.C (.v (.string (bs [])))))] .ret) .skip)) (.seq (.regD [(fV 41 0 1,0,0),(lE 42 41,0,0),(cE 43 ze6 [([0],(.E 42))],0,0),(oE 44 (.bin .add (.E 43) (.C (.v (.string (bs [60]))))),0,0),(fV 45 1 1,1,0),(lE 46 45,1,0),(cE 47 ze6 [([0],(.E 46))],0,0),(bE 48 .add 44 47,0,0),(oE 49 (.bin .add (.E 48) (.C (.v (.string (bs [58]))))),0,0),(fV 50 2 1,2,0),(lE 51 50,2,0),(cE 52 ze6 [([0],(.E 51))],0,0),(bE 53 .add 49 52,0,0),(oE 54 (.bin .add (.E 53) (.C (.v (.string (bs [44]))))),0,0),(fV 55 3 1,3,0),(lE 56 55,3,0),(cE 57 ze6 [([0],(.E 56))],0,0),(bE 58 .add 54 57,0,0),(vE 2 58,0,0)]) .ret)))
def zjy:IC := sr [bV 1 0,fF 2] (sr [fV 3 0 1,lE 4 3,kE 5 .neq 4 (-1),vE 2 5] .ret)
def ztq:List Nat:=[0,2,3,4,5]
def zn2:IC := .seq (sr [mV 10 0,kE 11 .neq 10 0] (cd 11 .skip (.exit 0))) (.block 1 (sr [mV 12 0,kE 13 .rem 12 10,vE 5 13] (.seq (sr [mV 14 5,kE 15 .lss 14 0] (cd 15 (.reg [mV 16 5,oE 17 (.bin .sub (ki 0) (.E 16)),vE 5 17]) .skip)) (sr [mV 18 5,oE 19 (.bin .add (ki 48) (.E 18)),oE 20 (.convI .u8 (.E 19)),oE 21 (.bslice 1 1 [(.v (.int .u8 0))] [(0,(.E 20))]),oE 22 (.toS (.E 21)),mV 23 4,bE 24 .add 22 23,vE 4 24] (.reg [mV 25 0,kE 26 .quo 25 10,vE 0 26])))))
def zj0:IC := sr [oV 2 (.mv (.C (.v (.string (bs [])))))] (.seq (sr [mV 6 0,kE 7 .eql 6 0] (cd 7 (sr [oV 2 (.mv (.C (.v (.string (bs [48])))))] .ret) .skip)) (sr [mV 8 0,kE 9 .lss 8 0,vE 3 9] (sr [oV 4 (.mv (.C (.v (.string (bs [])))))] (.seq (bl 0 zn2) (.seq (sr [mV 27 3] (cd 27 (sr [mV 28 4,oE 29 (.bin .add (.C (.v (.string (bs [45])))) (.E 28)),vE 2 29] .ret) .skip)) (sr [mV 30 4,vE 2 30] .ret))))))
def ztr:List Nat:=[0,1,2,6]
def zj2:IC := sr [fF 6] (sr [mV 7 0,mV 8 1,bE 9 .geq 7 8,wE 10 9,gE 11 10 .true (.mv (.V 0)),gE 12 10 .true (.mv (.V 2)),gE 13 10 .true (.bin .leq (.E 11) (.E 12)),pF 14 10 13,vE 6 14] .ret)
def zj3:List RV:=[.tmp [0] 6]
def zts:List Nat:=[0,2]
def zj4:IC := sr [fF 2] (sr [mV 3 0,cE 4 ze5 [([0],(.E 3)),([0],(ki (-2147483647))),([0],(ki 2147483647))],vE 2 4] .ret)
def zj6:IC := sr [bV 1 0,fF 2] (sr [fV 3 0 1,lE 4 3,kE 5 .eql 4 (-1),vE 2 5] .ret)
def zj8:IC := sr [oV 2 (.mv (.C (.v (.string (bs [])))))] (sr [mV 3 0,cE 4 zil [([0],(.E 3))],vE 2 4] .ret)
def zka:IC := sr [fF 6] (sr [mV 7 0,mV 8 1,bE 9 .geq 7 8,wE 10 9,gE 11 10 .true (.mv (.V 0)),gE 12 10 .true (.mv (.V 2)),gE 13 10 .true (.bin .leq (.E 11) (.E 12)),pF 14 10 13,vE 6 14] .ret)
def zkc:IC := sr [fF 2] (sr [mV 3 0,cE 4 ze7 [([0],(.E 3)),([0],(ki (-2147483647))),([0],(ki 2147483647))],vE 2 4] .ret)
def tbl:List (Nat×Fun):=[
 (zik,zbn zju zjv []),
 (zhn,zbn zeg zjv []),
 (zgp,zbn zjw zjx []),
 (zho,zbn zei zjv []),
 (zhp,zbn zjy zjv []),
 (ze4,zbn zj0 zjv []),
 (ze5,zbn zj2 zj3 []),
 (zhq,zbn zj4 zjv []),
 (zhr,zbn zj6 zjv []),
 (ze6,zbn zj8 zjv []),
 (ze7,zbn zka zj3 []),
 (zhs,zbn zkc zjv []),
 (zil,.known [] zh5)]
def T:zbt:=fun f=>(tbl.find? fun q=>q.1 == f).map fun q=>q.2
theorem zlu:T zik=some (zbn zju zjv []):=rfl
theorem zn3:T zhn=some (zbn zeg zjv []):=rfl
theorem zn4:T zgp=some (zbn zjw zjx []):=rfl
theorem zn5:T zho=some (zbn zei zjv []):=rfl
theorem zn6:T zhp=some (zbn zjy zjv []):=rfl
theorem zn7:T ze4=some (zbn zj0 zjv []):=rfl
theorem zn8:T ze5=some (zbn zj2 zj3 []):=rfl
theorem zn9:T zhq=some (zbn zj4 zjv []):=rfl
theorem zoa:T zhr=some (zbn zj6 zjv []):=rfl
theorem zob:T ze6=some (zbn zj8 zjv []):=rfl
theorem zoc:T ze7=some (zbn zka zj3 []):=rfl
theorem zod:T zhs=some (zbn zkc zjv []):=rfl
theorem zoe:T zil=some (.known [] zh5):=rfl
@[simp] theorem z1c:zca T zik=[]∧zca T zhn=[]∧zca T zgp=[]∧zca T zho=[]∧zca T zhp=[]∧zca T ze4=[]∧zca T ze5=[]∧zca T zhq=[]∧zca T zhr=[]∧zca T ze6=[]∧zca T ze7=[]∧zca T zhs=[]∧zca T zil=[]:=⟨zd4 zlu,zd4 zn3,zd4 zn4,zd4 zn5,zd4 zn6,zd4 zn7,zd4 zn8,zd4 zn9,zd4 zoa,zd4 zob,zd4 zoc,zd4 zod,zxd zoe⟩
end Go.Pe
