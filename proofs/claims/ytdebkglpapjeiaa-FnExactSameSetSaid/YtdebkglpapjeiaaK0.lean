/- The compact texts of the functions that the law reaches; no condition. -/
import Derived.Test.YtdebkglpapjeiaaEvA0
set_option linter.all false
namespace Go.Pe
open Go
abbrev gE (n g:Nat) (b:Bool) (o:IOp):zaa:=⟨some (.E n),o,some (.E g,b)⟩
abbrev gV (n g:Nat) (b:Bool) (o:IOp):zaa:=⟨some (.V n),o,some (.E g,b)⟩
abbrev fV (n i k:Nat):zaa:=⟨some (.E n),.faddr i (.V k),none⟩
abbrev fE (n i k:Nat):zaa:=⟨some (.E n),.faddr i (.E k),none⟩
abbrev lE (n k:Nat):zaa:=⟨some (.E n),.load false 1 (.E k),none⟩
abbrev tV (n i k:Nat):zaa:=⟨some (.E n),.load true i (.V k),none⟩
abbrev tE (n i k:Nat):zaa:=⟨some (.E n),.load true i (.E k),none⟩
abbrev iE (n i a b:Nat):zaa:=⟨some (.E n),.iaddr i (.E a) (.E b),none⟩
abbrev nE (n k:Nat):zaa:=⟨some (.E n),.len (.E k),none⟩
abbrev bE (n:Nat) (o:BinOp) (a b:Nat):zaa:=⟨some (.E n),.bin o (.E a) (.E b),none⟩
abbrev wE (n k:Nat):zaa:=⟨some (.E n),.mv (.E k),none⟩
def zia:Nat:=3
def zfd:Nat:=7
def zgi:Nat:=8
def zdm:Nat:=9
def zez:Nat:=10
def zfe:Nat:=11
def zhi:Nat:=36
def zhj:Nat:=37
def zhk:Nat:=38
def zhl:Nat:=39
def zsf:List Nat:=[0,1,2,5,3,7,8,9,6,4]
def zgj:IC := .seq (.reg [oV 2 (.box (.V 0)),oV 3 (.box (.V 1)),oV 4 (.mv (kb false))]) (.seq (.reg [oV 5 (.mv (ki 1048576))]) (.seq (.reg [tV 10 4 2,mV 11 5,oE 12 (.call zfd [([0,0,0,4],(.E 10)),([0],(.E 11))]),vE 5 12]) (.seq (.seq (.reg [mV 13 5,oE 14 (.bin .lss (.E 13) (ki 0))]) (.cond (.E 14) (.seq (.reg [oV 4 (.mv (kb true))]) .ret) .skip)) (.seq (.reg [tV 15 4 3,mV 16 5,oE 17 (.call zfd [([0,0,0,4],(.E 15)),([0],(.E 16))]),vE 5 17]) (.seq (.seq (.reg [mV 18 5,oE 19 (.bin .lss (.E 18) (ki 0))]) (.cond (.E 19) (.seq (.reg [oV 4 (.mv (kb true))]) .ret) .skip)) (.seq (.regD [(tV 20 4 2,0,0),(oE 21 (.call zdm [([0,0,0,4],(.E 20))]),0,0),(tV 22 4 3,1,0),(oE 23 (.call zdm [([0,0,0,4],(.E 22))]),0,0),(oE 24 (.call zgi [([0,0,0,4],(.E 21)),([0,0,0,4],(.E 23))]),0,0),(vE 6 24,0,0)]) (.seq (.reg [tV 25 4 2,oE 26 (.call zdm [([0,0,0,4],(.E 25))]),oV 7 (.alloc [iv 0,iv 0,iv 0,.e0]),oN (.store [0,0,0,4] (.V 7) (.E 26))]) (.seq (.reg [tV 27 4 3,oE 28 (.call zdm [([0,0,0,4],(.E 27))]),oV 8 (.alloc [iv 0,iv 0,iv 0,.e0]),oN (.store [0,0,0,4] (.V 8) (.E 28))]) (.seq (.reg [tV 29 4 7,tV 30 4 8,oE 31 (.call zez [([0,0,0,4],(.E 29)),([0,0,0,4],(.E 30))]),vE 9 31]) (.seq (.seq (.reg [mV 32 9,mV 33 6,oE 34 (.eqb true [.b] (.E 32) (.E 33))]) (.cond (.E 34) (.seq (.reg [oV 4 (.mv (kb false))]) .ret) .skip)) (.seq (.seq (.regD [(tV 35 4 7,0,1),(tV 36 4 2,0,0),(oE 37 (.call zdm [([0,0,0,4],(.E 36))]),0,0),(oE 38 (.call zfe [([0,0,0,4],(.E 35)),([0,0,0,4],(.E 37))]),0,0),(oE 39 (.un .not (.E 38)),0,0)]) (.cond (.E 39) (.seq (.reg [oV 4 (.mv (kb false))]) .ret) .skip)) (.seq (.seq (.regD [(tV 40 4 8,0,1),(tV 41 4 3,0,0),(oE 42 (.call zdm [([0,0,0,4],(.E 41))]),0,0),(oE 43 (.call zfe [([0,0,0,4],(.E 40)),([0,0,0,4],(.E 42))]),0,0),(oE 44 (.un .not (.E 43)),0,0)]) (.cond (.E 44) (.seq (.reg [oV 4 (.mv (kb false))]) .ret) .skip)) (.seq (.reg [oV 4 (.mv (kb true))]) .ret)))))))))))))
def zgk:List RV:=[.tmp [0] 4]
def zsg:List Nat:=[0,1,2,4]
def zib:IC := .seq (.reg [oV 2 (.box (.V 0)),oV 4 (.mv (ki 0))]) (.seq (.reg [fV 5 3 2,lE 6 5,mV 7 1,oE 8 (.call zhi [([4],(.E 6)),([0],(.E 7))]),vE 1 8]) (.seq (.seq (.reg [mV 9 1,oE 10 (.bin .lss (.E 9) (ki 0))]) (.cond (.E 10) (.seq (.reg [oV 4 (.mv (ki (-1)))]) .ret) .skip)) (.seq (.reg [mV 11 1,vE 4 11]) .ret)))
def zic:List RV:=[.tmp [0] 4]
def zsh:List Nat:=[0,1,2,3,5,4]
def zjj:IC := .seq (.seq (.reg [mV 34 5,fV 35 3 2,lE 36 35,nE 37 36,bE 38 .lss 34 37]) (.cond (.E 38) .skip (.exit 0))) (.seq (.block 1 (.seq (.regD [(fV 41 3 2,0,0),(lE 42 41,0,0),(mV 43 5,0,0),(iE 44 4 42 43,0,0),(tE 45 4 44,0,0),(fV 46 3 3,0,0),(lE 47 46,0,0),(mV 48 5,0,0),(iE 49 4 47 48,0,0),(tE 50 4 49,0,0),(oE 51 (.call zgi [([0,0,0,4],(.E 45)),([0,0,0,4],(.E 50))]),0,0),(oE 52 (.un .not (.E 51)),0,0)]) (.cond (.E 52) (.seq (.reg [oV 4 (.mv (kb false))]) .ret) .skip))) (.reg [mV 39 5,oE 40 (.bin .add (.E 39) (ki 1)),vE 5 40]))
def zf3:IC := .seq (.reg [oV 2 (.box (.V 0)),oV 3 (.box (.V 1)),oV 4 (.mv (kb false))]) (.seq (.seq (.reg [fV 6 0 2,lE 7 6,fV 8 0 3,lE 9 8,bE 10 .neq 7 9,wE 11 10,gE 12 11 .false (.faddr 1 (.V 2)),gE 13 11 .false (.load false 1 (.E 12)),gE 14 11 .false (.faddr 1 (.V 3)),gE 15 11 .false (.load false 1 (.E 14)),gE 16 11 .false (.bin .neq (.E 13) (.E 15)),oE 17 (.pick (.E 11) (kb true) (.E 16)),wE 18 17,gE 19 18 .false (.faddr 2 (.V 2)),gE 20 18 .false (.load false 1 (.E 19)),gE 21 18 .false (.faddr 2 (.V 3)),gE 22 18 .false (.load false 1 (.E 21)),gE 23 18 .false (.bin .neq (.E 20) (.E 22)),oE 24 (.pick (.E 18) (kb true) (.E 23)),wE 25 24,gE 26 25 .false (.faddr 3 (.V 2)),gE 27 25 .false (.load false 1 (.E 26)),gE 28 25 .false (.len (.E 27)),gE 29 25 .false (.faddr 3 (.V 3)),gE 30 25 .false (.load false 1 (.E 29)),gE 31 25 .false (.len (.E 30)),gE 32 25 .false (.bin .neq (.E 28) (.E 31)),oE 33 (.pick (.E 25) (kb true) (.E 32))]) (.cond (.E 33) (.seq (.reg [oV 4 (.mv (kb false))]) .ret) .skip)) (.seq (.seq (.reg [oV 5 (.mv (ki 0))]) (.block 0 (.loop zjj))) (.seq (.reg [oV 4 (.mv (kb true))]) .ret)))
def zf4:List RV:=[.tmp [0] 4]
def zsi:List Nat:=[0,1,3,2]
def zjk:IC := .seq (.reg [oV 1 (.box (.V 0)),oV 2 (.alloc [iv 0,iv 0,iv 0,.e0])]) (.seq (.reg [oV 3 (.alloc [iv 0,iv 0,iv 0,.e0])]) (.seq (.reg [fV 4 0 1,lE 5 4,fV 6 0 3,oN (.store [0] (.E 6) (.E 5))]) (.seq (.reg [fV 7 1 1,lE 8 7,fV 9 1 3,oN (.store [0] (.E 9) (.E 8))]) (.seq (.reg [fV 10 2 1,lE 11 10,fV 12 2 3,oN (.store [0] (.E 12) (.E 11))]) (.seq (.reg [fV 13 3 1,lE 14 13,oE 15 (.call zhj [([4],(.E 14))]),fV 16 3 3,oN (.store [4] (.E 16) (.E 15))]) (.seq (.reg [tV 17 4 3,oN (.store [0,0,0,4] (.V 2) (.E 17))]) .ret))))))
def zjl:List RV:=[.cell [0,0,0,4] 2 true]
def zsj:List Nat:=[0,1,2,3,4]
def zgl:IC := .seq (.reg [oV 2 (.box (.V 0)),oV 3 (.box (.V 1)),oV 4 (.mv (kb false))]) (.seq (.reg [fV 5 0 2,lE 6 5,fV 7 0 3,lE 8 7,bE 9 .eql 6 8,wE 10 9,gE 11 10 .true (.faddr 1 (.V 2)),gE 12 10 .true (.load false 1 (.E 11)),gE 13 10 .true (.faddr 1 (.V 3)),gE 14 10 .true (.load false 1 (.E 13)),gE 15 10 .true (.bin .eql (.E 12) (.E 14)),oE 16 (.pick (.E 10) (.E 15) (kb false)),wE 17 16,gE 18 17 .true (.faddr 2 (.V 2)),gE 19 17 .true (.load false 1 (.E 18)),gE 20 17 .true (.faddr 2 (.V 3)),gE 21 17 .true (.load false 1 (.E 20)),gE 22 17 .true (.bin .eql (.E 19) (.E 21)),oE 23 (.pick (.E 17) (.E 22) (kb false)),wE 24 23,gE 25 24 .true (.faddr 3 (.V 2)),gE 26 24 .true (.load false 1 (.E 25)),gE 27 24 .true (.faddr 3 (.V 3)),gE 28 24 .true (.load false 1 (.E 27)),gE 29 24 .true (.call zhk [([4],(.E 26)),([4],(.E 28)),([0],(.C (.fn zez [])))]),oE 30 (.pick (.E 24) (.E 29) (kb false)),vE 4 30]) .ret)
def zgm:List RV:=[.tmp [0] 4]
def zsk:List Nat:=[0,1,2,3,4]
def zjm:IC := .seq (.reg [oV 2 (.box (.V 0)),oV 3 (.box (.V 1)),oV 4 (.mv (kb false))]) (.seq (.seq (.reg [fV 5 0 2,lE 6 5,fV 7 0 3,lE 8 7,bE 9 .neq 6 8]) (.cond (.E 9) (.seq (.reg [oV 4 (.mv (kb false))]) .ret) .skip)) (.seq (.seq (.reg [fV 10 1 2,lE 11 10,fV 12 1 3,lE 13 12,bE 14 .neq 11 13]) (.cond (.E 14) (.seq (.reg [oV 4 (.mv (kb false))]) .ret) .skip)) (.seq (.seq (.reg [fV 15 2 2,lE 16 15,fV 17 2 3,lE 18 17,bE 19 .neq 16 18]) (.cond (.E 19) (.seq (.reg [oV 4 (.mv (kb false))]) .ret) .skip)) (.seq (.seq (.reg [fV 20 3 2,lE 21 20,fV 22 3 3,lE 23 22,oE 24 (.call zhl [([4],(.E 21)),([4],(.E 23))]),oE 25 (.un .not (.E 24))]) (.cond (.E 25) (.seq (.reg [oV 4 (.mv (kb false))]) .ret) .skip)) (.seq (.reg [oV 4 (.mv (kb true))]) .ret)))))
def zjn:List RV:=[.tmp [0] 4]
def zsl:List Nat:=[0,1,5,4]
def zjo:IC := .seq (.seq (.reg [mV 12 5,mV 13 0,nE 14 13,bE 15 .lss 12 14]) (.cond (.E 15) .skip (.exit 0))) (.seq (.block 1 (.seq (.reg [mV 18 0,mV 19 5,iE 20 4 18 19,tE 21 4 20,mV 22 1,oE 23 (.call zfd [([0,0,0,4],(.E 21)),([0],(.E 22))]),vE 1 23]) (.seq (.reg [mV 24 1,oE 25 (.bin .lss (.E 24) (ki 0))]) (.cond (.E 25) (.seq (.reg [oV 4 (.mv (ki (-1)))]) .ret) .skip)))) (.reg [mV 16 5,oE 17 (.bin .add (.E 16) (ki 1)),vE 5 17]))
def zid:IC := .seq (.reg [oV 4 (.mv (ki 0))]) (.seq (.reg [mV 6 1,mV 7 0,nE 8 7,bE 9 .sub 6 8,vE 1 9]) (.seq (.seq (.reg [mV 10 1,oE 11 (.bin .lss (.E 10) (ki 0))]) (.cond (.E 11) (.seq (.reg [oV 4 (.mv (ki (-1)))]) .ret) .skip)) (.seq (.seq (.reg [oV 5 (.mv (ki 0))]) (.block 0 (.loop zjo))) (.seq (.reg [mV 26 1,vE 4 26]) .ret))))
def zie:List RV:=[.tmp [0] 4]
def zsm:List Nat:=[0,4,3,2]
def zkt:IC := .seq (.seq (.reg [mV 8 4,mV 9 0,nE 10 9,bE 11 .lss 8 10]) (.cond (.E 11) .skip (.exit 0))) (.seq (.block 1 (.reg [mV 14 3,mV 15 4,mV 16 0,mV 17 4,iE 18 4 16 17,tE 19 4 18,oE 20 (.call zdm [([0,0,0,4],(.E 19))]),iE 21 4 14 15,oN (.store [0,0,0,4] (.E 21) (.E 20))])) (.reg [mV 12 4,oE 13 (.bin .add (.E 12) (ki 1)),vE 4 13]))
def zjp:IC := .seq (.reg [oV 2 (.mv (.C .e0))]) (.seq (.reg [mV 5 0,nE 6 5,oE 7 (.mksl 48 4 [iv 0,iv 0,iv 0,(.own 4 [])] (.E 6) (.E 6)),vE 3 7]) (.seq (.seq (.reg [oV 4 (.mv (ki 0))]) (.block 0 (.loop zkt))) (.seq (.reg [mV 22 3,vE 2 22]) .ret)))
def zjq:List RV:=[.tmp [4] 2]
def zsn:List Nat:=[0,1,2,17,16,15,7,8,9,6]
def zjr:IC := .seq (.reg [oE 18 (.bin .lss (.V 17) (.V 16))]) (.seq (.cond (.E 18) .skip (.exit 0)) (.seq (.block 1 (.seq (.reg [mV 19 17,oE 20 (.iaddr 4 (.V 15) (.V 17)),tE 21 4 20,oV 8 (.alloc [iv 0,iv 0,iv 0,.e0]),vE 7 19,oN (.store [0,0,0,4] (.V 8) (.E 21))]) (.seq (.reg [mV 22 1,mV 23 7,iE 24 4 22 23,tE 25 4 24,oV 9 (.alloc [iv 0,iv 0,iv 0,.e0]),oN (.store [0,0,0,4] (.V 9) (.E 25))]) (.seq (.reg [mV 26 2,tV 27 4 8,tV 28 4 9,oE 29 (.callv (.E 26) [([0,0,0,4],(.E 27)),([0,0,0,4],(.E 28))]),oE 30 (.un .not (.E 29))]) (.cond (.E 30) (.seq (.reg [oV 6 (.mv (kb false))]) .ret) .skip))))) (.reg [oE 31 (.bin .add (.V 17) (ki 1)),vE 17 31])))
def zif:IC := .seq (.reg [oV 6 (.mv (kb false))]) (.seq (.seq (.reg [mV 10 0,nE 11 10,mV 12 1,nE 13 12,bE 14 .neq 11 13]) (.cond (.E 14) (.seq (.reg [oV 6 (.mv (kb false))]) .ret) .skip)) (.seq (.seq (.reg [oV 15 (.mv (.V 0)),oV 16 (.len (.V 15)),oV 17 (.mv (ki 0))]) (.block 0 (.loop zjr))) (.seq (.reg [oV 6 (.mv (kb true))]) .ret)))
def zig:List RV:=[.tmp [0] 6]
def zso:List Nat:=[0,1,5,4]
def zku:IC := .seq (.seq (.reg [mV 11 5,mV 12 0,nE 13 12,bE 14 .lss 11 13]) (.cond (.E 14) .skip (.exit 0))) (.seq (.block 1 (.seq (.regD [(mV 17 0,0,0),(mV 18 5,0,0),(iE 19 4 17 18,0,0),(tE 20 4 19,0,0),(mV 21 1,0,0),(mV 22 5,0,0),(iE 23 4 21 22,0,0),(tE 24 4 23,0,0),(oE 25 (.call zfe [([0,0,0,4],(.E 20)),([0,0,0,4],(.E 24))]),0,0),(oE 26 (.un .not (.E 25)),0,0)]) (.cond (.E 26) (.seq (.reg [oV 4 (.mv (kb false))]) .ret) .skip))) (.reg [mV 15 5,oE 16 (.bin .add (.E 15) (ki 1)),vE 5 16]))
def zjs:IC := .seq (.reg [oV 4 (.mv (kb false))]) (.seq (.seq (.reg [mV 6 0,nE 7 6,mV 8 1,nE 9 8,bE 10 .neq 7 9]) (.cond (.E 10) (.seq (.reg [oV 4 (.mv (kb false))]) .ret) .skip)) (.seq (.seq (.reg [oV 5 (.mv (ki 0))]) (.block 0 (.loop zku))) (.seq (.reg [oV 4 (.mv (kb true))]) .ret)))
def zjt:List RV:=[.tmp [0] 4]
def tbl:List (Nat×Fun):=[
 (zia,zba zgj zgk []),
 (zfd,zba zib zic []),
 (zgi,zba zf3 zf4 []),
 (zdm,zba zjk zjl []),
 (zez,zba zgl zgm []),
 (zfe,zba zjm zjn []),
 (zhi,zba zid zie []),
 (zhj,zba zjp zjq []),
 (zhk,zba zif zig []),
 (zhl,zba zjs zjt [])]
def T:zbz:=fun f=>(tbl.find? fun q=>q.1 == f).map fun q=>q.2
theorem zih:T zia=some (zba zgj zgk []):=rfl
@[simp] theorem zy3:zcr T zia=[]:=zfc zih
theorem zm5:T zfd=some (zba zib zic []):=rfl
@[simp] theorem zy4:zcr T zfd=[]:=zfc zm5
theorem zhm:T zgi=some (zba zf3 zf4 []):=rfl
@[simp] theorem zy5:zcr T zgi=[]:=zfc zhm
theorem zm6:T zdm=some (zba zjk zjl []):=rfl
@[simp] theorem zy6:zcr T zdm=[]:=zfc zm6
theorem zii:T zez=some (zba zgl zgm []):=rfl
@[simp] theorem zy7:zcr T zez=[]:=zfc zii
theorem zm7:T zfe=some (zba zjm zjn []):=rfl
@[simp] theorem zy8:zcr T zfe=[]:=zfc zm7
theorem zkv:T zhi=some (zba zid zie []):=rfl
@[simp] theorem zy9:zcr T zhi=[]:=zfc zkv
theorem zm8:T zhj=some (zba zjp zjq []):=rfl
@[simp] theorem zza:zcr T zhj=[]:=zfc zm8
theorem zkw:T zhk=some (zba zif zig []):=rfl
@[simp] theorem zzb:zcr T zhk=[]:=zfc zkw
theorem zm9:T zhl=some (zba zjs zjt []):=rfl
@[simp] theorem zzc:zcr T zhl=[]:=zfc zm9
end Go.Pe
