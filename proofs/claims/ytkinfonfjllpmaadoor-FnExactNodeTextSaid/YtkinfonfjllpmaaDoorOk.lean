/- Each compact text is its function of the program (zoy); no condition. -/
import Derived.Test.YtkinfonfjllpmaaDoorRows
import Derived.Test.YtkinfonfjllpmaaDoorK0
import Derived.Test.YtkinfonfjllpmaaDoorEvB2
import Derived.KernelRfl
import Derived.Test.YtkinfonfjllpmaaDoorSh
set_option linter.all false
namespace Go.Pe
open Go Go.Proofs
abbrev OkE (f:Nat) (a:IC) (b:List RV) (m:List Bool):Prop:=zjk Tryd.prog f (zbn a b m)
theorem ztx:OkE zik zju zjv []:=⟨_,_,ztl,Tryd.func3,rfl,by kernel_rfl,by kernel_rfl,by kernel_rfl⟩
theorem zty:OkE zhn zeg zjv []:=⟨_,_,ztm,Tryd.func4,rfl,by kernel_rfl,by kernel_rfl,by kernel_rfl⟩
theorem ztz:OkE zgp zjw zjx []:=⟨_,_,ztn,Tryd.func5,rfl,by kernel_rfl,by kernel_rfl,by kernel_rfl⟩
theorem zt0:OkE zho zei zjv []:=⟨_,_,ztm,Tryd.func6,rfl,by kernel_rfl,by kernel_rfl,by kernel_rfl⟩
theorem zt1:OkE zhp zjy zjv []:=⟨_,_,ztm,Tryd.func7,rfl,by kernel_rfl,by kernel_rfl,by kernel_rfl⟩
theorem zt2:OkE ze4 zj0 zjv []:=⟨_,_,ztq,Tryd.func8,rfl,by kernel_rfl,by kernel_rfl,by kernel_rfl⟩
theorem zt3:OkE ze5 zj2 zj3 []:=⟨_,_,ztr,Tryd.func9,rfl,by kernel_rfl,by kernel_rfl,by kernel_rfl⟩
theorem zt4:OkE zhq zj4 zjv []:=⟨_,_,zts,Tryd.func10,rfl,by kernel_rfl,by kernel_rfl,by kernel_rfl⟩
theorem zt5:OkE zhr zj6 zjv []:=⟨_,_,ztm,Tryd.func11,rfl,by kernel_rfl,by kernel_rfl,by kernel_rfl⟩
theorem zt6:OkE ze6 zj8 zjv []:=⟨_,_,zts,Tryd.func12,rfl,by kernel_rfl,by kernel_rfl,by kernel_rfl⟩
theorem zt7:OkE ze7 zka zj3 []:=⟨_,_,ztr,Tryd.func13,rfl,by kernel_rfl,by kernel_rfl,by kernel_rfl⟩
theorem zt8:OkE zhs zkc zjv []:=⟨_,_,zts,Tryd.func14,rfl,by kernel_rfl,by kernel_rfl,by kernel_rfl⟩
theorem zt9:zjk Tryd.prog zil (.known [] zh5):=z04 Tryd.func15 rfl (by kernel_rfl) (Any.strconv_Itoa Tryd.laysM171)
set_option maxRecDepth 100000 in
theorem zoy:zgo Tryd.prog T:=by
 refine zzr ?_
 simp only [tbl,List.forall_mem_cons,List.not_mem_nil,false_imp_iff,implies_true,and_true]
 exact ⟨ztx,zty,ztz,zt0,zt1,zt2,zt3,zt4,zt5,zt6,zt7,zt8,zt9⟩
end Go.Pe
