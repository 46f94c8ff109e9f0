/- Each compact text is its function of the program (zoe); no condition. -/
import Derived.Test.YtdebkglpapjeiaaRows
import Derived.Test.YtdebkglpapjeiaaK0
import Derived.Test.YtdebkglpapjeiaaEvB2
import Derived.KernelRfl
set_option linter.all false
namespace Go.Pe
open Go Go.Proofs
theorem zt2:zck Try.prog zih (zar zii zij []):=⟨_,_,ztk,Try.func4,rfl,by kernel_rfl,by kernel_rfl,by kernel_rfl⟩
theorem zt3:zck Try.prog zf6 (zar zik zil []):=⟨_,_,ztl,Try.func7,rfl,by kernel_rfl,by kernel_rfl,by kernel_rfl⟩
theorem zt4:zck Try.prog zeh (zar zjo zjp []):=⟨_,_,ztm,Try.func9,rfl,by kernel_rfl,by kernel_rfl,by kernel_rfl⟩
theorem zt5:zck Try.prog zf7 (zar zjq zjr []):=⟨_,_,ztn,Try.func11,rfl,by kernel_rfl,by kernel_rfl,by kernel_rfl⟩
theorem zt6:zck Try.prog zhi (zar zjs zjt []):=⟨_,_,zto,Try.func12,rfl,by kernel_rfl,by kernel_rfl,by kernel_rfl⟩
theorem zt7:zck Try.prog zgk (zar zju zjv []):=⟨_,_,ztp,Try.func13,rfl,by kernel_rfl,by kernel_rfl,by kernel_rfl⟩
theorem zt8:zck Try.prog zf8 (zar zjw zjx []):=⟨_,_,ztq,Try.func14,rfl,by kernel_rfl,by kernel_rfl,by kernel_rfl⟩
theorem zt9:zck Try.prog zhj (zar zjy zjz [true]):=⟨_,_,ztr,Try.func15,rfl,by kernel_rfl,by kernel_rfl,by kernel_rfl⟩
theorem zua:zck Try.prog zhk (zar zj0 zj1 [true]):=⟨_,_,zts,Try.func16,rfl,by kernel_rfl,by kernel_rfl,by kernel_rfl⟩
theorem zub:zck Try.prog zgl (zar zj2 zj3 []):=⟨_,_,ztt,Try.func17,rfl,by kernel_rfl,by kernel_rfl,by kernel_rfl⟩
theorem zuc:zck Try.prog zhl (zar zim zio []):=⟨_,_,ztu,Try.func36,rfl,by kernel_rfl,by kernel_rfl,by kernel_rfl⟩
theorem zud:zck Try.prog zhm (zar zj5 zj6 []):=⟨_,_,ztv,Try.func37,rfl,by kernel_rfl,by kernel_rfl,by kernel_rfl⟩
theorem zue:zck Try.prog zhn (zar zj7 zj8 []):=⟨_,_,ztw,Try.func39,rfl,by kernel_rfl,by kernel_rfl,by kernel_rfl⟩
theorem zuf:zck Try.prog zho (zar zj9 zka []):=⟨_,_,ztx,Try.func40,rfl,by kernel_rfl,by kernel_rfl,by kernel_rfl⟩
theorem zug:zck Try.prog zgm (zar zkb zkc [true]):=⟨_,_,zty,Try.func41,rfl,by kernel_rfl,by kernel_rfl,by kernel_rfl⟩
theorem zuh:zck Try.prog zhp (zar zkd zke [true]):=⟨_,_,ztz,Try.func42,rfl,by kernel_rfl,by kernel_rfl,by kernel_rfl⟩
theorem zui:zck Try.prog zhq (zar zkf zkg []):=⟨_,_,zt0,Try.func43,rfl,by kernel_rfl,by kernel_rfl,by kernel_rfl⟩
theorem zuj:zck Try.prog zhr (zar zkh zki []):=⟨_,_,zt1,Try.func72,rfl,by kernel_rfl,by kernel_rfl,by kernel_rfl⟩
theorem zoe:zfl Try.prog T:=by
 refine zya ?_
 simp only [tbl,List.forall_mem_cons,List.not_mem_nil,false_imp_iff,implies_true,and_true]
 exact ⟨zt2,zt3,zt4,zt5,zt6,zt7,zt8,zt9,zua,zub,zuc,zud,zue,zuf,zug,zuh,zui,zuj⟩
end Go.Pe
