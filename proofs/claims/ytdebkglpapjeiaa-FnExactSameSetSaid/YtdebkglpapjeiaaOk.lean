/- Each compact text is its function of the program (zse); no condition. -/
import Derived.Test.YtdebkglpapjeiaaRows
import Derived.Test.YtdebkglpapjeiaaK0
import Derived.Test.YtdebkglpapjeiaaEvB2
import Derived.KernelRfl
set_option linter.all false
namespace Go.Pe
open Go Go.Proofs
theorem zsp:zd4 Try.prog zia (zba zgj zgk []):=⟨_,_,zsf,Try.func3,rfl,by kernel_rfl,by kernel_rfl,by kernel_rfl⟩
theorem zsq:zd4 Try.prog zfd (zba zib zic []):=⟨_,_,zsg,Try.func7,rfl,by kernel_rfl,by kernel_rfl,by kernel_rfl⟩
theorem zsr:zd4 Try.prog zgi (zba zf3 zf4 []):=⟨_,_,zsh,Try.func8,rfl,by kernel_rfl,by kernel_rfl,by kernel_rfl⟩
theorem zss:zd4 Try.prog zdm (zba zjk zjl []):=⟨_,_,zsi,Try.func9,rfl,by kernel_rfl,by kernel_rfl,by kernel_rfl⟩
theorem zst:zd4 Try.prog zez (zba zgl zgm []):=⟨_,_,zsj,Try.func10,rfl,by kernel_rfl,by kernel_rfl,by kernel_rfl⟩
theorem zsu:zd4 Try.prog zfe (zba zjm zjn []):=⟨_,_,zsk,Try.func11,rfl,by kernel_rfl,by kernel_rfl,by kernel_rfl⟩
theorem zsv:zd4 Try.prog zhi (zba zid zie []):=⟨_,_,zsl,Try.func36,rfl,by kernel_rfl,by kernel_rfl,by kernel_rfl⟩
theorem zsw:zd4 Try.prog zhj (zba zjp zjq []):=⟨_,_,zsm,Try.func37,rfl,by kernel_rfl,by kernel_rfl,by kernel_rfl⟩
theorem zsx:zd4 Try.prog zhk (zba zif zig []):=⟨_,_,zsn,Try.func38,rfl,by kernel_rfl,by kernel_rfl,by kernel_rfl⟩
theorem zsy:zd4 Try.prog zhl (zba zjs zjt []):=⟨_,_,zso,Try.func39,rfl,by kernel_rfl,by kernel_rfl,by kernel_rfl⟩
theorem zse:zfz Try.prog T:=by
 refine zug ?_
 simp only [tbl,List.forall_mem_cons,List.not_mem_nil,false_imp_iff,implies_true,and_true]
 exact ⟨zsp,zsq,zsr,zss,zst,zsu,zsv,zsw,zsx,zsy⟩
end Go.Pe
