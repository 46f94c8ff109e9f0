/- Each compact text is its function of the program (zqw); no condition. -/
import Derived.Test.YtdebkglpapjeiaaRows
import Derived.Test.YtdebkglpapjeiaaK0
import Derived.Test.YtdebkglpapjeiaaEvB2
import Derived.KernelRfl
set_option linter.all false
namespace Go.Pe
open Go Go.Proofs
theorem zsp : zd8 Try.prog zia (zbb zgj zgk []) := ⟨_, _, zsf, Try.func3, rfl, by kernel_rfl, by kernel_rfl, by kernel_rfl⟩
theorem zsq : zd8 Try.prog zfd (zbb zib zic []) := ⟨_, _, zsg, Try.func7, rfl, by kernel_rfl, by kernel_rfl, by kernel_rfl⟩
theorem zsr : zd8 Try.prog zgi (zbb zf3 zf4 []) := ⟨_, _, zsh, Try.func8, rfl, by kernel_rfl, by kernel_rfl, by kernel_rfl⟩
theorem zss : zd8 Try.prog zdm (zbb zjk zjl []) := ⟨_, _, zsi, Try.func9, rfl, by kernel_rfl, by kernel_rfl, by kernel_rfl⟩
theorem zst : zd8 Try.prog zez (zbb zgl zgm []) := ⟨_, _, zsj, Try.func10, rfl, by kernel_rfl, by kernel_rfl, by kernel_rfl⟩
theorem zsu : zd8 Try.prog zfe (zbb zjm zjn []) := ⟨_, _, zsk, Try.func11, rfl, by kernel_rfl, by kernel_rfl, by kernel_rfl⟩
theorem zsv : zd8 Try.prog zhi (zbb zid zie []) := ⟨_, _, zsl, Try.func36, rfl, by kernel_rfl, by kernel_rfl, by kernel_rfl⟩
theorem zsw : zd8 Try.prog zhj (zbb zjp zjq []) := ⟨_, _, zsm, Try.func37, rfl, by kernel_rfl, by kernel_rfl, by kernel_rfl⟩
theorem zsx : zd8 Try.prog zhk (zbb zif zig []) := ⟨_, _, zsn, Try.func38, rfl, by kernel_rfl, by kernel_rfl, by kernel_rfl⟩
theorem zsy : zd8 Try.prog zhl (zbb zjs zjt []) := ⟨_, _, zso, Try.func39, rfl, by kernel_rfl, by kernel_rfl, by kernel_rfl⟩
theorem zqw : zft Try.prog T := by
 refine zwc ?_
 simp only [tbl, List.forall_mem_cons, List.not_mem_nil, false_imp_iff, implies_true, and_true]
 exact ⟨zsp, zsq, zsr, zss, zst, zsu, zsv, zsw, zsx, zsy⟩
end Go.Pe
