/- The law: for every input that the row lets in the call returns true,and what came in reads as it did; no condition beyond the row. -/
import Derived.Test.YtdebkglpapjeiaaRows
import Derived.Test.YtdebkglpapjeiaaOk
import Derived.Test.YtdebkglpapjeiaaC0
import Derived.WalkKit
import Derived.ProofKit
import Derived.OpenShut
import Derived.ShutString
import Derived.ChangeOld
import Derived.Below
import Derived.SizedLaws
set_option linter.all false
namespace Go.Proofs.Ytdebkglpapjeiaa.fnShrunkTree
open Go Go.Pe
theorem own:ownKnob Try.prog.godebug=none:=by kernel_rfl
set_option maxRecDepth 100000 in
theorem lifted (os:Os) (started:os.Started) (H:Type) (enc:TypeId×Value→H) :
  ReturnsInHanded {} Try.checked os 6 .any (Rows.fnShrunkTreeSpec.pre6 enc Try.prog Try.f6 Rows.fnShrunkTreeRow.domain false) (Rows.fnShrunkTreeSpec.post enc Try.prog Try.f6 false true false false) :=
 ybi (C:=Try.checked) (ptys:=[(false,[.sl [.int .u8]])]) zz0 (zk5) started own (by kernel_rfl) Try.func6
  (ChangeSpec.witness6 (enc:=enc) (C:=Try.checked) false ⟨#[],#[.slice none 0 0],[]⟩ 8 (by kernel_rfl) (by kernel_rfl) (by kernel_rfl) (by kernel_rfl))
  (by kernel_rfl) rfl (fun ds h=>by match ds,h with | [d0],_=>rfl) rfl rfl (by kernel_rfl) (yf1 (by kernel_rfl))
  (fun pvs hp=>by
   obtain ⟨a,rfl,h1⟩:=ydl hp
   obtain ⟨B,rfl,hB⟩:=ydd h1
   exact yd4 B hB)
theorem over:Rows.fnShrunkTreeRow.holds Try.pinned (OpenSpec.ofChange Rows.fnShrunkTreeSpec) :=
 OpenClaim.holds_of_wide 6 Try.f6 rfl rfl rfl rfl rfl rfl rfl ⟨rfl,rfl,rfl,rfl,rfl⟩ rfl rfl rfl rfl rfl (by kernel_rfl) Try.func6 (by kernel_rfl)
  (of_decide_eq_true (by kernel_rfl)) (by unfold Func.isWrapper; first | (rw [if_pos (by decide +kernel)]; kernel_rfl) | (rw [if_neg (by decide +kernel)]; exact ⟨rfl,rfl⟩))
  (fun os started H enc _=>lifted os started H enc)
end Go.Proofs.Ytdebkglpapjeiaa.fnShrunkTree
namespace Go.Proofs.Ytdebkglpapjeiaa
theorem fnShrunkTree_holds:Rows.FnShrunkTreeSaid:=fnShrunkTree.over
#print axioms fnShrunkTree_holds
end Go.Proofs.Ytdebkglpapjeiaa
