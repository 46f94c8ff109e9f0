/- The law: for every input that the row lets in the call returns true,and what came in reads as it did; no condition beyond the row. -/
import Derived.Test.YtdebkglpapjeiaaRows
import Derived.Test.YtdebkglpapjeiaaOk
import Derived.Test.YtdebkglpapjeiaaC0
import Derived.WalkKit
import Derived.ProofKit
import Derived.OpenShut
import Derived.ShutString
import Derived.ChangeOld
import Derived.Below
import Derived.SizedLaws
set_option linter.all false
namespace Go.Proofs.Ytdebkglpapjeiaa.fnExactFlatOf
open Go Go.Pe
theorem own:ownKnob Try.prog.godebug=none:=by kernel_rfl
set_option maxRecDepth 100000 in
theorem lifted (os:Os) (started:os.Started) (H:Type) (enc:TypeId×Value→H) :
  ReturnsInHanded {} Try.checked os 4 .any (Rows.fnExactFlatOfSpec.pre6 enc Try.prog Try.f4 Rows.fnExactFlatOfRow.domain false) (Rows.fnExactFlatOfSpec.post enc Try.prog Try.f4 false true false false) :=
 zyq (C:=Try.checked) (ptys:=[(true,[.int .i64,.int .i64,.int .i64,.rs [.int .i64,.int .i64,.int .i64]])]) zoe (zkj) started own (by kernel_rfl) Try.func4
  (ChangeSpec.witness6 (enc:=enc) (C:=Try.checked) false ⟨#[],#[.agg #[.int .i64 0,.int .i64 0,.int .i64 0,.slice none 0 0]],[]⟩ 8 (by kernel_rfl) (by kernel_rfl) (by kernel_rfl) (by kernel_rfl))
  (by kernel_rfl) rfl (fun ds h=>by match ds,h with | [d0],_=>rfl) rfl rfl (by kernel_rfl) (zwr (by kernel_rfl))
  (fun pvs hp=>by
   obtain ⟨a,rfl,h1⟩:=zv0 hp
   obtain ⟨s,rfl,hs⟩:=zxu h1
   exact zzz s hs)
theorem over:Rows.fnExactFlatOfRow.holds Try.pinned (OpenSpec.ofChange Rows.fnExactFlatOfSpec) :=
 OpenClaim.holds_of_wide 4 Try.f4 rfl rfl rfl rfl rfl rfl rfl ⟨rfl,rfl,rfl,rfl,rfl⟩ rfl rfl rfl rfl rfl (by kernel_rfl) Try.func4 (by kernel_rfl)
  (of_decide_eq_true (by kernel_rfl)) (by unfold Func.isWrapper; first | (rw [if_pos (by decide +kernel)]; kernel_rfl) | (rw [if_neg (by decide +kernel)]; exact ⟨rfl,rfl⟩))
  (fun os started H enc _=>lifted os started H enc)
end Go.Proofs.Ytdebkglpapjeiaa.fnExactFlatOf
namespace Go.Proofs.Ytdebkglpapjeiaa
theorem fnExactFlatOf_holds:Rows.FnExactFlatOfSaid:=fnExactFlatOf.over
#print axioms fnExactFlatOf_holds
end Go.Proofs.Ytdebkglpapjeiaa
