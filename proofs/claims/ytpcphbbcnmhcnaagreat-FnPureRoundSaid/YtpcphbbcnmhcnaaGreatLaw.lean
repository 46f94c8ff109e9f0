/- The law: for every input that the row lets in the call returns true,and what came in reads as it did; no condition beyond the row. -/
import Derived.Test.YtpcphbbcnmhcnaaGreatRows
import Derived.Test.YtpcphbbcnmhcnaaGreatOk
import Derived.Test.YtpcphbbcnmhcnaaGreatC2
import Derived.WalkKit
import Derived.ProofKit
import Derived.OpenShut
import Derived.ShutString
import Derived.ChangeOld
import Derived.Below
import Derived.SizedLaws
set_option linter.all false
namespace Go.Proofs.YtpcphbbcnmhcnaaGreat.fnPureRound
open Go Go.Pe
theorem own:ownKnob Tryz.prog.godebug=none:=by kernel_rfl
set_option maxRecDepth 100000 in
theorem lifted (os:Os) (started:os.Started) (H:Type) (enc:TypeId×Value→H) :
  ReturnsInHanded {} Tryz.checked os 6 .any (Rows.fnPureRoundSpec.pre6 enc Tryz.prog Tryz.f6 Rows.fnPureRoundRow.domain false) (Rows.fnPureRoundSpec.post enc Tryz.prog Tryz.f6 false true false false) :=
 y93 (C:=Tryz.checked) (ptys:=[(false,[.sl [.int .u8]])]) yow (rfl) started own (by kernel_rfl) Tryz.func6
  (ChangeSpec.witness6 (enc:=enc) (C:=Tryz.checked) false ⟨#[],#[.slice none 0 0],[]⟩ 8 (by kernel_rfl) (by kernel_rfl) (by kernel_rfl) (by kernel_rfl))
  (by kernel_rfl) rfl (fun ds h=>by match ds,h with | [d0],_=>rfl) rfl rfl (by kernel_rfl) (qc1 (by kernel_rfl))
  (fun pvs hp=>by
   obtain ⟨a,rfl,h1⟩:=qgn hp
   obtain ⟨B,rfl,hB⟩:=qbe h1
   exact qf0 B hB)
theorem j0:(Rows.fnPureRoundRow.inPlace == Tryz.prog.inPlace 6)=true:=by kernel_rfl
theorem j1:(Rows.fnPureRoundRow.unfollowed == Tryz.prog.unfollowed 6)=true:=by kernel_rfl
theorem j2:(Rows.fnPureRoundRow.recurses == Tryz.prog.recurses 6)=true:=by kernel_rfl
theorem j3:(Rows.fnPureRoundRow.named == Tryz.prog.varsNamed 6)=true:=by kernel_rfl
theorem jf:joinedFacts Tryz.prog 6 Tryz.f6 Rows.fnPureRoundSpec Rows.fnPureRoundRow=true:=by
 unfold joinedFacts
 rw [j0,j1,j2,j3]
 kernel_rfl
theorem over:Rows.fnPureRoundRow.holds Tryz.pinned (OpenSpec.ofChange Rows.fnPureRoundSpec) :=
 OpenClaim.holds_of_wide 6 Tryz.f6 rfl rfl rfl rfl rfl rfl rfl ⟨rfl,rfl,rfl,rfl,rfl⟩ rfl rfl rfl rfl rfl (by kernel_rfl) Tryz.func6 jf
  (of_decide_eq_true (by kernel_rfl)) (by unfold Func.isWrapper; first | (rw [if_pos (by decide +kernel)]; kernel_rfl) | (rw [if_neg (by decide +kernel)]; exact ⟨rfl,rfl⟩))
  (fun os started H enc _=>lifted os started H enc)
end Go.Proofs.YtpcphbbcnmhcnaaGreat.fnPureRound
namespace Go.Proofs.YtpcphbbcnmhcnaaGreat
theorem fnPureRound_holds:Rows.FnPureRoundSaid:=fnPureRound.over
#print axioms fnPureRound_holds
end Go.Proofs.YtpcphbbcnmhcnaaGreat
