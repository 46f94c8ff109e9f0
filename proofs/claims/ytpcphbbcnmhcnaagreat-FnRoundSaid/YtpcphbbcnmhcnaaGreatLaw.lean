/- The law: for every input that the row lets in the call returns true,and what came in reads as it did; no condition beyond the row. -/
import Derived.Test.YtpcphbbcnmhcnaaGreatRows
import Derived.Test.YtpcphbbcnmhcnaaGreatOk
import Derived.Test.YtpcphbbcnmhcnaaGreatC2
import Derived.WalkKit
import Derived.ProofKit
import Derived.OpenShut
import Derived.ShutString
import Derived.ChangeOld
import Derived.Below
import Derived.SizedLaws
set_option linter.all false
namespace Go.Proofs.YtpcphbbcnmhcnaaGreat.fnRound
open Go Go.Pe
theorem own:ownKnob Tryz.prog.godebug=none:=by kernel_rfl
set_option maxRecDepth 100000 in
theorem lifted (os:Os) (started:os.Started) (H:Type) (enc:TypeId×Value→H) :
  ReturnsInHanded {} Tryz.checked os 7 .any (Rows.fnRoundSpec.pre6 enc Tryz.prog Tryz.f7 Rows.fnRoundRow.domain false) (Rows.fnRoundSpec.post enc Tryz.prog Tryz.f7 false true false false) :=
 qee (C:=Tryz.checked) (ptys:=[(false,[.sl [.int .u8]])]) yux (rfl) started own (by kernel_rfl) Tryz.func7
  (ChangeSpec.witness6 (enc:=enc) (C:=Tryz.checked) false ⟨#[],#[.slice none 0 0],[]⟩ 8 (by kernel_rfl) (by kernel_rfl) (by kernel_rfl) (by kernel_rfl))
  (by kernel_rfl) rfl (fun ds h=>by match ds,h with | [d0],_=>rfl) rfl rfl (by kernel_rfl) (qe0 (by kernel_rfl))
  (fun pvs hp=>by
   obtain ⟨a,rfl,h1⟩:=qfb hp
   obtain ⟨B,rfl,hB⟩:=qft h1
   exact qck B hB)
theorem j0:(Rows.fnRoundRow.inPlace == Tryz.prog.inPlace 7)=true:=by kernel_rfl
theorem j1:(Rows.fnRoundRow.unfollowed == Tryz.prog.unfollowed 7)=true:=by kernel_rfl
theorem j2:(Rows.fnRoundRow.recurses == Tryz.prog.recurses 7)=true:=by kernel_rfl
theorem j3:(Rows.fnRoundRow.named == Tryz.prog.varsNamed 7)=true:=by kernel_rfl
theorem jf:joinedFacts Tryz.prog 7 Tryz.f7 Rows.fnRoundSpec Rows.fnRoundRow=true:=by
 unfold joinedFacts
 rw [j0,j1,j2,j3]
 kernel_rfl
theorem over:Rows.fnRoundRow.holds Tryz.pinned (OpenSpec.ofChange Rows.fnRoundSpec) :=
 OpenClaim.holds_of_wide 7 Tryz.f7 rfl rfl rfl rfl rfl rfl rfl ⟨rfl,rfl,rfl,rfl,rfl⟩ rfl rfl rfl rfl rfl (by kernel_rfl) Tryz.func7 jf
  (of_decide_eq_true (by kernel_rfl)) (by unfold Func.isWrapper; first | (rw [if_pos (by decide +kernel)]; kernel_rfl) | (rw [if_neg (by decide +kernel)]; exact ⟨rfl,rfl⟩))
  (fun os started H enc _=>lifted os started H enc)
end Go.Proofs.YtpcphbbcnmhcnaaGreat.fnRound
namespace Go.Proofs.YtpcphbbcnmhcnaaGreat
theorem fnRound_holds:Rows.FnRoundSaid:=fnRound.over
#print axioms fnRound_holds
end Go.Proofs.YtpcphbbcnmhcnaaGreat
