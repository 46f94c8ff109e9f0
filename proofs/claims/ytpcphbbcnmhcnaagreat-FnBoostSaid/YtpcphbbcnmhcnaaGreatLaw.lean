/- The law: for every input that the row lets in the call returns true,and what came in reads as it did; no condition beyond the row. -/
import Derived.Test.YtpcphbbcnmhcnaaGreatRows
import Derived.Test.YtpcphbbcnmhcnaaGreatOk
import Derived.Test.YtpcphbbcnmhcnaaGreatC2
import Derived.WalkKit
import Derived.ProofKit
import Derived.OpenShut
import Derived.ShutString
import Derived.ChangeOld
import Derived.Below
import Derived.SizedLaws
set_option linter.all false
namespace Go.Proofs.YtpcphbbcnmhcnaaGreat.fnBoost
open Go Go.Pe
theorem own:ownKnob Tryz.prog.godebug=none:=by kernel_rfl
set_option maxRecDepth 100000 in
theorem lifted (os:Os) (started:os.Started) (H:Type) (enc:TypeId×Value→H) :
  ReturnsInHanded {} Tryz.checked os 5 .any (Rows.fnBoostSpec.pre6 enc Tryz.prog Tryz.f5 Rows.fnBoostRow.domain false) (Rows.fnBoostSpec.post enc Tryz.prog Tryz.f5 false true false false) :=
 qch (C:=Tryz.checked) (ptys:=[(false,[.sl [.int .u8]])]) yns (rfl) started own (by kernel_rfl) Tryz.func5
  (ChangeSpec.witness6 (enc:=enc) (C:=Tryz.checked) false ⟨#[],#[.slice none 0 0],[]⟩ 8 (by kernel_rfl) (by kernel_rfl) (by kernel_rfl) (by kernel_rfl))
  (by kernel_rfl) rfl (fun ds h=>by match ds,h with | [d0],_=>rfl) rfl rfl (by kernel_rfl) (y95 (by kernel_rfl))
  (fun pvs hp=>by
   obtain ⟨a,rfl,h1⟩:=y7d hp
   obtain ⟨B,rfl,hB⟩:=y9h h1
   exact y73 B hB)
theorem j0:(Rows.fnBoostRow.inPlace == Tryz.prog.inPlace 5)=true:=by kernel_rfl
theorem j1:(Rows.fnBoostRow.unfollowed == Tryz.prog.unfollowed 5)=true:=by kernel_rfl
theorem j2:(Rows.fnBoostRow.recurses == Tryz.prog.recurses 5)=true:=by kernel_rfl
theorem j3:(Rows.fnBoostRow.named == Tryz.prog.varsNamed 5)=true:=by kernel_rfl
theorem jf:joinedFacts Tryz.prog 5 Tryz.f5 Rows.fnBoostSpec Rows.fnBoostRow=true:=by
 unfold joinedFacts
 rw [j0,j1,j2,j3]
 kernel_rfl
theorem over:Rows.fnBoostRow.holds Tryz.pinned (OpenSpec.ofChange Rows.fnBoostSpec) :=
 OpenClaim.holds_of_wide 5 Tryz.f5 rfl rfl rfl rfl rfl rfl rfl ⟨rfl,rfl,rfl,rfl,rfl⟩ rfl rfl rfl rfl rfl (by kernel_rfl) Tryz.func5 jf
  (of_decide_eq_true (by kernel_rfl)) (by unfold Func.isWrapper; first | (rw [if_pos (by decide +kernel)]; kernel_rfl) | (rw [if_neg (by decide +kernel)]; exact ⟨rfl,rfl⟩))
  (fun os started H enc _=>lifted os started H enc)
end Go.Proofs.YtpcphbbcnmhcnaaGreat.fnBoost
namespace Go.Proofs.YtpcphbbcnmhcnaaGreat
theorem fnBoost_holds:Rows.FnBoostSaid:=fnBoost.over
#print axioms fnBoost_holds
end Go.Proofs.YtpcphbbcnmhcnaaGreat
