/- The law: for every input that the row lets in the call returns true,and what came in reads as it did; no condition beyond the row. -/
import Derived.Test.YtpcphbbcnmhcnaaGreatRows
import Derived.Test.YtpcphbbcnmhcnaaGreatOk
import Derived.Test.YtpcphbbcnmhcnaaGreatC2
import Derived.WalkKit
import Derived.ProofKit
import Derived.OpenShut
import Derived.ShutString
import Derived.ChangeOld
import Derived.Below
import Derived.SizedLaws
set_option linter.all false
namespace Go.Proofs.YtpcphbbcnmhcnaaGreat.fnExactBoost
open Go Go.Pe
theorem own:ownKnob Tryz.prog.godebug=none:=by kernel_rfl
set_option maxRecDepth 100000 in
theorem lifted (os:Os) (started:os.Started) (H:Type) (enc:TypeId×Value→H) :
  ReturnsInHanded {} Tryz.checked os 8 .any (Rows.fnExactBoostSpec.pre6 enc Tryz.prog Tryz.f8 Rows.fnExactBoostRow.domain false) (Rows.fnExactBoostSpec.post enc Tryz.prog Tryz.f8 false true false false) :=
 qc5 (C:=Tryz.checked) (ptys:=[(true,[.sl [.str],.str,.sl [.sl [.int .i64]],.sl [.int .i64]]),(true,[.int .i64,.int .i64,.int .i64,.int .i64,.int .i64,.int .i64,.int .i64,.sl [.int .i64]])]) yoh (rfl) started own (by kernel_rfl) Tryz.func8
  (ChangeSpec.witness6 (enc:=enc) (C:=Tryz.checked) false ⟨#[],#[.agg #[.slice none 0 0,.string ⟨#[]⟩,.slice none 0 0,.slice none 0 0],.agg #[.int .i64 0,.int .i64 0,.int .i64 0,.int .i64 0,.int .i64 0,.int .i64 0,.int .i64 0,.slice none 0 0]],[]⟩ 8 (by kernel_rfl) (by kernel_rfl) (by kernel_rfl) (by kernel_rfl))
  (by kernel_rfl) rfl (fun ds h=>by match ds,h with | [d0,d1],_=>rfl) rfl rfl (by kernel_rfl) (qc6 (by kernel_rfl))
  (fun pvs hp=>by
   obtain ⟨a,b,rfl,h1,h2⟩:=qfe hp
   obtain ⟨t,rfl,ht,h5⟩:=qbe h1
   obtain ⟨cfg,rfl,hcf,_⟩:=qbq h2
   exact qgn t cfg ht h5 hcf)
theorem j0:(Rows.fnExactBoostRow.inPlace == Tryz.prog.inPlace 8)=true:=by kernel_rfl
theorem j1:(Rows.fnExactBoostRow.unfollowed == Tryz.prog.unfollowed 8)=true:=by kernel_rfl
theorem j2:(Rows.fnExactBoostRow.recurses == Tryz.prog.recurses 8)=true:=by kernel_rfl
theorem j3:(Rows.fnExactBoostRow.named == Tryz.prog.varsNamed 8)=true:=by kernel_rfl
theorem jf:joinedFacts Tryz.prog 8 Tryz.f8 Rows.fnExactBoostSpec Rows.fnExactBoostRow=true:=by
 unfold joinedFacts
 rw [j0,j1,j2,j3]
 kernel_rfl
theorem over:Rows.fnExactBoostRow.holds Tryz.pinned (OpenSpec.ofChange Rows.fnExactBoostSpec) :=
 OpenClaim.holds_of_wide 8 Tryz.f8 rfl rfl rfl rfl rfl rfl rfl ⟨rfl,rfl,rfl,rfl,rfl⟩ rfl rfl rfl rfl rfl (by kernel_rfl) Tryz.func8 jf
  (of_decide_eq_true (by kernel_rfl)) (by unfold Func.isWrapper; first | (rw [if_pos (by decide +kernel)]; kernel_rfl) | (rw [if_neg (by decide +kernel)]; exact ⟨rfl,rfl⟩))
  (fun os started H enc _=>lifted os started H enc)
end Go.Proofs.YtpcphbbcnmhcnaaGreat.fnExactBoost
namespace Go.Proofs.YtpcphbbcnmhcnaaGreat
theorem fnExactBoost_holds:Rows.FnExactBoostSaid:=fnExactBoost.over
#print axioms fnExactBoost_holds
end Go.Proofs.YtpcphbbcnmhcnaaGreat
