/- The law: for every input that the row lets in the call returns true,and what came in reads as it did; no condition beyond the row. -/
import Derived.Test.YtpcphbbcnmhcnaaGreatRows
import Derived.Test.YtpcphbbcnmhcnaaGreatOk
import Derived.Test.YtpcphbbcnmhcnaaGreatC2
import Derived.WalkKit
import Derived.ProofKit
import Derived.OpenShut
import Derived.ShutString
import Derived.ChangeOld
import Derived.Below
import Derived.SizedLaws
set_option linter.all false
namespace Go.Proofs.YtpcphbbcnmhcnaaGreat.fnExactRoundOf
open Go Go.Pe
theorem own:ownKnob Tryz.prog.godebug=none:=by kernel_rfl
set_option maxRecDepth 100000 in
theorem lifted (os:Os) (started:os.Started) (H:Type) (enc:TypeId×Value→H) :
  ReturnsInHanded {} Tryz.checked os 9 .any (Rows.fnExactRoundOfSpec.pre6 enc Tryz.prog Tryz.f9 Rows.fnExactRoundOfRow.domain false) (Rows.fnExactRoundOfSpec.post enc Tryz.prog Tryz.f9 false true false false) :=
 qeo (C:=Tryz.checked) (ptys:=[(true,[.sl [.str],.str,.sl [.sl [.int .i64]],.sl [.int .i64]]),(true,[.sl [.sl [.int .i64]],.sl [.sl [.int .i64]]]),(true,[.int .i64,.int .i64,.int .i64,.int .i64,.int .i64,.int .i64,.int .i64,.sl [.int .i64]]),(true,[.sl [.int .i64],.sl [.sl [.int .i64,.int .i64,.int .i64,.int .i64,.int .i64]]])]) yoz (rfl) started own (by kernel_rfl) Tryz.func9
  (ChangeSpec.witness6 (enc:=enc) (C:=Tryz.checked) false ⟨#[],#[.agg #[.slice none 0 0,.string ⟨#[]⟩,.slice none 0 0,.slice none 0 0],.agg #[.slice none 0 0,.slice none 0 0],.agg #[.int .i64 0,.int .i64 0,.int .i64 0,.int .i64 0,.int .i64 0,.int .i64 0,.int .i64 0,.slice none 0 0],.agg #[.slice none 0 0,.slice none 0 0]],[]⟩ 8 (by kernel_rfl) (by kernel_rfl) (by kernel_rfl) (by kernel_rfl))
  (by kernel_rfl) rfl (fun ds h=>by match ds,h with | [d0,d1,d2,d3],_=>rfl) rfl rfl (by kernel_rfl) (qiz (by kernel_rfl))
  (fun pvs hp=>by
   obtain ⟨a,b,d,e,rfl,h1,h2,h3,h4⟩:=qbq hp
   obtain ⟨t,rfl,ht,h5⟩:=qhl h1
   obtain ⟨c,v,rfl,hcl,hvl,hc,hv⟩:=qg6 h2
   obtain ⟨cfg,rfl,hcf,_⟩:=qd1 h3
   obtain ⟨s,rfl,hs,hsi⟩:=qgi h4
   exact qb3 t c v cfg s ht h5 hcl hvl hc hv hcf hs hsi)
theorem j0:(Rows.fnExactRoundOfRow.inPlace == Tryz.prog.inPlace 9)=true:=by kernel_rfl
theorem j1:(Rows.fnExactRoundOfRow.unfollowed == Tryz.prog.unfollowed 9)=true:=by kernel_rfl
theorem j2:(Rows.fnExactRoundOfRow.recurses == Tryz.prog.recurses 9)=true:=by kernel_rfl
theorem j3:(Rows.fnExactRoundOfRow.named == Tryz.prog.varsNamed 9)=true:=by kernel_rfl
theorem jf:joinedFacts Tryz.prog 9 Tryz.f9 Rows.fnExactRoundOfSpec Rows.fnExactRoundOfRow=true:=by
 unfold joinedFacts
 rw [j0,j1,j2,j3]
 kernel_rfl
theorem over:Rows.fnExactRoundOfRow.holds Tryz.pinned (OpenSpec.ofChange Rows.fnExactRoundOfSpec) :=
 OpenClaim.holds_of_wide 9 Tryz.f9 rfl rfl rfl rfl rfl rfl rfl ⟨rfl,rfl,rfl,rfl,rfl⟩ rfl rfl rfl rfl rfl (by kernel_rfl) Tryz.func9 jf
  (of_decide_eq_true (by kernel_rfl)) (by unfold Func.isWrapper; first | (rw [if_pos (by decide +kernel)]; kernel_rfl) | (rw [if_neg (by decide +kernel)]; exact ⟨rfl,rfl⟩))
  (fun os started H enc _=>lifted os started H enc)
end Go.Proofs.YtpcphbbcnmhcnaaGreat.fnExactRoundOf
namespace Go.Proofs.YtpcphbbcnmhcnaaGreat
theorem fnExactRoundOf_holds:Rows.FnExactRoundOfSaid:=fnExactRoundOf.over
#print axioms fnExactRoundOf_holds
end Go.Proofs.YtpcphbbcnmhcnaaGreat
