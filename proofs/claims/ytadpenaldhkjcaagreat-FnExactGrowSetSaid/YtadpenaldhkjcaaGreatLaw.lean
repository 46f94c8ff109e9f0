/- The law: for every input that the row lets in the call returns true,and what came in reads as it did; no condition beyond the row. -/
import Derived.Test.YtadpenaldhkjcaaGreatRows
import Derived.Test.YtadpenaldhkjcaaGreatOk
import Derived.Test.YtadpenaldhkjcaaGreatC1
import Derived.WalkKit
import Derived.ProofKit
import Derived.OpenShut
import Derived.ShutString
import Derived.ChangeOld
import Derived.Below
import Derived.SizedLaws
set_option linter.all false
namespace Go.Proofs.YtadpenaldhkjcaaGreat.fnExactGrowSet
open Go Go.Pe
theorem own:ownKnob Tryz.prog.godebug=none:=by kernel_rfl
set_option maxRecDepth 100000 in
theorem lifted (os:Os) (started:os.Started) (H:Type) (enc:TypeId×Value→H) :
  ReturnsInHanded {} Tryz.checked os 7 .any (Rows.fnExactGrowSetSpec.pre6 enc Tryz.prog Tryz.f7 Rows.fnExactGrowSetRow.domain false) (Rows.fnExactGrowSetSpec.post enc Tryz.prog Tryz.f7 false true false false) :=
 yn2 (C:=Tryz.checked) (ptys:=[(true,[.sl [.sl [.int .i64]],.sl [.sl [.int .i64]]]),(false,[.sl [.int .i64]]),(true,[.int .i64,.int .i64,.int .i64,.int .i64,.int .i64,.int .i64,.int .i64,.sl [.int .i64]])]) z8k (zn0) started own (by kernel_rfl) Tryz.func7
  (ChangeSpec.witness6 (enc:=enc) (C:=Tryz.checked) false ⟨#[],#[.agg #[.slice none 0 0,.slice none 0 0],.slice none 0 0,.agg #[.int .i64 0,.int .i64 0,.int .i64 0,.int .i64 0,.int .i64 0,.int .i64 0,.int .i64 0,.slice none 0 0]],[]⟩ 8 (by kernel_rfl) (by kernel_rfl) (by kernel_rfl) (by kernel_rfl))
  (by kernel_rfl) rfl (fun ds h=>by match ds,h with | [d0,d1,d2],_=>rfl) rfl rfl (by kernel_rfl) (ypr (by kernel_rfl))
  (fun pvs hp=>by
   obtain ⟨a,b,d,rfl,h1,h2,h3⟩:=yot hp
   obtain ⟨c,v,rfl,hcl,hvl,hc,hv⟩:=yo3 h1
   obtain ⟨g,rfl,hg,hgi⟩:=ylx h2
   obtain ⟨cfg,rfl,hcf,_⟩:=yq5 h3
   exact yqh c v g cfg hcl hvl hc hv hg hcf)
theorem over:Rows.fnExactGrowSetRow.holds Tryz.pinned (OpenSpec.ofChange Rows.fnExactGrowSetSpec) :=
 OpenClaim.holds_of_wide 7 Tryz.f7 rfl rfl rfl rfl rfl rfl rfl ⟨rfl,rfl,rfl,rfl,rfl⟩ rfl rfl rfl rfl rfl (by kernel_rfl) Tryz.func7 (by kernel_rfl)
  (of_decide_eq_true (by kernel_rfl)) (by unfold Func.isWrapper; first | (rw [if_pos (by decide +kernel)]; kernel_rfl) | (rw [if_neg (by decide +kernel)]; exact ⟨rfl,rfl⟩))
  (fun os started H enc _=>lifted os started H enc)
end Go.Proofs.YtadpenaldhkjcaaGreat.fnExactGrowSet
namespace Go.Proofs.YtadpenaldhkjcaaGreat
theorem fnExactGrowSet_holds:Rows.FnExactGrowSetSaid:=fnExactGrowSet.over
#print axioms fnExactGrowSet_holds
end Go.Proofs.YtadpenaldhkjcaaGreat
