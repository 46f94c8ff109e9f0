/- Proved: for every int the law FnExactOneLeaf returns true (the program's OneLeaf answers as the reference's, in new memory), with no condition beyond the row's own. -/
import Derived.Test.YtcpfnjbfkjkanaaPFnExactOneLeafx2
import Derived.Test.YtcpfnjbfkjkanaaWSized
namespace Go.Proofs.PrintWords
/-- The name by which the printed row calls it. -/
abbrev sized_ints := @Go.Proofs.YtcpfnjbfkjkanaaW.PrintWords.sized_ints
end Go.Proofs.PrintWords
namespace Go.Proofs.Ytcpfnjbfkjkanaa.Pure
open Go.RowKit Go.Proofs.Ytcpfnjbfkjkanaa.PFnExactOneLeaf Go.Proofs.YtcpfnjbfkjkanaaW.PrintWords Go.Proofs.YtcpfnjbfkjkanaaW.PrintLast

theorem FnExactOneLeaf : laws_FnExactOneLeaf.Pure := by
  intro a _
  refine ⟨3, ?_⟩
  simp [laws_FnExactOneLeaf.f, spec_OneLeaf.f, impl_OneLeaf.f, laws_eqTree.f, laws_eqNodeS.f, laws_eqNodeS.l0, laws_eqNode.f, laws_markTree.f, laws_markNodeS.f, laws_markNodeS.l0, laws_heldTree.f, laws_heldNodeS.f, laws_heldNodeS.l0, rd_T64, wrap64]

end Go.Proofs.Ytcpfnjbfkjkanaa.Pure
