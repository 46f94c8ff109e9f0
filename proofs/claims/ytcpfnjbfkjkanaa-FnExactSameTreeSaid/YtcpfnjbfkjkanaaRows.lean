/-
  NARROWER THAN 'FOR EVERY INPUT', by the rows' own cells (each row's printed sentence says how): FnExactSameSet: loops.
  DERIVED. THE GIVEN ROWS OF THIS SEAT. 6 by the template 'for every input the law returns true; each argument reads behind the call as it read before'; 0 by the template 'total and deterministic' (their statements: YtcpfnjbfkjkanaaTotals.lean).
  GIVEN WITH THE SEED: the statements are not yours to turn. If you find one false, say at which input.
  Laid BY PROGRAM, IN A SANDBOX (cutbox-rows.mjs): the forced cells as the released guide's own fill.sh prints them over the translation ab552b44bb85f8b6… (all of the seat's roots in one cut). By AI agents, Wed Nov 11 2026. No macro, syntax, notation, axiom, sorry.
-/
import Derived.Test.YtcpfnjbfkjkanaaChecked
import GoSem.Claim
import GoSem.ClaimJoined
import GoSem.ClaimMapViews
import Derived.JoinedTies
import Derived.KernelRfl
namespace Go.Proofs.Ytcpfnjbfkjkanaa
/- THE CELL 'sum', in the pinned program and in every row, IS THE sha256 OF THE DUMP (.gsa) THAT YtcpfnjbfkjkanaaProg.lean LOADS. Nothing in Lean hashes anything: it is a label: what it is worth is what the hold of that sum in a sandbox is worth. -/
noncomputable def Try.pinned : Pinned := { name := "ytcpfnjbfkjkanaa", sum := "ab552b44bb85f8b6af8d4a054344762fba046ef487b21e87b2e95cdb4aa37247", checked := Try.checked }
namespace Rows
def none {H : Type} : Left H := { results := [], args := [] }

/-- 'laws.FnExactMostOf': WHATEVER THE INPUT: true; the input reads as it did. -/
def fnExactMostOfSpec : ChangeSpec := { name := "fnExactMostOf", fn := fun _ => fun
  | [d] => { results := [.lit (.bool true)], args := [d] }
  | _ => none }
def fnExactMostOfRow : OpenClaim := { program := "ytcpfnjbfkjkanaa", sum := "ab552b44bb85f8b6af8d4a054344762fba046ef487b21e87b2e95cdb4aa37247", func := "loop.example/g00500/laws.FnExactMostOf", spec := "fnExactMostOf", apart := false }
def FnExactMostOfSaid : Prop := fnExactMostOfRow.holds Try.pinned (OpenSpec.ofChange fnExactMostOfSpec)

/-- ITS FALSE NEIGHBOUR: 'it returns false'. Refute it at one input. -/
def fnExactMostOfWrong : ChangeSpec := { name := "fnExactMostOf", fn := fun _ => fun
  | [d] => { results := [.lit (.bool false)], args := [d] }
  | _ => none }
def FnExactMostOfWrongFalsely : Prop := fnExactMostOfRow.holds Try.pinned (OpenSpec.ofChange fnExactMostOfWrong)

/-- 'laws.FnExactBaseOf': WHATEVER THE INPUT: true; the input reads as it did. -/
def fnExactBaseOfSpec : ChangeSpec := { name := "fnExactBaseOf", fn := fun _ => fun
  | [d] => { results := [.lit (.bool true)], args := [d] }
  | _ => none }
def fnExactBaseOfRow : OpenClaim := { program := "ytcpfnjbfkjkanaa", sum := "ab552b44bb85f8b6af8d4a054344762fba046ef487b21e87b2e95cdb4aa37247", func := "loop.example/g00500/laws.FnExactBaseOf", spec := "fnExactBaseOf", apart := false }
def FnExactBaseOfSaid : Prop := fnExactBaseOfRow.holds Try.pinned (OpenSpec.ofChange fnExactBaseOfSpec)

/-- ITS FALSE NEIGHBOUR: 'it returns false'. Refute it at one input. -/
def fnExactBaseOfWrong : ChangeSpec := { name := "fnExactBaseOf", fn := fun _ => fun
  | [d] => { results := [.lit (.bool false)], args := [d] }
  | _ => none }
def FnExactBaseOfWrongFalsely : Prop := fnExactBaseOfRow.holds Try.pinned (OpenSpec.ofChange fnExactBaseOfWrong)

/-- 'laws.FnExactResiduals': WHATEVER THE INPUT: true; the input reads as it did. -/
def fnExactResidualsSpec : ChangeSpec := { name := "fnExactResiduals", fn := fun _ => fun
  | [d1, d2] => { results := [.lit (.bool true)], args := [d1, d2] }
  | _ => none }
def fnExactResidualsRow : OpenClaim := { program := "ytcpfnjbfkjkanaa", sum := "ab552b44bb85f8b6af8d4a054344762fba046ef487b21e87b2e95cdb4aa37247", func := "loop.example/g00500/laws.FnExactResiduals", spec := "fnExactResiduals", apart := false }
def FnExactResidualsSaid : Prop := fnExactResidualsRow.holds Try.pinned (OpenSpec.ofChange fnExactResidualsSpec)

/-- ITS FALSE NEIGHBOUR: 'it returns false'. Refute it at one input. -/
def fnExactResidualsWrong : ChangeSpec := { name := "fnExactResiduals", fn := fun _ => fun
  | [d1, d2] => { results := [.lit (.bool false)], args := [d1, d2] }
  | _ => none }
def FnExactResidualsWrongFalsely : Prop := fnExactResidualsRow.holds Try.pinned (OpenSpec.ofChange fnExactResidualsWrong)

/-- 'laws.FnExactSameSet': WHATEVER THE INPUT: true; the input reads as it did. -/
def fnExactSameSetSpec : ChangeSpec := { name := "fnExactSameSet", fn := fun _ => fun
  | [d1, d2] => { results := [.lit (.bool true)], args := [d1, d2] }
  | _ => none }
def fnExactSameSetRow : OpenClaim := { program := "ytcpfnjbfkjkanaa", sum := "ab552b44bb85f8b6af8d4a054344762fba046ef487b21e87b2e95cdb4aa37247", func := "loop.example/g00500/laws.FnExactSameSet", spec := "fnExactSameSet", unfollowed := true, recurses := true, loops := true, apart := false }
def FnExactSameSetSaid : Prop := fnExactSameSetRow.holds Try.pinned (OpenSpec.ofChange fnExactSameSetSpec)

/-- ITS FALSE NEIGHBOUR: 'it returns false'. Refute it at one input. -/
def fnExactSameSetWrong : ChangeSpec := { name := "fnExactSameSet", fn := fun _ => fun
  | [d1, d2] => { results := [.lit (.bool false)], args := [d1, d2] }
  | _ => none }
def FnExactSameSetWrongFalsely : Prop := fnExactSameSetRow.holds Try.pinned (OpenSpec.ofChange fnExactSameSetWrong)

/-- 'laws.FnExactOneLeaf': WHATEVER THE INPUT: true; the input reads as it did. -/
def fnExactOneLeafSpec : ChangeSpec := { name := "fnExactOneLeaf", fn := fun _ => fun
  | [d] => { results := [.lit (.bool true)], args := [d] }
  | _ => none }
def fnExactOneLeafRow : OpenClaim := { program := "ytcpfnjbfkjkanaa", sum := "ab552b44bb85f8b6af8d4a054344762fba046ef487b21e87b2e95cdb4aa37247", func := "loop.example/g00500/laws.FnExactOneLeaf", spec := "fnExactOneLeaf", apart := false }
def FnExactOneLeafSaid : Prop := fnExactOneLeafRow.holds Try.pinned (OpenSpec.ofChange fnExactOneLeafSpec)

/-- ITS FALSE NEIGHBOUR: 'it returns false'. Refute it at one input. -/
def fnExactOneLeafWrong : ChangeSpec := { name := "fnExactOneLeaf", fn := fun _ => fun
  | [d] => { results := [.lit (.bool false)], args := [d] }
  | _ => none }
def FnExactOneLeafWrongFalsely : Prop := fnExactOneLeafRow.holds Try.pinned (OpenSpec.ofChange fnExactOneLeafWrong)

/-- 'laws.FnExactSameTree': WHATEVER THE INPUT: true; the input reads as it did. -/
def fnExactSameTreeSpec : ChangeSpec := { name := "fnExactSameTree", fn := fun _ => fun
  | [d1, d2] => { results := [.lit (.bool true)], args := [d1, d2] }
  | _ => none }
def fnExactSameTreeRow : OpenClaim := { program := "ytcpfnjbfkjkanaa", sum := "ab552b44bb85f8b6af8d4a054344762fba046ef487b21e87b2e95cdb4aa37247", func := "loop.example/g00500/laws.FnExactSameTree", spec := "fnExactSameTree", apart := false }
def FnExactSameTreeSaid : Prop := fnExactSameTreeRow.holds Try.pinned (OpenSpec.ofChange fnExactSameTreeSpec)

/-- ITS FALSE NEIGHBOUR: 'it returns false'. Refute it at one input. -/
def fnExactSameTreeWrong : ChangeSpec := { name := "fnExactSameTree", fn := fun _ => fun
  | [d1, d2] => { results := [.lit (.bool false)], args := [d1, d2] }
  | _ => none }
def FnExactSameTreeWrongFalsely : Prop := fnExactSameTreeRow.holds Try.pinned (OpenSpec.ofChange fnExactSameTreeWrong)

/- THE SECOND FORM. 'bulk': how many values and letters a reading holds, each counted each time it is reached (what is shared counts as often as it is met; a slice's spare places count too). A statement '..UptoSaid' is the law's where the arguments, and the package variables that the reading takes, are together of bulk at most 1048576: NARROWER than '..Said'. Prove '..Said' where nothing that the law and all that it calls make is longer than what came in: it says more and counts as full. Else prove '..UptoSaid'. A law counts once. -/
mutual
def uptoBulk {H : Type} : DataW H → Nat
  | .lit (.string bytes) => bytes.length + 1
  | .lit _ => 1
  | .nil => 1
  | .ptr d => uptoBulk d + 1
  | .slice elems spare => uptoBulkAll elems + uptoBulkAll spare + 1
  | .agg parts => uptoBulkAll parts + 1
  | .iface _ d => uptoBulk d + 1
  | .map entries => uptoBulkEntries entries + 1
  | .held _ => 1
def uptoBulkAll {H : Type} : List (DataW H) → Nat
  | [] => 0
  | d :: r => uptoBulk d + uptoBulkAll r
def uptoBulkEntries {H : Type} : List (Lit × DataW H) → Nat
  | [] => 0
  | x :: r => uptoBulkEntry x + uptoBulkEntries r
def uptoBulkEntry {H : Type} : Lit × DataW H → Nat
  | (.string bytes, d) => bytes.length + uptoBulk d + 1
  | (_, d) => uptoBulk d + 1
 end
def uptoSmall : (H : Type) → List (DataW H) → Bool := fun _ ds => decide (uptoBulkAll ds ≤ 1048576)
def OpenSpec.upto (s : _root_.Go.ChangeSpec) : _root_.Go.OpenSpec := { _root_.Go.OpenSpec.ofChange s with cond := some uptoSmall }

/-- 'laws.FnExactMostOf', WHERE WHAT IT READS IS OF BULK AT MOST 1048576: true; the input reads as it did. -/
def fnExactMostOfUptoRow : OpenClaim := { program := "ytcpfnjbfkjkanaa", sum := "ab552b44bb85f8b6af8d4a054344762fba046ef487b21e87b2e95cdb4aa37247", func := "loop.example/g00500/laws.FnExactMostOf", spec := "fnExactMostOf", apart := false, narrowed := true }
def FnExactMostOfUptoSaid : Prop := fnExactMostOfUptoRow.holds Try.pinned (OpenSpec.upto fnExactMostOfSpec)

/-- 'laws.FnExactBaseOf', WHERE WHAT IT READS IS OF BULK AT MOST 1048576: true; the input reads as it did. -/
def fnExactBaseOfUptoRow : OpenClaim := { program := "ytcpfnjbfkjkanaa", sum := "ab552b44bb85f8b6af8d4a054344762fba046ef487b21e87b2e95cdb4aa37247", func := "loop.example/g00500/laws.FnExactBaseOf", spec := "fnExactBaseOf", apart := false, narrowed := true }
def FnExactBaseOfUptoSaid : Prop := fnExactBaseOfUptoRow.holds Try.pinned (OpenSpec.upto fnExactBaseOfSpec)

/-- 'laws.FnExactResiduals', WHERE WHAT IT READS IS OF BULK AT MOST 1048576: true; the input reads as it did. -/
def fnExactResidualsUptoRow : OpenClaim := { program := "ytcpfnjbfkjkanaa", sum := "ab552b44bb85f8b6af8d4a054344762fba046ef487b21e87b2e95cdb4aa37247", func := "loop.example/g00500/laws.FnExactResiduals", spec := "fnExactResiduals", apart := false, narrowed := true }
def FnExactResidualsUptoSaid : Prop := fnExactResidualsUptoRow.holds Try.pinned (OpenSpec.upto fnExactResidualsSpec)

/-- 'laws.FnExactSameSet', WHERE WHAT IT READS IS OF BULK AT MOST 1048576: true; the input reads as it did. -/
def fnExactSameSetUptoRow : OpenClaim := { program := "ytcpfnjbfkjkanaa", sum := "ab552b44bb85f8b6af8d4a054344762fba046ef487b21e87b2e95cdb4aa37247", func := "loop.example/g00500/laws.FnExactSameSet", spec := "fnExactSameSet", unfollowed := true, recurses := true, loops := true, apart := false, narrowed := true }
def FnExactSameSetUptoSaid : Prop := fnExactSameSetUptoRow.holds Try.pinned (OpenSpec.upto fnExactSameSetSpec)

/-- 'laws.FnExactOneLeaf', WHERE WHAT IT READS IS OF BULK AT MOST 1048576: true; the input reads as it did. -/
def fnExactOneLeafUptoRow : OpenClaim := { program := "ytcpfnjbfkjkanaa", sum := "ab552b44bb85f8b6af8d4a054344762fba046ef487b21e87b2e95cdb4aa37247", func := "loop.example/g00500/laws.FnExactOneLeaf", spec := "fnExactOneLeaf", apart := false, narrowed := true }
def FnExactOneLeafUptoSaid : Prop := fnExactOneLeafUptoRow.holds Try.pinned (OpenSpec.upto fnExactOneLeafSpec)

/-- 'laws.FnExactSameTree', WHERE WHAT IT READS IS OF BULK AT MOST 1048576: true; the input reads as it did. -/
def fnExactSameTreeUptoRow : OpenClaim := { program := "ytcpfnjbfkjkanaa", sum := "ab552b44bb85f8b6af8d4a054344762fba046ef487b21e87b2e95cdb4aa37247", func := "loop.example/g00500/laws.FnExactSameTree", spec := "fnExactSameTree", apart := false, narrowed := true }
def FnExactSameTreeUptoSaid : Prop := fnExactSameTreeUptoRow.holds Try.pinned (OpenSpec.upto fnExactSameTreeSpec)

end Rows
end Go.Proofs.Ytcpfnjbfkjkanaa
