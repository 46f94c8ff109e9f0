/-
  No cell of these rows narrows 'for every input' (looked for: loops, veiled, ifaces, maps, wideKeys, modest, calm, conditions, laid).
  DERIVED. THE GIVEN ROWS OF THIS SEAT. 12 by the template 'for every input the law returns true; each argument reads behind the call as it read before'; 0 by the template 'total and deterministic' (their statements: YthjpnjnlhmkepaaTotals.lean).
  GIVEN WITH THE SEED: the statements are not yours to turn. If you find one false, say at which input.
  Laid BY PROGRAM, IN A SANDBOX (cutbox-rows.mjs): the forced cells as the released guide's own fill.sh prints them over the translation ac62239c23008c5f… (all of the seat's roots in one cut). By AI agents, Wed Nov 11 2026. No macro, syntax, notation, axiom, sorry.
-/
import Derived.Test.YthjpnjnlhmkepaaChecked
import GoSem.Claim
import GoSem.ClaimJoined
import GoSem.ClaimMapViews
import Derived.JoinedTies
import Derived.KernelRfl
namespace Go.Proofs.Ythjpnjnlhmkepaa
/- THE CELL 'sum', in the pinned program and in every row, IS THE sha256 OF THE DUMP (.gsa) THAT YthjpnjnlhmkepaaProg.lean LOADS. Nothing in Lean hashes anything: it is a label: what it is worth is what the hold of that sum in a sandbox is worth. -/
noncomputable def Try.pinned : Pinned := { name := "ythjpnjnlhmkepaa", sum := "ac62239c23008c5fd070f986d1e78be282be1baf2976d1c5b0cf3df455f939f6", checked := Try.checked }
namespace Rows
def none {H : Type} : Left H := { results := [], args := [] }

/-- 'laws.FnBase': WHATEVER THE INPUT: true; the input reads as it did. -/
def fnBaseSpec : ChangeSpec := { name := "fnBase", fn := fun _ => fun
  | [d] => { results := [.lit (.bool true)], args := [d] }
  | _ => none }
def fnBaseRow : OpenClaim := { program := "ythjpnjnlhmkepaa", sum := "ac62239c23008c5fd070f986d1e78be282be1baf2976d1c5b0cf3df455f939f6", func := "loop.example/g00500/laws.FnBase", spec := "fnBase", apart := false }
def FnBaseSaid : Prop := fnBaseRow.holds Try.pinned (OpenSpec.ofChange fnBaseSpec)

/-- ITS FALSE NEIGHBOUR: 'it returns false'. Refute it at one input. -/
def fnBaseWrong : ChangeSpec := { name := "fnBase", fn := fun _ => fun
  | [d] => { results := [.lit (.bool false)], args := [d] }
  | _ => none }
def FnBaseWrongFalsely : Prop := fnBaseRow.holds Try.pinned (OpenSpec.ofChange fnBaseWrong)

/-- 'laws.FnResiduals': WHATEVER THE INPUT: true; the input reads as it did. -/
def fnResidualsSpec : ChangeSpec := { name := "fnResiduals", fn := fun _ => fun
  | [d] => { results := [.lit (.bool true)], args := [d] }
  | _ => none }
def fnResidualsRow : OpenClaim := { program := "ythjpnjnlhmkepaa", sum := "ac62239c23008c5fd070f986d1e78be282be1baf2976d1c5b0cf3df455f939f6", func := "loop.example/g00500/laws.FnResiduals", spec := "fnResiduals", apart := false }
def FnResidualsSaid : Prop := fnResidualsRow.holds Try.pinned (OpenSpec.ofChange fnResidualsSpec)

/-- ITS FALSE NEIGHBOUR: 'it returns false'. Refute it at one input. -/
def fnResidualsWrong : ChangeSpec := { name := "fnResiduals", fn := fun _ => fun
  | [d] => { results := [.lit (.bool false)], args := [d] }
  | _ => none }
def FnResidualsWrongFalsely : Prop := fnResidualsRow.holds Try.pinned (OpenSpec.ofChange fnResidualsWrong)

/-- 'laws.FnShrunk': WHATEVER THE INPUT: true; the input reads as it did. -/
def fnShrunkSpec : ChangeSpec := { name := "fnShrunk", fn := fun _ => fun
  | [d] => { results := [.lit (.bool true)], args := [d] }
  | _ => none }
def fnShrunkRow : OpenClaim := { program := "ythjpnjnlhmkepaa", sum := "ac62239c23008c5fd070f986d1e78be282be1baf2976d1c5b0cf3df455f939f6", func := "loop.example/g00500/laws.FnShrunk", spec := "fnShrunk", unfollowed := true, recurses := true, apart := false }
def FnShrunkSaid : Prop := fnShrunkRow.holds Try.pinned (OpenSpec.ofChange fnShrunkSpec)

/-- ITS FALSE NEIGHBOUR: 'it returns false'. Refute it at one input. -/
def fnShrunkWrong : ChangeSpec := { name := "fnShrunk", fn := fun _ => fun
  | [d] => { results := [.lit (.bool false)], args := [d] }
  | _ => none }
def FnShrunkWrongFalsely : Prop := fnShrunkRow.holds Try.pinned (OpenSpec.ofChange fnShrunkWrong)

/-- 'laws.FnLeafTree': WHATEVER THE INPUT: true; the input reads as it did. -/
def fnLeafTreeSpec : ChangeSpec := { name := "fnLeafTree", fn := fun _ => fun
  | [d] => { results := [.lit (.bool true)], args := [d] }
  | _ => none }
def fnLeafTreeRow : OpenClaim := { program := "ythjpnjnlhmkepaa", sum := "ac62239c23008c5fd070f986d1e78be282be1baf2976d1c5b0cf3df455f939f6", func := "loop.example/g00500/laws.FnLeafTree", spec := "fnLeafTree", unfollowed := true, recurses := true, apart := false }
def FnLeafTreeSaid : Prop := fnLeafTreeRow.holds Try.pinned (OpenSpec.ofChange fnLeafTreeSpec)

/-- ITS FALSE NEIGHBOUR: 'it returns false'. Refute it at one input. -/
def fnLeafTreeWrong : ChangeSpec := { name := "fnLeafTree", fn := fun _ => fun
  | [d] => { results := [.lit (.bool false)], args := [d] }
  | _ => none }
def FnLeafTreeWrongFalsely : Prop := fnLeafTreeRow.holds Try.pinned (OpenSpec.ofChange fnLeafTreeWrong)

/-- 'laws.FnExactLossOf': WHATEVER THE INPUT: true; the input reads as it did. -/
def fnExactLossOfSpec : ChangeSpec := { name := "fnExactLossOf", fn := fun _ => fun
  | [d] => { results := [.lit (.bool true)], args := [d] }
  | _ => none }
def fnExactLossOfRow : OpenClaim := { program := "ythjpnjnlhmkepaa", sum := "ac62239c23008c5fd070f986d1e78be282be1baf2976d1c5b0cf3df455f939f6", func := "loop.example/g00500/laws.FnExactLossOf", spec := "fnExactLossOf", inPlace := ["math/bits.Sub64", "math/bits.Add64"], apart := false }
def FnExactLossOfSaid : Prop := fnExactLossOfRow.holds Try.pinned (OpenSpec.ofChange fnExactLossOfSpec)

/-- ITS FALSE NEIGHBOUR: 'it returns false'. Refute it at one input. -/
def fnExactLossOfWrong : ChangeSpec := { name := "fnExactLossOf", fn := fun _ => fun
  | [d] => { results := [.lit (.bool false)], args := [d] }
  | _ => none }
def FnExactLossOfWrongFalsely : Prop := fnExactLossOfRow.holds Try.pinned (OpenSpec.ofChange fnExactLossOfWrong)

/-- 'laws.FnExactLossRoom': WHATEVER THE INPUT: true; the input reads as it did. -/
def fnExactLossRoomSpec : ChangeSpec := { name := "fnExactLossRoom", fn := fun _ => fun
  | [d] => { results := [.lit (.bool true)], args := [d] }
  | _ => none }
def fnExactLossRoomRow : OpenClaim := { program := "ythjpnjnlhmkepaa", sum := "ac62239c23008c5fd070f986d1e78be282be1baf2976d1c5b0cf3df455f939f6", func := "loop.example/g00500/laws.FnExactLossRoom", spec := "fnExactLossRoom", inPlace := ["math/bits.Sub64", "math/bits.Add64"], apart := false }
def FnExactLossRoomSaid : Prop := fnExactLossRoomRow.holds Try.pinned (OpenSpec.ofChange fnExactLossRoomSpec)

/-- ITS FALSE NEIGHBOUR: 'it returns false'. Refute it at one input. -/
def fnExactLossRoomWrong : ChangeSpec := { name := "fnExactLossRoom", fn := fun _ => fun
  | [d] => { results := [.lit (.bool false)], args := [d] }
  | _ => none }
def FnExactLossRoomWrongFalsely : Prop := fnExactLossRoomRow.holds Try.pinned (OpenSpec.ofChange fnExactLossRoomWrong)

/-- 'laws.FnLoss': WHATEVER THE INPUT: true; the input reads as it did. -/
def fnLossSpec : ChangeSpec := { name := "fnLoss", fn := fun _ => fun
  | [d] => { results := [.lit (.bool true)], args := [d] }
  | _ => none }
def fnLossRow : OpenClaim := { program := "ythjpnjnlhmkepaa", sum := "ac62239c23008c5fd070f986d1e78be282be1baf2976d1c5b0cf3df455f939f6", func := "loop.example/g00500/laws.FnLoss", spec := "fnLoss", inPlace := ["math/bits.Sub64", "math/bits.Add64"], apart := false }
def FnLossSaid : Prop := fnLossRow.holds Try.pinned (OpenSpec.ofChange fnLossSpec)

/-- ITS FALSE NEIGHBOUR: 'it returns false'. Refute it at one input. -/
def fnLossWrong : ChangeSpec := { name := "fnLoss", fn := fun _ => fun
  | [d] => { results := [.lit (.bool false)], args := [d] }
  | _ => none }
def FnLossWrongFalsely : Prop := fnLossRow.holds Try.pinned (OpenSpec.ofChange fnLossWrong)

/-- 'laws.FnWay': WHATEVER THE INPUT: true; the input reads as it did. -/
def fnWaySpec : ChangeSpec := { name := "fnWay", fn := fun _ => fun
  | [d] => { results := [.lit (.bool true)], args := [d] }
  | _ => none }
def fnWayRow : OpenClaim := { program := "ythjpnjnlhmkepaa", sum := "ac62239c23008c5fd070f986d1e78be282be1baf2976d1c5b0cf3df455f939f6", func := "loop.example/g00500/laws.FnWay", spec := "fnWay", unfollowed := true, recurses := true, apart := false }
def FnWaySaid : Prop := fnWayRow.holds Try.pinned (OpenSpec.ofChange fnWaySpec)

/-- ITS FALSE NEIGHBOUR: 'it returns false'. Refute it at one input. -/
def fnWayWrong : ChangeSpec := { name := "fnWay", fn := fun _ => fun
  | [d] => { results := [.lit (.bool false)], args := [d] }
  | _ => none }
def FnWayWrongFalsely : Prop := fnWayRow.holds Try.pinned (OpenSpec.ofChange fnWayWrong)

/-- 'laws.FnTreeShape': WHATEVER THE INPUT: true; the input reads as it did. -/
def fnTreeShapeSpec : ChangeSpec := { name := "fnTreeShape", fn := fun _ => fun
  | [d] => { results := [.lit (.bool true)], args := [d] }
  | _ => none }
def fnTreeShapeRow : OpenClaim := { program := "ythjpnjnlhmkepaa", sum := "ac62239c23008c5fd070f986d1e78be282be1baf2976d1c5b0cf3df455f939f6", func := "loop.example/g00500/laws.FnTreeShape", spec := "fnTreeShape", unfollowed := true, recurses := true, apart := false }
def FnTreeShapeSaid : Prop := fnTreeShapeRow.holds Try.pinned (OpenSpec.ofChange fnTreeShapeSpec)

/-- ITS FALSE NEIGHBOUR: 'it returns false'. Refute it at one input. -/
def fnTreeShapeWrong : ChangeSpec := { name := "fnTreeShape", fn := fun _ => fun
  | [d] => { results := [.lit (.bool false)], args := [d] }
  | _ => none }
def FnTreeShapeWrongFalsely : Prop := fnTreeShapeRow.holds Try.pinned (OpenSpec.ofChange fnTreeShapeWrong)

/-- 'laws.FnRowsAt': WHATEVER THE INPUT: true; the input reads as it did. -/
def fnRowsAtSpec : ChangeSpec := { name := "fnRowsAt", fn := fun _ => fun
  | [d] => { results := [.lit (.bool true)], args := [d] }
  | _ => none }
def fnRowsAtRow : OpenClaim := { program := "ythjpnjnlhmkepaa", sum := "ac62239c23008c5fd070f986d1e78be282be1baf2976d1c5b0cf3df455f939f6", func := "loop.example/g00500/laws.FnRowsAt", spec := "fnRowsAt", apart := false }
def FnRowsAtSaid : Prop := fnRowsAtRow.holds Try.pinned (OpenSpec.ofChange fnRowsAtSpec)

/-- ITS FALSE NEIGHBOUR: 'it returns false'. Refute it at one input. -/
def fnRowsAtWrong : ChangeSpec := { name := "fnRowsAt", fn := fun _ => fun
  | [d] => { results := [.lit (.bool false)], args := [d] }
  | _ => none }
def FnRowsAtWrongFalsely : Prop := fnRowsAtRow.holds Try.pinned (OpenSpec.ofChange fnRowsAtWrong)

/-- 'laws.FnRoute': WHATEVER THE INPUT: true; the input reads as it did. -/
def fnRouteSpec : ChangeSpec := { name := "fnRoute", fn := fun _ => fun
  | [d] => { results := [.lit (.bool true)], args := [d] }
  | _ => none }
def fnRouteRow : OpenClaim := { program := "ythjpnjnlhmkepaa", sum := "ac62239c23008c5fd070f986d1e78be282be1baf2976d1c5b0cf3df455f939f6", func := "loop.example/g00500/laws.FnRoute", spec := "fnRoute", unfollowed := true, recurses := true, apart := false }
def FnRouteSaid : Prop := fnRouteRow.holds Try.pinned (OpenSpec.ofChange fnRouteSpec)

/-- ITS FALSE NEIGHBOUR: 'it returns false'. Refute it at one input. -/
def fnRouteWrong : ChangeSpec := { name := "fnRoute", fn := fun _ => fun
  | [d] => { results := [.lit (.bool false)], args := [d] }
  | _ => none }
def FnRouteWrongFalsely : Prop := fnRouteRow.holds Try.pinned (OpenSpec.ofChange fnRouteWrong)

/-- 'laws.FnExactRowsAt': WHATEVER THE INPUT: true; the input reads as it did. -/
def fnExactRowsAtSpec : ChangeSpec := { name := "fnExactRowsAt", fn := fun _ => fun
  | [d1, d2, d3] => { results := [.lit (.bool true)], args := [d1, d2, d3] }
  | _ => none }
def fnExactRowsAtRow : OpenClaim := { program := "ythjpnjnlhmkepaa", sum := "ac62239c23008c5fd070f986d1e78be282be1baf2976d1c5b0cf3df455f939f6", func := "loop.example/g00500/laws.FnExactRowsAt", spec := "fnExactRowsAt", apart := false }
def FnExactRowsAtSaid : Prop := fnExactRowsAtRow.holds Try.pinned (OpenSpec.ofChange fnExactRowsAtSpec)

/-- ITS FALSE NEIGHBOUR: 'it returns false'. Refute it at one input. -/
def fnExactRowsAtWrong : ChangeSpec := { name := "fnExactRowsAt", fn := fun _ => fun
  | [d1, d2, d3] => { results := [.lit (.bool false)], args := [d1, d2, d3] }
  | _ => none }
def FnExactRowsAtWrongFalsely : Prop := fnExactRowsAtRow.holds Try.pinned (OpenSpec.ofChange fnExactRowsAtWrong)

/- THE SECOND FORM. 'bulk': how many values and letters a reading holds, each counted each time it is reached (what is shared counts as often as it is met; a slice's spare places count too). A statement '..UptoSaid' is the law's where the arguments, and the package variables that the reading takes, are together of bulk at most 1048576: NARROWER than '..Said'. Prove '..Said' where nothing that the law and all that it calls make is longer than what came in: it says more and counts as full. Else prove '..UptoSaid'. A law counts once. -/
mutual
def uptoBulk {H : Type} : DataW H → Nat
  | .lit (.string bytes) => bytes.length + 1
  | .lit _ => 1
  | .nil => 1
  | .ptr d => uptoBulk d + 1
  | .slice elems spare => uptoBulkAll elems + uptoBulkAll spare + 1
  | .agg parts => uptoBulkAll parts + 1
  | .iface _ d => uptoBulk d + 1
  | .map entries => uptoBulkEntries entries + 1
  | .held _ => 1
def uptoBulkAll {H : Type} : List (DataW H) → Nat
  | [] => 0
  | d :: r => uptoBulk d + uptoBulkAll r
def uptoBulkEntries {H : Type} : List (Lit × DataW H) → Nat
  | [] => 0
  | x :: r => uptoBulkEntry x + uptoBulkEntries r
def uptoBulkEntry {H : Type} : Lit × DataW H → Nat
  | (.string bytes, d) => bytes.length + uptoBulk d + 1
  | (_, d) => uptoBulk d + 1
 end
def uptoSmall : (H : Type) → List (DataW H) → Bool := fun _ ds => decide (uptoBulkAll ds ≤ 1048576)
def OpenSpec.upto (s : _root_.Go.ChangeSpec) : _root_.Go.OpenSpec := { _root_.Go.OpenSpec.ofChange s with cond := some uptoSmall }

/-- 'laws.FnBase', WHERE WHAT IT READS IS OF BULK AT MOST 1048576: true; the input reads as it did. -/
def fnBaseUptoRow : OpenClaim := { program := "ythjpnjnlhmkepaa", sum := "ac62239c23008c5fd070f986d1e78be282be1baf2976d1c5b0cf3df455f939f6", func := "loop.example/g00500/laws.FnBase", spec := "fnBase", apart := false, narrowed := true }
def FnBaseUptoSaid : Prop := fnBaseUptoRow.holds Try.pinned (OpenSpec.upto fnBaseSpec)

/-- 'laws.FnResiduals', WHERE WHAT IT READS IS OF BULK AT MOST 1048576: true; the input reads as it did. -/
def fnResidualsUptoRow : OpenClaim := { program := "ythjpnjnlhmkepaa", sum := "ac62239c23008c5fd070f986d1e78be282be1baf2976d1c5b0cf3df455f939f6", func := "loop.example/g00500/laws.FnResiduals", spec := "fnResiduals", apart := false, narrowed := true }
def FnResidualsUptoSaid : Prop := fnResidualsUptoRow.holds Try.pinned (OpenSpec.upto fnResidualsSpec)

/-- 'laws.FnShrunk', WHERE WHAT IT READS IS OF BULK AT MOST 1048576: true; the input reads as it did. -/
def fnShrunkUptoRow : OpenClaim := { program := "ythjpnjnlhmkepaa", sum := "ac62239c23008c5fd070f986d1e78be282be1baf2976d1c5b0cf3df455f939f6", func := "loop.example/g00500/laws.FnShrunk", spec := "fnShrunk", unfollowed := true, recurses := true, apart := false, narrowed := true }
def FnShrunkUptoSaid : Prop := fnShrunkUptoRow.holds Try.pinned (OpenSpec.upto fnShrunkSpec)

/-- 'laws.FnLeafTree', WHERE WHAT IT READS IS OF BULK AT MOST 1048576: true; the input reads as it did. -/
def fnLeafTreeUptoRow : OpenClaim := { program := "ythjpnjnlhmkepaa", sum := "ac62239c23008c5fd070f986d1e78be282be1baf2976d1c5b0cf3df455f939f6", func := "loop.example/g00500/laws.FnLeafTree", spec := "fnLeafTree", unfollowed := true, recurses := true, apart := false, narrowed := true }
def FnLeafTreeUptoSaid : Prop := fnLeafTreeUptoRow.holds Try.pinned (OpenSpec.upto fnLeafTreeSpec)

/-- 'laws.FnExactLossOf', WHERE WHAT IT READS IS OF BULK AT MOST 1048576: true; the input reads as it did. -/
def fnExactLossOfUptoRow : OpenClaim := { program := "ythjpnjnlhmkepaa", sum := "ac62239c23008c5fd070f986d1e78be282be1baf2976d1c5b0cf3df455f939f6", func := "loop.example/g00500/laws.FnExactLossOf", spec := "fnExactLossOf", inPlace := ["math/bits.Sub64", "math/bits.Add64"], apart := false, narrowed := true }
def FnExactLossOfUptoSaid : Prop := fnExactLossOfUptoRow.holds Try.pinned (OpenSpec.upto fnExactLossOfSpec)

/-- 'laws.FnExactLossRoom', WHERE WHAT IT READS IS OF BULK AT MOST 1048576: true; the input reads as it did. -/
def fnExactLossRoomUptoRow : OpenClaim := { program := "ythjpnjnlhmkepaa", sum := "ac62239c23008c5fd070f986d1e78be282be1baf2976d1c5b0cf3df455f939f6", func := "loop.example/g00500/laws.FnExactLossRoom", spec := "fnExactLossRoom", inPlace := ["math/bits.Sub64", "math/bits.Add64"], apart := false, narrowed := true }
def FnExactLossRoomUptoSaid : Prop := fnExactLossRoomUptoRow.holds Try.pinned (OpenSpec.upto fnExactLossRoomSpec)

/-- 'laws.FnLoss', WHERE WHAT IT READS IS OF BULK AT MOST 1048576: true; the input reads as it did. -/
def fnLossUptoRow : OpenClaim := { program := "ythjpnjnlhmkepaa", sum := "ac62239c23008c5fd070f986d1e78be282be1baf2976d1c5b0cf3df455f939f6", func := "loop.example/g00500/laws.FnLoss", spec := "fnLoss", inPlace := ["math/bits.Sub64", "math/bits.Add64"], apart := false, narrowed := true }
def FnLossUptoSaid : Prop := fnLossUptoRow.holds Try.pinned (OpenSpec.upto fnLossSpec)

/-- 'laws.FnWay', WHERE WHAT IT READS IS OF BULK AT MOST 1048576: true; the input reads as it did. -/
def fnWayUptoRow : OpenClaim := { program := "ythjpnjnlhmkepaa", sum := "ac62239c23008c5fd070f986d1e78be282be1baf2976d1c5b0cf3df455f939f6", func := "loop.example/g00500/laws.FnWay", spec := "fnWay", unfollowed := true, recurses := true, apart := false, narrowed := true }
def FnWayUptoSaid : Prop := fnWayUptoRow.holds Try.pinned (OpenSpec.upto fnWaySpec)

/-- 'laws.FnTreeShape', WHERE WHAT IT READS IS OF BULK AT MOST 1048576: true; the input reads as it did. -/
def fnTreeShapeUptoRow : OpenClaim := { program := "ythjpnjnlhmkepaa", sum := "ac62239c23008c5fd070f986d1e78be282be1baf2976d1c5b0cf3df455f939f6", func := "loop.example/g00500/laws.FnTreeShape", spec := "fnTreeShape", unfollowed := true, recurses := true, apart := false, narrowed := true }
def FnTreeShapeUptoSaid : Prop := fnTreeShapeUptoRow.holds Try.pinned (OpenSpec.upto fnTreeShapeSpec)

/-- 'laws.FnRowsAt', WHERE WHAT IT READS IS OF BULK AT MOST 1048576: true; the input reads as it did. -/
def fnRowsAtUptoRow : OpenClaim := { program := "ythjpnjnlhmkepaa", sum := "ac62239c23008c5fd070f986d1e78be282be1baf2976d1c5b0cf3df455f939f6", func := "loop.example/g00500/laws.FnRowsAt", spec := "fnRowsAt", apart := false, narrowed := true }
def FnRowsAtUptoSaid : Prop := fnRowsAtUptoRow.holds Try.pinned (OpenSpec.upto fnRowsAtSpec)

/-- 'laws.FnRoute', WHERE WHAT IT READS IS OF BULK AT MOST 1048576: true; the input reads as it did. -/
def fnRouteUptoRow : OpenClaim := { program := "ythjpnjnlhmkepaa", sum := "ac62239c23008c5fd070f986d1e78be282be1baf2976d1c5b0cf3df455f939f6", func := "loop.example/g00500/laws.FnRoute", spec := "fnRoute", unfollowed := true, recurses := true, apart := false, narrowed := true }
def FnRouteUptoSaid : Prop := fnRouteUptoRow.holds Try.pinned (OpenSpec.upto fnRouteSpec)

/-- 'laws.FnExactRowsAt', WHERE WHAT IT READS IS OF BULK AT MOST 1048576: true; the input reads as it did. -/
def fnExactRowsAtUptoRow : OpenClaim := { program := "ythjpnjnlhmkepaa", sum := "ac62239c23008c5fd070f986d1e78be282be1baf2976d1c5b0cf3df455f939f6", func := "loop.example/g00500/laws.FnExactRowsAt", spec := "fnExactRowsAt", apart := false, narrowed := true }
def FnExactRowsAtUptoSaid : Prop := fnExactRowsAtUptoRow.holds Try.pinned (OpenSpec.upto fnExactRowsAtSpec)

end Rows
end Go.Proofs.Ythjpnjnlhmkepaa
