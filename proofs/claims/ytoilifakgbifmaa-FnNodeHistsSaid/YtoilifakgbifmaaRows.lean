/-
  No cell of these rows narrows 'for every input' (looked for: loops, veiled, ifaces, maps, wideKeys, modest, calm, conditions, laid).
  DERIVED. THE GIVEN ROWS OF THIS SEAT. 11 by the template 'for every input the law returns true; each argument reads behind the call as it read before'; 0 by the template 'total and deterministic' (their statements: YtoilifakgbifmaaTotals.lean).
  GIVEN WITH THE SEED: the statements are not yours to turn. If you find one false, say at which input.
  Laid BY PROGRAM, IN A SANDBOX (cutbox-rows.mjs): the forced cells as the released guide's own fill.sh prints them over the translation 5507700170eb0a66… (all of the seat's roots in one cut). By AI agents, Wed Nov 11 2026. No macro, syntax, notation, axiom, sorry.
-/
import Derived.Test.YtoilifakgbifmaaChecked
import GoSem.Claim
import GoSem.ClaimJoined
import GoSem.ClaimMapViews
import Derived.JoinedTies
import Derived.KernelRfl
namespace Go.Proofs.Ytoilifakgbifmaa
/- THE CELL 'sum', in the pinned program and in every row, IS THE sha256 OF THE DUMP (.gsa) THAT YtoilifakgbifmaaProg.lean LOADS. Nothing in Lean hashes anything: it is a label: what it is worth is what the hold of that sum in a sandbox is worth. -/
noncomputable def Try.pinned : Pinned := { name := "ytoilifakgbifmaa", sum := "5507700170eb0a665c1c23316cf8ead3b983ef6ddc14200bc0394ba3c3b6e65d", checked := Try.checked }
namespace Rows
def none {H : Type} : Left H := { results := [], args := [] }

/-- 'laws.FnExactSameModel': WHATEVER THE INPUT: true; the input reads as it did. -/
def fnExactSameModelSpec : ChangeSpec := { name := "fnExactSameModel", fn := fun _ => fun
  | [d1, d2] => { results := [.lit (.bool true)], args := [d1, d2] }
  | _ => none }
def fnExactSameModelRow : OpenClaim := { program := "ytoilifakgbifmaa", sum := "5507700170eb0a665c1c23316cf8ead3b983ef6ddc14200bc0394ba3c3b6e65d", func := "loop.example/g00500/laws.FnExactSameModel", spec := "fnExactSameModel", unfollowed := true, recurses := true, apart := false }
def FnExactSameModelSaid : Prop := fnExactSameModelRow.holds Try.pinned (OpenSpec.ofChange fnExactSameModelSpec)

/-- ITS FALSE NEIGHBOUR: 'it returns false'. Refute it at one input. -/
def fnExactSameModelWrong : ChangeSpec := { name := "fnExactSameModel", fn := fun _ => fun
  | [d1, d2] => { results := [.lit (.bool false)], args := [d1, d2] }
  | _ => none }
def FnExactSameModelWrongFalsely : Prop := fnExactSameModelRow.holds Try.pinned (OpenSpec.ofChange fnExactSameModelWrong)

/-- 'laws.FnExactShrunkTree': WHATEVER THE INPUT: true; the input reads as it did. -/
def fnExactShrunkTreeSpec : ChangeSpec := { name := "fnExactShrunkTree", fn := fun _ => fun
  | [d1, d2] => { results := [.lit (.bool true)], args := [d1, d2] }
  | _ => none }
def fnExactShrunkTreeRow : OpenClaim := { program := "ytoilifakgbifmaa", sum := "5507700170eb0a665c1c23316cf8ead3b983ef6ddc14200bc0394ba3c3b6e65d", func := "loop.example/g00500/laws.FnExactShrunkTree", spec := "fnExactShrunkTree", unfollowed := true, recurses := true, apart := false }
def FnExactShrunkTreeSaid : Prop := fnExactShrunkTreeRow.holds Try.pinned (OpenSpec.ofChange fnExactShrunkTreeSpec)

/-- ITS FALSE NEIGHBOUR: 'it returns false'. Refute it at one input. -/
def fnExactShrunkTreeWrong : ChangeSpec := { name := "fnExactShrunkTree", fn := fun _ => fun
  | [d1, d2] => { results := [.lit (.bool false)], args := [d1, d2] }
  | _ => none }
def FnExactShrunkTreeWrongFalsely : Prop := fnExactShrunkTreeRow.holds Try.pinned (OpenSpec.ofChange fnExactShrunkTreeWrong)

/-- 'laws.FnExactNodeHists': WHATEVER THE INPUT: true; the input reads as it did. -/
def fnExactNodeHistsSpec : ChangeSpec := { name := "fnExactNodeHists", fn := fun _ => fun
  | [d1, d2, d3] => { results := [.lit (.bool true)], args := [d1, d2, d3] }
  | _ => none }
def fnExactNodeHistsRow : OpenClaim := { program := "ytoilifakgbifmaa", sum := "5507700170eb0a665c1c23316cf8ead3b983ef6ddc14200bc0394ba3c3b6e65d", func := "loop.example/g00500/laws.FnExactNodeHists", spec := "fnExactNodeHists", unfollowed := true, recurses := true, apart := false }
def FnExactNodeHistsSaid : Prop := fnExactNodeHistsRow.holds Try.pinned (OpenSpec.ofChange fnExactNodeHistsSpec)

/-- ITS FALSE NEIGHBOUR: 'it returns false'. Refute it at one input. -/
def fnExactNodeHistsWrong : ChangeSpec := { name := "fnExactNodeHists", fn := fun _ => fun
  | [d1, d2, d3] => { results := [.lit (.bool false)], args := [d1, d2, d3] }
  | _ => none }
def FnExactNodeHistsWrongFalsely : Prop := fnExactNodeHistsRow.holds Try.pinned (OpenSpec.ofChange fnExactNodeHistsWrong)

/-- 'laws.FnExactModelOk': WHATEVER THE INPUT: true; the input reads as it did. -/
def fnExactModelOkSpec : ChangeSpec := { name := "fnExactModelOk", fn := fun _ => fun
  | [d] => { results := [.lit (.bool true)], args := [d] }
  | _ => none }
def fnExactModelOkRow : OpenClaim := { program := "ytoilifakgbifmaa", sum := "5507700170eb0a665c1c23316cf8ead3b983ef6ddc14200bc0394ba3c3b6e65d", func := "loop.example/g00500/laws.FnExactModelOk", spec := "fnExactModelOk", unfollowed := true, recurses := true, apart := false }
def FnExactModelOkSaid : Prop := fnExactModelOkRow.holds Try.pinned (OpenSpec.ofChange fnExactModelOkSpec)

/-- ITS FALSE NEIGHBOUR: 'it returns false'. Refute it at one input. -/
def fnExactModelOkWrong : ChangeSpec := { name := "fnExactModelOk", fn := fun _ => fun
  | [d] => { results := [.lit (.bool false)], args := [d] }
  | _ => none }
def FnExactModelOkWrongFalsely : Prop := fnExactModelOkRow.holds Try.pinned (OpenSpec.ofChange fnExactModelOkWrong)

/-- 'laws.FnExactStateNew': WHATEVER THE INPUT: true; the input reads as it did. -/
def fnExactStateNewSpec : ChangeSpec := { name := "fnExactStateNew", fn := fun _ => fun
  | [d] => { results := [.lit (.bool true)], args := [d] }
  | _ => none }
def fnExactStateNewRow : OpenClaim := { program := "ytoilifakgbifmaa", sum := "5507700170eb0a665c1c23316cf8ead3b983ef6ddc14200bc0394ba3c3b6e65d", func := "loop.example/g00500/laws.FnExactStateNew", spec := "fnExactStateNew", unfollowed := true, recurses := true, apart := false }
def FnExactStateNewSaid : Prop := fnExactStateNewRow.holds Try.pinned (OpenSpec.ofChange fnExactStateNewSpec)

/-- ITS FALSE NEIGHBOUR: 'it returns false'. Refute it at one input. -/
def fnExactStateNewWrong : ChangeSpec := { name := "fnExactStateNew", fn := fun _ => fun
  | [d] => { results := [.lit (.bool false)], args := [d] }
  | _ => none }
def FnExactStateNewWrongFalsely : Prop := fnExactStateNewRow.holds Try.pinned (OpenSpec.ofChange fnExactStateNewWrong)

/-- 'laws.FnExactStateLoss': WHATEVER THE INPUT: true; the input reads as it did. -/
def fnExactStateLossSpec : ChangeSpec := { name := "fnExactStateLoss", fn := fun _ => fun
  | [d1, d2] => { results := [.lit (.bool true)], args := [d1, d2] }
  | _ => none }
def fnExactStateLossRow : OpenClaim := { program := "ytoilifakgbifmaa", sum := "5507700170eb0a665c1c23316cf8ead3b983ef6ddc14200bc0394ba3c3b6e65d", func := "loop.example/g00500/laws.FnExactStateLoss", spec := "fnExactStateLoss", inPlace := ["math/bits.Sub64", "math/bits.Add64"], apart := false }
def FnExactStateLossSaid : Prop := fnExactStateLossRow.holds Try.pinned (OpenSpec.ofChange fnExactStateLossSpec)

/-- ITS FALSE NEIGHBOUR: 'it returns false'. Refute it at one input. -/
def fnExactStateLossWrong : ChangeSpec := { name := "fnExactStateLoss", fn := fun _ => fun
  | [d1, d2] => { results := [.lit (.bool false)], args := [d1, d2] }
  | _ => none }
def FnExactStateLossWrongFalsely : Prop := fnExactStateLossRow.holds Try.pinned (OpenSpec.ofChange fnExactStateLossWrong)

/-- 'laws.FnExactPredict': WHATEVER THE INPUT: true; the input reads as it did. -/
def fnExactPredictSpec : ChangeSpec := { name := "fnExactPredict", fn := fun _ => fun
  | [d1, d2] => { results := [.lit (.bool true)], args := [d1, d2] }
  | _ => none }
def fnExactPredictRow : OpenClaim := { program := "ytoilifakgbifmaa", sum := "5507700170eb0a665c1c23316cf8ead3b983ef6ddc14200bc0394ba3c3b6e65d", func := "loop.example/g00500/laws.FnExactPredict", spec := "fnExactPredict", unfollowed := true, recurses := true, apart := false }
def FnExactPredictSaid : Prop := fnExactPredictRow.holds Try.pinned (OpenSpec.ofChange fnExactPredictSpec)

/-- ITS FALSE NEIGHBOUR: 'it returns false'. Refute it at one input. -/
def fnExactPredictWrong : ChangeSpec := { name := "fnExactPredict", fn := fun _ => fun
  | [d1, d2] => { results := [.lit (.bool false)], args := [d1, d2] }
  | _ => none }
def FnExactPredictWrongFalsely : Prop := fnExactPredictRow.holds Try.pinned (OpenSpec.ofChange fnExactPredictWrong)

/-- 'laws.FnExactValuesIn': WHATEVER THE INPUT: true; the input reads as it did. -/
def fnExactValuesInSpec : ChangeSpec := { name := "fnExactValuesIn", fn := fun _ => fun
  | [d] => { results := [.lit (.bool true)], args := [d] }
  | _ => none }
def fnExactValuesInRow : OpenClaim := { program := "ytoilifakgbifmaa", sum := "5507700170eb0a665c1c23316cf8ead3b983ef6ddc14200bc0394ba3c3b6e65d", func := "loop.example/g00500/laws.FnExactValuesIn", spec := "fnExactValuesIn", recurses := true, apart := false }
def FnExactValuesInSaid : Prop := fnExactValuesInRow.holds Try.pinned (OpenSpec.ofChange fnExactValuesInSpec)

/-- ITS FALSE NEIGHBOUR: 'it returns false'. Refute it at one input. -/
def fnExactValuesInWrong : ChangeSpec := { name := "fnExactValuesIn", fn := fun _ => fun
  | [d] => { results := [.lit (.bool false)], args := [d] }
  | _ => none }
def FnExactValuesInWrongFalsely : Prop := fnExactValuesInRow.holds Try.pinned (OpenSpec.ofChange fnExactValuesInWrong)

/-- 'laws.FnExactPredictAll': WHATEVER THE INPUT: true; the input reads as it did. -/
def fnExactPredictAllSpec : ChangeSpec := { name := "fnExactPredictAll", fn := fun _ => fun
  | [d1, d2] => { results := [.lit (.bool true)], args := [d1, d2] }
  | _ => none }
def fnExactPredictAllRow : OpenClaim := { program := "ytoilifakgbifmaa", sum := "5507700170eb0a665c1c23316cf8ead3b983ef6ddc14200bc0394ba3c3b6e65d", func := "loop.example/g00500/laws.FnExactPredictAll", spec := "fnExactPredictAll", unfollowed := true, recurses := true, apart := false }
def FnExactPredictAllSaid : Prop := fnExactPredictAllRow.holds Try.pinned (OpenSpec.ofChange fnExactPredictAllSpec)

/-- ITS FALSE NEIGHBOUR: 'it returns false'. Refute it at one input. -/
def fnExactPredictAllWrong : ChangeSpec := { name := "fnExactPredictAll", fn := fun _ => fun
  | [d1, d2] => { results := [.lit (.bool false)], args := [d1, d2] }
  | _ => none }
def FnExactPredictAllWrongFalsely : Prop := fnExactPredictAllRow.holds Try.pinned (OpenSpec.ofChange fnExactPredictAllWrong)

/-- 'laws.FnNodeHists': WHATEVER THE INPUT: true; the input reads as it did. -/
def fnNodeHistsSpec : ChangeSpec := { name := "fnNodeHists", fn := fun _ => fun
  | [d] => { results := [.lit (.bool true)], args := [d] }
  | _ => none }
def fnNodeHistsRow : OpenClaim := { program := "ytoilifakgbifmaa", sum := "5507700170eb0a665c1c23316cf8ead3b983ef6ddc14200bc0394ba3c3b6e65d", func := "loop.example/g00500/laws.FnNodeHists", spec := "fnNodeHists", unfollowed := true, recurses := true, apart := false }
def FnNodeHistsSaid : Prop := fnNodeHistsRow.holds Try.pinned (OpenSpec.ofChange fnNodeHistsSpec)

/-- ITS FALSE NEIGHBOUR: 'it returns false'. Refute it at one input. -/
def fnNodeHistsWrong : ChangeSpec := { name := "fnNodeHists", fn := fun _ => fun
  | [d] => { results := [.lit (.bool false)], args := [d] }
  | _ => none }
def FnNodeHistsWrongFalsely : Prop := fnNodeHistsRow.holds Try.pinned (OpenSpec.ofChange fnNodeHistsWrong)

/-- 'laws.FnModel': WHATEVER THE INPUT: true; the input reads as it did. -/
def fnModelSpec : ChangeSpec := { name := "fnModel", fn := fun _ => fun
  | [d] => { results := [.lit (.bool true)], args := [d] }
  | _ => none }
def fnModelRow : OpenClaim := { program := "ytoilifakgbifmaa", sum := "5507700170eb0a665c1c23316cf8ead3b983ef6ddc14200bc0394ba3c3b6e65d", func := "loop.example/g00500/laws.FnModel", spec := "fnModel", unfollowed := true, recurses := true, apart := false }
def FnModelSaid : Prop := fnModelRow.holds Try.pinned (OpenSpec.ofChange fnModelSpec)

/-- ITS FALSE NEIGHBOUR: 'it returns false'. Refute it at one input. -/
def fnModelWrong : ChangeSpec := { name := "fnModel", fn := fun _ => fun
  | [d] => { results := [.lit (.bool false)], args := [d] }
  | _ => none }
def FnModelWrongFalsely : Prop := fnModelRow.holds Try.pinned (OpenSpec.ofChange fnModelWrong)

/- THE SECOND FORM. 'bulk': how many values and letters a reading holds, each counted each time it is reached (what is shared counts as often as it is met; a slice's spare places count too). A statement '..UptoSaid' is the law's where the arguments, and the package variables that the reading takes, are together of bulk at most 1048576: NARROWER than '..Said'. Prove '..Said' where nothing that the law and all that it calls make is longer than what came in: it says more and counts as full. Else prove '..UptoSaid'. A law counts once. -/
mutual
def uptoBulk {H : Type} : DataW H → Nat
  | .lit (.string bytes) => bytes.length + 1
  | .lit _ => 1
  | .nil => 1
  | .ptr d => uptoBulk d + 1
  | .slice elems spare => uptoBulkAll elems + uptoBulkAll spare + 1
  | .agg parts => uptoBulkAll parts + 1
  | .iface _ d => uptoBulk d + 1
  | .map entries => uptoBulkEntries entries + 1
  | .held _ => 1
def uptoBulkAll {H : Type} : List (DataW H) → Nat
  | [] => 0
  | d :: r => uptoBulk d + uptoBulkAll r
def uptoBulkEntries {H : Type} : List (Lit × DataW H) → Nat
  | [] => 0
  | x :: r => uptoBulkEntry x + uptoBulkEntries r
def uptoBulkEntry {H : Type} : Lit × DataW H → Nat
  | (.string bytes, d) => bytes.length + uptoBulk d + 1
  | (_, d) => uptoBulk d + 1
 end
def uptoSmall : (H : Type) → List (DataW H) → Bool := fun _ ds => decide (uptoBulkAll ds ≤ 1048576)
def OpenSpec.upto (s : _root_.Go.ChangeSpec) : _root_.Go.OpenSpec := { _root_.Go.OpenSpec.ofChange s with cond := some uptoSmall }

/-- 'laws.FnExactSameModel', WHERE WHAT IT READS IS OF BULK AT MOST 1048576: true; the input reads as it did. -/
def fnExactSameModelUptoRow : OpenClaim := { program := "ytoilifakgbifmaa", sum := "5507700170eb0a665c1c23316cf8ead3b983ef6ddc14200bc0394ba3c3b6e65d", func := "loop.example/g00500/laws.FnExactSameModel", spec := "fnExactSameModel", unfollowed := true, recurses := true, apart := false, narrowed := true }
def FnExactSameModelUptoSaid : Prop := fnExactSameModelUptoRow.holds Try.pinned (OpenSpec.upto fnExactSameModelSpec)

/-- 'laws.FnExactShrunkTree', WHERE WHAT IT READS IS OF BULK AT MOST 1048576: true; the input reads as it did. -/
def fnExactShrunkTreeUptoRow : OpenClaim := { program := "ytoilifakgbifmaa", sum := "5507700170eb0a665c1c23316cf8ead3b983ef6ddc14200bc0394ba3c3b6e65d", func := "loop.example/g00500/laws.FnExactShrunkTree", spec := "fnExactShrunkTree", unfollowed := true, recurses := true, apart := false, narrowed := true }
def FnExactShrunkTreeUptoSaid : Prop := fnExactShrunkTreeUptoRow.holds Try.pinned (OpenSpec.upto fnExactShrunkTreeSpec)

/-- 'laws.FnExactNodeHists', WHERE WHAT IT READS IS OF BULK AT MOST 1048576: true; the input reads as it did. -/
def fnExactNodeHistsUptoRow : OpenClaim := { program := "ytoilifakgbifmaa", sum := "5507700170eb0a665c1c23316cf8ead3b983ef6ddc14200bc0394ba3c3b6e65d", func := "loop.example/g00500/laws.FnExactNodeHists", spec := "fnExactNodeHists", unfollowed := true, recurses := true, apart := false, narrowed := true }
def FnExactNodeHistsUptoSaid : Prop := fnExactNodeHistsUptoRow.holds Try.pinned (OpenSpec.upto fnExactNodeHistsSpec)

/-- 'laws.FnExactModelOk', WHERE WHAT IT READS IS OF BULK AT MOST 1048576: true; the input reads as it did. -/
def fnExactModelOkUptoRow : OpenClaim := { program := "ytoilifakgbifmaa", sum := "5507700170eb0a665c1c23316cf8ead3b983ef6ddc14200bc0394ba3c3b6e65d", func := "loop.example/g00500/laws.FnExactModelOk", spec := "fnExactModelOk", unfollowed := true, recurses := true, apart := false, narrowed := true }
def FnExactModelOkUptoSaid : Prop := fnExactModelOkUptoRow.holds Try.pinned (OpenSpec.upto fnExactModelOkSpec)

/-- 'laws.FnExactStateNew', WHERE WHAT IT READS IS OF BULK AT MOST 1048576: true; the input reads as it did. -/
def fnExactStateNewUptoRow : OpenClaim := { program := "ytoilifakgbifmaa", sum := "5507700170eb0a665c1c23316cf8ead3b983ef6ddc14200bc0394ba3c3b6e65d", func := "loop.example/g00500/laws.FnExactStateNew", spec := "fnExactStateNew", unfollowed := true, recurses := true, apart := false, narrowed := true }
def FnExactStateNewUptoSaid : Prop := fnExactStateNewUptoRow.holds Try.pinned (OpenSpec.upto fnExactStateNewSpec)

/-- 'laws.FnExactStateLoss', WHERE WHAT IT READS IS OF BULK AT MOST 1048576: true; the input reads as it did. -/
def fnExactStateLossUptoRow : OpenClaim := { program := "ytoilifakgbifmaa", sum := "5507700170eb0a665c1c23316cf8ead3b983ef6ddc14200bc0394ba3c3b6e65d", func := "loop.example/g00500/laws.FnExactStateLoss", spec := "fnExactStateLoss", inPlace := ["math/bits.Sub64", "math/bits.Add64"], apart := false, narrowed := true }
def FnExactStateLossUptoSaid : Prop := fnExactStateLossUptoRow.holds Try.pinned (OpenSpec.upto fnExactStateLossSpec)

/-- 'laws.FnExactPredict', WHERE WHAT IT READS IS OF BULK AT MOST 1048576: true; the input reads as it did. -/
def fnExactPredictUptoRow : OpenClaim := { program := "ytoilifakgbifmaa", sum := "5507700170eb0a665c1c23316cf8ead3b983ef6ddc14200bc0394ba3c3b6e65d", func := "loop.example/g00500/laws.FnExactPredict", spec := "fnExactPredict", unfollowed := true, recurses := true, apart := false, narrowed := true }
def FnExactPredictUptoSaid : Prop := fnExactPredictUptoRow.holds Try.pinned (OpenSpec.upto fnExactPredictSpec)

/-- 'laws.FnExactValuesIn', WHERE WHAT IT READS IS OF BULK AT MOST 1048576: true; the input reads as it did. -/
def fnExactValuesInUptoRow : OpenClaim := { program := "ytoilifakgbifmaa", sum := "5507700170eb0a665c1c23316cf8ead3b983ef6ddc14200bc0394ba3c3b6e65d", func := "loop.example/g00500/laws.FnExactValuesIn", spec := "fnExactValuesIn", recurses := true, apart := false, narrowed := true }
def FnExactValuesInUptoSaid : Prop := fnExactValuesInUptoRow.holds Try.pinned (OpenSpec.upto fnExactValuesInSpec)

/-- 'laws.FnExactPredictAll', WHERE WHAT IT READS IS OF BULK AT MOST 1048576: true; the input reads as it did. -/
def fnExactPredictAllUptoRow : OpenClaim := { program := "ytoilifakgbifmaa", sum := "5507700170eb0a665c1c23316cf8ead3b983ef6ddc14200bc0394ba3c3b6e65d", func := "loop.example/g00500/laws.FnExactPredictAll", spec := "fnExactPredictAll", unfollowed := true, recurses := true, apart := false, narrowed := true }
def FnExactPredictAllUptoSaid : Prop := fnExactPredictAllUptoRow.holds Try.pinned (OpenSpec.upto fnExactPredictAllSpec)

/-- 'laws.FnNodeHists', WHERE WHAT IT READS IS OF BULK AT MOST 1048576: true; the input reads as it did. -/
def fnNodeHistsUptoRow : OpenClaim := { program := "ytoilifakgbifmaa", sum := "5507700170eb0a665c1c23316cf8ead3b983ef6ddc14200bc0394ba3c3b6e65d", func := "loop.example/g00500/laws.FnNodeHists", spec := "fnNodeHists", unfollowed := true, recurses := true, apart := false, narrowed := true }
def FnNodeHistsUptoSaid : Prop := fnNodeHistsUptoRow.holds Try.pinned (OpenSpec.upto fnNodeHistsSpec)

/-- 'laws.FnModel', WHERE WHAT IT READS IS OF BULK AT MOST 1048576: true; the input reads as it did. -/
def fnModelUptoRow : OpenClaim := { program := "ytoilifakgbifmaa", sum := "5507700170eb0a665c1c23316cf8ead3b983ef6ddc14200bc0394ba3c3b6e65d", func := "loop.example/g00500/laws.FnModel", spec := "fnModel", unfollowed := true, recurses := true, apart := false, narrowed := true }
def FnModelUptoSaid : Prop := fnModelUptoRow.holds Try.pinned (OpenSpec.upto fnModelSpec)

end Rows
end Go.Proofs.Ytoilifakgbifmaa
