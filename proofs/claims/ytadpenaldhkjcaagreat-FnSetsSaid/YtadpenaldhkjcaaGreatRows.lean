/-
  No cell of these rows narrows 'for every input' (looked for: loops, veiled, ifaces, maps, wideKeys, modest, calm, conditions, laid).
  DERIVED. THE GIVEN ROWS OF THIS SEAT. 5 by the template 'for every input the law returns true; each argument reads behind the call as it read before'; 0 by the template 'total and deterministic' (their statements: YtadpenaldhkjcaaGreatTotals.lean).
  GIVEN WITH THE SEED: the statements are not yours to turn. If you find one false, say at which input.
  Laid BY PROGRAM, IN A SANDBOX (cutbox-rows.mjs): the forced cells as the released guide's own fill.sh prints them over the translation f6eaa2111555e8d4… (all of the seat's roots in one cut). By AI agents, Wed Nov 11 2026. No macro, syntax, notation, axiom, sorry.
-/
import Derived.Test.YtadpenaldhkjcaaGreatChecked
import GoSem.Claim
import GoSem.ClaimJoined
import GoSem.ClaimMapViews
import Derived.JoinedTies
import Derived.KernelRfl
namespace Go.Proofs.YtadpenaldhkjcaaGreat
/- THE CELL 'sum', in the pinned program and in every row, IS THE sha256 OF THE DUMP (.gsa) THAT YtadpenaldhkjcaaGreatProg.lean LOADS. Nothing in Lean hashes anything: it is a label: what it is worth is what the hold of that sum in a sandbox is worth. -/
noncomputable def Tryz.pinned : Pinned := { name := "ytadpenaldhkjcaagreat", sum := "f6eaa2111555e8d45b2e1702daa3922994882330b06dfa56ee6544a6acc4391c", checked := Tryz.checked }
namespace Rows
def none {H : Type} : Left H := { results := [], args := [] }

/-- 'laws.FnPart': WHATEVER THE INPUT: true; the input reads as it did. -/
def fnPartSpec : ChangeSpec := { name := "fnPart", fn := fun _ => fun
  | [d] => { results := [.lit (.bool true)], args := [d] }
  | _ => none }
def fnPartRow : OpenClaim := { program := "ytadpenaldhkjcaagreat", sum := "f6eaa2111555e8d45b2e1702daa3922994882330b06dfa56ee6544a6acc4391c", func := "loop.example/g00500/laws.FnPart", spec := "fnPart", inPlace := ["math/bits.Add64", "math/bits.Sub64"], unfollowed := true, recurses := true, apart := false }
def FnPartSaid : Prop := fnPartRow.holds Tryz.pinned (OpenSpec.ofChange fnPartSpec)

/-- ITS FALSE NEIGHBOUR: 'it returns false'. Refute it at one input. -/
def fnPartWrong : ChangeSpec := { name := "fnPart", fn := fun _ => fun
  | [d] => { results := [.lit (.bool false)], args := [d] }
  | _ => none }
def FnPartWrongFalsely : Prop := fnPartRow.holds Tryz.pinned (OpenSpec.ofChange fnPartWrong)

/-- 'laws.FnGrownPlain': WHATEVER THE INPUT: true; the input reads as it did. -/
def fnGrownPlainSpec : ChangeSpec := { name := "fnGrownPlain", fn := fun _ => fun
  | [d] => { results := [.lit (.bool true)], args := [d] }
  | _ => none }
def fnGrownPlainRow : OpenClaim := { program := "ytadpenaldhkjcaagreat", sum := "f6eaa2111555e8d45b2e1702daa3922994882330b06dfa56ee6544a6acc4391c", func := "loop.example/g00500/laws.FnGrownPlain", spec := "fnGrownPlain", inPlace := ["math/bits.Add64", "math/bits.Sub64"], unfollowed := true, recurses := true, apart := false }
def FnGrownPlainSaid : Prop := fnGrownPlainRow.holds Tryz.pinned (OpenSpec.ofChange fnGrownPlainSpec)

/-- ITS FALSE NEIGHBOUR: 'it returns false'. Refute it at one input. -/
def fnGrownPlainWrong : ChangeSpec := { name := "fnGrownPlain", fn := fun _ => fun
  | [d] => { results := [.lit (.bool false)], args := [d] }
  | _ => none }
def FnGrownPlainWrongFalsely : Prop := fnGrownPlainRow.holds Tryz.pinned (OpenSpec.ofChange fnGrownPlainWrong)

/-- 'laws.FnGrownTurned': WHATEVER THE INPUT: true; the input reads as it did. -/
def fnGrownTurnedSpec : ChangeSpec := { name := "fnGrownTurned", fn := fun _ => fun
  | [d] => { results := [.lit (.bool true)], args := [d] }
  | _ => none }
def fnGrownTurnedRow : OpenClaim := { program := "ytadpenaldhkjcaagreat", sum := "f6eaa2111555e8d45b2e1702daa3922994882330b06dfa56ee6544a6acc4391c", func := "loop.example/g00500/laws.FnGrownTurned", spec := "fnGrownTurned", inPlace := ["math/bits.Add64", "math/bits.Sub64"], unfollowed := true, recurses := true, apart := false }
def FnGrownTurnedSaid : Prop := fnGrownTurnedRow.holds Tryz.pinned (OpenSpec.ofChange fnGrownTurnedSpec)

/-- ITS FALSE NEIGHBOUR: 'it returns false'. Refute it at one input. -/
def fnGrownTurnedWrong : ChangeSpec := { name := "fnGrownTurned", fn := fun _ => fun
  | [d] => { results := [.lit (.bool false)], args := [d] }
  | _ => none }
def FnGrownTurnedWrongFalsely : Prop := fnGrownTurnedRow.holds Tryz.pinned (OpenSpec.ofChange fnGrownTurnedWrong)

/-- 'laws.FnSets': WHATEVER THE INPUT: true; the input reads as it did. -/
def fnSetsSpec : ChangeSpec := { name := "fnSets", fn := fun _ => fun
  | [d] => { results := [.lit (.bool true)], args := [d] }
  | _ => none }
def fnSetsRow : OpenClaim := { program := "ytadpenaldhkjcaagreat", sum := "f6eaa2111555e8d45b2e1702daa3922994882330b06dfa56ee6544a6acc4391c", func := "loop.example/g00500/laws.FnSets", spec := "fnSets", inPlace := ["math/bits.Add64", "math/bits.Sub64"], unfollowed := true, recurses := true, apart := false }
def FnSetsSaid : Prop := fnSetsRow.holds Tryz.pinned (OpenSpec.ofChange fnSetsSpec)

/-- ITS FALSE NEIGHBOUR: 'it returns false'. Refute it at one input. -/
def fnSetsWrong : ChangeSpec := { name := "fnSets", fn := fun _ => fun
  | [d] => { results := [.lit (.bool false)], args := [d] }
  | _ => none }
def FnSetsWrongFalsely : Prop := fnSetsRow.holds Tryz.pinned (OpenSpec.ofChange fnSetsWrong)

/-- 'laws.FnExactGrowSet': WHATEVER THE INPUT: true; the input reads as it did. -/
def fnExactGrowSetSpec : ChangeSpec := { name := "fnExactGrowSet", fn := fun _ => fun
  | [d1, d2, d3] => { results := [.lit (.bool true)], args := [d1, d2, d3] }
  | _ => none }
def fnExactGrowSetRow : OpenClaim := { program := "ytadpenaldhkjcaagreat", sum := "f6eaa2111555e8d45b2e1702daa3922994882330b06dfa56ee6544a6acc4391c", func := "loop.example/g00500/laws.FnExactGrowSet", spec := "fnExactGrowSet", inPlace := ["math/bits.Add64", "math/bits.Sub64"], unfollowed := true, recurses := true, apart := false }
def FnExactGrowSetSaid : Prop := fnExactGrowSetRow.holds Tryz.pinned (OpenSpec.ofChange fnExactGrowSetSpec)

/-- ITS FALSE NEIGHBOUR: 'it returns false'. Refute it at one input. -/
def fnExactGrowSetWrong : ChangeSpec := { name := "fnExactGrowSet", fn := fun _ => fun
  | [d1, d2, d3] => { results := [.lit (.bool false)], args := [d1, d2, d3] }
  | _ => none }
def FnExactGrowSetWrongFalsely : Prop := fnExactGrowSetRow.holds Tryz.pinned (OpenSpec.ofChange fnExactGrowSetWrong)

/- THE SECOND FORM. 'bulk': how many values and letters a reading holds, each counted each time it is reached (what is shared counts as often as it is met; a slice's spare places count too). A statement '..UptoSaid' is the law's where the arguments, and the package variables that the reading takes, are together of bulk at most 1048576: NARROWER than '..Said'. Prove '..Said' where nothing that the law and all that it calls make is longer than what came in: it says more and counts as full. Else prove '..UptoSaid'. A law counts once. -/
mutual
def uptoBulk {H : Type} : DataW H → Nat
  | .lit (.string bytes) => bytes.length + 1
  | .lit _ => 1
  | .nil => 1
  | .ptr d => uptoBulk d + 1
  | .slice elems spare => uptoBulkAll elems + uptoBulkAll spare + 1
  | .agg parts => uptoBulkAll parts + 1
  | .iface _ d => uptoBulk d + 1
  | .map entries => uptoBulkEntries entries + 1
  | .held _ => 1
def uptoBulkAll {H : Type} : List (DataW H) → Nat
  | [] => 0
  | d :: r => uptoBulk d + uptoBulkAll r
def uptoBulkEntries {H : Type} : List (Lit × DataW H) → Nat
  | [] => 0
  | x :: r => uptoBulkEntry x + uptoBulkEntries r
def uptoBulkEntry {H : Type} : Lit × DataW H → Nat
  | (.string bytes, d) => bytes.length + uptoBulk d + 1
  | (_, d) => uptoBulk d + 1
 end
def uptoSmall : (H : Type) → List (DataW H) → Bool := fun _ ds => decide (uptoBulkAll ds ≤ 1048576)
def OpenSpec.upto (s : _root_.Go.ChangeSpec) : _root_.Go.OpenSpec := { _root_.Go.OpenSpec.ofChange s with cond := some uptoSmall }

/-- 'laws.FnPart', WHERE WHAT IT READS IS OF BULK AT MOST 1048576: true; the input reads as it did. -/
def fnPartUptoRow : OpenClaim := { program := "ytadpenaldhkjcaagreat", sum := "f6eaa2111555e8d45b2e1702daa3922994882330b06dfa56ee6544a6acc4391c", func := "loop.example/g00500/laws.FnPart", spec := "fnPart", inPlace := ["math/bits.Add64", "math/bits.Sub64"], unfollowed := true, recurses := true, apart := false, narrowed := true }
def FnPartUptoSaid : Prop := fnPartUptoRow.holds Tryz.pinned (OpenSpec.upto fnPartSpec)

/-- 'laws.FnGrownPlain', WHERE WHAT IT READS IS OF BULK AT MOST 1048576: true; the input reads as it did. -/
def fnGrownPlainUptoRow : OpenClaim := { program := "ytadpenaldhkjcaagreat", sum := "f6eaa2111555e8d45b2e1702daa3922994882330b06dfa56ee6544a6acc4391c", func := "loop.example/g00500/laws.FnGrownPlain", spec := "fnGrownPlain", inPlace := ["math/bits.Add64", "math/bits.Sub64"], unfollowed := true, recurses := true, apart := false, narrowed := true }
def FnGrownPlainUptoSaid : Prop := fnGrownPlainUptoRow.holds Tryz.pinned (OpenSpec.upto fnGrownPlainSpec)

/-- 'laws.FnGrownTurned', WHERE WHAT IT READS IS OF BULK AT MOST 1048576: true; the input reads as it did. -/
def fnGrownTurnedUptoRow : OpenClaim := { program := "ytadpenaldhkjcaagreat", sum := "f6eaa2111555e8d45b2e1702daa3922994882330b06dfa56ee6544a6acc4391c", func := "loop.example/g00500/laws.FnGrownTurned", spec := "fnGrownTurned", inPlace := ["math/bits.Add64", "math/bits.Sub64"], unfollowed := true, recurses := true, apart := false, narrowed := true }
def FnGrownTurnedUptoSaid : Prop := fnGrownTurnedUptoRow.holds Tryz.pinned (OpenSpec.upto fnGrownTurnedSpec)

/-- 'laws.FnSets', WHERE WHAT IT READS IS OF BULK AT MOST 1048576: true; the input reads as it did. -/
def fnSetsUptoRow : OpenClaim := { program := "ytadpenaldhkjcaagreat", sum := "f6eaa2111555e8d45b2e1702daa3922994882330b06dfa56ee6544a6acc4391c", func := "loop.example/g00500/laws.FnSets", spec := "fnSets", inPlace := ["math/bits.Add64", "math/bits.Sub64"], unfollowed := true, recurses := true, apart := false, narrowed := true }
def FnSetsUptoSaid : Prop := fnSetsUptoRow.holds Tryz.pinned (OpenSpec.upto fnSetsSpec)

/-- 'laws.FnExactGrowSet', WHERE WHAT IT READS IS OF BULK AT MOST 1048576: true; the input reads as it did. -/
def fnExactGrowSetUptoRow : OpenClaim := { program := "ytadpenaldhkjcaagreat", sum := "f6eaa2111555e8d45b2e1702daa3922994882330b06dfa56ee6544a6acc4391c", func := "loop.example/g00500/laws.FnExactGrowSet", spec := "fnExactGrowSet", inPlace := ["math/bits.Add64", "math/bits.Sub64"], unfollowed := true, recurses := true, apart := false, narrowed := true }
def FnExactGrowSetUptoSaid : Prop := fnExactGrowSetUptoRow.holds Tryz.pinned (OpenSpec.upto fnExactGrowSetSpec)

end Rows
end Go.Proofs.YtadpenaldhkjcaaGreat
