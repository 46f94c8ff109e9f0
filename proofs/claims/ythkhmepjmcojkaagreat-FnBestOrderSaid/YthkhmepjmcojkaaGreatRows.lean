/-
  No cell of these rows narrows 'for every input' (looked for: loops, veiled, ifaces, maps, wideKeys, modest, calm, conditions, laid).
  DERIVED. THE GIVEN ROWS OF THIS SEAT. 7 by the template 'for every input the law returns true; each argument reads behind the call as it read before'; 0 by the template 'total and deterministic' (their statements: YthkhmepjmcojkaaGreatTotals.lean).
  GIVEN WITH THE SEED: the statements are not yours to turn. If you find one false, say at which input.
  Laid BY PROGRAM, IN A SANDBOX (cutbox-rows.mjs): the forced cells as the released guide's own fill.sh prints them over the translation ca6649704fcb9f3a… (all of the seat's roots in one cut). By AI agents, Wed Nov 11 2026. No macro, syntax, notation, axiom, sorry.
-/
import Derived.Test.YthkhmepjmcojkaaGreatChecked
import GoSem.Claim
import GoSem.ClaimJoined
import GoSem.ClaimMapViews
import Derived.JoinedTies
import Derived.KernelRfl
namespace Go.Proofs.YthkhmepjmcojkaaGreat
/- THE CELL 'sum', in the pinned program and in every row, IS THE sha256 OF THE DUMP (.gsa) THAT YthkhmepjmcojkaaGreatProg.lean LOADS. Nothing in Lean hashes anything: it is a label: what it is worth is what the hold of that sum in a sandbox is worth. -/
noncomputable def Tryz.pinned : Pinned := { name := "ythkhmepjmcojkaagreat", sum := "ca6649704fcb9f3a6b028af0f67d3784fdb09984da2cb0ff0caacd89359800e6", checked := Tryz.checked }
namespace Rows
def none {H : Type} : Left H := { results := [], args := [] }

/-- 'laws.FnBest': WHATEVER THE INPUT: true; the input reads as it did. -/
def fnBestSpec : ChangeSpec := { name := "fnBest", fn := fun _ => fun
  | [d] => { results := [.lit (.bool true)], args := [d] }
  | _ => none }
def fnBestRow : OpenClaim := { program := "ythkhmepjmcojkaagreat", sum := "ca6649704fcb9f3a6b028af0f67d3784fdb09984da2cb0ff0caacd89359800e6", func := "loop.example/g00500/laws.FnBest", spec := "fnBest", inPlace := ["math/bits.Add64", "math/bits.Sub64"], unfollowed := true, recurses := true, apart := false }
def FnBestSaid : Prop := fnBestRow.holds Tryz.pinned (OpenSpec.ofChange fnBestSpec)

/-- ITS FALSE NEIGHBOUR: 'it returns false'. Refute it at one input. -/
def fnBestWrong : ChangeSpec := { name := "fnBest", fn := fun _ => fun
  | [d] => { results := [.lit (.bool false)], args := [d] }
  | _ => none }
def FnBestWrongFalsely : Prop := fnBestRow.holds Tryz.pinned (OpenSpec.ofChange fnBestWrong)

/-- 'laws.FnBestOrder': WHATEVER THE INPUT: true; the input reads as it did. -/
def fnBestOrderSpec : ChangeSpec := { name := "fnBestOrder", fn := fun _ => fun
  | [d] => { results := [.lit (.bool true)], args := [d] }
  | _ => none }
def fnBestOrderRow : OpenClaim := { program := "ythkhmepjmcojkaagreat", sum := "ca6649704fcb9f3a6b028af0f67d3784fdb09984da2cb0ff0caacd89359800e6", func := "loop.example/g00500/laws.FnBestOrder", spec := "fnBestOrder", inPlace := ["math/bits.Add64", "math/bits.Sub64"], unfollowed := true, recurses := true, apart := false }
def FnBestOrderSaid : Prop := fnBestOrderRow.holds Tryz.pinned (OpenSpec.ofChange fnBestOrderSpec)

/-- ITS FALSE NEIGHBOUR: 'it returns false'. Refute it at one input. -/
def fnBestOrderWrong : ChangeSpec := { name := "fnBestOrder", fn := fun _ => fun
  | [d] => { results := [.lit (.bool false)], args := [d] }
  | _ => none }
def FnBestOrderWrongFalsely : Prop := fnBestOrderRow.holds Tryz.pinned (OpenSpec.ofChange fnBestOrderWrong)

/-- 'laws.FnExactModelFrom': WHATEVER THE INPUT: true; the input reads as it did. -/
def fnExactModelFromSpec : ChangeSpec := { name := "fnExactModelFrom", fn := fun _ => fun
  | [d1, d2, d3] => { results := [.lit (.bool true)], args := [d1, d2, d3] }
  | _ => none }
def fnExactModelFromRow : OpenClaim := { program := "ythkhmepjmcojkaagreat", sum := "ca6649704fcb9f3a6b028af0f67d3784fdb09984da2cb0ff0caacd89359800e6", func := "loop.example/g00500/laws.FnExactModelFrom", spec := "fnExactModelFrom", unfollowed := true, recurses := true, apart := false }
def FnExactModelFromSaid : Prop := fnExactModelFromRow.holds Tryz.pinned (OpenSpec.ofChange fnExactModelFromSpec)

/-- ITS FALSE NEIGHBOUR: 'it returns false'. Refute it at one input. -/
def fnExactModelFromWrong : ChangeSpec := { name := "fnExactModelFrom", fn := fun _ => fun
  | [d1, d2, d3] => { results := [.lit (.bool false)], args := [d1, d2, d3] }
  | _ => none }
def FnExactModelFromWrongFalsely : Prop := fnExactModelFromRow.holds Tryz.pinned (OpenSpec.ofChange fnExactModelFromWrong)

/-- 'laws.FnExactGrowSet': WHATEVER THE INPUT: true; the input reads as it did. -/
def fnExactGrowSetSpec : ChangeSpec := { name := "fnExactGrowSet", fn := fun _ => fun
  | [d1, d2, d3] => { results := [.lit (.bool true)], args := [d1, d2, d3] }
  | _ => none }
def fnExactGrowSetRow : OpenClaim := { program := "ythkhmepjmcojkaagreat", sum := "ca6649704fcb9f3a6b028af0f67d3784fdb09984da2cb0ff0caacd89359800e6", func := "loop.example/g00500/laws.FnExactGrowSet", spec := "fnExactGrowSet", inPlace := ["math/bits.Add64", "math/bits.Sub64"], unfollowed := true, recurses := true, apart := false }
def FnExactGrowSetSaid : Prop := fnExactGrowSetRow.holds Tryz.pinned (OpenSpec.ofChange fnExactGrowSetSpec)

/-- ITS FALSE NEIGHBOUR: 'it returns false'. Refute it at one input. -/
def fnExactGrowSetWrong : ChangeSpec := { name := "fnExactGrowSet", fn := fun _ => fun
  | [d1, d2, d3] => { results := [.lit (.bool false)], args := [d1, d2, d3] }
  | _ => none }
def FnExactGrowSetWrongFalsely : Prop := fnExactGrowSetRow.holds Tryz.pinned (OpenSpec.ofChange fnExactGrowSetWrong)

/-- 'laws.FnExactPartOf': WHATEVER THE INPUT: true; the input reads as it did. -/
def fnExactPartOfSpec : ChangeSpec := { name := "fnExactPartOf", fn := fun _ => fun
  | [d1, d2, d3, d4, d5] => { results := [.lit (.bool true)], args := [d1, d2, d3, d4, d5] }
  | _ => none }
def fnExactPartOfRow : OpenClaim := { program := "ythkhmepjmcojkaagreat", sum := "ca6649704fcb9f3a6b028af0f67d3784fdb09984da2cb0ff0caacd89359800e6", func := "loop.example/g00500/laws.FnExactPartOf", spec := "fnExactPartOf", inPlace := ["math/bits.Add64", "math/bits.Sub64"], unfollowed := true, recurses := true, apart := false }
def FnExactPartOfSaid : Prop := fnExactPartOfRow.holds Tryz.pinned (OpenSpec.ofChange fnExactPartOfSpec)

/-- ITS FALSE NEIGHBOUR: 'it returns false'. Refute it at one input. -/
def fnExactPartOfWrong : ChangeSpec := { name := "fnExactPartOf", fn := fun _ => fun
  | [d1, d2, d3, d4, d5] => { results := [.lit (.bool false)], args := [d1, d2, d3, d4, d5] }
  | _ => none }
def FnExactPartOfWrongFalsely : Prop := fnExactPartOfRow.holds Tryz.pinned (OpenSpec.ofChange fnExactPartOfWrong)

/-- 'laws.FnPart': WHATEVER THE INPUT: true; the input reads as it did. -/
def fnPartSpec : ChangeSpec := { name := "fnPart", fn := fun _ => fun
  | [d] => { results := [.lit (.bool true)], args := [d] }
  | _ => none }
def fnPartRow : OpenClaim := { program := "ythkhmepjmcojkaagreat", sum := "ca6649704fcb9f3a6b028af0f67d3784fdb09984da2cb0ff0caacd89359800e6", func := "loop.example/g00500/laws.FnPart", spec := "fnPart", inPlace := ["math/bits.Add64", "math/bits.Sub64"], unfollowed := true, recurses := true, apart := false }
def FnPartSaid : Prop := fnPartRow.holds Tryz.pinned (OpenSpec.ofChange fnPartSpec)

/-- ITS FALSE NEIGHBOUR: 'it returns false'. Refute it at one input. -/
def fnPartWrong : ChangeSpec := { name := "fnPart", fn := fun _ => fun
  | [d] => { results := [.lit (.bool false)], args := [d] }
  | _ => none }
def FnPartWrongFalsely : Prop := fnPartRow.holds Tryz.pinned (OpenSpec.ofChange fnPartWrong)

/-- 'laws.FnExactGrowTree': WHATEVER THE INPUT: true; the input reads as it did. -/
def fnExactGrowTreeSpec : ChangeSpec := { name := "fnExactGrowTree", fn := fun _ => fun
  | [d1, d2, d3] => { results := [.lit (.bool true)], args := [d1, d2, d3] }
  | _ => none }
def fnExactGrowTreeRow : OpenClaim := { program := "ythkhmepjmcojkaagreat", sum := "ca6649704fcb9f3a6b028af0f67d3784fdb09984da2cb0ff0caacd89359800e6", func := "loop.example/g00500/laws.FnExactGrowTree", spec := "fnExactGrowTree", inPlace := ["math/bits.Add64", "math/bits.Sub64"], unfollowed := true, recurses := true, apart := false }
def FnExactGrowTreeSaid : Prop := fnExactGrowTreeRow.holds Tryz.pinned (OpenSpec.ofChange fnExactGrowTreeSpec)

/-- ITS FALSE NEIGHBOUR: 'it returns false'. Refute it at one input. -/
def fnExactGrowTreeWrong : ChangeSpec := { name := "fnExactGrowTree", fn := fun _ => fun
  | [d1, d2, d3] => { results := [.lit (.bool false)], args := [d1, d2, d3] }
  | _ => none }
def FnExactGrowTreeWrongFalsely : Prop := fnExactGrowTreeRow.holds Tryz.pinned (OpenSpec.ofChange fnExactGrowTreeWrong)

/- THE SECOND FORM. 'bulk': how many values and letters a reading holds, each counted each time it is reached (what is shared counts as often as it is met; a slice's spare places count too). A statement '..UptoSaid' is the law's where the arguments, and the package variables that the reading takes, are together of bulk at most 1048576: NARROWER than '..Said'. Prove '..Said' where nothing that the law and all that it calls make is longer than what came in: it says more and counts as full. Else prove '..UptoSaid'. A law counts once. -/
mutual
def uptoBulk {H : Type} : DataW H → Nat
  | .lit (.string bytes) => bytes.length + 1
  | .lit _ => 1
  | .nil => 1
  | .ptr d => uptoBulk d + 1
  | .slice elems spare => uptoBulkAll elems + uptoBulkAll spare + 1
  | .agg parts => uptoBulkAll parts + 1
  | .iface _ d => uptoBulk d + 1
  | .map entries => uptoBulkEntries entries + 1
  | .held _ => 1
def uptoBulkAll {H : Type} : List (DataW H) → Nat
  | [] => 0
  | d :: r => uptoBulk d + uptoBulkAll r
def uptoBulkEntries {H : Type} : List (Lit × DataW H) → Nat
  | [] => 0
  | x :: r => uptoBulkEntry x + uptoBulkEntries r
def uptoBulkEntry {H : Type} : Lit × DataW H → Nat
  | (.string bytes, d) => bytes.length + uptoBulk d + 1
  | (_, d) => uptoBulk d + 1
 end
def uptoSmall : (H : Type) → List (DataW H) → Bool := fun _ ds => decide (uptoBulkAll ds ≤ 1048576)
def OpenSpec.upto (s : _root_.Go.ChangeSpec) : _root_.Go.OpenSpec := { _root_.Go.OpenSpec.ofChange s with cond := some uptoSmall }

/-- 'laws.FnBest', WHERE WHAT IT READS IS OF BULK AT MOST 1048576: true; the input reads as it did. -/
def fnBestUptoRow : OpenClaim := { program := "ythkhmepjmcojkaagreat", sum := "ca6649704fcb9f3a6b028af0f67d3784fdb09984da2cb0ff0caacd89359800e6", func := "loop.example/g00500/laws.FnBest", spec := "fnBest", inPlace := ["math/bits.Add64", "math/bits.Sub64"], unfollowed := true, recurses := true, apart := false, narrowed := true }
def FnBestUptoSaid : Prop := fnBestUptoRow.holds Tryz.pinned (OpenSpec.upto fnBestSpec)

/-- 'laws.FnBestOrder', WHERE WHAT IT READS IS OF BULK AT MOST 1048576: true; the input reads as it did. -/
def fnBestOrderUptoRow : OpenClaim := { program := "ythkhmepjmcojkaagreat", sum := "ca6649704fcb9f3a6b028af0f67d3784fdb09984da2cb0ff0caacd89359800e6", func := "loop.example/g00500/laws.FnBestOrder", spec := "fnBestOrder", inPlace := ["math/bits.Add64", "math/bits.Sub64"], unfollowed := true, recurses := true, apart := false, narrowed := true }
def FnBestOrderUptoSaid : Prop := fnBestOrderUptoRow.holds Tryz.pinned (OpenSpec.upto fnBestOrderSpec)

/-- 'laws.FnExactModelFrom', WHERE WHAT IT READS IS OF BULK AT MOST 1048576: true; the input reads as it did. -/
def fnExactModelFromUptoRow : OpenClaim := { program := "ythkhmepjmcojkaagreat", sum := "ca6649704fcb9f3a6b028af0f67d3784fdb09984da2cb0ff0caacd89359800e6", func := "loop.example/g00500/laws.FnExactModelFrom", spec := "fnExactModelFrom", unfollowed := true, recurses := true, apart := false, narrowed := true }
def FnExactModelFromUptoSaid : Prop := fnExactModelFromUptoRow.holds Tryz.pinned (OpenSpec.upto fnExactModelFromSpec)

/-- 'laws.FnExactGrowSet', WHERE WHAT IT READS IS OF BULK AT MOST 1048576: true; the input reads as it did. -/
def fnExactGrowSetUptoRow : OpenClaim := { program := "ythkhmepjmcojkaagreat", sum := "ca6649704fcb9f3a6b028af0f67d3784fdb09984da2cb0ff0caacd89359800e6", func := "loop.example/g00500/laws.FnExactGrowSet", spec := "fnExactGrowSet", inPlace := ["math/bits.Add64", "math/bits.Sub64"], unfollowed := true, recurses := true, apart := false, narrowed := true }
def FnExactGrowSetUptoSaid : Prop := fnExactGrowSetUptoRow.holds Tryz.pinned (OpenSpec.upto fnExactGrowSetSpec)

/-- 'laws.FnExactPartOf', WHERE WHAT IT READS IS OF BULK AT MOST 1048576: true; the input reads as it did. -/
def fnExactPartOfUptoRow : OpenClaim := { program := "ythkhmepjmcojkaagreat", sum := "ca6649704fcb9f3a6b028af0f67d3784fdb09984da2cb0ff0caacd89359800e6", func := "loop.example/g00500/laws.FnExactPartOf", spec := "fnExactPartOf", inPlace := ["math/bits.Add64", "math/bits.Sub64"], unfollowed := true, recurses := true, apart := false, narrowed := true }
def FnExactPartOfUptoSaid : Prop := fnExactPartOfUptoRow.holds Tryz.pinned (OpenSpec.upto fnExactPartOfSpec)

/-- 'laws.FnPart', WHERE WHAT IT READS IS OF BULK AT MOST 1048576: true; the input reads as it did. -/
def fnPartUptoRow : OpenClaim := { program := "ythkhmepjmcojkaagreat", sum := "ca6649704fcb9f3a6b028af0f67d3784fdb09984da2cb0ff0caacd89359800e6", func := "loop.example/g00500/laws.FnPart", spec := "fnPart", inPlace := ["math/bits.Add64", "math/bits.Sub64"], unfollowed := true, recurses := true, apart := false, narrowed := true }
def FnPartUptoSaid : Prop := fnPartUptoRow.holds Tryz.pinned (OpenSpec.upto fnPartSpec)

/-- 'laws.FnExactGrowTree', WHERE WHAT IT READS IS OF BULK AT MOST 1048576: true; the input reads as it did. -/
def fnExactGrowTreeUptoRow : OpenClaim := { program := "ythkhmepjmcojkaagreat", sum := "ca6649704fcb9f3a6b028af0f67d3784fdb09984da2cb0ff0caacd89359800e6", func := "loop.example/g00500/laws.FnExactGrowTree", spec := "fnExactGrowTree", inPlace := ["math/bits.Add64", "math/bits.Sub64"], unfollowed := true, recurses := true, apart := false, narrowed := true }
def FnExactGrowTreeUptoSaid : Prop := fnExactGrowTreeUptoRow.holds Tryz.pinned (OpenSpec.upto fnExactGrowTreeSpec)

end Rows
end Go.Proofs.YthkhmepjmcojkaaGreat
