/-
  NARROWER THAN 'FOR EVERY INPUT', by the rows' own cells (each row's printed sentence says how): FnExactSameSet: loops · FnExactFlatOf: loops.
  DERIVED. THE GIVEN ROWS OF THIS SEAT. 4 by the template 'for every input the law returns true; each argument reads behind the call as it read before'; 0 by the template 'total and deterministic' (their statements: YtdebkglpapjeiaaTotals.lean).
  GIVEN WITH THE SEED: the statements are not yours to turn. If you find one false, say at which input.
  Laid BY PROGRAM, IN A SANDBOX (cutbox-rows.mjs): the forced cells as the released guide's own fill.sh prints them over the translation a403c2159cdcb875… (all of the seat's roots in one cut). By AI agents, Wed Nov 11 2026. No macro, syntax, notation, axiom, sorry.
-/
import Derived.Test.YtdebkglpapjeiaaChecked
import GoSem.Claim
import GoSem.ClaimJoined
import GoSem.ClaimMapViews
import Derived.JoinedTies
import Derived.KernelRfl
namespace Go.Proofs.Ytdebkglpapjeiaa
/- THE CELL 'sum', in the pinned program and in every row, IS THE sha256 OF THE DUMP (.gsa) THAT YtdebkglpapjeiaaProg.lean LOADS. Nothing in Lean hashes anything: it is a label: what it is worth is what the hold of that sum in a sandbox is worth. -/
noncomputable def Try.pinned : Pinned := { name := "ytdebkglpapjeiaa", sum := "a403c2159cdcb8752b0f15ed5ec89bc6628c5c3ed5e9a068135b1d5e4fb5b643", checked := Try.checked }
namespace Rows
def none {H : Type} : Left H := { results := [], args := [] }

/-- 'laws.FnExactSameSet': WHATEVER THE INPUT: true; the input reads as it did. -/
def fnExactSameSetSpec : ChangeSpec := { name := "fnExactSameSet", fn := fun _ => fun
  | [d1, d2] => { results := [.lit (.bool true)], args := [d1, d2] }
  | _ => none }
def fnExactSameSetRow : OpenClaim := { program := "ytdebkglpapjeiaa", sum := "a403c2159cdcb8752b0f15ed5ec89bc6628c5c3ed5e9a068135b1d5e4fb5b643", func := "loop.example/g00500/laws.FnExactSameSet", spec := "fnExactSameSet", unfollowed := true, recurses := true, loops := true, apart := false }
def FnExactSameSetSaid : Prop := fnExactSameSetRow.holds Try.pinned (OpenSpec.ofChange fnExactSameSetSpec)

/-- ITS FALSE NEIGHBOUR: 'it returns false'. Refute it at one input. -/
def fnExactSameSetWrong : ChangeSpec := { name := "fnExactSameSet", fn := fun _ => fun
  | [d1, d2] => { results := [.lit (.bool false)], args := [d1, d2] }
  | _ => none }
def FnExactSameSetWrongFalsely : Prop := fnExactSameSetRow.holds Try.pinned (OpenSpec.ofChange fnExactSameSetWrong)

/-- 'laws.FnExactFlatOf': WHATEVER THE INPUT: true; the input reads as it did. -/
def fnExactFlatOfSpec : ChangeSpec := { name := "fnExactFlatOf", fn := fun _ => fun
  | [d] => { results := [.lit (.bool true)], args := [d] }
  | _ => none }
def fnExactFlatOfRow : OpenClaim := { program := "ytdebkglpapjeiaa", sum := "a403c2159cdcb8752b0f15ed5ec89bc6628c5c3ed5e9a068135b1d5e4fb5b643", func := "loop.example/g00500/laws.FnExactFlatOf", spec := "fnExactFlatOf", recurses := true, loops := true, apart := false }
def FnExactFlatOfSaid : Prop := fnExactFlatOfRow.holds Try.pinned (OpenSpec.ofChange fnExactFlatOfSpec)

/-- ITS FALSE NEIGHBOUR: 'it returns false'. Refute it at one input. -/
def fnExactFlatOfWrong : ChangeSpec := { name := "fnExactFlatOf", fn := fun _ => fun
  | [d] => { results := [.lit (.bool false)], args := [d] }
  | _ => none }
def FnExactFlatOfWrongFalsely : Prop := fnExactFlatOfRow.holds Try.pinned (OpenSpec.ofChange fnExactFlatOfWrong)

/-- 'laws.FnExactValuesIn': WHATEVER THE INPUT: true; the input reads as it did. -/
def fnExactValuesInSpec : ChangeSpec := { name := "fnExactValuesIn", fn := fun _ => fun
  | [d] => { results := [.lit (.bool true)], args := [d] }
  | _ => none }
def fnExactValuesInRow : OpenClaim := { program := "ytdebkglpapjeiaa", sum := "a403c2159cdcb8752b0f15ed5ec89bc6628c5c3ed5e9a068135b1d5e4fb5b643", func := "loop.example/g00500/laws.FnExactValuesIn", spec := "fnExactValuesIn", recurses := true, apart := false }
def FnExactValuesInSaid : Prop := fnExactValuesInRow.holds Try.pinned (OpenSpec.ofChange fnExactValuesInSpec)

/-- ITS FALSE NEIGHBOUR: 'it returns false'. Refute it at one input. -/
def fnExactValuesInWrong : ChangeSpec := { name := "fnExactValuesIn", fn := fun _ => fun
  | [d] => { results := [.lit (.bool false)], args := [d] }
  | _ => none }
def FnExactValuesInWrongFalsely : Prop := fnExactValuesInRow.holds Try.pinned (OpenSpec.ofChange fnExactValuesInWrong)

/-- 'laws.FnShrunkTree': WHATEVER THE INPUT: true; the input reads as it did. -/
def fnShrunkTreeSpec : ChangeSpec := { name := "fnShrunkTree", fn := fun _ => fun
  | [d] => { results := [.lit (.bool true)], args := [d] }
  | _ => none }
def fnShrunkTreeRow : OpenClaim := { program := "ytdebkglpapjeiaa", sum := "a403c2159cdcb8752b0f15ed5ec89bc6628c5c3ed5e9a068135b1d5e4fb5b643", func := "loop.example/g00500/laws.FnShrunkTree", spec := "fnShrunkTree", unfollowed := true, recurses := true, apart := false }
def FnShrunkTreeSaid : Prop := fnShrunkTreeRow.holds Try.pinned (OpenSpec.ofChange fnShrunkTreeSpec)

/-- ITS FALSE NEIGHBOUR: 'it returns false'. Refute it at one input. -/
def fnShrunkTreeWrong : ChangeSpec := { name := "fnShrunkTree", fn := fun _ => fun
  | [d] => { results := [.lit (.bool false)], args := [d] }
  | _ => none }
def FnShrunkTreeWrongFalsely : Prop := fnShrunkTreeRow.holds Try.pinned (OpenSpec.ofChange fnShrunkTreeWrong)

/- THE SECOND FORM. 'bulk': how many values and letters a reading holds, each counted each time it is reached (what is shared counts as often as it is met; a slice's spare places count too). A statement '..UptoSaid' is the law's where the arguments, and the package variables that the reading takes, are together of bulk at most 1048576: NARROWER than '..Said'. Prove '..Said' where nothing that the law and all that it calls make is longer than what came in: it says more and counts as full. Else prove '..UptoSaid'. A law counts once. -/
mutual
def uptoBulk {H : Type} : DataW H → Nat
  | .lit (.string bytes) => bytes.length + 1
  | .lit _ => 1
  | .nil => 1
  | .ptr d => uptoBulk d + 1
  | .slice elems spare => uptoBulkAll elems + uptoBulkAll spare + 1
  | .agg parts => uptoBulkAll parts + 1
  | .iface _ d => uptoBulk d + 1
  | .map entries => uptoBulkEntries entries + 1
  | .held _ => 1
def uptoBulkAll {H : Type} : List (DataW H) → Nat
  | [] => 0
  | d :: r => uptoBulk d + uptoBulkAll r
def uptoBulkEntries {H : Type} : List (Lit × DataW H) → Nat
  | [] => 0
  | x :: r => uptoBulkEntry x + uptoBulkEntries r
def uptoBulkEntry {H : Type} : Lit × DataW H → Nat
  | (.string bytes, d) => bytes.length + uptoBulk d + 1
  | (_, d) => uptoBulk d + 1
 end
def uptoSmall : (H : Type) → List (DataW H) → Bool := fun _ ds => decide (uptoBulkAll ds ≤ 1048576)
def OpenSpec.upto (s : _root_.Go.ChangeSpec) : _root_.Go.OpenSpec := { _root_.Go.OpenSpec.ofChange s with cond := some uptoSmall }

/-- 'laws.FnExactSameSet', WHERE WHAT IT READS IS OF BULK AT MOST 1048576: true; the input reads as it did. -/
def fnExactSameSetUptoRow : OpenClaim := { program := "ytdebkglpapjeiaa", sum := "a403c2159cdcb8752b0f15ed5ec89bc6628c5c3ed5e9a068135b1d5e4fb5b643", func := "loop.example/g00500/laws.FnExactSameSet", spec := "fnExactSameSet", unfollowed := true, recurses := true, loops := true, apart := false, narrowed := true }
def FnExactSameSetUptoSaid : Prop := fnExactSameSetUptoRow.holds Try.pinned (OpenSpec.upto fnExactSameSetSpec)

/-- 'laws.FnExactFlatOf', WHERE WHAT IT READS IS OF BULK AT MOST 1048576: true; the input reads as it did. -/
def fnExactFlatOfUptoRow : OpenClaim := { program := "ytdebkglpapjeiaa", sum := "a403c2159cdcb8752b0f15ed5ec89bc6628c5c3ed5e9a068135b1d5e4fb5b643", func := "loop.example/g00500/laws.FnExactFlatOf", spec := "fnExactFlatOf", recurses := true, loops := true, apart := false, narrowed := true }
def FnExactFlatOfUptoSaid : Prop := fnExactFlatOfUptoRow.holds Try.pinned (OpenSpec.upto fnExactFlatOfSpec)

/-- 'laws.FnExactValuesIn', WHERE WHAT IT READS IS OF BULK AT MOST 1048576: true; the input reads as it did. -/
def fnExactValuesInUptoRow : OpenClaim := { program := "ytdebkglpapjeiaa", sum := "a403c2159cdcb8752b0f15ed5ec89bc6628c5c3ed5e9a068135b1d5e4fb5b643", func := "loop.example/g00500/laws.FnExactValuesIn", spec := "fnExactValuesIn", recurses := true, apart := false, narrowed := true }
def FnExactValuesInUptoSaid : Prop := fnExactValuesInUptoRow.holds Try.pinned (OpenSpec.upto fnExactValuesInSpec)

/-- 'laws.FnShrunkTree', WHERE WHAT IT READS IS OF BULK AT MOST 1048576: true; the input reads as it did. -/
def fnShrunkTreeUptoRow : OpenClaim := { program := "ytdebkglpapjeiaa", sum := "a403c2159cdcb8752b0f15ed5ec89bc6628c5c3ed5e9a068135b1d5e4fb5b643", func := "loop.example/g00500/laws.FnShrunkTree", spec := "fnShrunkTree", unfollowed := true, recurses := true, apart := false, narrowed := true }
def FnShrunkTreeUptoSaid : Prop := fnShrunkTreeUptoRow.holds Try.pinned (OpenSpec.upto fnShrunkTreeSpec)

end Rows
end Go.Proofs.Ytdebkglpapjeiaa
