/-
  No cell of these rows narrows 'for every input' (looked for: loops, veiled, ifaces, maps, wideKeys, modest, calm, conditions, laid).
  DERIVED. THE GIVEN ROWS OF THIS SEAT. 7 by the template 'for every input the law returns true; each argument reads behind the call as it read before'; 0 by the template 'total and deterministic' (their statements: YtpcphbbcnmhcnaaGreatTotals.lean).
  GIVEN WITH THE SEED: the statements are not yours to turn. If you find one false, say at which input.
  Laid BY PROGRAM, IN A SANDBOX (cutbox-rows.mjs): the forced cells as the released guide's own fill.sh prints them over the translation 13f27eb8b8f5ff39… (all of the seat's roots in one cut). By AI agents, Wed Nov 11 2026. No macro, syntax, notation, axiom, sorry.
-/
import Derived.Test.YtpcphbbcnmhcnaaGreatChecked
import GoSem.Claim
import GoSem.ClaimJoined
import GoSem.ClaimMapViews
import Derived.JoinedTies
import Derived.KernelRfl
namespace Go.Proofs.YtpcphbbcnmhcnaaGreat
/- THE CELL 'sum', in the pinned program and in every row, IS THE sha256 OF THE DUMP (.gsa) THAT YtpcphbbcnmhcnaaGreatProg.lean LOADS. Nothing in Lean hashes anything: it is a label: what it is worth is what the hold of that sum in a sandbox is worth. -/
noncomputable def Tryz.pinned : Pinned := { name := "ytpcphbbcnmhcnaagreat", sum := "13f27eb8b8f5ff39383b50d6110aaee8e34cdfd19d9ddc1ec6d819085ca4916e", checked := Tryz.checked }
namespace Rows
def none {H : Type} : Left H := { results := [], args := [] }

/-- 'laws.FnRoundsOn': WHATEVER THE INPUT: true; the input reads as it did. -/
def fnRoundsOnSpec : ChangeSpec := { name := "fnRoundsOn", fn := fun _ => fun
  | [d] => { results := [.lit (.bool true)], args := [d] }
  | _ => none }
def fnRoundsOnRow : OpenClaim := { program := "ytpcphbbcnmhcnaagreat", sum := "13f27eb8b8f5ff39383b50d6110aaee8e34cdfd19d9ddc1ec6d819085ca4916e", func := "loop.example/g00500/laws.FnRoundsOn", spec := "fnRoundsOn", inPlace := ["math/bits.Add64", "math/bits.Sub64"], unfollowed := true, recurses := true, apart := false }
def FnRoundsOnSaid : Prop := fnRoundsOnRow.holds Tryz.pinned (OpenSpec.ofChange fnRoundsOnSpec)

/-- ITS FALSE NEIGHBOUR: 'it returns false'. Refute it at one input. -/
def fnRoundsOnWrong : ChangeSpec := { name := "fnRoundsOn", fn := fun _ => fun
  | [d] => { results := [.lit (.bool false)], args := [d] }
  | _ => none }
def FnRoundsOnWrongFalsely : Prop := fnRoundsOnRow.holds Tryz.pinned (OpenSpec.ofChange fnRoundsOnWrong)

/-- 'laws.FnModelFrom': WHATEVER THE INPUT: true; the input reads as it did. -/
def fnModelFromSpec : ChangeSpec := { name := "fnModelFrom", fn := fun _ => fun
  | [d] => { results := [.lit (.bool true)], args := [d] }
  | _ => none }
def fnModelFromRow : OpenClaim := { program := "ytpcphbbcnmhcnaagreat", sum := "13f27eb8b8f5ff39383b50d6110aaee8e34cdfd19d9ddc1ec6d819085ca4916e", func := "loop.example/g00500/laws.FnModelFrom", spec := "fnModelFrom", unfollowed := true, recurses := true, apart := false }
def FnModelFromSaid : Prop := fnModelFromRow.holds Tryz.pinned (OpenSpec.ofChange fnModelFromSpec)

/-- ITS FALSE NEIGHBOUR: 'it returns false'. Refute it at one input. -/
def fnModelFromWrong : ChangeSpec := { name := "fnModelFrom", fn := fun _ => fun
  | [d] => { results := [.lit (.bool false)], args := [d] }
  | _ => none }
def FnModelFromWrongFalsely : Prop := fnModelFromRow.holds Tryz.pinned (OpenSpec.ofChange fnModelFromWrong)

/-- 'laws.FnBoost': WHATEVER THE INPUT: true; the input reads as it did. -/
def fnBoostSpec : ChangeSpec := { name := "fnBoost", fn := fun _ => fun
  | [d] => { results := [.lit (.bool true)], args := [d] }
  | _ => none }
def fnBoostRow : OpenClaim := { program := "ytpcphbbcnmhcnaagreat", sum := "13f27eb8b8f5ff39383b50d6110aaee8e34cdfd19d9ddc1ec6d819085ca4916e", func := "loop.example/g00500/laws.FnBoost", spec := "fnBoost", inPlace := ["math/bits.Add64", "math/bits.Sub64"], unfollowed := true, recurses := true, apart := false }
def FnBoostSaid : Prop := fnBoostRow.holds Tryz.pinned (OpenSpec.ofChange fnBoostSpec)

/-- ITS FALSE NEIGHBOUR: 'it returns false'. Refute it at one input. -/
def fnBoostWrong : ChangeSpec := { name := "fnBoost", fn := fun _ => fun
  | [d] => { results := [.lit (.bool false)], args := [d] }
  | _ => none }
def FnBoostWrongFalsely : Prop := fnBoostRow.holds Tryz.pinned (OpenSpec.ofChange fnBoostWrong)

/-- 'laws.FnPureRound': WHATEVER THE INPUT: true; the input reads as it did. -/
def fnPureRoundSpec : ChangeSpec := { name := "fnPureRound", fn := fun _ => fun
  | [d] => { results := [.lit (.bool true)], args := [d] }
  | _ => none }
def fnPureRoundRow : OpenClaim := { program := "ytpcphbbcnmhcnaagreat", sum := "13f27eb8b8f5ff39383b50d6110aaee8e34cdfd19d9ddc1ec6d819085ca4916e", func := "loop.example/g00500/laws.FnPureRound", spec := "fnPureRound", inPlace := ["math/bits.Add64", "math/bits.Sub64"], unfollowed := true, recurses := true, apart := false }
def FnPureRoundSaid : Prop := fnPureRoundRow.holds Tryz.pinned (OpenSpec.ofChange fnPureRoundSpec)

/-- ITS FALSE NEIGHBOUR: 'it returns false'. Refute it at one input. -/
def fnPureRoundWrong : ChangeSpec := { name := "fnPureRound", fn := fun _ => fun
  | [d] => { results := [.lit (.bool false)], args := [d] }
  | _ => none }
def FnPureRoundWrongFalsely : Prop := fnPureRoundRow.holds Tryz.pinned (OpenSpec.ofChange fnPureRoundWrong)

/-- 'laws.FnRound': WHATEVER THE INPUT: true; the input reads as it did. -/
def fnRoundSpec : ChangeSpec := { name := "fnRound", fn := fun _ => fun
  | [d] => { results := [.lit (.bool true)], args := [d] }
  | _ => none }
def fnRoundRow : OpenClaim := { program := "ytpcphbbcnmhcnaagreat", sum := "13f27eb8b8f5ff39383b50d6110aaee8e34cdfd19d9ddc1ec6d819085ca4916e", func := "loop.example/g00500/laws.FnRound", spec := "fnRound", inPlace := ["math/bits.Add64", "math/bits.Sub64"], unfollowed := true, recurses := true, apart := false }
def FnRoundSaid : Prop := fnRoundRow.holds Tryz.pinned (OpenSpec.ofChange fnRoundSpec)

/-- ITS FALSE NEIGHBOUR: 'it returns false'. Refute it at one input. -/
def fnRoundWrong : ChangeSpec := { name := "fnRound", fn := fun _ => fun
  | [d] => { results := [.lit (.bool false)], args := [d] }
  | _ => none }
def FnRoundWrongFalsely : Prop := fnRoundRow.holds Tryz.pinned (OpenSpec.ofChange fnRoundWrong)

/-- 'laws.FnExactBoost': WHATEVER THE INPUT: true; the input reads as it did. -/
def fnExactBoostSpec : ChangeSpec := { name := "fnExactBoost", fn := fun _ => fun
  | [d1, d2] => { results := [.lit (.bool true)], args := [d1, d2] }
  | _ => none }
def fnExactBoostRow : OpenClaim := { program := "ytpcphbbcnmhcnaagreat", sum := "13f27eb8b8f5ff39383b50d6110aaee8e34cdfd19d9ddc1ec6d819085ca4916e", func := "loop.example/g00500/laws.FnExactBoost", spec := "fnExactBoost", inPlace := ["math/bits.Add64", "math/bits.Sub64"], unfollowed := true, recurses := true, apart := false }
def FnExactBoostSaid : Prop := fnExactBoostRow.holds Tryz.pinned (OpenSpec.ofChange fnExactBoostSpec)

/-- ITS FALSE NEIGHBOUR: 'it returns false'. Refute it at one input. -/
def fnExactBoostWrong : ChangeSpec := { name := "fnExactBoost", fn := fun _ => fun
  | [d1, d2] => { results := [.lit (.bool false)], args := [d1, d2] }
  | _ => none }
def FnExactBoostWrongFalsely : Prop := fnExactBoostRow.holds Tryz.pinned (OpenSpec.ofChange fnExactBoostWrong)

/-- 'laws.FnExactRoundOf': WHATEVER THE INPUT: true; the input reads as it did. -/
def fnExactRoundOfSpec : ChangeSpec := { name := "fnExactRoundOf", fn := fun _ => fun
  | [d1, d2, d3, d4] => { results := [.lit (.bool true)], args := [d1, d2, d3, d4] }
  | _ => none }
def fnExactRoundOfRow : OpenClaim := { program := "ytpcphbbcnmhcnaagreat", sum := "13f27eb8b8f5ff39383b50d6110aaee8e34cdfd19d9ddc1ec6d819085ca4916e", func := "loop.example/g00500/laws.FnExactRoundOf", spec := "fnExactRoundOf", inPlace := ["math/bits.Add64", "math/bits.Sub64"], unfollowed := true, recurses := true, apart := false }
def FnExactRoundOfSaid : Prop := fnExactRoundOfRow.holds Tryz.pinned (OpenSpec.ofChange fnExactRoundOfSpec)

/-- ITS FALSE NEIGHBOUR: 'it returns false'. Refute it at one input. -/
def fnExactRoundOfWrong : ChangeSpec := { name := "fnExactRoundOf", fn := fun _ => fun
  | [d1, d2, d3, d4] => { results := [.lit (.bool false)], args := [d1, d2, d3, d4] }
  | _ => none }
def FnExactRoundOfWrongFalsely : Prop := fnExactRoundOfRow.holds Tryz.pinned (OpenSpec.ofChange fnExactRoundOfWrong)

/- THE SECOND FORM. 'bulk': how many values and letters a reading holds, each counted each time it is reached (what is shared counts as often as it is met; a slice's spare places count too). A statement '..UptoSaid' is the law's where the arguments, and the package variables that the reading takes, are together of bulk at most 1048576: NARROWER than '..Said'. Prove '..Said' where nothing that the law and all that it calls make is longer than what came in: it says more and counts as full. Else prove '..UptoSaid'. A law counts once. -/
mutual
def uptoBulk {H : Type} : DataW H → Nat
  | .lit (.string bytes) => bytes.length + 1
  | .lit _ => 1
  | .nil => 1
  | .ptr d => uptoBulk d + 1
  | .slice elems spare => uptoBulkAll elems + uptoBulkAll spare + 1
  | .agg parts => uptoBulkAll parts + 1
  | .iface _ d => uptoBulk d + 1
  | .map entries => uptoBulkEntries entries + 1
  | .held _ => 1
def uptoBulkAll {H : Type} : List (DataW H) → Nat
  | [] => 0
  | d :: r => uptoBulk d + uptoBulkAll r
def uptoBulkEntries {H : Type} : List (Lit × DataW H) → Nat
  | [] => 0
  | x :: r => uptoBulkEntry x + uptoBulkEntries r
def uptoBulkEntry {H : Type} : Lit × DataW H → Nat
  | (.string bytes, d) => bytes.length + uptoBulk d + 1
  | (_, d) => uptoBulk d + 1
 end
def uptoSmall : (H : Type) → List (DataW H) → Bool := fun _ ds => decide (uptoBulkAll ds ≤ 1048576)
def OpenSpec.upto (s : _root_.Go.ChangeSpec) : _root_.Go.OpenSpec := { _root_.Go.OpenSpec.ofChange s with cond := some uptoSmall }

/-- 'laws.FnRoundsOn', WHERE WHAT IT READS IS OF BULK AT MOST 1048576: true; the input reads as it did. -/
def fnRoundsOnUptoRow : OpenClaim := { program := "ytpcphbbcnmhcnaagreat", sum := "13f27eb8b8f5ff39383b50d6110aaee8e34cdfd19d9ddc1ec6d819085ca4916e", func := "loop.example/g00500/laws.FnRoundsOn", spec := "fnRoundsOn", inPlace := ["math/bits.Add64", "math/bits.Sub64"], unfollowed := true, recurses := true, apart := false, narrowed := true }
def FnRoundsOnUptoSaid : Prop := fnRoundsOnUptoRow.holds Tryz.pinned (OpenSpec.upto fnRoundsOnSpec)

/-- 'laws.FnModelFrom', WHERE WHAT IT READS IS OF BULK AT MOST 1048576: true; the input reads as it did. -/
def fnModelFromUptoRow : OpenClaim := { program := "ytpcphbbcnmhcnaagreat", sum := "13f27eb8b8f5ff39383b50d6110aaee8e34cdfd19d9ddc1ec6d819085ca4916e", func := "loop.example/g00500/laws.FnModelFrom", spec := "fnModelFrom", unfollowed := true, recurses := true, apart := false, narrowed := true }
def FnModelFromUptoSaid : Prop := fnModelFromUptoRow.holds Tryz.pinned (OpenSpec.upto fnModelFromSpec)

/-- 'laws.FnBoost', WHERE WHAT IT READS IS OF BULK AT MOST 1048576: true; the input reads as it did. -/
def fnBoostUptoRow : OpenClaim := { program := "ytpcphbbcnmhcnaagreat", sum := "13f27eb8b8f5ff39383b50d6110aaee8e34cdfd19d9ddc1ec6d819085ca4916e", func := "loop.example/g00500/laws.FnBoost", spec := "fnBoost", inPlace := ["math/bits.Add64", "math/bits.Sub64"], unfollowed := true, recurses := true, apart := false, narrowed := true }
def FnBoostUptoSaid : Prop := fnBoostUptoRow.holds Tryz.pinned (OpenSpec.upto fnBoostSpec)

/-- 'laws.FnPureRound', WHERE WHAT IT READS IS OF BULK AT MOST 1048576: true; the input reads as it did. -/
def fnPureRoundUptoRow : OpenClaim := { program := "ytpcphbbcnmhcnaagreat", sum := "13f27eb8b8f5ff39383b50d6110aaee8e34cdfd19d9ddc1ec6d819085ca4916e", func := "loop.example/g00500/laws.FnPureRound", spec := "fnPureRound", inPlace := ["math/bits.Add64", "math/bits.Sub64"], unfollowed := true, recurses := true, apart := false, narrowed := true }
def FnPureRoundUptoSaid : Prop := fnPureRoundUptoRow.holds Tryz.pinned (OpenSpec.upto fnPureRoundSpec)

/-- 'laws.FnRound', WHERE WHAT IT READS IS OF BULK AT MOST 1048576: true; the input reads as it did. -/
def fnRoundUptoRow : OpenClaim := { program := "ytpcphbbcnmhcnaagreat", sum := "13f27eb8b8f5ff39383b50d6110aaee8e34cdfd19d9ddc1ec6d819085ca4916e", func := "loop.example/g00500/laws.FnRound", spec := "fnRound", inPlace := ["math/bits.Add64", "math/bits.Sub64"], unfollowed := true, recurses := true, apart := false, narrowed := true }
def FnRoundUptoSaid : Prop := fnRoundUptoRow.holds Tryz.pinned (OpenSpec.upto fnRoundSpec)

/-- 'laws.FnExactBoost', WHERE WHAT IT READS IS OF BULK AT MOST 1048576: true; the input reads as it did. -/
def fnExactBoostUptoRow : OpenClaim := { program := "ytpcphbbcnmhcnaagreat", sum := "13f27eb8b8f5ff39383b50d6110aaee8e34cdfd19d9ddc1ec6d819085ca4916e", func := "loop.example/g00500/laws.FnExactBoost", spec := "fnExactBoost", inPlace := ["math/bits.Add64", "math/bits.Sub64"], unfollowed := true, recurses := true, apart := false, narrowed := true }
def FnExactBoostUptoSaid : Prop := fnExactBoostUptoRow.holds Tryz.pinned (OpenSpec.upto fnExactBoostSpec)

/-- 'laws.FnExactRoundOf', WHERE WHAT IT READS IS OF BULK AT MOST 1048576: true; the input reads as it did. -/
def fnExactRoundOfUptoRow : OpenClaim := { program := "ytpcphbbcnmhcnaagreat", sum := "13f27eb8b8f5ff39383b50d6110aaee8e34cdfd19d9ddc1ec6d819085ca4916e", func := "loop.example/g00500/laws.FnExactRoundOf", spec := "fnExactRoundOf", inPlace := ["math/bits.Add64", "math/bits.Sub64"], unfollowed := true, recurses := true, apart := false, narrowed := true }
def FnExactRoundOfUptoSaid : Prop := fnExactRoundOfUptoRow.holds Tryz.pinned (OpenSpec.upto fnExactRoundOfSpec)

end Rows
end Go.Proofs.YtpcphbbcnmhcnaaGreat
