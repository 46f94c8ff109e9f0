/-
  DERIVED. GIVEN WITH THE SEED: THE CARDS: each row of YtkinfonfjllpmaaDoorRows.lean that lists a variable, with what it lists TIED to the program's text (the seventh form; the later family's looks); each row that meets fmt, with fmt's text TOLD by the authors' own Lean function (tested against real Go, not proved from fmt's source: count such statements apart). THE CARD IS WHAT COUNTS. Prove the row's statement (the work); the ties are given (YtkinfonfjllpmaaDoorTie.lean); close each card by the builder's one call (the guide's Derived/Test/ToyasCard.lean, 'card_holds'). Laid BY PROGRAM, IN A SANDBOX (cutbox-door.mjs). By AI agents, Wed Nov 11 2026. No macro, syntax, notation, axiom, sorry.
-/
import Derived.Test.YtkinfonfjllpmaaDoorRows
import GoSem.ClaimSeven
namespace Go.Proofs.YtkinfonfjllpmaaDoor
namespace Rows

/-- THE TIED CARD OF 'laws.FnExactNodeText'. -/
def fnExactNodeTextCard : Claim7 := { stood := { row := fnExactNodeTextRow, standIns := [], harness := (true, "30f77260261ca27c117a7cc10836a52f2349c3f8b483114cb8fbd89e666c0ab0"), looks := false }, kinds := [], alts := [], laidByText := true, laidKinds := [.data, .data, .data], laidTests := true, laidLooks := .later }
def FnExactNodeTextCardSaid : Prop := Claim7.holds Tryd.pinned (.plain (OpenSpec.ofChange fnExactNodeTextSpec)) fnExactNodeTextCard

/-- THE SECOND FORM's CARD OF 'laws.FnExactNodeText'. -/
def fnExactNodeTextUptoCard : Claim7 := { stood := { row := fnExactNodeTextUptoRow, standIns := [], harness := (true, "30f77260261ca27c117a7cc10836a52f2349c3f8b483114cb8fbd89e666c0ab0"), looks := false }, kinds := [], alts := [], laidByText := true, laidKinds := [.data, .data, .data], laidTests := true, laidLooks := .later }
def FnExactNodeTextUptoCardSaid : Prop := Claim7.holds Tryd.pinned (.plain (OpenSpec.upto fnExactNodeTextSpec)) fnExactNodeTextUptoCard
end Rows
end Go.Proofs.YtkinfonfjllpmaaDoor
