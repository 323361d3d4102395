/-
  DERIVED. GIVEN WITH THE SEED: THE CARDS: each row of YtnkhfkjgedmmjaaGreatDoorRows.lean that lists a variable, with what it lists TIED to the program's text (the seventh form; the later family's looks); each row that meets fmt, with fmt's text TOLD by the authors' own Lean function (tested against real Go, not proved from fmt's source: count such statements apart). THE CARD IS WHAT COUNTS. Prove the row's statement (the work); the ties are given (YtnkhfkjgedmmjaaGreatDoorTie.lean); close each card by the builder's one call (the guide's Derived/Test/ToyasCard.lean, 'card_holds'). Laid BY PROGRAM, IN A SANDBOX (cutbox-door.mjs). By AI agents, Wed Nov 11 2026. No macro, syntax, notation, axiom, sorry.
-/
import Derived.Test.YtnkhfkjgedmmjaaGreatDoorRows
import GoSem.ClaimSeven
namespace Go.Proofs.YtnkhfkjgedmmjaaGreatDoor
namespace Rows

/-- THE TIED CARD OF 'quoinlaw11.ExpandActs'. -/
def expandActsCard : Claim7 := { stood := { row := expandActsRow, standIns := [], harness := (true, "21237d7023ffeb79c8539298622499d0742337242a67a254ae0049b1c946b75c"), looks := true }, kinds := [], alts := [], laidByText := true, laidKinds := [.data, .data, .data], laidTests := true, laidLooks := .later }
def ExpandActsCardSaid : Prop := Claim7.holds Tryz.pinned (.plain (OpenSpec.ofChange expandActsSpec)) expandActsCard

/-- THE SECOND FORM's CARD OF 'quoinlaw11.ExpandActs'. -/
def expandActsUptoCard : Claim7 := { stood := { row := expandActsUptoRow, standIns := [], harness := (true, "21237d7023ffeb79c8539298622499d0742337242a67a254ae0049b1c946b75c"), looks := true }, kinds := [], alts := [], laidByText := true, laidKinds := [.data, .data, .data], laidTests := true, laidLooks := .later }
def ExpandActsUptoCardSaid : Prop := Claim7.holds Tryz.pinned (.plain (OpenSpec.upto expandActsSpec)) expandActsUptoCard
end Rows
end Go.Proofs.YtnkhfkjgedmmjaaGreatDoor
