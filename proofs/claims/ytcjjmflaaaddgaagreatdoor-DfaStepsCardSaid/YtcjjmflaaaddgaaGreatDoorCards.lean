/-
  DERIVED. GIVEN WITH THE SEED: THE CARDS: each row of YtcjjmflaaaddgaaGreatDoorRows.lean that lists a variable, with what it lists TIED to the program's text (the seventh form; the later family's looks); each row that meets fmt, with fmt's text TOLD by the authors' own Lean function (tested against real Go, not proved from fmt's source: count such statements apart). THE CARD IS WHAT COUNTS. Prove the row's statement (the work); the ties are given (YtcjjmflaaaddgaaGreatDoorTie.lean); close each card by the builder's one call (the guide's Derived/Test/ToyasCard.lean, 'card_holds'). Laid BY PROGRAM, IN A SANDBOX (cutbox-door.mjs). By AI agents, Wed Nov 11 2026. No macro, syntax, notation, axiom, sorry.
-/
import Derived.Test.YtcjjmflaaaddgaaGreatDoorRows
import GoSem.ClaimSeven
namespace Go.Proofs.YtcjjmflaaaddgaaGreatDoor
namespace Rows

/-- THE TIED CARD OF 'quoinlaw05.DfaSteps'. -/
def dfaStepsCard : Claim7 := { stood := { row := dfaStepsRow, standIns := [], harness := (true, "a1079857314385946f7ff74648838d2a0aa0645b9ba003cd3a8d5957dde7db61"), looks := false }, kinds := [], alts := [], laidByText := true, laidKinds := [.data, .data, .data], laidTests := true, laidLooks := .later }
def DfaStepsCardSaid : Prop := Claim7.holds Tryz.pinned (.plain (OpenSpec.ofChange dfaStepsSpec)) dfaStepsCard

/-- THE SECOND FORM's CARD OF 'quoinlaw05.DfaSteps'. -/
def dfaStepsUptoCard : Claim7 := { stood := { row := dfaStepsUptoRow, standIns := [], harness := (true, "a1079857314385946f7ff74648838d2a0aa0645b9ba003cd3a8d5957dde7db61"), looks := false }, kinds := [], alts := [], laidByText := true, laidKinds := [.data, .data, .data], laidTests := true, laidLooks := .later }
def DfaStepsUptoCardSaid : Prop := Claim7.holds Tryz.pinned (.plain (OpenSpec.upto dfaStepsSpec)) dfaStepsUptoCard
end Rows
end Go.Proofs.YtcjjmflaaaddgaaGreatDoor
