/-
  The closed call 'alive' answers true: what the kernel reckons.
-/
import Derived.Test.YtcjjmflaaaddgaaGreatDoorAlive
namespace Go.Proofs.YtcjjmflaaaddgaaGreatDoor.Alive
open Go Go.RowKit Go.Proofs.YtcjjmflaaaddgaaGreatDoor.Am
set_option maxRecDepth 100000 in
theorem run_true : Rs.isTrue ((Ex.run Tryz.prog K0 400).call 6 [] (AS.init H0)) = true := by kernel_rfl
theorem alive (w : World) (hw : Holds H0 w) : Calls Tryz.prog 6 #[] w fun e w' => e = .returned (.bool true) ∧ Below w.heap.size w w' :=
  closed_true follows knownOK knownGood ⟨_, Tryz.func6, by kernel_rfl⟩ run_true w hw
end Go.Proofs.YtcjjmflaaaddgaaGreatDoor.Alive
