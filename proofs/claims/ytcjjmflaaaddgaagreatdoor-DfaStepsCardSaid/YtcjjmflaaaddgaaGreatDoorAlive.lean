/-
  The closed call 'alive' answers true: by the abstract machine.
-/
import Derived.Test.YtcjjmflaaaddgaaGreatDoorAm1
import Derived.Test.YtcjjmflaaaddgaaGreatDoorProg
import Derived.Test.YtcjjmflaaaddgaaGreatDoorRising2
import Derived.Tactics
import Derived.Tactics2
import Derived.Recover
namespace Go.Proofs.YtcjjmflaaaddgaaGreatDoor.Alive
open Go Go.RowKit Go.Proofs.YtcjjmflaaaddgaaGreatDoor.Am

noncomputable def K0 : Known := ⟨fun f => if f = 72 then some noEscapeA else if f = 40 then some (sortedKeysA .i32 21) else none, fun _ => false⟩
def pow10 : List Int := [1, 10, 100, 1000, 10000, 100000, 1000000, 10000000, 100000000, 1000000000, 10000000000, 100000000000, 1000000000000, 10000000000000, 100000000000000, 1000000000000000, 10000000000000000, 100000000000000000, 1000000000000000000, 10000000000000000000]
noncomputable def H0 : Trie AO := Trie.set 32 .leaf 0 (.cells (pow10.map fun z => AV.int .u64 z) pow10.length 20 0 0 true)
theorem knownOK : KnownOK Tryz.prog K0 := by
  have p1 : Plain Tryz.prog 72 noEscapeA := Plain.noEscape Tryz.func72 (by kernel_rfl) (by kernel_rfl) (by kernel_rfl) (by kernel_rfl)
  constructor
  · intro f g hg l s t v _ h B ρ w us hv hw hf
    unfold K0 at hg
    simp only at hg
    split at hg
    · rename_i e; subst e; cases hg; exact p1.lands h B ρ w us hv hw
    · split at hg
      · rename_i e; subst e; cases hg; exact sortedKeys_lands Go.Proofs.Tryz.Rising.sortsKeys h B ρ w us hv hw hf
      · cases hg
  · intro f hf
    cases hf
theorem knownGood : KnownGood K0 := by
  have p1 : Plain Tryz.prog 72 noEscapeA := Plain.noEscape Tryz.func72 (by kernel_rfl) (by kernel_rfl) (by kernel_rfl) (by kernel_rfl)
  constructor
  intro f g hg
  unfold K0 at hg
  simp only at hg
  split at hg
  · cases hg; exact p1.good
  · split at hg
    · cases hg; exact sortedKeys_good _ _
    · cases hg
theorem follows : Tryz.prog.follows .mixedOrders = true := by kernel_rfl
end Go.Proofs.YtcjjmflaaaddgaaGreatDoor.Alive
