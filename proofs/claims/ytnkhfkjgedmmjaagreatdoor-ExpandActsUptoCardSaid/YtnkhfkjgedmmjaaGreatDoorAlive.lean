/-
  The closed call 'alive' answers true: by the abstract machine.
-/
import Derived.Test.YtnkhfkjgedmmjaaGreatDoorAm1
import Derived.Test.YtnkhfkjgedmmjaaGreatDoorProg
import Derived.Tactics
import Derived.Tactics2
import Derived.Recover
namespace Go.Proofs.YtnkhfkjgedmmjaaGreatDoor.Alive
open Go Go.RowKit Go.Proofs.YtnkhfkjgedmmjaaGreatDoor.Am

theorem idle : IdleOK Tryz.prog 20 := by
  intro us w
  have hc : (callFunc 20 us).run Tryz.prog w = .ok (.enter 20 us) w := by
    simp [callFunc, Tryz.func20, Tryz.f20]
  refine ⟨hc, (callsD_of_wpS (R := fun e u' w' => e = .returned (.tuple #[]) ∧ u' = .returning ∧ w' = w) Tryz.func20 rfl fun c₀ cs hu => ?_).mono ?_⟩
  · obtain ⟨T, hT⟩ : ∃ T, T = us ++ Array.replicate (Tryz.f20.ntmps - us.size) undef := ⟨_, rfl⟩
    have hs : 20 ≤ T.size := by rw [hT, Array.size_append, Array.size_replicate, Tryz.ntmps20]; omega
    have h6 : 6 < T.size := by omega
    have h3 : 3 < T.size := by omega
    have h7 : 7 < T.size := by omega
    have h8 : 8 < T.size := by omega
    rw [← hT]
    clear hT
    apply wpS_seq
    apply wpS_region
    simp [wpOpsS, go_sem, recoverD, hu, Exit.thenS, h6]
    apply wpS_seq
    apply wpS_region
    simp [wpOpsS, go_sem, Exit.thenS, h3, h7]
    refine wpS_cond (t := false) (by simp [Act.eval, h8]) ?_
    simp only [Bool.false_eq_true, if_false]
    refine wpS_of_wp (wp_skip ?_)
    cases c₀
    simp_all [bodyPostS, results, Tryz.results20]
  · rintro e u' w' ⟨rfl, rfl, rfl⟩
    exact ⟨_, rfl, rfl, Below.refl _ _⟩
noncomputable def K0 : Known := ⟨fun f => if f = 109 then some noEscapeA else if f = 152 then some indexByteB else none, fun f => Nat.beq f 20⟩
def pow10 : List Int := [1, 10, 100, 1000, 10000, 100000, 1000000, 10000000, 100000000, 1000000000, 10000000000, 100000000000, 1000000000000, 10000000000000, 100000000000000, 1000000000000000, 10000000000000000, 100000000000000000, 1000000000000000000, 10000000000000000000]
noncomputable def H0 : Trie AO := Trie.set 32 .leaf 0 (.cells (pow10.map fun z => AV.int .u64 z) pow10.length 20 0 0 true)
theorem knownOK : KnownOK Tryz.prog K0 := by
  have p1 : Plain Tryz.prog 109 noEscapeA := Plain.noEscape Tryz.func109 (by kernel_rfl) (by kernel_rfl) (by kernel_rfl) (by kernel_rfl)
  have p2 : Plain Tryz.prog 152 indexByteB := Plain.indexByte Tryz.func152 (by kernel_rfl) (by kernel_rfl) (by kernel_rfl) (by kernel_rfl)
  constructor
  · intro f g hg l s t v _ h B ρ w us hv hw _
    unfold K0 at hg
    simp only at hg
    split at hg
    · rename_i e; subst e; cases hg; exact p1.lands h B ρ w us hv hw
    · split at hg
      · rename_i e; subst e; cases hg; exact p2.lands h B ρ w us hv hw
      · cases hg
  · intro f hf
    have : f = 20 := Nat.eq_of_beq_eq_true hf
    subst this; exact idle
theorem knownGood : KnownGood K0 := by
  have p1 : Plain Tryz.prog 109 noEscapeA := Plain.noEscape Tryz.func109 (by kernel_rfl) (by kernel_rfl) (by kernel_rfl) (by kernel_rfl)
  have p2 : Plain Tryz.prog 152 indexByteB := Plain.indexByte Tryz.func152 (by kernel_rfl) (by kernel_rfl) (by kernel_rfl) (by kernel_rfl)
  constructor
  intro f g hg
  unfold K0 at hg
  simp only at hg
  split at hg
  · cases hg; exact p1.good
  · split at hg
    · cases hg; exact p2.good
    · cases hg
theorem follows : Tryz.prog.follows .mixedOrders = true := by kernel_rfl
end Go.Proofs.YtnkhfkjgedmmjaaGreatDoor.Alive
