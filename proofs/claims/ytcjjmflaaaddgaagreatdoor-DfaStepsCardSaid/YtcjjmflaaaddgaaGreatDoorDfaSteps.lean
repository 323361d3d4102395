/-
  Where an automaton goes, what it accepts, and the longest beginning that it accepts, is told as the document says: for every automaton, state and text; the package-level tables are as the program's text lays them.
-/
import Derived.Test.YtcjjmflaaaddgaaGreatDoorCards
import Derived.Test.YtcjjmflaaaddgaaGreatDoorTie
import Derived.Test.YtcjjmflaaaddgaaGreatDoorPure
import Derived.Test.YtcjjmflaaaddgaaGreatDoorX7
import Derived.Test.YtcjjmflaaaddgaaGreatDoorOpens
import Derived.WalkKit
import Derived.ProofKit
import Derived.OpenShut
import Derived.Carry
import Derived.Deep.DeepHandedRow
import Derived.Lib.LaidTab
import Derived.Stop.LaidErr
namespace Go.Proofs.YtcjjmflaaaddgaaGreatDoor.dfaSteps
open Go.ChangeShapes Go.WideShapes Go.ChangeAt Go.RowKit
open Go.Proofs.YtcjjmflaaaddgaaGreatDoor Go.Proofs.YtcjjmflaaaddgaaGreatDoor.X Go.Proofs.YtcjjmflaaaddgaaGreatDoor.Opens Go.Proofs.YtcjjmflaaaddgaaGreatDoorW.PrintWords
set_option linter.unusedVariables false

theorem own : ownKnob Tryz.prog.godebug = none := by kernel_rfl
theorem laidOut : laidOutB Tryz.prog = true := by kernel_rfl
theorem gTab : Tryz.prog.globalNamed "internal/strconv.uint64pow10" = some 0 := by kernel_rfl
theorem gTabType : (Tryz.prog.globals[0]?).map (·.type) = some 176 := by kernel_rfl
theorem cells176 : Tryz.prog.cellsOf 176 = 20 := by kernel_rfl
theorem cells151 : Tryz.prog.cellsOf 151 = 1 := by kernel_rfl
/-- What the row's list gives: the table of tens. -/
theorem holds {W : World} (h : laidMetH Tryz.prog Rows.dfaStepsRow.laid W) : Am.Holds Alive.H0 W := by
  have h1 : laidMet Tryz.prog [("math/bits.deBruijn32tab", Rows.laid_math_bits_deBruijn32tab), ("math/bits.deBruijn64tab", Rows.laid_math_bits_deBruijn64tab), ("internal/strconv.uint64pow10", Lib.tabData .u64 Alive.pow10)] W := h
  have h2 : Lib.TabIs Tryz.prog W "internal/strconv.uint64pow10" .u64 Alive.pow10 := Lib.tabIs_of_head (rest := []) gTab gTabType Tryz.underlying176 Tryz.underlying151 cells151 cells176 h1.tail.tail
  refine Am.Holds.tab (Am.Holds.leaf W) (by decide) .u64 Alive.pow10 20 (by decide) fun i z hz => ?_
  have hi : i < Alive.pow10.length := (List.getElem?_eq_some_iff.1 hz).1
  have h3 := h2.cell gTab i hi
  rw [List.getD_eq_getElem?_getD, hz] at h3
  exact h3

/-! The arguments. -/
theorem opn3 (n : Nat) : Opn Tryz.prog n 3 (Kd.int .i64) (fun _ => 1) (fun z => (Lit.int .i64 z).wf = true) := Opn.int Tryz.underlying3 (by kernel_rfl)
theorem opn21 (n : Nat) : Opn Tryz.prog n 21 (Kd.int .i32) (fun _ => 1) (fun z => (Lit.int .i32 z).wf = true) := Opn.int Tryz.underlying21 (by kernel_rfl)
theorem opn22 (n : Nat) : Opn Tryz.prog n 22 (Kd.slice 21 (Kd.int .i32)) (fun _ => 0) (fun _ => True) := ((Opn.slice Tryz.underlying22 (show Tryz.prog.cellsOf 22 = 1 by kernel_rfl) (opn21 n)).le (Nat.le_succ n)).imp (fun _ _ => trivial) (fun _ => Nat.zero_le _)
theorem opn24 (n : Nat) : Opn Tryz.prog n 24 (Kd.slice 3 (Kd.int .i64)) (fun _ => 0) (fun _ => True) := ((Opn.slice Tryz.underlying24 (show Tryz.prog.cellsOf 24 = 1 by kernel_rfl) (opn3 n)).le (Nat.le_succ n)).imp (fun _ _ => trivial) (fun _ => Nat.zero_le _)
theorem opn23 (n : Nat) : Opn Tryz.prog n 23 (Kd.slice 24 (Kd.slice 3 (Kd.int .i64))) (fun _ => 0) (fun _ => True) := ((Opn.slice Tryz.underlying23 (show Tryz.prog.cellsOf 23 = 1 by kernel_rfl) (opn24 n)).le (Nat.le_succ n)).imp (fun _ _ => trivial) (fun _ => Nat.zero_le _)
theorem opn26 (n : Nat) : Opn Tryz.prog n 26 (Kd.pair (Kd.slice 21 (Kd.int .i32)) (Kd.pair (Kd.slice 24 (Kd.slice 3 (Kd.int .i64))) (Kd.slice 3 (Kd.int .i64)))) (fun _ => 0) (fun _ => True) :=
  ((Opn.struct Tryz.underlying26 (show Tryz.prog.cellsOf 26 = _ by kernel_rfl) (OpnFs.cons rfl (opn22 n) (OpnFs.cons rfl (opn23 n) (OpnFs.one rfl (opn24 n))))).le (Nat.le_succ n)).imp (fun _ _ => trivial) (fun _ => Nat.zero_le _)

set_option maxRecDepth 100000 in
/-- ████ The law, of every world and every arguments that hold so much at most. -/
theorem contract (H : Type) (enc : TypeId × Value → H) (W : World) (base : Nat) (args : Array Value) (ds gs : List (DataW H)) (before : List MemPlace)
    (hval0 : ∀ (j : Nat) t v, Tryz.f3.params[j]? = some t → args[j]? = some v → Value.okWide Tryz.prog W .any base t v)
    (hW : DataW.Whole enc Tryz.prog Tryz.f3.params.toList Rows.dfaStepsSpec.vars false W args.toList ds gs before) (hL : laidMetH Tryz.prog Rows.dfaStepsRow.laid W) :
    Calls Tryz.prog 3 args W fun e W' => ∃ v, e = .returned v ∧ Rows.dfaStepsSpec.post enc Tryz.prog Tryz.f3 false true false false W args v W' := by
  have hW' := hW
  obtain ⟨p, q, hA0, hV, rfl, hfz, hnd⟩ := hW
  have hA : DataW.TrodAll enc Tryz.prog W 0 (fun _ => true) true Tryz.f3.params.toList args.toList ds p := hA0
  have hval := hval0
  rw [Tryz.params3] at hA hval
  obtain ⟨v0, vs0, d0, ds0, p0, q0, hargs, rfl, rfl, h0, r0⟩ := trodAll_cons hA
  obtain ⟨v1, vs1, d1, ds1, p1, q1, rfl, rfl, rfl, h1, r1⟩ := trodAll_cons r0
  obtain ⟨v2, vs2, d2, ds2, p2, q2, rfl, rfl, rfl, h2, r2⟩ := trodAll_cons r1
  obtain ⟨rfl, rfl, rfl⟩ := trodAll_nil r2
  obtain rfl : args = #[v0, v1, v2] := by cases args; simp_all
  obtain ⟨rfl, rfl⟩ := trodVars_none hV
  have k0 := h0
  have k1 := h1
  have k2 := h2
  have lt0 : ∀ x ∈ p0, x.block < W.heap.size := by obtain ⟨m, hm⟩ := k0; exact DataW.trod_lt m _ _ _ hm
  have lt1 : ∀ x ∈ p1, x.block < W.heap.size := by obtain ⟨m, hm⟩ := k1; exact DataW.trod_lt m _ _ _ hm
  have lt2 : ∀ x ∈ p2, x.block < W.heap.size := by obtain ⟨m, hm⟩ := k2; exact DataW.trod_lt m _ _ _ hm
  obtain ⟨cs, t, rfl, hK, _, _⟩ := Opens.arg_struct Tryz.underlying26 opn26 (hval 0 26 v0 rfl rfl) h0
  obtain ⟨s, rfl, _⟩ := Opens.arg_int Tryz.underlying3 (hval 1 3 v1 rfl rfl) h1
  obtain ⟨A2, c2, l, rfl, hl2, hC2, _, _⟩ := Opens.arg_slice Tryz.underlying22 (by kernel_rfl) opn21 (hval 2 22 v2 rfl rfl) h2
  obtain ⟨lows, next, rule⟩ := t
  obtain ⟨x0, y0, rfl, ⟨A0, c0, rfl, hl0, hC0⟩, x1, y1, rfl, ⟨A1, c1, rfl, hl1, hC1⟩, ⟨A3, c3, rfl, hl3, hC3⟩⟩ := hK
  obtain ⟨k, hkk⟩ := Steps.law (next := next) (Kd.C_max hC0) (Kd.C_max hC3) s l (Kd.C_max hC2)
  clear hA0 hval0 hval
  refine (quoinlaw05_DfaSteps.calls k A0 c0 lows A1 c1 next A3 c3 rule s A2 c2 l true ⟨rfl⟩ W ⟨holds hL⟩ hC0 hl0 hC1 hl1 hC3 hl3 hC2 hl2 hkk).mono fun e W' ⟨he, bel⟩ => ?_
  subst he
  exact ⟨_, rfl, _, _, _, [], _, [], hW', trodAll_mk1 (shut_bool Tryz.underlying4 _), trodAll_cons_mk (Below.trod laidOut (by kernel_rfl) (of_decide_eq_true (by kernel_rfl)) k0 bel lt0) (trodAll_cons_mk (Below.trod laidOut (by kernel_rfl) (of_decide_eq_true (by kernel_rfl)) k1 bel lt1) (trodAll_cons_mk (Below.trod laidOut (by kernel_rfl) (of_decide_eq_true (by kernel_rfl)) k2 bel lt2) trodAll_mk0)), rfl, bel.frame _, fun h => by cases h⟩

def fill (k : IntKind) (zs : List Int) : Obj → Obj
  | .cells _ t frozen => .cells (zs.map (Value.int k)).toArray t frozen
  | o => o
/-- A world for the witness: the settled one, the tables as their texts lay them. -/
noncomputable def laidWorld (os : Os) : World :=
  { World.holding Tryz.prog os ⟨#[], #[], []⟩ with heap := (((World.holding Tryz.prog os ⟨#[], #[], []⟩).heap.modify 0 (fill .u64 [1, 10, 100, 1000, 10000, 100000, 1000000, 10000000, 100000000, 1000000000, 10000000000, 100000000000, 1000000000000, 10000000000000, 100000000000000, 1000000000000000, 10000000000000000, 100000000000000000, 1000000000000000000, 10000000000000000000])).modify 1 (fill .u8 [0, 1, 28, 2, 29, 14, 24, 3, 30, 22, 20, 15, 25, 17, 4, 8, 31, 27, 13, 23, 21, 19, 16, 7, 26, 12, 18, 6, 11, 5, 10, 9])).modify 2 (fill .u8 [0, 1, 56, 2, 57, 49, 28, 3, 61, 58, 42, 50, 38, 29, 17, 4, 62, 47, 59, 36, 45, 43, 51, 22, 53, 39, 33, 30, 24, 18, 12, 5, 63, 55, 48, 27, 60, 41, 37, 16, 46, 35, 44, 21, 52, 32, 23, 11, 54, 26, 40, 15, 34, 20, 31, 10, 25, 14, 19, 9, 13, 8, 7, 6]) }
def witnessArgs : Array Value := #[.agg #[.slice none 0 0, .slice none 0 0, .slice none 0 0], .int .i64 0, .slice none 0 0]
theorem laid_met (os : Os) : laidMet Tryz.prog Rows.dfaStepsRow.laid ((laidWorld os).forCall (fun _ _ => 0) ⟨#[], witnessArgs, []⟩).memory :=
  laidMet_of_run' 8 (by kernel_rfl) (by kernel_rfl)
theorem reads (os : Os) {H : Type} (enc : TypeId × Value → H) : ∃ places, DataW.whole enc Tryz.prog ((laidWorld os).forCall (fun _ _ => 0) ⟨#[], witnessArgs, []⟩).memory Tryz.f3.params.toList Rows.dfaStepsSpec.vars false witnessArgs.toList 8 = some ([.agg [.nil, .nil, .nil], .lit (.int .i64 0), .nil], [], places) :=
  ⟨[], by kernel_rfl⟩
set_option maxRecDepth 100000 in
theorem lifted (os : Os) (started : os.Started) (H : Type) (enc : TypeId × Value → H) (F : Stop.Interp) :
    ReturnsInHanded {} Tryz.checked os 3 .any ((OpenSpec.ofChange Rows.dfaStepsSpec).preRow enc Tryz.prog Tryz.f3 Rows.dfaStepsRow.domain false Rows.dfaStepsRow.laid) (((OpenSpec.ofChange Rows.dfaStepsSpec).at F).post enc Tryz.prog Tryz.f3 false true false false) := by
  obtain ⟨places, hx⟩ := reads os enc
  refine returnsInHanded_of_row (C := Tryz.checked) (s := OpenSpec.ofChange Rows.dfaStepsSpec) own started (by kernel_rfl) Tryz.func3
    (witness_row_at (enc := enc) (C := Tryz.checked) false (laidWorld os) witnessArgs rfl (by kernel_rfl) (by kernel_rfl) (by kernel_rfl)
      (OpenSpec.preRow_of_cond 8 hx (by kernel_rfl) (fun k hk => by cases hk) (by kernel_rfl) (laid_met os))) ?_
  intro W base args ds gs before hval hW _ hcond _ hL _ _
  exact contract H enc W base args ds gs before hval hW hL
theorem said : Rows.DfaStepsSaid :=
  OpenClaim.holds_of_cond 3 Tryz.f3 rfl rfl rfl rfl rfl rfl rfl ⟨rfl, rfl, rfl, rfl, rfl⟩ rfl rfl rfl rfl rfl (by kernel_rfl) Tryz.func3 (by kernel_rfl)
    (of_decide_eq_true (by kernel_rfl)) (by unfold Func.isWrapper; first | (rw [if_pos (by decide +kernel)]; kernel_rfl) | (rw [if_neg (by decide +kernel)]; exact ⟨rfl, rfl⟩))
    (fun os started H enc _ F => by rw [OpenClaim.pre_eq_preRow]; exact lifted os started H enc F)
/-- No parameter wants a stand-in; the program's own looks are off: what the card asks. -/
theorem plain (f : FuncId) (fn : Func) (hf : Tryz.pinned.checked.prog.funcNamed "quoin/quoinlaw05.DfaSteps" = some f) (hfn : Tryz.pinned.checked.prog.funcs[f]? = some fn) :
    false = Tryz.pinned.checked.prog.looks [] ∧ ∀ (j : Nat) t, fn.params[j]? = some t → Tryz.pinned.checked.prog.wantsStandIn t = false := by
  obtain rfl : f = 3 := Option.some.inj ((show Tryz.prog.funcNamed "quoin/quoinlaw05.DfaSteps" = some 3 by kernel_rfl).symm.trans hf) |>.symm
  obtain rfl : fn = Tryz.f3 := (Option.some.inj (Tryz.func3.symm.trans hfn)).symm
  refine ⟨by kernel_rfl, fun j t ht => ?_⟩
  rw [Tryz.params3] at ht
  have hm := Array.mem_of_getElem? ht
  have hm2 : t = 26 ∨ t = 3 ∨ t = 22 := by simpa using hm
  rcases hm2 with rfl | rfl | rfl
  · exact (show Tryz.prog.wantsStandIn 26 = false by kernel_rfl)
  · exact (show Tryz.prog.wantsStandIn 3 = false by kernel_rfl)
  · exact (show Tryz.prog.wantsStandIn 22 = false by kernel_rfl)
theorem card : Rows.DfaStepsCardSaid :=
  Claim7.holds_tied_plain_at .later [] _ _ _ _ said (fun _ h => by cases h) (by kernel_rfl) (fun _ h => by cases h) dfaSteps_row_tie rfl ⟨rfl, rfl⟩ (by kernel_rfl) rfl plain (by kernel_rfl)
#print axioms card
end Go.Proofs.YtcjjmflaaaddgaaGreatDoor.dfaSteps
namespace Go.Proofs.YtcjjmflaaaddgaaGreatDoor
/-- The card, under a short name, for the claim. -/
theorem dfaSteps_holds : Rows.DfaStepsCardSaid := dfaSteps.card
end Go.Proofs.YtcjjmflaaaddgaaGreatDoor
