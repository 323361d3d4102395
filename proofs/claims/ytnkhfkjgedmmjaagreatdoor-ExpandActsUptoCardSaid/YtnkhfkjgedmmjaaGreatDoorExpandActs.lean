/-
  An action whose picks are replaced is the document's, or refused: for every action and every row of actions that hold no more than 2^20 values and letters; the package-level tables are as the program's text lays them.
-/
import Derived.Test.YtnkhfkjgedmmjaaGreatDoorCards
import Derived.Test.YtnkhfkjgedmmjaaGreatDoorTie
import Derived.Test.YtnkhfkjgedmmjaaGreatDoorPure
import Derived.Test.YtnkhfkjgedmmjaaGreatDoorOpens
import Derived.WalkKit
import Derived.ProofKit
import Derived.OpenShut
import Derived.Carry
import Derived.Deep.DeepHandedRow
import Derived.Lib.LaidTab
import Derived.Stop.LaidErr
namespace Go.Proofs.YtnkhfkjgedmmjaaGreatDoor.expandActs
open Go.ChangeShapes Go.WideShapes Go.ChangeAt Go.RowKit
open Go.Proofs.YtnkhfkjgedmmjaaGreatDoor Go.Proofs.YtnkhfkjgedmmjaaGreatDoor.X Go.Proofs.YtnkhfkjgedmmjaaGreatDoor.Opens Go.Proofs.YtnkhfkjgedmmjaaGreatDoorW.PrintWords
set_option linter.unusedVariables false

theorem own : ownKnob Tryz.prog.godebug = none := by kernel_rfl
theorem laidOut : laidOutB Tryz.prog = true := by kernel_rfl
theorem gTab : Tryz.prog.globalNamed "internal/strconv.uint64pow10" = some 0 := by kernel_rfl
theorem gTabType : (Tryz.prog.globals[0]?).map (·.type) = some 201 := by kernel_rfl
theorem cells201 : Tryz.prog.cellsOf 201 = 20 := by kernel_rfl
theorem cells188 : Tryz.prog.cellsOf 188 = 1 := by kernel_rfl
/-- What the row's list gives: the table of tens. -/
theorem holds {W : World} (h : laidMetH Tryz.prog Rows.expandActsUptoRow.laid W) : Am.Holds Alive.H0 W := by
  have h1 : laidMet Tryz.prog [("math/bits.deBruijn32tab", Rows.laid_math_bits_deBruijn32tab), ("math/bits.deBruijn64tab", Rows.laid_math_bits_deBruijn64tab), ("internal/strconv.uint64pow10", Lib.tabData .u64 Alive.pow10)] W := h
  have h2 : Lib.TabIs Tryz.prog W "internal/strconv.uint64pow10" .u64 Alive.pow10 := Lib.tabIs_of_head (rest := []) gTab gTabType Tryz.underlying201 Tryz.underlying188 cells188 cells201 h1.tail.tail
  refine Am.Holds.tab (Am.Holds.leaf W) (by decide) .u64 Alive.pow10 20 (by decide) fun i z hz => ?_
  have hi : i < Alive.pow10.length := (List.getElem?_eq_some_iff.1 hz).1
  have h3 := h2.cell gTab i hi
  rw [List.getD_eq_getElem?_getD, hz] at h3
  exact h3

/-! The arguments. -/
theorem wtL_cnt (l : List S24) : Opens.wtL Trees.cnt l = Trees.cntL l + 1 := by
  unfold Opens.wtL
  congr 1
  induction l with
  | nil => simp [Trees.cntL]
  | cons t r ih => simp [Trees.cntL, ih]
theorem opn24 (n : Nat) : Opn Tryz.prog n 24 k24 Trees.cnt (fun _ => True) := by
  refine Opn.fix (by kernel_rfl) fun k n hk h => ?_
  have hint : Opn Tryz.prog n 3 (Kd.int .i64) (fun _ => 1) (fun z => (Lit.int .i64 z).wf = true) := Opn.int Tryz.underlying3 (by kernel_rfl)
  have hstr : Opn Tryz.prog n 9 Kd.string (fun s => s.size + 1) (fun _ => True) := Opn.string Tryz.underlying9 (by kernel_rfl)
  have hsl : Opn Tryz.prog n 22 (Kd.slice 24 k) (Opens.wtL Trees.cnt) (fun xs => ∀ x ∈ xs, True) := (Opn.slice Tryz.underlying22 (by kernel_rfl) h).le (by omega)
  have hall := Opn.struct Tryz.underlying24 (show Tryz.prog.cellsOf 24 = _ by kernel_rfl) (OpnFs.cons rfl hint (OpnFs.cons rfl hint (OpnFs.cons rfl hstr (OpnFs.one rfl hsl))))
  exact (hall.iso (f := fun x : S24 => (x.f0, x.f1, x.f2, x.f3)) (fun y => ⟨y.1, y.2.1, y.2.2.1, y.2.2.2⟩) (fun _ => rfl)).imp (fun _ _ => trivial) fun x => by
    have e := Trees.cnt_eq x
    have e2 := wtL_cnt x.f3
    simp only [e, e2]; omega

set_option maxRecDepth 100000 in
/-- ████ The law, of every world and every arguments that hold so much at most. -/
theorem contract (H : Type) (enc : TypeId × Value → H) (W : World) (base : Nat) (args : Array Value) (ds gs : List (DataW H)) (before : List MemPlace)
    (hval0 : ∀ (j : Nat) t v, Tryz.f3.params[j]? = some t → args[j]? = some v → Value.okWide Tryz.prog W .any base t v)
    (hW : DataW.Whole enc Tryz.prog Tryz.f3.params.toList Rows.expandActsSpec.vars false W args.toList ds gs before) (hk : Rows.uptoSmall H (ds ++ gs) = true) (hL : laidMetH Tryz.prog Rows.expandActsUptoRow.laid W) :
    Calls Tryz.prog 3 args W fun e W' => ∃ v, e = .returned v ∧ Rows.expandActsSpec.post enc Tryz.prog Tryz.f3 false true false false W args v W' := by
  have hW' := hW
  obtain ⟨p, q, hA0, hV, rfl, hfz, hnd⟩ := hW
  have hA : DataW.TrodAll enc Tryz.prog W 0 (fun _ => true) true Tryz.f3.params.toList args.toList ds p := hA0
  have hval := hval0
  rw [Tryz.params3] at hA hval
  obtain ⟨v0, vs0, d0, ds0, p0, q0, hargs, rfl, rfl, h0, r0⟩ := trodAll_cons hA
  obtain ⟨v1, vs1, d1, ds1, p1, q1, rfl, rfl, rfl, h1, r1⟩ := trodAll_cons r0
  obtain ⟨rfl, rfl, rfl⟩ := trodAll_nil r1
  obtain rfl : args = #[v0, v1] := by cases args; simp_all
  obtain ⟨rfl, rfl⟩ := trodVars_none hV
  have k0 := h0
  have k1 := h1
  have lt0 : ∀ x ∈ p0, x.block < W.heap.size := by obtain ⟨m, hm⟩ := k0; exact DataW.trod_lt m _ _ _ hm
  have lt1 : ∀ x ∈ p1, x.block < W.heap.size := by obtain ⟨m, hm⟩ := k1; exact DataW.trod_lt m _ _ _ hm
  have hb := Opens.bound hk
  simp only [List.append_nil, Rows.uptoBulkAll] at hb
  obtain ⟨cs, t, rfl, hK, _, hw0⟩ := Opens.arg_struct Tryz.underlying24 opn24 (hval 0 24 v0 rfl rfl) h0
  obtain ⟨A1, c1, vs, rfl, hl1, hC, _, hw1⟩ := Opens.arg_slice Tryz.underlying22 (by kernel_rfl) opn24 (hval 1 22 v1 rfl rfl) h1
  obtain ⟨A0, c0, rfl, hl0, hC0⟩ := k24_open hK
  rw [wtL_cnt] at hw1
  obtain ⟨k, hkk⟩ := Trees.law vs t (by omega) (by omega)
  clear hA0 hval0 hval hb hK
  refine (quoinlaw11_ExpandActs.calls k t.f0 t.f1 t.f2 A0 c0 t.f3 A1 c1 vs true W ⟨holds hL⟩ hC0 hl0 hC hl1 hkk).mono fun e W' ⟨he, bel⟩ => ?_
  subst he
  exact ⟨_, rfl, _, _, _, [], _, [], hW', trodAll_mk1 (shut_bool Tryz.underlying4 _), trodAll_cons_mk (Below.trod laidOut (by kernel_rfl) (of_decide_eq_true (by kernel_rfl)) k0 bel lt0) (trodAll_cons_mk (Below.trod laidOut (by kernel_rfl) (of_decide_eq_true (by kernel_rfl)) k1 bel lt1) trodAll_mk0), rfl, bel.frame _, fun h => by cases h⟩

def fill (k : IntKind) (zs : List Int) : Obj → Obj
  | .cells _ t frozen => .cells (zs.map (Value.int k)).toArray t frozen
  | o => o
/-- A world for the witness: the settled one, the tables as their texts lay them. -/
noncomputable def laidWorld (os : Os) : World :=
  { World.holding Tryz.prog os ⟨#[], #[], []⟩ with heap := (((World.holding Tryz.prog os ⟨#[], #[], []⟩).heap.modify 0 (fill .u64 [1, 10, 100, 1000, 10000, 100000, 1000000, 10000000, 100000000, 1000000000, 10000000000, 100000000000, 1000000000000, 10000000000000, 100000000000000, 1000000000000000, 10000000000000000, 100000000000000000, 1000000000000000000, 10000000000000000000])).modify 1 (fill .u8 [0, 1, 28, 2, 29, 14, 24, 3, 30, 22, 20, 15, 25, 17, 4, 8, 31, 27, 13, 23, 21, 19, 16, 7, 26, 12, 18, 6, 11, 5, 10, 9])).modify 2 (fill .u8 [0, 1, 56, 2, 57, 49, 28, 3, 61, 58, 42, 50, 38, 29, 17, 4, 62, 47, 59, 36, 45, 43, 51, 22, 53, 39, 33, 30, 24, 18, 12, 5, 63, 55, 48, 27, 60, 41, 37, 16, 46, 35, 44, 21, 52, 32, 23, 11, 54, 26, 40, 15, 34, 20, 31, 10, 25, 14, 19, 9, 13, 8, 7, 6]) }
def witnessArgs : Array Value := #[.agg #[.int .i64 0, .int .i64 0, .string ByteArray.empty, .slice none 0 0], .slice none 0 0]
theorem laid_met (os : Os) : laidMet Tryz.prog Rows.expandActsUptoRow.laid ((laidWorld os).forCall (fun _ _ => 0) ⟨#[], witnessArgs, []⟩).memory :=
  laidMet_of_run' 8 (by kernel_rfl) (by kernel_rfl)
theorem reads (os : Os) {H : Type} (enc : TypeId × Value → H) : ∃ places, DataW.whole enc Tryz.prog ((laidWorld os).forCall (fun _ _ => 0) ⟨#[], witnessArgs, []⟩).memory Tryz.f3.params.toList Rows.expandActsSpec.vars false witnessArgs.toList 8 = some ([.agg [.lit (.int .i64 0), .lit (.int .i64 0), .lit (.string []), .nil], .nil], [], places) :=
  ⟨[], by kernel_rfl⟩
set_option maxRecDepth 100000 in
theorem lifted (os : Os) (started : os.Started) (H : Type) (enc : TypeId × Value → H) (F : Stop.Interp) :
    ReturnsInHanded {} Tryz.checked os 3 .any ((Rows.OpenSpec.upto Rows.expandActsSpec).preRow enc Tryz.prog Tryz.f3 Rows.expandActsUptoRow.domain false Rows.expandActsUptoRow.laid) (((Rows.OpenSpec.upto Rows.expandActsSpec).at F).post enc Tryz.prog Tryz.f3 false true false false) := by
  obtain ⟨places, hx⟩ := reads os enc
  refine returnsInHanded_of_row (C := Tryz.checked) (s := Rows.OpenSpec.upto Rows.expandActsSpec) own started (by kernel_rfl) Tryz.func3
    (witness_row_at (enc := enc) (C := Tryz.checked) false (laidWorld os) witnessArgs rfl (by kernel_rfl) (by kernel_rfl) (by kernel_rfl)
      (OpenSpec.preRow_of_cond 8 hx (by kernel_rfl) (fun k hk => by cases hk; kernel_rfl) (by kernel_rfl) (laid_met os))) ?_
  intro W base args ds gs before hval hW _ hcond _ hL _ _
  exact contract H enc W base args ds gs before hval hW (hcond _ rfl) hL
theorem said : Rows.ExpandActsUptoSaid :=
  OpenClaim.holds_of_cond 3 Tryz.f3 rfl rfl rfl rfl rfl rfl rfl ⟨rfl, rfl, rfl, rfl, rfl⟩ rfl rfl rfl rfl rfl (by kernel_rfl) Tryz.func3 (by kernel_rfl)
    (of_decide_eq_true (by kernel_rfl)) (by unfold Func.isWrapper; first | (rw [if_pos (by decide +kernel)]; kernel_rfl) | (rw [if_neg (by decide +kernel)]; exact ⟨rfl, rfl⟩))
    (fun os started H enc _ F => by rw [OpenClaim.pre_eq_preRow]; exact lifted os started H enc F)
/-- No parameter wants a stand-in; the program's own looks are off: what the card asks. -/
theorem plain (f : FuncId) (fn : Func) (hf : Tryz.pinned.checked.prog.funcNamed "quoin/quoinlaw11.ExpandActs" = some f) (hfn : Tryz.pinned.checked.prog.funcs[f]? = some fn) :
    true = Tryz.pinned.checked.prog.looks [] ∧ ∀ (j : Nat) t, fn.params[j]? = some t → Tryz.pinned.checked.prog.wantsStandIn t = false := by
  obtain rfl : f = 3 := Option.some.inj ((show Tryz.prog.funcNamed "quoin/quoinlaw11.ExpandActs" = some 3 by kernel_rfl).symm.trans hf) |>.symm
  obtain rfl : fn = Tryz.f3 := (Option.some.inj (Tryz.func3.symm.trans hfn)).symm
  refine ⟨by kernel_rfl, fun j t ht => ?_⟩
  rw [Tryz.params3] at ht
  have hm := Array.mem_of_getElem? ht
  have hm2 : t = 24 ∨ t = 22 := by simpa using hm
  rcases hm2 with rfl | rfl
  · exact (show Tryz.prog.wantsStandIn 24 = false by kernel_rfl)
  · exact (show Tryz.prog.wantsStandIn 22 = false by kernel_rfl)
theorem card : Rows.ExpandActsUptoCardSaid :=
  Claim7.holds_tied_plain_at .later [] _ _ _ _ said (fun _ h => by cases h) (by kernel_rfl) (fun _ h => by cases h) expandActsUpto_row_tie rfl ⟨rfl, rfl⟩ (by kernel_rfl) rfl plain (by kernel_rfl)
#print axioms card
end Go.Proofs.YtnkhfkjgedmmjaaGreatDoor.expandActs
namespace Go.Proofs.YtnkhfkjgedmmjaaGreatDoor
/-- The card, under a short name, for the claim. -/
theorem expandActs_holds : Rows.ExpandActsUptoCardSaid := expandActs.card
end Go.Proofs.YtnkhfkjgedmmjaaGreatDoor
