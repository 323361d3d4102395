/-
  Of automata: the program's functions and the document's tell the same.
-/
import Derived.Test.YtcjjmflaaaddgaaGreatDoorX7
import Derived.Test.YtcjjmflaaaddgaaGreatDoorX5
import Derived.Test.YtcjjmflaaaddgaaGreatDoorX6
namespace Go.Proofs.YtcjjmflaaaddgaaGreatDoor.Steps
open Go.RowKit Go.Proofs.YtcjjmflaaaddgaaGreatDoor.X Go.Proofs.YtcjjmflaaaddgaaGreatDoorW.PrintWords Go.Proofs.YtcjjmflaaaddgaaGreatDoorW.PrintLast

theorem Ev.eq {α : Type} {g : Nat → Option α} {r q : α} (h : Ev g r) (e : r = q) : Ev g q := e ▸ h
theorem Ev.bnd {α β : Type} {F : Nat → Option β} {g : Nat → Option α} {f : Nat → α → Option β} {a : α} {r : β} (e : ∀ k, F k = (g k).bind (f k)) (h : Ev g a) (k : Ev (fun n => f n a) r) : Ev F r := Ev.congr e (Ev.bind h k)
theorem wrap_succ (i : Nat) (h : i < 9223372036854775807) : wrap64 ((i : Int) + 1) = ((i + 1 : Nat) : Int) := by unfold wrap64; omega
theorem wrap_pred (i : Nat) (h : i < 9223372036854775807) : wrap64 (((i + 1 : Nat) : Int) - 1) = (i : Int) := by unfold wrap64; omega

def lowsOk (lows : List Int) : Nat → Nat → Bool
  | 0, _ => true
  | d + 1, i => decide (rd lows (i : Int) < rd lows ((i + 1 : Nat) : Int)) && (decide (rd lows ((i + 1 : Nat) : Int) ≤ 1114111) && lowsOk lows d (i + 1))
def rowOk (n : Nat) (row : List Int) : Nat → Nat → Bool
  | 0, _ => true
  | d + 1, i => decide (-1 ≤ rd row (i : Int)) && (decide (rd row (i : Int) < n) && rowOk n row d (i + 1))
def rowsOk (lows : List Int) (next : List (List Int)) (rule : List Int) : Nat → Nat → Bool
  | 0, _ => true
  | d + 1, i => decide ((rd_L1 next (i : Int)).length = lows.length) && (decide (-1 ≤ rd rule (i : Int)) && (rowOk rule.length (rd_L1 next (i : Int)) lows.length 0 && rowsOk lows next rule d (i + 1)))
def mayB (lows : List Int) (next : List (List Int)) (rule : List Int) : Bool :=
  decide (0 < lows.length) && (decide (0 < rule.length) && (decide (next.length = rule.length) && (decide (rd lows 0 = 0) && (lowsOk lows (lows.length - 1) 0 && rowsOk lows next rule rule.length 0))))
def chk (b : Bool) : Int := if b = true then 0 else 51

section
variable {lows : List Int} {next : List (List Int)} {rule : List Int}

theorem check_l2 (hn : next.length = rule.length) (row : List Int) (s : Nat) (R : Bool) (hl : row.length ≤ 9223372036854775807)
    (cont : Ev (fun k => dfa_Check.l1 k next (next.length : Int) (wrap64 ((s : Int) + 1)) lows next rule) (chk R)) :
    ∀ d i, i + d = row.length → Ev (fun k => dfa_Check.l2 k next (next.length : Int) (s : Int) row (row.length : Int) (i : Int) lows next rule) (chk (rowOk rule.length row d i && R))
  | 0, i, h => Ev.step (f := fun k => dfa_Check.l1 k next (next.length : Int) (wrap64 ((s : Int) + 1)) lows next rule) (fun k => by simp only [dfa_Check.l2]; rw [if_neg (by omega)]) (Ev.eq cont (by simp [rowOk]))
  | d + 1, i, h => by
    by_cases h1 : rd row (i : Int) < -1
    · refine Ev.eq (Ev.step (f := fun _ => some 51) (fun k => by simp only [dfa_Check.l2]; rw [if_pos (by omega), if_pos (by omega), if_pos (by omega), if_pos h1]) (Ev.now _)) ?_
      simp only [rowOk]; rw [decide_eq_false (show ¬ -1 ≤ rd row (i : Int) by omega)]; rfl
    · by_cases h2 : rd row (i : Int) ≥ (next.length : Int)
      · refine Ev.eq (Ev.step (f := fun _ => some 51) (fun k => by simp only [dfa_Check.l2]; rw [if_pos (by omega), if_pos (by omega), if_pos (by omega), if_neg h1, if_pos h2]) (Ev.now _)) ?_
        simp only [rowOk]; rw [decide_eq_false (show ¬ rd row (i : Int) < (rule.length : Int) by omega)]; simp [chk]
      · refine Ev.eq (Ev.step (f := fun k => dfa_Check.l2 k next (next.length : Int) (s : Int) row (row.length : Int) ((i + 1 : Nat) : Int) lows next rule) (fun k => by simp only [dfa_Check.l2]; rw [if_pos (by omega), if_pos (by omega), if_pos (by omega), if_neg h1, if_neg h2, wrap_succ i (by omega)]) (check_l2 hn row s R hl cont d (i + 1) (by omega))) ?_
        simp only [rowOk]; rw [decide_eq_true (show -1 ≤ rd row (i : Int) by omega), decide_eq_true (show rd row (i : Int) < (rule.length : Int) by omega)]; simp

theorem check_l1 (hn : next.length = rule.length) (hl : lows.length ≤ 9223372036854775807) (hr : rule.length ≤ 9223372036854775807) :
    ∀ d i, i + d = next.length → Ev (fun k => dfa_Check.l1 k next (next.length : Int) (i : Int) lows next rule) (chk (rowsOk lows next rule d i))
  | 0, i, h => Ev.step (f := fun _ => some 0) (fun k => by simp only [dfa_Check.l1]; rw [if_neg (by omega)]) (Ev.now _)
  | d + 1, i, h => by
    by_cases h1 : ((rd_L1 next (i : Int)).length : Int) = (lows.length : Int)
    · refine Ev.eq (Ev.step (f := fun k => dfa_Check.j3 k (rd_L1 next (i : Int)) next (next.length : Int) (i : Int) (decide (rd rule (i : Int) < (-1))) lows next rule) (fun k => by simp only [dfa_Check.l1]; rw [if_pos (by omega), if_pos (by omega), if_pos (by omega), if_pos h1, if_pos (by omega)]) (r := chk (decide (-1 ≤ rd rule (i : Int)) && (rowOk rule.length (rd_L1 next (i : Int)) lows.length 0 && rowsOk lows next rule d (i + 1)))) ?_) ?_
      · by_cases h2 : rd rule (i : Int) < -1
        · refine Ev.eq (Ev.step (f := fun _ => some 51) (fun k => by simp only [dfa_Check.j3]; rw [if_pos (decide_eq_true h2)]) (Ev.now _)) ?_
          rw [decide_eq_false (show ¬ -1 ≤ rd rule (i : Int) by omega)]; rfl
        · refine Ev.step (f := fun k => dfa_Check.l2 k next (next.length : Int) (i : Int) (rd_L1 next (i : Int)) ((rd_L1 next (i : Int)).length : Int) ((0 : Nat) : Int) lows next rule) (fun k => by simp only [dfa_Check.j3]; rw [if_neg (by simpa using h2)]; rfl) ?_
          refine Ev.eq (check_l2 hn (rd_L1 next (i : Int)) i (rowsOk lows next rule d (i + 1)) (by omega) ?_ (rd_L1 next (i : Int)).length 0 (by omega)) ?_
          · rw [wrap_succ i (by omega)]; exact check_l1 hn hl hr d (i + 1) (by omega)
          · rw [decide_eq_true (show -1 ≤ rd rule (i : Int) by omega), show (rd_L1 next (i : Int)).length = lows.length by omega]; simp
      · simp only [rowsOk]; rw [decide_eq_true (show (rd_L1 next (i : Int)).length = lows.length by omega)]; simp
    · refine Ev.eq (Ev.step (f := fun k => dfa_Check.j3 k (rd_L1 next (i : Int)) next (next.length : Int) (i : Int) true lows next rule) (fun k => by simp only [dfa_Check.l1]; rw [if_pos (by omega), if_pos (by omega), if_pos (by omega), if_neg h1]) (Ev.step (f := fun _ => some 51) (fun k => by simp only [dfa_Check.j3]; rfl) (Ev.now _))) ?_
      simp only [rowsOk]; rw [decide_eq_false (show ¬ (rd_L1 next (i : Int)).length = lows.length by omega)]; rfl

theorem check_l0 (hn : next.length = rule.length) (hl : lows.length ≤ 9223372036854775807) (hr : rule.length ≤ 9223372036854775807) :
    ∀ d i, i + 1 + d = lows.length → Ev (fun k => dfa_Check.l0 k ((i + 1 : Nat) : Int) lows next rule) (chk (lowsOk lows d i && rowsOk lows next rule rule.length 0))
  | 0, i, h => Ev.step (f := fun k => dfa_Check.l1 k next (next.length : Int) ((0 : Nat) : Int) lows next rule) (fun k => by simp only [dfa_Check.l0]; rw [if_neg (by omega)]; rfl) (Ev.eq (check_l1 hn hl hr next.length 0 (by omega)) (by simp [lowsOk, hn]))
  | d + 1, i, h => by
    have w1 : wrap64 (((i + 1 : Nat) : Int) - 1) = (i : Int) := wrap_pred i (by omega)
    by_cases h1 : rd lows ((i + 1 : Nat) : Int) ≤ rd lows (i : Int)
    · refine Ev.eq (Ev.step (f := fun _ => some 51) (fun k => by simp only [dfa_Check.l0]; rw [w1, if_pos (by omega), if_pos (by omega), if_pos (by omega), if_pos (by omega), if_pos h1]) (Ev.now _)) ?_
      simp only [lowsOk]; rw [decide_eq_false (show ¬ rd lows (i : Int) < rd lows ((i + 1 : Nat) : Int) by omega)]; rfl
    · by_cases h2 : rd lows ((i + 1 : Nat) : Int) > 1114111
      · refine Ev.eq (Ev.step (f := fun _ => some 51) (fun k => by simp only [dfa_Check.l0]; rw [w1, if_pos (by omega), if_pos (by omega), if_pos (by omega), if_pos (by omega), if_neg h1, if_pos h2]) (Ev.now _)) ?_
        simp only [lowsOk]; rw [decide_eq_false (show ¬ rd lows ((i + 1 : Nat) : Int) ≤ 1114111 by omega)]; simp [chk]
      · refine Ev.eq (Ev.step (f := fun k => dfa_Check.l0 k ((i + 1 + 1 : Nat) : Int) lows next rule) (fun k => by simp only [dfa_Check.l0]; rw [w1, if_pos (by omega), if_pos (by omega), if_pos (by omega), if_pos (by omega), if_neg h1, if_neg h2, wrap_succ (i + 1) (by omega)]) (check_l0 hn hl hr d (i + 1) (by omega))) ?_
        simp only [lowsOk]; rw [decide_eq_true (show rd lows (i : Int) < rd lows ((i + 1 : Nat) : Int) by omega), decide_eq_true (show rd lows ((i + 1 : Nat) : Int) ≤ 1114111 by omega)]; simp

theorem check_ev (hl : lows.length ≤ 9223372036854775807) (hr : rule.length ≤ 9223372036854775807) : Ev (fun k => dfa_Check.f k lows next rule) (chk (mayB lows next rule)) := by
  have jt : Ev (fun k => dfa_Check.j0 k true lows next rule) 51 := Ev.step (f := fun _ => some 51) (fun k => by simp only [dfa_Check.j0]; rfl) (Ev.now _)
  by_cases h1 : (lows.length : Int) = 0
  · refine Ev.eq (Ev.congr (f := fun k => dfa_Check.j0 k true lows next rule) (fun k => by simp only [dfa_Check.f]; rw [if_pos h1]) jt) ?_
    unfold mayB; rw [decide_eq_false (show ¬ 0 < lows.length by omega)]; rfl
  · by_cases h2 : (next.length : Int) = 0
    · refine Ev.eq (Ev.congr (f := fun k => dfa_Check.j0 k true lows next rule) (fun k => by simp only [dfa_Check.f]; rw [if_neg h1, if_pos h2]) jt) ?_
      unfold mayB
      by_cases h3 : 0 < rule.length
      · rw [decide_eq_false (show ¬ next.length = rule.length by omega)]; simp [chk]
      · rw [decide_eq_false h3]; simp [chk]
    · by_cases h3 : (next.length : Int) = (rule.length : Int)
      · have hn : next.length = rule.length := by omega
        refine Ev.congr (f := fun k => dfa_Check.j0 k (rd lows 0 != 0) lows next rule) (fun k => by simp only [dfa_Check.f]; rw [if_neg h1, if_neg h2, if_pos h3, if_pos (by omega)]) ?_
        by_cases h4 : rd lows 0 = 0
        · refine Ev.eq (Ev.step (f := fun k => dfa_Check.l0 k ((0 + 1 : Nat) : Int) lows next rule) (fun k => by simp only [dfa_Check.j0]; rw [if_neg (by simp [h4])]; rfl) (check_l0 hn hl hr (lows.length - 1) 0 (by omega))) ?_
          unfold mayB; rw [decide_eq_true (show 0 < lows.length by omega), decide_eq_true (show 0 < rule.length by omega), decide_eq_true hn, decide_eq_true h4]; simp
        · refine Ev.eq (Ev.step (f := fun _ => some 51) (fun k => by simp only [dfa_Check.j0]; rw [if_pos (by simp [h4])]) (Ev.now _)) ?_
          unfold mayB; rw [decide_eq_false h4]; simp [chk]
      · refine Ev.eq (Ev.congr (f := fun k => dfa_Check.j0 k true lows next rule) (fun k => by simp only [dfa_Check.f]; rw [if_neg h1, if_neg h2, if_neg h3]) jt) ?_
        unfold mayB; rw [decide_eq_false (show ¬ next.length = rule.length by omega)]; simp [chk]

/-! The document's. -/
theorem may_l2 (hn : next.length = rule.length) (s : Nat) (hs : s < next.length) (hrow : (rd_L1 next (s : Int)).length = lows.length) (R : Bool) (hl : lows.length ≤ 9223372036854775807)
    (cont : Ev (fun k => quoinref05_May.l1 k (wrap64 ((s : Int) + 1)) lows next rule) R) :
    ∀ d i, i + d = lows.length → Ev (fun k => quoinref05_May.l2 k (s : Int) (i : Int) lows next rule) (rowOk rule.length (rd_L1 next (s : Int)) d i && R)
  | 0, i, h => Ev.step (f := fun k => quoinref05_May.l1 k (wrap64 ((s : Int) + 1)) lows next rule) (fun k => by simp only [quoinref05_May.l2]; rw [if_neg (by omega)]) (Ev.eq cont (by simp [rowOk]))
  | d + 1, i, h => by
    by_cases h1 : rd (rd_L1 next (s : Int)) (i : Int) < -1
    · refine Ev.eq (Ev.step (f := fun _ => some false) (fun k => by simp only [quoinref05_May.l2]; rw [if_pos (by omega), if_pos (by omega), if_pos (by omega), if_pos (by omega), if_pos (by omega), if_pos h1]) (Ev.now _)) ?_
      simp only [rowOk]; rw [decide_eq_false (show ¬ -1 ≤ rd (rd_L1 next (s : Int)) (i : Int) by omega)]; rfl
    · by_cases h2 : rd (rd_L1 next (s : Int)) (i : Int) ≥ (rule.length : Int)
      · refine Ev.eq (Ev.step (f := fun _ => some false) (fun k => by simp only [quoinref05_May.l2]; rw [if_pos (by omega), if_pos (by omega), if_pos (by omega), if_pos (by omega), if_pos (by omega), if_neg h1, if_pos h2]) (Ev.now _)) ?_
        simp only [rowOk]; rw [decide_eq_false (show ¬ rd (rd_L1 next (s : Int)) (i : Int) < (rule.length : Int) by omega)]; simp
      · refine Ev.eq (Ev.step (f := fun k => quoinref05_May.l2 k (s : Int) ((i + 1 : Nat) : Int) lows next rule) (fun k => by simp only [quoinref05_May.l2]; rw [if_pos (by omega), if_pos (by omega), if_pos (by omega), if_pos (by omega), if_pos (by omega), if_neg h1, if_neg h2, wrap_succ i (by omega)]) (may_l2 hn s hs hrow R hl cont d (i + 1) (by omega))) ?_
        simp only [rowOk]; rw [decide_eq_true (show -1 ≤ rd (rd_L1 next (s : Int)) (i : Int) by omega), decide_eq_true (show rd (rd_L1 next (s : Int)) (i : Int) < (rule.length : Int) by omega)]; simp

theorem may_l1 (hn : next.length = rule.length) (hl : lows.length ≤ 9223372036854775807) (hr : rule.length ≤ 9223372036854775807) :
    ∀ d i, i + d = rule.length → Ev (fun k => quoinref05_May.l1 k (i : Int) lows next rule) (rowsOk lows next rule d i)
  | 0, i, h => Ev.step (f := fun _ => some true) (fun k => by simp only [quoinref05_May.l1]; rw [if_neg (by omega)]) (Ev.now _)
  | d + 1, i, h => by
    by_cases h2 : rd rule (i : Int) < -1
    · refine Ev.eq (Ev.step (f := fun k => quoinref05_May.j3 k (i : Int) true lows next rule) (fun k => by simp only [quoinref05_May.l1]; rw [if_pos (by omega), if_pos (by omega), if_pos h2]) (Ev.step (f := fun _ => some false) (fun k => by simp only [quoinref05_May.j3]; rfl) (Ev.now _))) ?_
      simp only [rowsOk]; rw [decide_eq_false (show ¬ -1 ≤ rd rule (i : Int) by omega)]; simp
    · refine Ev.step (f := fun k => quoinref05_May.j3 k (i : Int) (((rd_L1 next (i : Int)).length : Int) != (lows.length : Int)) lows next rule) (fun k => by simp only [quoinref05_May.l1]; rw [if_pos (by omega), if_pos (by omega), if_neg h2, if_pos (by omega)]) ?_
      by_cases h1 : ((rd_L1 next (i : Int)).length : Int) = (lows.length : Int)
      · refine Ev.step (f := fun k => quoinref05_May.l2 k (i : Int) ((0 : Nat) : Int) lows next rule) (fun k => by simp only [quoinref05_May.j3]; rw [if_neg (by simp [h1])]; rfl) ?_
        refine Ev.eq (may_l2 hn i (by omega) (by omega) (rowsOk lows next rule d (i + 1)) hl ?_ lows.length 0 (by omega)) ?_
        · rw [wrap_succ i (by omega)]; exact may_l1 hn hl hr d (i + 1) (by omega)
        · simp only [rowsOk]; rw [decide_eq_true (show -1 ≤ rd rule (i : Int) by omega), decide_eq_true (show (rd_L1 next (i : Int)).length = lows.length by omega)]; simp
      · refine Ev.eq (Ev.step (f := fun _ => some false) (fun k => by simp only [quoinref05_May.j3]; rw [if_pos (by simpa using h1)]) (Ev.now _)) ?_
        simp only [rowsOk]; rw [decide_eq_false (show ¬ (rd_L1 next (i : Int)).length = lows.length by omega)]; rfl

theorem may_l0 (hn : next.length = rule.length) (hl : lows.length ≤ 9223372036854775807) (hr : rule.length ≤ 9223372036854775807) :
    ∀ d i, i + 1 + d = lows.length → Ev (fun k => quoinref05_May.l0 k ((i + 1 : Nat) : Int) lows next rule) (lowsOk lows d i && rowsOk lows next rule rule.length 0)
  | 0, i, h => Ev.step (f := fun k => quoinref05_May.l1 k ((0 : Nat) : Int) lows next rule) (fun k => by simp only [quoinref05_May.l0]; rw [if_neg (by omega)]; rfl) (Ev.eq (may_l1 hn hl hr rule.length 0 (by omega)) (by simp [lowsOk]))
  | d + 1, i, h => by
    have w1 : wrap64 (((i + 1 : Nat) : Int) - 1) = (i : Int) := wrap_pred i (by omega)
    by_cases h1 : rd lows ((i + 1 : Nat) : Int) ≤ rd lows (i : Int)
    · refine Ev.eq (Ev.step (f := fun _ => some false) (fun k => by simp only [quoinref05_May.l0]; rw [w1, if_pos (by omega), if_pos (by omega), if_pos (by omega), if_pos (by omega), if_pos h1]) (Ev.now _)) ?_
      simp only [lowsOk]; rw [decide_eq_false (show ¬ rd lows (i : Int) < rd lows ((i + 1 : Nat) : Int) by omega)]; rfl
    · by_cases h2 : rd lows ((i + 1 : Nat) : Int) > 1114111
      · refine Ev.eq (Ev.step (f := fun _ => some false) (fun k => by simp only [quoinref05_May.l0]; rw [w1, if_pos (by omega), if_pos (by omega), if_pos (by omega), if_pos (by omega), if_neg h1, if_pos h2]) (Ev.now _)) ?_
        simp only [lowsOk]; rw [decide_eq_false (show ¬ rd lows ((i + 1 : Nat) : Int) ≤ 1114111 by omega)]; simp
      · refine Ev.eq (Ev.step (f := fun k => quoinref05_May.l0 k ((i + 1 + 1 : Nat) : Int) lows next rule) (fun k => by simp only [quoinref05_May.l0]; rw [w1, if_pos (by omega), if_pos (by omega), if_pos (by omega), if_pos (by omega), if_neg h1, if_neg h2, wrap_succ (i + 1) (by omega)]) (may_l0 hn hl hr d (i + 1) (by omega))) ?_
        simp only [lowsOk]; rw [decide_eq_true (show rd lows (i : Int) < rd lows ((i + 1 : Nat) : Int) by omega), decide_eq_true (show rd lows ((i + 1 : Nat) : Int) ≤ 1114111 by omega)]; simp

theorem may_ev (hl : lows.length ≤ 9223372036854775807) (hr : rule.length ≤ 9223372036854775807) : Ev (fun k => quoinref05_May.f k lows next rule) (mayB lows next rule) := by
  have jt : Ev (fun k => quoinref05_May.j0 k true lows next rule) false := Ev.step (f := fun _ => some false) (fun k => by simp only [quoinref05_May.j0]; rfl) (Ev.now _)
  by_cases h1 : (lows.length : Int) < 1
  · refine Ev.eq (Ev.congr (f := fun k => quoinref05_May.j0 k true lows next rule) (fun k => by simp only [quoinref05_May.f]; rw [if_pos h1]) jt) ?_
    unfold mayB; rw [decide_eq_false (show ¬ 0 < lows.length by omega)]; rfl
  · by_cases h2 : (rule.length : Int) < 1
    · refine Ev.eq (Ev.congr (f := fun k => quoinref05_May.j0 k true lows next rule) (fun k => by simp only [quoinref05_May.f]; rw [if_neg h1, if_pos h2]) jt) ?_
      unfold mayB; rw [decide_eq_false (show ¬ 0 < rule.length by omega)]; simp
    · by_cases h3 : (next.length : Int) = (rule.length : Int)
      · have hn : next.length = rule.length := by omega
        refine Ev.congr (f := fun k => quoinref05_May.j0 k (rd lows 0 != 0) lows next rule) (fun k => by simp only [quoinref05_May.f]; rw [if_neg h1, if_neg h2, if_pos h3, if_pos (by omega)]) ?_
        by_cases h4 : rd lows 0 = 0
        · refine Ev.eq (Ev.step (f := fun k => quoinref05_May.l0 k ((0 + 1 : Nat) : Int) lows next rule) (fun k => by simp only [quoinref05_May.j0]; rw [if_neg (by simp [h4])]; rfl) (may_l0 hn hl hr (lows.length - 1) 0 (by omega))) ?_
          unfold mayB; rw [decide_eq_true (show 0 < lows.length by omega), decide_eq_true (show 0 < rule.length by omega), decide_eq_true hn, decide_eq_true h4]; simp
        · refine Ev.eq (Ev.step (f := fun _ => some false) (fun k => by simp only [quoinref05_May.j0]; rw [if_pos (by simp [h4])]) (Ev.now _)) ?_
          unfold mayB; rw [decide_eq_false h4]; simp
      · refine Ev.eq (Ev.congr (f := fun k => quoinref05_May.j0 k true lows next rule) (fun k => by simp only [quoinref05_May.f]; rw [if_neg h1, if_neg h2, if_neg h3]) jt) ?_
        unfold mayB; rw [decide_eq_false (show ¬ next.length = rule.length by omega)]; simp

/-! What may be. -/
theorem lowsOk_at : ∀ {d i : Nat}, lowsOk lows d i = true → ∀ j, i ≤ j → j < i + d → rd lows (j : Int) < rd lows ((j + 1 : Nat) : Int) ∧ rd lows ((j + 1 : Nat) : Int) ≤ 1114111
  | 0, i, _, j, h1, h2 => by omega
  | d + 1, i, h, j, h1, h2 => by
    simp only [lowsOk, Bool.and_eq_true, decide_eq_true_eq] at h
    rcases Nat.eq_or_lt_of_le h1 with e | e
    · subst e; exact ⟨h.1, h.2.1⟩
    · exact lowsOk_at h.2.2 j (by omega) (by omega)
theorem rowOk_at {n : Nat} {row : List Int} : ∀ {d i : Nat}, rowOk n row d i = true → ∀ j, i ≤ j → j < i + d → -1 ≤ rd row (j : Int) ∧ rd row (j : Int) < n
  | 0, i, _, j, h1, h2 => by omega
  | d + 1, i, h, j, h1, h2 => by
    simp only [rowOk, Bool.and_eq_true, decide_eq_true_eq] at h
    rcases Nat.eq_or_lt_of_le h1 with e | e
    · subst e; exact ⟨h.1, h.2.1⟩
    · exact rowOk_at h.2.2 j (by omega) (by omega)
theorem rowsOk_at : ∀ {d i : Nat}, rowsOk lows next rule d i = true → ∀ j, i ≤ j → j < i + d → (rd_L1 next (j : Int)).length = lows.length ∧ -1 ≤ rd rule (j : Int) ∧ rowOk rule.length (rd_L1 next (j : Int)) lows.length 0 = true
  | 0, i, _, j, h1, h2 => by omega
  | d + 1, i, h, j, h1, h2 => by
    simp only [rowsOk, Bool.and_eq_true, decide_eq_true_eq] at h
    rcases Nat.eq_or_lt_of_le h1 with e | e
    · subst e; exact ⟨h.1, h.2.1, h.2.2.1⟩
    · exact rowsOk_at h.2.2.2 j (by omega) (by omega)
/-- An automaton that may be. -/
structure Good (lows : List Int) (next : List (List Int)) (rule : List Int) : Prop where
  pos : 0 < lows.length
  some : 0 < rule.length
  same : next.length = rule.length
  zero : rd lows 0 = 0
  step : ∀ j : Nat, j + 1 < lows.length → rd lows (j : Int) < rd lows ((j + 1 : Nat) : Int) ∧ rd lows ((j + 1 : Nat) : Int) ≤ 1114111
  wide : ∀ j : Nat, j < rule.length → (rd_L1 next (j : Int)).length = lows.length
  goes : ∀ j c : Nat, j < rule.length → c < lows.length → -1 ≤ rd (rd_L1 next (j : Int)) (c : Int) ∧ rd (rd_L1 next (j : Int)) (c : Int) < rule.length
theorem good_of (h : mayB lows next rule = true) : Good lows next rule := by
  simp only [mayB, Bool.and_eq_true, decide_eq_true_eq] at h
  obtain ⟨h1, h2, h3, h4, h5, h6⟩ := h
  exact ⟨h1, h2, h3, h4, fun j hj => lowsOk_at h5 j (Nat.zero_le _) (by omega), fun j hj => (rowsOk_at h6 j (Nat.zero_le _) (by omega)).1, fun j c hj hc => rowOk_at (rowsOk_at h6 j (Nat.zero_le _) (by omega)).2.2 c (Nat.zero_le _) (by omega)⟩
theorem Good.rise (g : Good lows next rule) {i : Nat} : ∀ d : Nat, i + d < lows.length → rd lows (i : Int) + d ≤ rd lows ((i + d : Nat) : Int)
  | 0, _ => by simp
  | d + 1, h => by
    have h1 := g.rise (i := i) d (by omega)
    have h2 := (g.step (i + d) (by omega)).1
    rw [show i + (d + 1) = i + d + 1 by omega]
    omega
theorem Good.le (g : Good lows next rule) {i j : Nat} (hij : i ≤ j) (hj : j < lows.length) : rd lows (i : Int) ≤ rd lows (j : Int) := by
  have := g.rise (i := i) (j - i) (by omega)
  rw [show i + (j - i) = j by omega] at this
  omega
theorem Good.short (g : Good lows next rule) : lows.length ≤ 1114112 := by
  rcases Nat.lt_or_ge lows.length 2 with h | h
  · omega
  · have h1 := g.rise (i := 0) (lows.length - 1) (by omega)
    have h2 := (g.step (lows.length - 2) (by omega)).2
    have h3 := g.zero
    rw [show lows.length - 2 + 1 = 0 + (lows.length - 1) by omega] at h2
    simp only [Int.natCast_zero] at h1
    omega

/-! The class of a rune. -/
def Cls (lows : List Int) (r : Int) (c : Nat) : Prop := c < lows.length ∧ rd lows (c : Int) ≤ r ∧ ∀ j : Nat, c < j → j < lows.length → r < rd lows (j : Int)
theorem Good.cls (g : Good lows next rule) (r : Int) : ∀ d i : Nat, i + 1 + d = lows.length → rd lows (i : Int) ≤ r → ∃ c, Cls lows r c
  | 0, i, h, hr => ⟨i, by omega, hr, fun j h1 h2 => by omega⟩
  | d + 1, i, h, hr => by
    by_cases h1 : rd lows ((i + 1 : Nat) : Int) ≤ r
    · exact g.cls r d (i + 1) (by omega) h1
    · refine ⟨i, by omega, hr, fun j h2 h3 => ?_⟩
      have := g.le (i := i + 1) (j := j) (by omega) h3
      omega
theorem class_l0 (g : Good lows next rule) {r : Int} {c : Nat} (hc : Cls lows r c) : ∀ D i t : Nat, t - i ≤ D → i ≤ c → c < t → t ≤ lows.length → Ev (fun k => dfa_class.l0 k r (i : Int) (t : Int) lows next rule) (c : Int) := by
  have hs := g.short
  intro D
  induction D with
  | zero => intro i t h1 h2 h3 h4; omega
  | succ D ih =>
    intro i t h1 h2 h3 h4
    have w1 : wrap64 ((t : Int) - (i : Int)) = (t : Int) - (i : Int) := by unfold wrap64; omega
    have w2 : wrap64 (Int.tdiv (wrap64 ((i : Int) + (t : Int))) 2) = (((i + t) / 2 : Nat) : Int) := by
      have e : wrap64 ((i : Int) + (t : Int)) = ((i + t : Nat) : Int) := by unfold wrap64; omega
      rw [e, show Int.tdiv ((i + t : Nat) : Int) 2 = (((i + t) / 2 : Nat) : Int) from by rw [Int.tdiv_eq_ediv_of_nonneg (by omega)]; omega]
      unfold wrap64; omega
    by_cases h5 : (t : Int) - (i : Int) > 1
    · by_cases h6 : rd lows (((i + t) / 2 : Nat) : Int) ≤ r
      · refine Ev.step (f := fun k => dfa_class.l0 k r (((i + t) / 2 : Nat) : Int) (t : Int) lows next rule) (fun k => by simp only [dfa_class.l0]; rw [w1, w2, if_pos h5, if_pos (by omega), if_pos (by omega), if_pos h6]) ?_
        refine ih _ _ (by omega) ?_ h3 h4
        rcases Nat.lt_or_ge c ((i + t) / 2) with q | q
        · have := hc.2.2 _ q (by omega); omega
        · exact q
      · refine Ev.step (f := fun k => dfa_class.l0 k r (i : Int) (((i + t) / 2 : Nat) : Int) lows next rule) (fun k => by simp only [dfa_class.l0]; rw [w1, w2, if_pos h5, if_pos (by omega), if_pos (by omega), if_neg h6]) ?_
        refine ih _ _ (by omega) h2 ?_ (by omega)
        rcases Nat.lt_or_ge c ((i + t) / 2) with q | q
        · exact q
        · have := g.le q hc.1; have := hc.2.1; omega
    · refine Ev.eq (Ev.step (f := fun _ => some (i : Int)) (fun k => by simp only [dfa_class.l0]; rw [w1, if_neg h5]) (Ev.now _)) (by omega)
theorem ref_class (g : Good lows next rule) {r : Int} {c : Nat} (hc : Cls lows r c) : ∀ d i : Nat, i + d = c → Ev (fun k => quoinref05_class.l0 k lows r (i : Int)) (c : Int) := by
  have hs := g.short
  intro d
  induction d with
  | zero =>
    intro i h
    have w1 := wrap_succ i (by have := hc.1; omega)
    by_cases h1 : ((i + 1 : Nat) : Int) < (lows.length : Int)
    · have h2 := hc.2.2 (i + 1) (by omega) (by omega)
      exact Ev.eq (Ev.step (f := fun _ => some (i : Int)) (fun k => by simp only [quoinref05_class.l0]; rw [w1, if_pos h1, if_pos (by omega), if_neg (by omega)]) (Ev.now _)) (by omega)
    · exact Ev.eq (Ev.step (f := fun _ => some (i : Int)) (fun k => by simp only [quoinref05_class.l0]; rw [w1, if_neg h1]) (Ev.now _)) (by omega)
  | succ d ih =>
    intro i h
    have w1 := wrap_succ i (by have := hc.1; omega)
    have h2 : rd lows ((i + 1 : Nat) : Int) ≤ r := by have := g.le (i := i + 1) (j := c) (by omega) hc.1; have := hc.2.1; omega
    have := hc.1
    exact Ev.step (f := fun k => quoinref05_class.l0 k lows r ((i + 1 : Nat) : Int)) (fun k => by simp only [quoinref05_class.l0]; rw [w1, if_pos (by omega), if_pos (by omega), if_pos h2]) (ih (i + 1) (by omega))

/-- Where a state goes: both tell the same. -/
theorem goes_ev (g : Good lows next rule) (hm : mayB lows next rule = true) (hr : rule.length ≤ 9223372036854775807) (s r : Int) :
    ∃ v, Ev (fun k => dfa_goes.f k lows next rule s r) v ∧ Ev (fun k => quoinref05_Step.f k lows next rule s r) v ∧ -1 ≤ v ∧ v < rule.length ∧ (s < 0 → v = -1) := by
  have hs := g.short
  have hmay : Ev (fun k => quoinref05_May.f k lows next rule) true := hm ▸ may_ev (by omega) hr
  have same := g.same
  have ref : ∀ v, Ev (fun k => if s < 0 then (some (-1)) else (if s ≥ (rule.length : Int) then (some (-1)) else (if r < 0 then (some (-1)) else (if r > 1114111 then (some (-1)) else (if 0 ≤ s then (if s < (next.length : Int) then ((quoinref05_class.f k lows r).bind fun t146 => (if 0 ≤ t146 then (if t146 < ((rd_L1 next s).length : Int) then (some (rd (rd_L1 next s) t146)) else (none)) else (none))) else (none)) else (none)))))) v → Ev (fun k => quoinref05_Step.f k lows next rule s r) v := fun v h => by
    exact Ev.bnd (fun k => rfl) hmay (Ev.congr (fun k => if_pos rfl) h)
  by_cases hcl : r < 0 ∨ r > 1114111
  · have hclass : Ev (fun k => dfa_class.f k lows next rule r) (-1) := by
      have j : Ev (fun k => dfa_class.j0 k r true lows next rule) (-1) := Ev.step (f := fun _ => some (-1)) (fun k => by simp only [dfa_class.j0]; rfl) (Ev.now _)
      rcases hcl with h | h
      · exact Ev.congr (f := fun k => dfa_class.j0 k r true lows next rule) (fun k => by simp only [dfa_class.f]; rw [if_pos h]) j
      · exact Ev.congr (f := fun k => dfa_class.j0 k r true lows next rule) (fun k => by simp only [dfa_class.f]; rw [if_neg (by omega), decide_eq_true h]) j
    refine ⟨-1, ?_, ref (-1) ?_, by omega, by omega, fun _ => rfl⟩
    · refine Ev.bnd (fun k => rfl) hclass ?_
      refine Ev.congr (f := fun _ => some (-1)) (fun k => ?_) (Ev.now _)
      by_cases h1 : s < 0
      · rw [if_pos h1]
      · by_cases h2 : s ≥ (next.length : Int)
        · rw [if_neg h1, if_pos h2]
        · rw [if_neg h1, if_neg h2]; rfl
    · refine Ev.congr (f := fun _ => some (-1)) (fun k => ?_) (Ev.now _)
      by_cases h1 : s < 0
      · rw [if_pos h1]
      · by_cases h2 : s ≥ (rule.length : Int)
        · rw [if_neg h1, if_pos h2]
        · rw [if_neg h1, if_neg h2]
          by_cases h3 : r < 0
          · rw [if_pos h3]
          · rw [if_neg h3, if_pos (by omega)]
  · have h0 : rd lows ((0 : Nat) : Int) ≤ r := by have := g.zero; simp only [Int.natCast_zero]; omega
    obtain ⟨c, hc⟩ := g.cls r (lows.length - 1) 0 (by have := g.pos; omega) h0
    have hclass : Ev (fun k => dfa_class.f k lows next rule r) (c : Int) := by
      refine Ev.congr (f := fun k => dfa_class.j0 k r false lows next rule) (fun k => by simp only [dfa_class.f]; rw [if_neg (by omega), decide_eq_false (by omega)]) ?_
      refine Ev.step (f := fun k => dfa_class.l0 k r ((0 : Nat) : Int) (lows.length : Int) lows next rule) (fun k => by simp only [dfa_class.j0]; rfl) ?_
      exact class_l0 g hc lows.length 0 lows.length (by omega) (by omega) hc.1 (Nat.le_refl _)
    have hrc : Ev (fun k => quoinref05_class.f k lows r) (c : Int) := Ev.congr (f := fun k => quoinref05_class.l0 k lows r ((0 : Nat) : Int)) (fun k => by simp only [quoinref05_class.f]; rfl) (ref_class g hc c 0 (by omega))
    by_cases h1 : s < 0
    · refine ⟨-1, ?_, ref (-1) ?_, by omega, by omega, fun _ => rfl⟩
      · refine Ev.bnd (fun k => rfl) hclass ?_
        exact Ev.congr (f := fun _ => some (-1)) (fun k => by rw [if_pos h1]) (Ev.now _)
      · exact Ev.congr (f := fun _ => some (-1)) (fun k => by rw [if_pos h1]) (Ev.now _)
    · by_cases h2 : s ≥ (rule.length : Int)
      · refine ⟨-1, ?_, ref (-1) ?_, by omega, by omega, fun h => by omega⟩
        · refine Ev.bnd (fun k => rfl) hclass ?_
          exact Ev.congr (f := fun _ => some (-1)) (fun k => by rw [if_neg h1, if_pos (by omega)]) (Ev.now _)
        · exact Ev.congr (f := fun _ => some (-1)) (fun k => by rw [if_neg h1, if_pos h2]) (Ev.now _)
      · obtain ⟨j, rfl⟩ : ∃ j : Nat, s = (j : Int) := ⟨s.toNat, by omega⟩
        have hj : j < rule.length := by omega
        have hw := g.wide j hj
        have hv := g.goes j c hj hc.1
        have hcl := hc.1
        refine ⟨rd (rd_L1 next (j : Int)) (c : Int), ?_, ref _ ?_, hv.1, hv.2, fun h => by omega⟩
        · refine Ev.bnd (fun k => rfl) hclass ?_
          exact Ev.congr (f := fun _ => some (rd (rd_L1 next (j : Int)) (c : Int))) (fun k => by rw [if_neg h1, if_neg (by omega), if_neg (by omega), if_pos (by omega), if_pos (by omega), if_pos (by omega), if_pos (by omega)]) (Ev.now _)
        · refine Ev.congr (fun k => by rw [if_neg h1, if_neg h2, if_neg (by omega), if_neg (by omega), if_pos (by omega), if_pos (by omega)]) (Ev.bnd (fun k => rfl) hrc ?_)
          exact Ev.congr (f := fun _ => some (rd (rd_L1 next (j : Int)) (c : Int))) (fun k => by rw [if_pos (by omega), if_pos (by omega)]) (Ev.now _)

theorem step_ev (g : Good lows next rule) (hm : mayB lows next rule = true) (hr : rule.length ≤ 9223372036854775807) (s r : Int) :
    ∃ v, Ev (fun k => dfa_Step.f k lows next rule s r) v ∧ Ev (fun k => quoinref05_Step.f k lows next rule s r) v := by
  have hs := g.short
  obtain ⟨v, h1, h2, _⟩ := goes_ev g hm hr s r
  have hc : Ev (fun k => dfa_Check.f k lows next rule) 0 := Ev.eq (check_ev (by omega) hr) (by rw [hm]; rfl)
  refine ⟨v, ?_, h2⟩
  refine Ev.bnd (fun k => rfl) hc ?_
  refine Ev.congr (fun k => if_pos rfl) ?_
  exact Ev.bnd (fun k => rfl) h1 (Ev.now v)

/-! What is accepted. -/
theorem accept_dead (g : Good lows next rule) (hm : mayB lows next rule = true) (hr : rule.length ≤ 9223372036854775807) (l : List Int) (hl : l.length ≤ 9223372036854775807) (s : Int) (hs : s < 0) :
    ∀ d i : Nat, i + d = l.length → Ev (fun k => dfa_Accept.l0 k s l (l.length : Int) (i : Int) lows next rule) (-1, 0) := by
  intro d
  induction d generalizing s with
  | zero => intro i h; exact Ev.step (f := fun _ => some (-1, 0)) (fun k => by simp only [dfa_Accept.l0]; rw [if_neg (by omega), if_pos hs]) (Ev.now _)
  | succ d ih =>
    intro i h
    obtain ⟨v, h1, _, _, _, h5⟩ := goes_ev g hm hr s (rd l (i : Int))
    have hv := h5 hs
    refine Ev.step (f := fun k => (dfa_goes.f k lows next rule s (rd l (i : Int))).bind fun t130 => dfa_Accept.l0 k t130 l (l.length : Int) ((i + 1 : Nat) : Int) lows next rule) (fun k => by simp only [dfa_Accept.l0]; rw [if_pos (by omega), if_pos (by omega), if_pos (by omega), wrap_succ i (by omega)]) ?_
    exact Ev.bnd (fun k => rfl) h1 (ih v (by omega) (i + 1) (by omega))
theorem accept_loop (g : Good lows next rule) (hm : mayB lows next rule = true) (hr : rule.length ≤ 9223372036854775807) (l : List Int) (hl : l.length ≤ 9223372036854775807) :
    ∀ (d i : Nat) (s : Int), i + d = l.length → -1 ≤ s → s < rule.length → ∃ v, Ev (fun k => dfa_Accept.l0 k s l (l.length : Int) (i : Int) lows next rule) (v, 0) ∧ Ev (fun k => quoinref05_Accept.l0 k l s (i : Int) lows next rule) v := by
  intro d
  induction d with
  | zero =>
    intro i s h h1 h2
    by_cases hs : s < 0
    · exact ⟨-1, accept_dead g hm hr l hl s hs 0 i h, Ev.step (f := fun _ => some (-1)) (fun k => by simp only [quoinref05_Accept.l0]; rw [if_neg (by omega), if_pos hs]) (Ev.now _)⟩
    · exact ⟨rd rule s, Ev.step (f := fun _ => some (rd rule s, 0)) (fun k => by simp only [dfa_Accept.l0]; rw [if_neg (by omega), if_neg hs, if_pos (by omega), if_pos (by omega)]) (Ev.now _),
        Ev.step (f := fun _ => some (rd rule s)) (fun k => by simp only [quoinref05_Accept.l0]; rw [if_neg (by omega), if_neg hs, if_pos (by omega), if_pos (by omega)]) (Ev.now _)⟩
  | succ d ih =>
    intro i s h h1 h2
    by_cases hs : s < 0
    · exact ⟨-1, accept_dead g hm hr l hl s hs (d + 1) i h, Ev.step (f := fun _ => some (-1)) (fun k => by simp only [quoinref05_Accept.l0]; rw [if_pos (by omega), if_neg (by omega), if_pos hs]) (Ev.now _)⟩
    · obtain ⟨v, e1, e2, h3, h4, _⟩ := goes_ev g hm hr s (rd l (i : Int))
      obtain ⟨u, k1, k2⟩ := ih (i + 1) v (by omega) h3 h4
      refine ⟨u, ?_, ?_⟩
      · refine Ev.step (f := fun k => (dfa_goes.f k lows next rule s (rd l (i : Int))).bind fun t130 => dfa_Accept.l0 k t130 l (l.length : Int) ((i + 1 : Nat) : Int) lows next rule) (fun k => by simp only [dfa_Accept.l0]; rw [if_pos (by omega), if_pos (by omega), if_pos (by omega), wrap_succ i (by omega)]) ?_
        exact Ev.bnd (fun k => rfl) e1 k1
      · refine Ev.step (f := fun k => (quoinref05_Step.f k lows next rule s (rd l (i : Int))).bind fun t156 => quoinref05_Accept.l0 k l t156 ((i + 1 : Nat) : Int) lows next rule) (fun k => by simp only [quoinref05_Accept.l0]; rw [if_pos (by omega), if_pos (by omega), if_pos (by omega), wrap_succ i (by omega)]) ?_
        exact Ev.bnd (fun k => rfl) e2 k2

/-! The longest beginning. -/
theorem longest_loop (g : Good lows next rule) (hm : mayB lows next rule = true) (hr : rule.length ≤ 9223372036854775807) (l : List Int) (hl : l.length ≤ 9223372036854775807) :
    ∀ (d i : Nat) (s n o : Int), i + d = l.length → ∃ m p, Ev (fun k => dfa_Longest.l0 k n o s l (l.length : Int) (i : Int) lows next rule) (m, p, 0) ∧ Ev (fun k => quoinref05_Longest.l0 k l n o s (i : Int) lows next rule) (m, p) := by
  intro d
  induction d with
  | zero =>
    intro i s n o h
    exact ⟨n, o, Ev.step (f := fun _ => some (n, o, 0)) (fun k => by simp only [dfa_Longest.l0]; rw [if_neg (by omega)]) (Ev.now _),
      Ev.step (f := fun _ => some (n, o)) (fun k => by simp only [quoinref05_Longest.l0]; rw [if_neg (by omega)]) (Ev.now _)⟩
  | succ d ih =>
    intro i s n o h
    obtain ⟨v, e1, e2, h3, h4, _⟩ := goes_ev g hm hr s (rd l (i : Int))
    have w := wrap_succ i (by omega)
    suffices hh : ∃ m p, Ev (fun k => if v < 0 then (some (n, o, (0 : Int))) else (if 0 ≤ v then (if v < (rule.length : Int) then (if (rd rule v) ≥ 0 then (dfa_Longest.l0 k ((i + 1 : Nat) : Int) (rd rule v) v l (l.length : Int) ((i + 1 : Nat) : Int) lows next rule) else (dfa_Longest.l0 k n o v l (l.length : Int) ((i + 1 : Nat) : Int) lows next rule)) else (none)) else (none))) (m, p, 0) ∧
        Ev (fun k => if v < 0 then (some (n, o)) else (if 0 ≤ v then (if v < (rule.length : Int) then (if (rd rule v) ≥ 0 then (quoinref05_Longest.l0 k l ((i + 1 : Nat) : Int) (rd rule v) v ((i + 1 : Nat) : Int) lows next rule) else (quoinref05_Longest.l0 k l n o v ((i + 1 : Nat) : Int) lows next rule)) else (none)) else (none))) (m, p) by
      obtain ⟨m, p, k1, k2⟩ := hh
      refine ⟨m, p, ?_, ?_⟩
      · refine Ev.step (f := fun k => (dfa_goes.f k lows next rule s (rd l (i : Int))).bind fun t136 => (if t136 < 0 then (some (n, o, 0)) else (if 0 ≤ t136 then (if t136 < (rule.length : Int) then (if (rd rule t136) ≥ 0 then (dfa_Longest.l0 k ((i + 1 : Nat) : Int) (rd rule t136) t136 l (l.length : Int) ((i + 1 : Nat) : Int) lows next rule) else (dfa_Longest.l0 k n o t136 l (l.length : Int) ((i + 1 : Nat) : Int) lows next rule)) else (none)) else (none)))) (fun k => by simp only [dfa_Longest.l0]; rw [w, if_pos (by omega), if_pos (by omega), if_pos (by omega)]) ?_
        exact Ev.bnd (fun k => rfl) e1 k1
      · refine Ev.step (f := fun k => (quoinref05_Step.f k lows next rule s (rd l (i : Int))).bind fun t151 => (if t151 < 0 then (some (n, o)) else (if 0 ≤ t151 then (if t151 < (rule.length : Int) then (if (rd rule t151) ≥ 0 then (quoinref05_Longest.l0 k l ((i + 1 : Nat) : Int) (rd rule t151) t151 ((i + 1 : Nat) : Int) lows next rule) else (quoinref05_Longest.l0 k l n o t151 ((i + 1 : Nat) : Int) lows next rule)) else (none)) else (none)))) (fun k => by simp only [quoinref05_Longest.l0]; rw [w, if_pos (by omega), if_pos (by omega)]) ?_
        exact Ev.bnd (fun k => rfl) e2 k2
    by_cases hv : v < 0
    · exact ⟨n, o, Ev.congr (f := fun _ => some (n, o, 0)) (fun k => by rw [if_pos hv]) (Ev.now _), Ev.congr (f := fun _ => some (n, o)) (fun k => by rw [if_pos hv]) (Ev.now _)⟩
    · by_cases hq : rd rule v ≥ 0
      · obtain ⟨m, p, k1, k2⟩ := ih (i + 1) v ((i + 1 : Nat) : Int) (rd rule v) (by omega)
        exact ⟨m, p, Ev.congr (fun k => by rw [if_neg hv, if_pos (by omega), if_pos (by omega), if_pos hq]) k1, Ev.congr (fun k => by rw [if_neg hv, if_pos (by omega), if_pos (by omega), if_pos hq]) k2⟩
      · obtain ⟨m, p, k1, k2⟩ := ih (i + 1) v n o (by omega)
        exact ⟨m, p, Ev.congr (fun k => by rw [if_neg hv, if_pos (by omega), if_pos (by omega), if_neg hq]) k1, Ev.congr (fun k => by rw [if_neg hv, if_pos (by omega), if_pos (by omega), if_neg hq]) k2⟩

/-! The law. -/
theorem j1_ev (hl : lows.length ≤ 9223372036854775807) (hr : rule.length ≤ 9223372036854775807) (s : Int) (l : List Int) (hll : l.length ≤ 9223372036854775807) (r : Int) :
    Ev (fun k => quoinlaw05_DfaSteps.j1 k s l r lows next rule) true := by
  have hc := check_ev (next := next) hl hr
  have hmy := may_ev (next := next) hl hr
  cases hm : mayB lows next rule with
  | true =>
    rw [hm] at hc hmy
    have hc : Ev (fun k => dfa_Check.f k lows next rule) 0 := hc
    have g := good_of hm
    have hpos := g.some
    obtain ⟨v, a1, a2⟩ := accept_loop g hm hr l hll l.length 0 0 (by omega) (by omega) (by omega)
    obtain ⟨m, p, b1, b2⟩ := longest_loop g hm hr l hll l.length 0 0 0 (rd rule 0) (by omega)
    obtain ⟨u, c1, c2⟩ := step_ev g hm hr s r
    have A1 : Ev (fun k => dfa_Accept.f k lows next rule l) (v, 0) := Ev.bnd (fun k => rfl) hc (Ev.congr (fun k => if_pos rfl) a1)
    have A2 : Ev (fun k => quoinref05_Accept.f k lows next rule l) v := Ev.congr (fun k => rfl) a2
    have B1 : Ev (fun k => dfa_Longest.f k lows next rule l) (m, p, 0) := Ev.bnd (fun k => rfl) hc (Ev.congr (fun k => (if_pos rfl).trans (if_pos (by omega))) b1)
    have B2 : Ev (fun k => quoinref05_Longest.f k lows next rule l) (m, p) := Ev.congr (fun k => if_pos (by omega)) b2
    refine Ev.step (fun k => by simp only [quoinlaw05_DfaSteps.j1]; rfl) ?_
    refine Ev.bnd (fun k => rfl) A1 (Ev.bnd (fun k => rfl) B1 (Ev.bnd (fun k => rfl) hmy (Ev.congr (fun k => if_pos rfl) ?_)))
    refine Ev.bnd (fun k => rfl) B2 (Ev.bnd (fun k => rfl) c1 (Ev.bnd (fun k => rfl) c2 (Ev.congr (fun k => if_pos rfl) (Ev.bnd (fun k => rfl) A2 ?_))))
    exact Ev.congr (f := fun _ => some true) (fun k => by simp) (Ev.now _)
  | false =>
    rw [hm] at hc hmy
    have hc : Ev (fun k => dfa_Check.f k lows next rule) 51 := hc
    have A1 : Ev (fun k => dfa_Accept.f k lows next rule l) (0, 51) := Ev.bnd (fun k => rfl) hc (Ev.congr (fun k => if_neg (by decide)) (Ev.now _))
    have B1 : Ev (fun k => dfa_Longest.f k lows next rule l) (0, 0, 51) := Ev.bnd (fun k => rfl) hc (Ev.congr (fun k => if_neg (by decide)) (Ev.now _))
    have C1 : Ev (fun k => dfa_Step.f k lows next rule s r) (-1) := Ev.bnd (fun k => rfl) hc (Ev.congr (fun k => if_neg (by decide)) (Ev.now _))
    refine Ev.step (fun k => by simp only [quoinlaw05_DfaSteps.j1]; rfl) ?_
    refine Ev.bnd (fun k => rfl) A1 (Ev.bnd (fun k => rfl) B1 (Ev.bnd (fun k => rfl) hmy (Ev.congr (fun k => if_neg (by decide)) ?_)))
    refine Ev.bnd (fun k => rfl) hc (Ev.congr (fun k => by simp only [if_true]; rfl) (Ev.bnd (fun k => rfl) C1 (Ev.now _)))
theorem law_ev (hl : lows.length ≤ 9223372036854775807) (hr : rule.length ≤ 9223372036854775807) (s : Int) (l : List Int) (hll : l.length ≤ 9223372036854775807) :
    Ev (fun k => quoinlaw05_DfaSteps.f k lows next rule s l) true := by
  have hc := check_ev (next := next) hl hr
  have hmy := may_ev (next := next) hl hr
  refine Ev.bnd (fun k => rfl) hc (Ev.bnd (fun k => rfl) hmy ?_)
  have e : ((chk (mayB lows next rule) == 0) != mayB lows next rule) = false := by cases mayB lows next rule <;> rfl
  refine Ev.congr (fun k => if_neg (by rw [e]; decide)) ?_
  refine Ev.congr (f := fun k => quoinlaw05_DfaSteps.j0 k s l false lows next rule) (fun k => rfl) ?_
  by_cases h : (l.length : Int) > 0
  · exact Ev.step (fun k => by simp only [quoinlaw05_DfaSteps.j0]; rw [if_neg (by decide), if_pos h, if_pos h]) (j1_ev hl hr s l hll (rd l 0))
  · exact Ev.step (fun k => by simp only [quoinlaw05_DfaSteps.j0]; rw [if_neg (by decide), if_neg h]) (j1_ev hl hr s l hll (wrap32 s))
theorem law (hl : lows.length ≤ 9223372036854775807) (hr : rule.length ≤ 9223372036854775807) (s : Int) (l : List Int) (hll : l.length ≤ 9223372036854775807) :
    ∃ k, quoinlaw05_DfaSteps.f k lows next rule s l = some true := (law_ev hl hr s l hll).rounds
end
end Go.Proofs.YtcjjmflaaaddgaaGreatDoor.Steps
