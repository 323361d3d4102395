/-
  Of trees of actions: what the program's functions and the document's tell of them; both put the same tree in the place of picks, and refuse the same.
-/
import Derived.Test.YtnkhfkjgedmmjaaGreatDoorX8
namespace Go.Proofs.YtnkhfkjgedmmjaaGreatDoor.Trees
open Go.RowKit Go.Proofs.YtnkhfkjgedmmjaaGreatDoor.X Go.Proofs.YtnkhfkjgedmmjaaGreatDoorW.PrintWords Go.Proofs.YtnkhfkjgedmmjaaGreatDoorW.PrintLast

mutual
def cnt : S24 → Nat
  | ⟨_, _, _, l⟩ => 1 + cntL l
def cntL : List S24 → Nat
  | [] => 0
  | t :: r => cnt t + cntL r
end
mutual
def okT (n : Int) : S24 → Bool
  | ⟨a, b, _, l⟩ => (decide (0 ≤ a) && decide (a ≤ 3) && !(decide (a = 1) && (decide (b < 0) || decide (b ≥ n)))) && okL n l
def okL (n : Int) : List S24 → Bool
  | [] => true
  | t :: r => okT n t && okL n r
end
mutual
def sub (vs : List S24) : S24 → S24
  | ⟨a, b, s, l⟩ => if a = 1 then rd_T24 vs b else ⟨a, b, s, subL vs l⟩
def subL (vs : List S24) : List S24 → List S24
  | [] => []
  | t :: r => sub vs t :: subL vs r
end
mutual
/-- No row in it is longer than 2^20. -/
def fit : S24 → Bool
  | ⟨_, _, _, l⟩ => decide (l.length ≤ 1048576) && fitL l
def fitL : List S24 → Bool
  | [] => true
  | t :: r => fit t && fitL r
end
def comps (t : S24) : Int × Int × ByteArray × List S24 := (t.f0, t.f1, t.f2, t.f3)
theorem comps_mk (t : S24) : (⟨(comps t).1, (comps t).2.1, (comps t).2.2.1, (comps t).2.2.2⟩ : S24) = t := by cases t; rfl
theorem mk_eta (t : S24) : (⟨t.f0, t.f1, t.f2, t.f3⟩ : S24) = t := by cases t; rfl
theorem cnt_eq (t : S24) : cnt t = 1 + cntL t.f3 := by cases t; simp only [cnt]
theorem len_cntL (l : List S24) : l.length ≤ cntL l := by
  induction l with
  | nil => exact Nat.le_refl _
  | cons t r ih => simp only [cntL, List.length_cons]; have := cnt_eq t; omega
theorem mem_cntL {t : S24} {l : List S24} (h : t ∈ l) : cnt t ≤ cntL l := by
  induction l with
  | nil => cases h
  | cons x r ih =>
    simp only [cntL]
    rcases List.mem_cons.1 h with e | e
    · subst e; omega
    · have := ih e; omega
theorem fitL_mem {l : List S24} (h : fitL l = true) {t : S24} (ht : t ∈ l) : fit t = true := by
  induction l with
  | nil => cases ht
  | cons x r ih =>
    simp only [fitL, Bool.and_eq_true] at h
    rcases List.mem_cons.1 ht with e | e
    · subst e; exact h.1
    · exact ih h.2 e
theorem fitL_of {l : List S24} (h : ∀ t ∈ l, fit t = true) : fitL l = true := by
  induction l with
  | nil => rfl
  | cons x r ih => simp only [fitL, Bool.and_eq_true]; exact ⟨h x List.mem_cons_self, ih fun t ht => h t (List.mem_cons_of_mem _ ht)⟩
theorem fit_parts {t : S24} : fit t = true ↔ t.f3.length ≤ 1048576 ∧ fitL t.f3 = true := by
  cases t; simp only [fit, Bool.and_eq_true, decide_eq_true_eq]
theorem fit_cnt : ∀ (N : Nat) (t : S24), cnt t ≤ N → N ≤ 1048576 → fit t = true
  | 0, t, h, _ => by have := cnt_eq t; omega
  | N + 1, t, h, hN => by
    have hc := cnt_eq t
    have hl := len_cntL t.f3
    exact fit_parts.2 ⟨by omega, fitL_of fun u hu => fit_cnt N u (by have := mem_cntL hu; omega) (by omega)⟩
theorem subL_mem {vs l : List S24} {u : S24} (h : u ∈ subL vs l) : ∃ t ∈ l, u = sub vs t := by
  induction l with
  | nil => cases h
  | cons x r ih =>
    simp only [subL] at h
    rcases List.mem_cons.1 h with e | e
    · exact ⟨x, List.mem_cons_self, e⟩
    · obtain ⟨t, ht, e⟩ := ih e; exact ⟨t, List.mem_cons_of_mem _ ht, e⟩
theorem subL_length (vs l : List S24) : (subL vs l).length = l.length := by
  induction l with
  | nil => rfl
  | cons x r ih => simp only [subL, List.length_cons, ih]
theorem fit_rd {vs : List S24} (h : fitL vs = true) (b : Int) : fit (rd_T24 vs b) = true := by
  unfold rd_T24
  rw [List.getD_eq_getElem?_getD]
  cases e : vs[b.toNat]? with
  | none => rfl
  | some t => exact fitL_mem h (List.mem_of_getElem? e)
theorem sub_fit {vs : List S24} (hv : fitL vs = true) : ∀ (N : Nat) (t : S24), cnt t ≤ N → fit t = true → fit (sub vs t) = true
  | 0, t, h, _ => by have := cnt_eq t; omega
  | N + 1, ⟨a, b, s, l⟩, h, hf => by
    have hc := cnt_eq ⟨a, b, s, l⟩
    obtain ⟨h1, h2⟩ := fit_parts.1 hf
    simp only at hc h1 h2
    simp only [sub]
    split
    · exact fit_rd hv b
    · refine fit_parts.2 ⟨by simpa only [subL_length] using h1, fitL_of fun u hu => ?_⟩
      obtain ⟨t, ht, rfl⟩ := subL_mem hu
      exact sub_fit hv N t (by have := mem_cntL ht; omega) (fitL_mem h2 ht)
theorem okL_mem {n : Int} {l : List S24} (h : okL n l = true) {t : S24} (ht : t ∈ l) : okT n t = true := by
  induction l with
  | nil => cases ht
  | cons x r ih =>
    simp only [okL, Bool.and_eq_true] at h
    rcases List.mem_cons.1 ht with e | e
    · subst e; exact h.1
    · exact ih h.2 e
theorem rd_at (xs : List S24) (i : Nat) (h : i < xs.length) : rd_T24 xs (i : Int) = xs[i] := by
  simp [rd_T24, List.getD_eq_getElem?_getD, List.getElem?_eq_getElem h]
theorem rd40_at (xs : List S40) (i : Nat) (h : i < xs.length) : rd_T40 xs (i : Int) = xs[i] := by
  simp [rd_T40, List.getD_eq_getElem?_getD, List.getElem?_eq_getElem h]
theorem wrap_succ (i : Nat) (h : i < 4611686018427387904) : wrap64 ((i : Int) + 1) = ((i + 1 : Nat) : Int) := by
  unfold wrap64; omega
theorem drop_at (xs : List S24) (i : Nat) (h : i < xs.length) : xs.drop i = xs[i] :: xs.drop (i + 1) := List.drop_eq_getElem_cons h
theorem take_set (l : List S24) (i : Nat) (v : S24) (h : i < l.length) : (l.set i v).take (i + 1) = l.take i ++ [v] := by
  apply List.ext_getElem?
  intro j
  rcases Nat.lt_trichotomy j i with q | q | q
  · rw [List.getElem?_take_of_lt (by omega), List.getElem?_set_ne (by omega), List.getElem?_append_left (by simp; omega), List.getElem?_take_of_lt q]
  · subst q
    rw [List.getElem?_take_of_lt (by omega), List.getElem?_set_self h, List.getElem?_append_right (by simp; omega)]
    have : j - (l.take j).length = 0 := by simp; omega
    rw [this]; rfl
  · rw [List.getElem?_eq_none (by simp; omega), List.getElem?_eq_none (by simp; omega)]
theorem Ev.eq {α : Type} {g : Nat → Option α} {r q : α} (h : Ev g r) (e : r = q) : Ev g q := e ▸ h

/-! Which actions may be. -/
theorem picks_loop (n : Int) (xs : List S24) (hx : xs.length ≤ 1048576) (ih : ∀ t ∈ xs, Ev (fun k => expand_picks.f k t.f0 t.f1 t.f2 t.f3 n) (okT n t)) : ∀ d i : Nat, i + d = xs.length → Ev (fun k => expand_picks.l0 k n xs (xs.length : Int) (i : Int)) (okL n (xs.drop i))
  | 0, i, h => by
    rw [List.drop_eq_nil_of_le (by omega)]
    exact Ev.step (f := fun _ => some true) (fun k => by simp only [expand_picks.l0]; rw [if_neg (by omega)]) (Ev.now _)
  | d + 1, i, h => by
    have hi : i < xs.length := by omega
    rw [drop_at xs i hi]
    refine Ev.step (f := fun k => (expand_picks.f k (xs[i]).f0 (xs[i]).f1 (xs[i]).f2 (xs[i]).f3 n).bind fun t => if t = true then expand_picks.l0 k n xs (xs.length : Int) ((i + 1 : Nat) : Int) else some false) (fun k => by
      simp only [expand_picks.l0]; rw [if_pos (by omega), if_pos (by omega), if_pos (by omega), rd_at xs i hi, wrap_succ i (by omega)]) ?_
    refine Ev.bind (f := fun k t => if t = true then expand_picks.l0 k n xs (xs.length : Int) ((i + 1 : Nat) : Int) else some false) (ih _ (List.getElem_mem hi)) ?_
    simp only [okL]
    cases okT n xs[i] with
    | true => simpa using picks_loop n xs hx ih d (i + 1) (by omega)
    | false => simpa using Ev.now false
theorem picks_ev (n : Int) : ∀ (N : Nat) (t : S24), cnt t ≤ N → N ≤ 1048576 → Ev (fun k => expand_picks.f k t.f0 t.f1 t.f2 t.f3 n) (okT n t)
  | 0, t, h, _ => by have := cnt_eq t; omega
  | N + 1, ⟨a, b, s, l⟩, h, hN => by
    have hc := cnt_eq ⟨a, b, s, l⟩
    have hl := len_cntL l
    simp only at hc ⊢
    have loop := picks_loop n l (by omega) (fun t ht => picks_ev n N t (by have := mem_cntL ht; omega) (by omega)) l.length 0 (by omega)
    have j : ∀ c : Bool, Ev (fun k => expand_picks.j0 k n c a b s l) (!c && okL n l) := fun c => by
      cases c with
      | true => exact Ev.step (f := fun _ => some false) (fun k => by simp only [expand_picks.j0]; rfl) (Ev.now _)
      | false => exact Ev.step (f := fun k => expand_picks.l0 k n l (l.length : Int) ((0 : Nat) : Int)) (fun k => by simp only [expand_picks.j0]; rfl) loop
    by_cases h1 : a < 0
    · refine Ev.step (f := fun k => expand_picks.j0 k n true a b s l) (fun k => by simp only [expand_picks.f]; rw [if_pos h1]) (Ev.eq (j true) ?_)
      simp only [okT]; rw [decide_eq_false (show ¬ 0 ≤ a by omega)]; rfl
    · by_cases h2 : a > 3
      · refine Ev.step (f := fun k => expand_picks.j0 k n true a b s l) (fun k => by simp only [expand_picks.f]; rw [if_neg h1, if_pos h2]) (Ev.eq (j true) ?_)
        simp only [okT]; rw [decide_eq_false (show ¬ a ≤ 3 by omega)]; simp
      · have e1 : decide (0 ≤ a) = true := decide_eq_true (by omega)
        have e2 : decide (a ≤ 3) = true := decide_eq_true (by omega)
        by_cases h3 : a = 1
        · by_cases h4 : b < 0
          · refine Ev.step (f := fun k => expand_picks.j0 k n true a b s l) (fun k => by simp only [expand_picks.f]; rw [if_neg h1, if_neg h2, if_pos h3, if_pos h4]) (Ev.eq (j true) ?_)
            simp only [okT]; rw [e1, e2, decide_eq_true h3, decide_eq_true h4]; rfl
          · refine Ev.step (f := fun k => expand_picks.j0 k n (decide (b ≥ n)) a b s l) (fun k => by simp only [expand_picks.f]; rw [if_neg h1, if_neg h2, if_pos h3, if_neg h4]) (Ev.eq (j _) ?_)
            simp only [okT]; rw [e1, e2, decide_eq_true h3, decide_eq_false h4]; simp
        · refine Ev.step (f := fun k => expand_picks.j0 k n false a b s l) (fun k => by simp only [expand_picks.f]; rw [if_neg h1, if_neg h2, if_neg h3]) (Ev.eq (j _) ?_)
          simp only [okT]; rw [e1, e2, decide_eq_false h3]; simp
theorem right_loop (n a b : Int) (s : ByteArray) (xs : List S24) (hx : xs.length ≤ 1048576) (ih : ∀ t ∈ xs, Ev (fun k => quoinref11_right.f k t.f0 t.f1 t.f2 t.f3 n) (okT n t)) : ∀ d i : Nat, i + d = xs.length → Ev (fun k => quoinref11_right.l0 k n (i : Int) a b s xs) (okL n (xs.drop i))
  | 0, i, h => by
    rw [List.drop_eq_nil_of_le (by omega)]
    exact Ev.step (f := fun _ => some true) (fun k => by simp only [quoinref11_right.l0]; rw [if_neg (by omega)]) (Ev.now _)
  | d + 1, i, h => by
    have hi : i < xs.length := by omega
    rw [drop_at xs i hi]
    refine Ev.step (f := fun k => (quoinref11_right.f k (xs[i]).f0 (xs[i]).f1 (xs[i]).f2 (xs[i]).f3 n).bind fun t => if t = true then quoinref11_right.l0 k n ((i + 1 : Nat) : Int) a b s xs else some false) (fun k => by
      simp only [quoinref11_right.l0]; rw [if_pos (by omega), if_pos (by omega), rd_at xs i hi, wrap_succ i (by omega)]) ?_
    refine Ev.bind (f := fun k t => if t = true then quoinref11_right.l0 k n ((i + 1 : Nat) : Int) a b s xs else some false) (ih _ (List.getElem_mem hi)) ?_
    simp only [okL]
    cases okT n xs[i] with
    | true => simpa using right_loop n a b s xs hx ih d (i + 1) (by omega)
    | false => simpa using Ev.now false
theorem right_ev (n : Int) : ∀ (N : Nat) (t : S24), cnt t ≤ N → N ≤ 1048576 → Ev (fun k => quoinref11_right.f k t.f0 t.f1 t.f2 t.f3 n) (okT n t)
  | 0, t, h, _ => by have := cnt_eq t; omega
  | N + 1, ⟨a, b, s, l⟩, h, hN => by
    have hc := cnt_eq ⟨a, b, s, l⟩
    have hl := len_cntL l
    simp only at hc ⊢
    have loop := right_loop n a b s l (by omega) (fun t ht => right_ev n N t (by have := mem_cntL ht; omega) (by omega)) l.length 0 (by omega)
    have j : ∀ c : Bool, Ev (fun k => quoinref11_right.j0 k n c a b s l) (!c && okL n l) := fun c => by
      cases c with
      | true => exact Ev.step (f := fun _ => some false) (fun k => by simp only [quoinref11_right.j0]; rfl) (Ev.now _)
      | false => exact Ev.step (f := fun k => quoinref11_right.l0 k n ((0 : Nat) : Int) a b s l) (fun k => by simp only [quoinref11_right.j0]; rfl) loop
    by_cases h1 : a < 0
    · refine Ev.step (f := fun k => quoinref11_right.j0 k n true a b s l) (fun k => by simp only [quoinref11_right.f]; rw [if_pos h1]) (Ev.eq (j true) ?_)
      simp only [okT]; rw [decide_eq_false (show ¬ 0 ≤ a by omega)]; rfl
    · by_cases h2 : a > 3
      · refine Ev.step (f := fun k => quoinref11_right.j0 k n true a b s l) (fun k => by simp only [quoinref11_right.f]; rw [if_neg h1, if_pos h2]) (Ev.eq (j true) ?_)
        simp only [okT]; rw [decide_eq_false (show ¬ a ≤ 3 by omega)]; simp
      · have e1 : decide (0 ≤ a) = true := decide_eq_true (by omega)
        have e2 : decide (a ≤ 3) = true := decide_eq_true (by omega)
        by_cases h3 : a = 1
        · by_cases h4 : b < 0
          · refine Ev.step (f := fun k => quoinref11_right.j0 k n true a b s l) (fun k => by simp only [quoinref11_right.f]; rw [if_neg h1, if_neg h2, if_pos h3, if_pos h4]) (Ev.eq (j true) ?_)
            simp only [okT]; rw [e1, e2, decide_eq_true h3, decide_eq_true h4]; rfl
          · refine Ev.step (f := fun k => quoinref11_right.j0 k n (decide (b ≥ n)) a b s l) (fun k => by simp only [quoinref11_right.f]; rw [if_neg h1, if_neg h2, if_pos h3, if_neg h4]) (Ev.eq (j _) ?_)
            simp only [okT]; rw [e1, e2, decide_eq_true h3, decide_eq_false h4]; simp
        · refine Ev.step (f := fun k => quoinref11_right.j0 k n false a b s l) (fun k => by simp only [quoinref11_right.f]; rw [if_neg h1, if_neg h2, if_neg h3]) (Ev.eq (j _) ?_)
          simp only [okT]; rw [e1, e2, decide_eq_false h3]; simp

/-! What stands in the place of picks. -/
theorem okT_parts {n a b : Int} {s : ByteArray} {l : List S24} (h : okT n ⟨a, b, s, l⟩ = true) : (a = 1 → 0 ≤ b ∧ b < n) ∧ okL n l = true := by
  simp only [okT, Bool.and_eq_true, Bool.not_eq_true', Bool.and_eq_false_iff, Bool.or_eq_false_iff, decide_eq_true_eq, decide_eq_false_iff_not] at h
  obtain ⟨⟨⟨h1, h2⟩, h3⟩, h4⟩ := h
  refine ⟨fun e => ?_, h4⟩
  rcases h3 with h3 | h3
  · exact (h3 e).elim
  · omega
theorem put_loop (vs xs : List S24) (a b : Int) (s : ByteArray) (hx : xs.length ≤ 1048576) (ih : ∀ t ∈ xs, Ev (fun k => expand_put.f k t.f0 t.f1 t.f2 t.f3 vs) (comps (sub vs t))) : ∀ (d i : Nat) (acc : List S24), i + d = xs.length → acc.length = xs.length →
    Ev (fun k => expand_put.l0 k vs xs (xs.length : Int) (i : Int) a b s acc) (a, b, s, acc.take i ++ subL vs (xs.drop i))
  | 0, i, acc, h, ha => by
    rw [List.drop_eq_nil_of_le (by omega), subL, List.append_nil, List.take_of_length_le (by omega)]
    exact Ev.step (f := fun _ => some (a, b, s, acc)) (fun k => by simp only [expand_put.l0]; rw [if_neg (by omega)]) (Ev.now _)
  | d + 1, i, acc, h, ha => by
    have hi : i < xs.length := by omega
    rw [drop_at xs i hi]
    refine Ev.step (f := fun k => (expand_put.f k (xs[i]).f0 (xs[i]).f1 (xs[i]).f2 (xs[i]).f3 vs).bind fun q => expand_put.l0 k vs xs (xs.length : Int) ((i + 1 : Nat) : Int) a b s (acc.set i ⟨q.1, q.2.1, q.2.2.1, q.2.2.2⟩)) (fun k => by
      simp only [expand_put.l0]; rw [if_pos (by omega), if_pos (by omega), if_pos (by omega), rd_at xs i hi, wrap_succ i (by omega)]
      congr 1; funext q; rw [if_pos (by omega)]; rfl) ?_
    refine Ev.bind (f := fun k q => expand_put.l0 k vs xs (xs.length : Int) ((i + 1 : Nat) : Int) a b s (acc.set i ⟨q.1, q.2.1, q.2.2.1, q.2.2.2⟩)) (ih _ (List.getElem_mem hi)) ?_
    rw [comps_mk]
    refine Ev.eq (put_loop vs xs a b s hx ih d (i + 1) (acc.set i (sub vs xs[i])) (by omega) (by simpa using ha)) ?_
    rw [take_set acc i _ (by omega), subL, List.append_assoc]; rfl
theorem put_ev (vs : List S24) : ∀ (N : Nat) (t : S24), cnt t ≤ N → N ≤ 1048576 → okT (vs.length : Int) t = true → Ev (fun k => expand_put.f k t.f0 t.f1 t.f2 t.f3 vs) (comps (sub vs t))
  | 0, t, h, _, _ => by have := cnt_eq t; omega
  | N + 1, ⟨a, b, s, l⟩, h, hN, ho => by
    have hc := cnt_eq ⟨a, b, s, l⟩
    have hl := len_cntL l
    obtain ⟨ho1, ho2⟩ := okT_parts ho
    simp only at hc ⊢
    by_cases h1 : a = 1
    · obtain ⟨h2, h3⟩ := ho1 h1
      refine Ev.eq (Ev.step (f := fun _ => some ((rd_T24 vs b).f0, (rd_T24 vs b).f1, (rd_T24 vs b).f2, (rd_T24 vs b).f3)) (fun k => by simp only [expand_put.f]; rw [if_pos h1, if_pos h2, if_pos h3]) (Ev.now _)) ?_
      simp only [sub]; rw [if_pos h1]; rfl
    · have hs : comps (sub vs ⟨a, b, s, l⟩) = (a, b, s, subL vs l) := by simp only [sub]; rw [if_neg h1]; rfl
      rw [hs]
      by_cases h2 : l = []
      · subst h2
        exact Ev.step (f := fun _ => some (a, b, s, [])) (fun k => by simp only [expand_put.f]; rw [if_neg h1, if_pos (by rfl)]) (Ev.now _)
      · have hpos : 0 < l.length := List.length_pos_iff.2 h2
        have loop := put_loop vs l a b s (by omega) (fun t ht => put_ev vs N t (by have := mem_cntL ht; omega) (by omega) (okL_mem ho2 ht)) l.length 0 (List.replicate l.length z24) (by omega) (by simp)
        refine Ev.step (f := fun k => expand_put.l0 k vs l (l.length : Int) ((0 : Nat) : Int) a b s (List.replicate l.length z24)) (fun k => by
          simp only [expand_put.f]; rw [if_neg h1, if_neg (by omega), if_pos (by omega), if_pos (by omega)]; rfl) ?_
        simpa using loop
theorem moved_loop (vs xs : List S24) (a b a' b' : Int) (s s' : ByteArray) (hx : xs.length ≤ 1048576) (ih : ∀ t ∈ xs, Ev (fun k => quoinref11_moved.f k t.f0 t.f1 t.f2 t.f3 vs) (comps (sub vs t))) : ∀ (d i : Nat) (acc : List S24), i + d = xs.length → acc.length = i →
    Ev (fun k => quoinref11_moved.l0 k vs (i : Int) a b s xs a' b' s' acc) (a', b', s', acc ++ subL vs (xs.drop i))
  | 0, i, acc, h, ha => by
    rw [List.drop_eq_nil_of_le (by omega), subL, List.append_nil]
    exact Ev.step (f := fun _ => some (a', b', s', acc)) (fun k => by simp only [quoinref11_moved.l0]; rw [if_neg (by omega)]) (Ev.now _)
  | d + 1, i, acc, h, ha => by
    have hi : i < xs.length := by omega
    rw [drop_at xs i hi]
    refine Ev.step (f := fun k => (quoinref11_moved.f k (xs[i]).f0 (xs[i]).f1 (xs[i]).f2 (xs[i]).f3 vs).bind fun q => quoinref11_moved.l0 k vs ((i + 1 : Nat) : Int) a b s xs a' b' s' (acc ++ [⟨q.1, q.2.1, q.2.2.1, q.2.2.2⟩])) (fun k => by
      simp only [quoinref11_moved.l0]; rw [if_pos (by omega), if_pos (by omega), rd_at xs i hi, wrap_succ i (by omega)]
      congr 1; funext q; rw [if_pos (by omega)]) ?_
    refine Ev.bind (f := fun k q => quoinref11_moved.l0 k vs ((i + 1 : Nat) : Int) a b s xs a' b' s' (acc ++ [⟨q.1, q.2.1, q.2.2.1, q.2.2.2⟩])) (ih _ (List.getElem_mem hi)) ?_
    rw [comps_mk]
    refine Ev.eq (moved_loop vs xs a b a' b' s s' hx ih d (i + 1) (acc ++ [sub vs xs[i]]) (by omega) (by simp; omega)) ?_
    rw [subL, List.append_assoc]; rfl
theorem moved_ev (vs : List S24) : ∀ (N : Nat) (t : S24), cnt t ≤ N → N ≤ 1048576 → okT (vs.length : Int) t = true → Ev (fun k => quoinref11_moved.f k t.f0 t.f1 t.f2 t.f3 vs) (comps (sub vs t))
  | 0, t, h, _, _ => by have := cnt_eq t; omega
  | N + 1, ⟨a, b, s, l⟩, h, hN, ho => by
    have hc := cnt_eq ⟨a, b, s, l⟩
    have hl := len_cntL l
    obtain ⟨ho1, ho2⟩ := okT_parts ho
    simp only at hc ⊢
    by_cases h1 : a = 1
    · obtain ⟨h2, h3⟩ := ho1 h1
      refine Ev.eq (Ev.step (f := fun _ => some ((rd_T24 vs b).f0, (rd_T24 vs b).f1, (rd_T24 vs b).f2, (rd_T24 vs b).f3)) (fun k => by simp only [quoinref11_moved.f]; rw [if_pos h1, if_pos h2, if_pos h3]) (Ev.now _)) ?_
      simp only [sub]; rw [if_pos h1]; rfl
    · have hs : comps (sub vs ⟨a, b, s, l⟩) = (a, b, s, subL vs l) := by simp only [sub]; rw [if_neg h1]; rfl
      rw [hs]
      have loop := moved_loop vs l a b a b s s (by omega) (fun t ht => moved_ev vs N t (by have := mem_cntL ht; omega) (by omega) (okL_mem ho2 ht)) l.length 0 [] (by omega) rfl
      exact Ev.step (f := fun k => quoinref11_moved.l0 k vs ((0 : Nat) : Int) a b s l a b s []) (fun k => by simp only [quoinref11_moved.f]; rw [if_neg h1]; rfl) (by simpa using loop)

/-! A copy. -/
theorem copied_loop (xs : List S24) (a b : Int) (s : ByteArray) (hx : xs.length ≤ 1048576) (ih : ∀ t ∈ xs, Ev (fun k => expand_copied.f k t.f0 t.f1 t.f2 t.f3) (comps t)) : ∀ (d i : Nat) (acc : List S24), i + d = xs.length → acc.length = i →
    Ev (fun k => expand_copied.l0 k xs (xs.length : Int) (i : Int) a b s acc) (a, b, s, acc ++ xs.drop i)
  | 0, i, acc, h, ha => by
    rw [List.drop_eq_nil_of_le (by omega), List.append_nil]
    exact Ev.step (f := fun _ => some (a, b, s, acc)) (fun k => by simp only [expand_copied.l0]; rw [if_neg (by omega)]) (Ev.now _)
  | d + 1, i, acc, h, ha => by
    have hi : i < xs.length := by omega
    rw [drop_at xs i hi]
    refine Ev.step (f := fun k => (expand_copied.f k (xs[i]).f0 (xs[i]).f1 (xs[i]).f2 (xs[i]).f3).bind fun q => expand_copied.l0 k xs (xs.length : Int) ((i + 1 : Nat) : Int) a b s (acc ++ [⟨q.1, q.2.1, q.2.2.1, q.2.2.2⟩])) (fun k => by
      simp only [expand_copied.l0]; rw [if_pos (by omega), if_pos (by omega), if_pos (by omega), rd_at xs i hi, wrap_succ i (by omega)]
      congr 1; funext q; rw [if_pos (by omega)]) ?_
    refine Ev.bind (f := fun k q => expand_copied.l0 k xs (xs.length : Int) ((i + 1 : Nat) : Int) a b s (acc ++ [⟨q.1, q.2.1, q.2.2.1, q.2.2.2⟩])) (ih _ (List.getElem_mem hi)) ?_
    rw [comps_mk]
    refine Ev.eq (copied_loop xs a b s hx ih d (i + 1) (acc ++ [xs[i]]) (by omega) (by simp; omega)) ?_
    rw [List.append_assoc]; rfl
theorem copied_ev : ∀ (N : Nat) (t : S24), cnt t ≤ N → N ≤ 1048576 → Ev (fun k => expand_copied.f k t.f0 t.f1 t.f2 t.f3) (comps t)
  | 0, t, h, _ => by have := cnt_eq t; omega
  | N + 1, ⟨a, b, s, l⟩, h, hN => by
    have hc := cnt_eq ⟨a, b, s, l⟩
    have hl := len_cntL l
    simp only at hc ⊢
    have loop := copied_loop l a b s (by omega) (fun t ht => copied_ev N t (by have := mem_cntL ht; omega) (by omega)) l.length 0 [] (by omega) rfl
    exact Ev.step (f := fun k => expand_copied.l0 k l (l.length : Int) ((0 : Nat) : Int) a b s []) (fun k => by simp only [expand_copied.f]; rfl) (by simpa [comps] using loop)

/-! How many parts there are. -/
def left (c : Nat) (x : Int) : Int := if (c : Int) ≤ x then x - c else -1
theorem parts_loop (a b : Int) (s : ByteArray) (xs : List S24) (hx : xs.length ≤ 1048576) (ih : ∀ t ∈ xs, ∀ x : Int, 0 ≤ x → x ≤ 1000 → Ev (fun k => expand_parts.f k t.f0 t.f1 t.f2 t.f3 x) (left (cnt t) x)) : ∀ (d i : Nat) (x : Int), i + d = xs.length → -1 ≤ x → x ≤ 1000 →
    Ev (fun k => expand_parts.l0 k x (i : Int) a b s xs) (if 0 ≤ x then left (cntL (xs.drop i)) x else x)
  | 0, i, x, h, h0, h1 => by
    rw [List.drop_eq_nil_of_le (by omega)]
    refine Ev.eq (Ev.step (f := fun _ => some x) (fun k => by simp only [expand_parts.l0]; rw [if_neg (by omega)]) (Ev.now _)) ?_
    have e0 : cntL ([] : List S24) = 0 := by simp only [cntL]
    rw [e0]
    by_cases q : 0 ≤ x
    · rw [if_pos q]; unfold left; rw [if_pos (by omega)]; omega
    · rw [if_neg q]
  | d + 1, i, x, h, h0, h1 => by
    have hi : i < xs.length := by omega
    rw [drop_at xs i hi]
    by_cases hx0 : 0 ≤ x
    · rw [if_pos hx0]
      refine Ev.step (f := fun k => (expand_parts.f k (xs[i]).f0 (xs[i]).f1 (xs[i]).f2 (xs[i]).f3 x).bind fun q => expand_parts.l0 k q ((i + 1 : Nat) : Int) a b s xs) (fun k => by
        simp only [expand_parts.l0]; rw [if_pos (by omega), if_pos (by omega), if_pos (by omega), rd_at xs i hi, wrap_succ i (by omega)]) ?_
      refine Ev.bind (f := fun k q => expand_parts.l0 k q ((i + 1 : Nat) : Int) a b s xs) (ih _ (List.getElem_mem hi) x hx0 h1) ?_
      have hb : -1 ≤ left (cnt xs[i]) x ∧ left (cnt xs[i]) x ≤ 1000 := by unfold left; split <;> omega
      refine Ev.eq (parts_loop a b s xs hx ih d (i + 1) _ (by omega) hb.1 hb.2) ?_
      simp only [cntL]
      unfold left
      by_cases q1 : (cnt xs[i] : Int) ≤ x
      · rw [if_pos q1, if_pos (by omega)]
        by_cases q2 : (cntL (xs.drop (i + 1)) : Int) ≤ x - cnt xs[i]
        · rw [if_pos q2, if_pos (by omega)]; omega
        · rw [if_neg q2, if_neg (by omega)]
      · rw [if_neg q1, if_neg (by omega), if_neg (by omega)]
    · rw [if_neg hx0]
      exact Ev.step (f := fun _ => some x) (fun k => by simp only [expand_parts.l0]; rw [if_pos (by omega), if_neg (by omega)]) (Ev.now _)
theorem parts_ev : ∀ (N : Nat) (t : S24), cnt t ≤ N → fit t = true → ∀ x : Int, 0 ≤ x → x ≤ 1000 → Ev (fun k => expand_parts.f k t.f0 t.f1 t.f2 t.f3 x) (left (cnt t) x)
  | 0, t, h, _, _, _, _ => by have := cnt_eq t; omega
  | N + 1, ⟨a, b, s, l⟩, h, hw, x, h0, h1 => by
    have hc := cnt_eq ⟨a, b, s, l⟩
    simp only at hc ⊢
    have loop := parts_loop a b s l (fit_parts.1 hw).1 (fun t ht => parts_ev N t (by have := mem_cntL ht; omega) (fitL_mem (fit_parts.1 hw).2 ht)) l.length 0 (x - 1) (by omega) (by omega) (by omega)
    have hwrap : wrap64 (x - 1) = x - 1 := by unfold wrap64; omega
    refine Ev.step (f := fun k => expand_parts.l0 k (x - 1) ((0 : Nat) : Int) a b s l) (fun k => by simp only [expand_parts.f]; rw [hwrap]; rfl) (Ev.eq loop ?_)
    rw [List.drop_zero, hc]
    unfold left
    by_cases q : 0 ≤ x - 1
    · rw [if_pos q]
      by_cases q2 : (cntL l : Int) ≤ x - 1
      · rw [if_pos q2, if_pos (by omega)]; omega
      · rw [if_neg q2, if_neg (by omega)]
    · rw [if_neg q, if_neg (by omega)]; omega
theorem cntL_take (l : List S24) (i : Nat) (h : i < l.length) : cntL (l.drop i) = cnt l[i] + cntL (l.drop (i + 1)) := by rw [drop_at l i h, cntL]
theorem rparts_loop (a b : Int) (s : ByteArray) (xs : List S24) (hx : xs.length ≤ 1048576) (ih : ∀ t ∈ xs, Ev (fun k => quoinref11_parts.f k t.f0 t.f1 t.f2 t.f3) (cnt t : Int)) : ∀ (d i : Nat) (x : Nat), i + d = xs.length → x + cntL (xs.drop i) ≤ 1048577 →
    Ev (fun k => quoinref11_parts.l0 k (x : Int) (i : Int) a b s xs) ((x + cntL (xs.drop i) : Nat) : Int)
  | 0, i, x, h, h0 => by
    rw [List.drop_eq_nil_of_le (by omega)]
    exact Ev.step (f := fun _ => some (x : Int)) (fun k => by simp only [quoinref11_parts.l0]; rw [if_neg (by omega)]) (Ev.now _)
  | d + 1, i, x, h, h0 => by
    have hi : i < xs.length := by omega
    rw [cntL_take xs i hi] at h0 ⊢
    have hw : wrap64 ((x : Int) + (cnt xs[i] : Int)) = ((x + cnt xs[i] : Nat) : Int) := by unfold wrap64; omega
    refine Ev.step (f := fun k => (quoinref11_parts.f k (xs[i]).f0 (xs[i]).f1 (xs[i]).f2 (xs[i]).f3).bind fun q => quoinref11_parts.l0 k (wrap64 ((x : Int) + q)) ((i + 1 : Nat) : Int) a b s xs) (fun k => by
      simp only [quoinref11_parts.l0]; rw [if_pos (by omega), if_pos (by omega), rd_at xs i hi, wrap_succ i (by omega)]) ?_
    refine Ev.bind (f := fun k q => quoinref11_parts.l0 k (wrap64 ((x : Int) + q)) ((i + 1 : Nat) : Int) a b s xs) (ih _ (List.getElem_mem hi)) ?_
    rw [hw]
    exact Ev.eq (rparts_loop a b s xs hx ih d (i + 1) (x + cnt xs[i]) (by omega) (by omega)) (by omega)
theorem rparts_ev : ∀ (N : Nat) (t : S24), cnt t ≤ N → N ≤ 1048576 → Ev (fun k => quoinref11_parts.f k t.f0 t.f1 t.f2 t.f3) (cnt t : Int)
  | 0, t, h, _ => by have := cnt_eq t; omega
  | N + 1, ⟨a, b, s, l⟩, h, hN => by
    have hc := cnt_eq ⟨a, b, s, l⟩
    have hl := len_cntL l
    simp only at hc ⊢
    have loop := rparts_loop a b s l (by omega) (fun t ht => rparts_ev N t (by have := mem_cntL ht; omega) (by omega)) l.length 0 1 (by omega) (by simp only [List.drop_zero]; omega)
    refine Ev.step (f := fun k => quoinref11_parts.l0 k ((1 : Nat) : Int) ((0 : Nat) : Int) a b s l) (fun k => by simp only [quoinref11_parts.f]; rfl) (Ev.eq loop ?_)
    rw [List.drop_zero, hc]
def sized (vs : List S24) : List S40 := vs.map fun v => ⟨v, mn (cnt v : Int) 257⟩
def cap (n : Nat) : Int := mn (n : Int) 257
theorem cap_le (n : Nat) : cap n = if n ≤ 257 then (n : Int) else 257 := by unfold cap mn; split <;> omega
theorem size_loop (vs : List S24) (a b : Int) (s : ByteArray) (xs : List S24) (hx : xs.length ≤ 1048576) (ih : ∀ t ∈ xs, Ev (fun k => quoinref11_size.f k t.f0 t.f1 t.f2 t.f3 (sized vs)) (cap (cnt (sub vs t)))) : ∀ (d i : Nat) (x : Nat), i + d = xs.length → x ≤ 1000 →
    Ev (fun k => quoinref11_size.l0 k (sized vs) (x : Int) (i : Int) a b s xs) (cap (x + cntL (subL vs (xs.drop i))))
  | 0, i, x, h, h0 => by
    rw [List.drop_eq_nil_of_le (by omega)]
    exact Ev.step (f := fun _ => some (mn (x : Int) 257)) (fun k => by simp only [quoinref11_size.l0]; rw [if_neg (by omega)]) (Ev.now _)
  | d + 1, i, x, h, h0 => by
    have hi : i < xs.length := by omega
    rw [drop_at xs i hi]
    by_cases hq : (x : Int) ≤ 256
    · refine Ev.step (f := fun k => (quoinref11_size.f k (xs[i]).f0 (xs[i]).f1 (xs[i]).f2 (xs[i]).f3 (sized vs)).bind fun q => quoinref11_size.l0 k (sized vs) (wrap64 ((x : Int) + q)) ((i + 1 : Nat) : Int) a b s xs) (fun k => by
        simp only [quoinref11_size.l0]; rw [if_pos (by omega), if_pos hq, if_pos (by omega), rd_at xs i hi, wrap_succ i (by omega)]) ?_
      refine Ev.bind (f := fun k q => quoinref11_size.l0 k (sized vs) (wrap64 ((x : Int) + q)) ((i + 1 : Nat) : Int) a b s xs) (ih _ (List.getElem_mem hi)) ?_
      have e1 := cap_le (cnt (sub vs xs[i]))
      have hw : wrap64 ((x : Int) + cap (cnt (sub vs xs[i]))) = ((x + (cap (cnt (sub vs xs[i]))).toNat : Nat) : Int) := by
        rw [e1]; unfold wrap64; split <;> omega
      rw [hw]
      refine Ev.eq (size_loop vs a b s xs hx ih d (i + 1) _ (by omega) (by rw [e1]; split <;> omega)) ?_
      simp only [subL, cntL]
      clear hw
      generalize cap (cnt (sub vs xs[i])) = r at e1
      rw [cap_le, cap_le]
      by_cases q1 : cnt (sub vs xs[i]) ≤ 257
      · rw [if_pos q1] at e1; subst e1
        split <;> split <;> omega
      · rw [if_neg q1] at e1; subst e1
        split <;> split <;> omega
    · refine Ev.eq (Ev.step (f := fun _ => some (mn (x : Int) 257)) (fun k => by simp only [quoinref11_size.l0]; rw [if_pos (by omega), if_neg hq]) (Ev.now _)) ?_
      show cap x = _
      rw [cap_le, cap_le]
      split <;> split <;> omega
theorem size_ev (vs : List S24) : ∀ (N : Nat) (t : S24), cnt t ≤ N → N ≤ 1048576 → okT (vs.length : Int) t = true → Ev (fun k => quoinref11_size.f k t.f0 t.f1 t.f2 t.f3 (sized vs)) (cap (cnt (sub vs t)))
  | 0, t, h, _, _ => by have := cnt_eq t; omega
  | N + 1, ⟨a, b, s, l⟩, h, hN, ho => by
    have hc := cnt_eq ⟨a, b, s, l⟩
    have hl := len_cntL l
    obtain ⟨ho1, ho2⟩ := okT_parts ho
    simp only at hc ⊢
    by_cases h1 : a = 1
    · obtain ⟨h2, h3⟩ := ho1 h1
      obtain ⟨n, rfl⟩ : ∃ n : Nat, b = n := ⟨b.toNat, by omega⟩
      have hn : n < vs.length := by omega
      refine Ev.eq (Ev.step (f := fun _ => some ((rd_T40 (sized vs) (n : Int)).f1)) (fun k => by simp only [quoinref11_size.f]; rw [if_pos h1, if_pos h2, if_pos (by simpa [sized] using hn)]) (Ev.now _)) ?_
      simp only [sub]; rw [if_pos h1, rd_at vs n hn, rd40_at (sized vs) n (by simpa [sized] using hn)]
      simp [sized, cap]
    · have hs : cnt (sub vs ⟨a, b, s, l⟩) = 1 + cntL (subL vs l) := by simp only [sub]; rw [if_neg h1, cnt]
      rw [hs]
      have loop := size_loop vs a b s l (by omega) (fun t ht => size_ev vs N t (by have := mem_cntL ht; omega) (by omega) (okL_mem ho2 ht)) l.length 0 1 (by omega) (by omega)
      exact Ev.step (f := fun k => quoinref11_size.l0 k (sized vs) ((1 : Nat) : Int) ((0 : Nat) : Int) a b s l) (fun k => by simp only [quoinref11_size.f]; rw [if_neg h1]; rfl) (by simpa using loop)

/-! Both programs. -/
/-- The kids' actions as they are. -/
theorem with_loop (vs : List S24) (t : S24) (n : Int) (hv : vs.length ≤ 1048576) (hc : cnt t ≤ 1048576) (ho : okT (vs.length : Int) t = true) : ∀ (d i : Nat), i + d = vs.length →
    Ev (fun k => quoinref11_with.l0 k (sized vs) n (vs.take i) (i : Int) t.f0 t.f1 t.f2 t.f3) ((sub vs t).f0, (sub vs t).f1, (sub vs t).f2, (sub vs t).f3, n)
  | 0, i, h => by
    have hl : (sized vs).length = vs.length := by simp [sized]
    rw [List.take_of_length_le (by omega)]
    refine Ev.step (f := fun k => (quoinref11_moved.f k t.f0 t.f1 t.f2 t.f3 vs).bind fun q => some (q.1, q.2.1, q.2.2.1, q.2.2.2, n)) (fun k => by simp only [quoinref11_with.l0]; rw [if_neg (by omega)]) ?_
    exact Ev.bind (f := fun _ q => some (q.1, q.2.1, q.2.2.1, q.2.2.2, n)) (moved_ev vs _ t hc (Nat.le_refl _) ho) (Ev.now _)
  | d + 1, i, h => by
    have hl : (sized vs).length = vs.length := by simp [sized]
    have hi : i < vs.length := by omega
    refine Ev.step (f := fun k => quoinref11_with.l0 k (sized vs) n (vs.take (i + 1)) ((i + 1 : Nat) : Int) t.f0 t.f1 t.f2 t.f3) (fun k => by
      have e : vs.take (i + 1) = vs.take i ++ [vs[i]] := by rw [List.take_succ_eq_append_getElem hi]
      simp only [quoinref11_with.l0]; rw [if_pos (by omega), if_pos (by omega), if_pos (by simp; omega), rd40_at (sized vs) i (by omega), wrap_succ i (by omega), e]
      have e3 : (sized vs)[i] = ⟨vs[i], mn (cnt vs[i] : Int) 257⟩ := by simp [sized]
      rw [e3]; simp only [mk_eta]) ?_
    exact with_loop vs t n hv hc ho d (i + 1) (by omega)
def zeroT (e : Int) : Int × Int × ByteArray × List S24 × Int := (0, 0, ⟨#[]⟩, [], e)
/-- What both answer. -/
def answer (vs : List S24) (t : S24) : Int × Int × ByteArray × List S24 × Int :=
  if okT (vs.length : Int) t = true then if cnt (sub vs t) ≤ 256 then ((sub vs t).f0, (sub vs t).f1, (sub vs t).f2, (sub vs t).f3, 0) else zeroT 115 else zeroT 1
theorem act_loop (vs : List S24) (t : S24) (hv : cntL vs ≤ 1048576) (hc : cnt t ≤ 1048576) (ho : okT (vs.length : Int) t = true) : ∀ (d i : Nat), i + d = vs.length →
    Ev (fun k => quoinref11_Act.l0 k vs ((sized vs).take i) (i : Int) t.f0 t.f1 t.f2 t.f3) (answer vs t)
  | 0, i, h => by
    have hl : (sized vs).length = vs.length := by simp [sized]
    have hlv := len_cntL vs
    rw [List.take_of_length_le (by omega)]
    refine Ev.step (f := fun k => (quoinref11_with.f k t.f0 t.f1 t.f2 t.f3 (sized vs)).bind fun q => if q.2.2.2.2 > 256 then some (zeroT 115) else some (q.1, q.2.1, q.2.2.1, q.2.2.2.1, 0)) (fun k => by simp only [quoinref11_Act.l0]; rw [if_neg (by omega)]; rfl) ?_
    have hsz := size_ev vs _ t hc (Nat.le_refl _) ho
    have hcap := cap_le (cnt (sub vs t))
    unfold answer; rw [if_pos ho]
    by_cases hq : cnt (sub vs t) ≤ 256
    · rw [if_pos hq]
      refine Ev.bind (a := ((sub vs t).f0, (sub vs t).f1, (sub vs t).f2, (sub vs t).f3, cap (cnt (sub vs t)))) (f := fun _ q => if q.2.2.2.2 > 256 then some (zeroT 115) else some (q.1, q.2.1, q.2.2.1, q.2.2.2.1, 0)) ?_ ?_
      · refine Ev.congr (f := fun k => (quoinref11_size.f k t.f0 t.f1 t.f2 t.f3 (sized vs)).bind fun q => if q > 256 then some (0, 0, ⟨#[]⟩, [], q) else quoinref11_with.l0 k (sized vs) q [] 0 t.f0 t.f1 t.f2 t.f3) (fun k => rfl) ?_
        refine Ev.bind (f := fun k q => if q > 256 then some (0, 0, ⟨#[]⟩, [], q) else quoinref11_with.l0 k (sized vs) q [] 0 t.f0 t.f1 t.f2 t.f3) hsz ?_
        simp only [if_neg (show ¬ cap (cnt (sub vs t)) > 256 by rw [hcap, if_pos (by omega)]; omega)]
        exact with_loop vs t _ (by omega) hc ho vs.length 0 (by omega)
      · simp only [if_neg (show ¬ cap (cnt (sub vs t)) > 256 by rw [hcap, if_pos (by omega)]; omega)]
        exact Ev.now _
    · rw [if_neg hq]
      have hbig : cap (cnt (sub vs t)) > 256 := by rw [hcap]; split <;> omega
      refine Ev.bind (a := (0, 0, ⟨#[]⟩, [], cap (cnt (sub vs t)))) (f := fun _ q => if q.2.2.2.2 > 256 then some (zeroT 115) else some (q.1, q.2.1, q.2.2.1, q.2.2.2.1, 0)) ?_ ?_
      · refine Ev.congr (f := fun k => (quoinref11_size.f k t.f0 t.f1 t.f2 t.f3 (sized vs)).bind fun q => if q > 256 then some (0, 0, ⟨#[]⟩, [], q) else quoinref11_with.l0 k (sized vs) q [] 0 t.f0 t.f1 t.f2 t.f3) (fun k => rfl) ?_
        refine Ev.bind (f := fun k q => if q > 256 then some (0, 0, ⟨#[]⟩, [], q) else quoinref11_with.l0 k (sized vs) q [] 0 t.f0 t.f1 t.f2 t.f3) hsz ?_
        simp only [if_pos hbig]
        exact Ev.now _
      · simp only [if_pos hbig]
        exact Ev.now _
  | d + 1, i, h => by
    have hl : (sized vs).length = vs.length := by simp [sized]
    have hlv := len_cntL vs
    have hi : i < vs.length := by omega
    refine Ev.step (f := fun k => (quoinref11_parts.f k (vs[i]).f0 (vs[i]).f1 (vs[i]).f2 (vs[i]).f3).bind fun q => quoinref11_Act.l0 k vs ((sized vs).take i ++ [(⟨vs[i], mn q 257⟩ : S40)]) ((i + 1 : Nat) : Int) t.f0 t.f1 t.f2 t.f3) (fun k => by
      simp only [quoinref11_Act.l0]; rw [if_pos (by omega), if_pos (by omega), rd_at vs i hi, wrap_succ i (by omega)]
      congr 1; funext q; rw [mk_eta, if_pos (by simp; omega)]) ?_
    refine Ev.bind (f := fun k q => quoinref11_Act.l0 k vs ((sized vs).take i ++ [(⟨vs[i], mn q 257⟩ : S40)]) ((i + 1 : Nat) : Int) t.f0 t.f1 t.f2 t.f3) (rparts_ev _ vs[i] (Nat.le_trans (mem_cntL (List.getElem_mem hi)) hv) (Nat.le_refl _)) ?_
    have e : (sized vs).take i ++ [⟨vs[i], mn (cnt vs[i] : Int) 257⟩] = (sized vs).take (i + 1) := by
      rw [List.take_succ_eq_append_getElem (by omega : i < (sized vs).length)]; simp [sized]
    rw [e]
    exact act_loop vs t hv hc ho d (i + 1) (by omega)
theorem ref_ev (vs : List S24) (t : S24) (hv : cntL vs ≤ 1048576) (hc : cnt t ≤ 1048576) : Ev (fun k => quoinref11_Act.f k t.f0 t.f1 t.f2 t.f3 vs) (answer vs t) := by
  refine Ev.congr (f := fun k => (quoinref11_right.f k t.f0 t.f1 t.f2 t.f3 (vs.length : Int)).bind fun q => if q = true then quoinref11_Act.l0 k vs [] 0 t.f0 t.f1 t.f2 t.f3 else some (zeroT 1)) (fun k => rfl) ?_
  refine Ev.bind (f := fun k q => if q = true then quoinref11_Act.l0 k vs [] 0 t.f0 t.f1 t.f2 t.f3 else some (zeroT 1)) (right_ev _ _ t hc (Nat.le_refl _)) ?_
  cases ho : okT (vs.length : Int) t with
  | true =>
    simp only [if_true]
    exact act_loop vs t hv hc ho vs.length 0 (by omega)
  | false =>
    unfold answer; rw [ho]
    simpa using Ev.now (zeroT 1)
theorem own_ev (vs : List S24) (t : S24) (hv : cntL vs ≤ 1048576) (hc : cnt t ≤ 1048576) : Ev (fun k => expand_Act.f k t.f0 t.f1 t.f2 t.f3 vs) (answer vs t) := by
  refine Ev.congr (f := fun k => (expand_picks.f k t.f0 t.f1 t.f2 t.f3 (vs.length : Int)).bind fun q => if q = true then (expand_put.f k t.f0 t.f1 t.f2 t.f3 vs).bind fun o => (expand_parts.f k o.1 o.2.1 o.2.2.1 o.2.2.2 256).bind fun p => if p < 0 then some (zeroT 115) else (expand_copied.f k o.1 o.2.1 o.2.2.1 o.2.2.2).bind fun c => some (c.1, c.2.1, c.2.2.1, c.2.2.2, 0) else some (zeroT 1)) (fun k => rfl) ?_
  refine Ev.bind (f := fun k q => if q = true then (expand_put.f k t.f0 t.f1 t.f2 t.f3 vs).bind fun o => (expand_parts.f k o.1 o.2.1 o.2.2.1 o.2.2.2 256).bind fun p => if p < 0 then some (zeroT 115) else (expand_copied.f k o.1 o.2.1 o.2.2.1 o.2.2.2).bind fun c => some (c.1, c.2.1, c.2.2.1, c.2.2.2, 0) else some (zeroT 1)) (picks_ev _ _ t hc (Nat.le_refl _)) ?_
  cases ho : okT (vs.length : Int) t with
  | false =>
    unfold answer; rw [ho]
    simpa using Ev.now (zeroT 1)
  | true =>
    simp only [if_true]
    refine Ev.bind (f := fun k o => (expand_parts.f k o.1 o.2.1 o.2.2.1 o.2.2.2 256).bind fun p => if p < 0 then some (zeroT 115) else (expand_copied.f k o.1 o.2.1 o.2.2.1 o.2.2.2).bind fun c => some (c.1, c.2.1, c.2.2.1, c.2.2.2, 0)) (put_ev vs _ t hc (Nat.le_refl _) ho) ?_
    have hf : fit (sub vs t) = true := sub_fit (fitL_of fun u hu => fit_cnt _ u (Nat.le_trans (mem_cntL hu) hv) (Nat.le_refl _)) _ t (Nat.le_refl _) (fit_cnt _ t hc (Nat.le_refl _))
    refine Ev.bind (f := fun k p => if p < 0 then some (zeroT 115) else (expand_copied.f k (sub vs t).f0 (sub vs t).f1 (sub vs t).f2 (sub vs t).f3).bind fun c => some (c.1, c.2.1, c.2.2.1, c.2.2.2, 0)) (parts_ev _ (sub vs t) (Nat.le_refl _) hf 256 (by omega) (by omega)) ?_
    unfold answer; rw [if_pos ho]
    by_cases hq : cnt (sub vs t) ≤ 256
    · rw [if_pos hq]
      have e : left (cnt (sub vs t)) 256 = 256 - cnt (sub vs t) := by unfold left; rw [if_pos (by omega)]
      rw [e]
      simp only [if_neg (show ¬ (256 - (cnt (sub vs t) : Int) < 0) by omega)]
      exact Ev.bind (f := fun _ c => some (c.1, c.2.1, c.2.2.1, c.2.2.2, (0 : Int))) (copied_ev 256 (sub vs t) hq (by omega)) (Ev.now _)
    · rw [if_neg hq]
      have e : left (cnt (sub vs t)) 256 = -1 := by unfold left; rw [if_neg (by omega)]
      rw [e]
      simp only [if_pos (show (-1 : Int) < 0 by omega)]
      exact Ev.now _
/-! A tree is itself. -/
theorem same_loop (a b : Int) (s : ByteArray) (xs : List S24) (hx : xs.length ≤ 1048576) (ih : ∀ t ∈ xs, Ev (fun k => quoinref11_SameAct.f k t.f0 t.f1 t.f2 t.f3 t.f0 t.f1 t.f2 t.f3) true) : ∀ d i : Nat, i + d = xs.length → Ev (fun k => quoinref11_SameAct.l0 k (i : Int) a b s xs a b s xs) true
  | 0, i, h => Ev.step (f := fun _ => some true) (fun k => by simp only [quoinref11_SameAct.l0]; rw [if_neg (by omega)]) (Ev.now _)
  | d + 1, i, h => by
    have hi : i < xs.length := by omega
    refine Ev.step (f := fun k => (quoinref11_SameAct.f k (xs[i]).f0 (xs[i]).f1 (xs[i]).f2 (xs[i]).f3 (xs[i]).f0 (xs[i]).f1 (xs[i]).f2 (xs[i]).f3).bind fun q => if q = true then quoinref11_SameAct.l0 k ((i + 1 : Nat) : Int) a b s xs a b s xs else some false) (fun k => by
      simp only [quoinref11_SameAct.l0]; rw [if_pos (by omega), if_pos (by omega), if_pos (by omega), rd_at xs i hi, wrap_succ i (by omega)]) ?_
    refine Ev.bind (f := fun k q => if q = true then quoinref11_SameAct.l0 k ((i + 1 : Nat) : Int) a b s xs a b s xs else some false) (ih _ (List.getElem_mem hi)) ?_
    simpa using same_loop a b s xs hx ih d (i + 1) (by omega)
theorem same_ev : ∀ (N : Nat) (t : S24), cnt t ≤ N → fit t = true → Ev (fun k => quoinref11_SameAct.f k t.f0 t.f1 t.f2 t.f3 t.f0 t.f1 t.f2 t.f3) true
  | 0, t, h, _ => by have := cnt_eq t; omega
  | N + 1, ⟨a, b, s, l⟩, h, hf => by
    have hc := cnt_eq ⟨a, b, s, l⟩
    simp only at hc ⊢
    have loop := same_loop a b s l (fit_parts.1 hf).1 (fun t ht => same_ev N t (by have := mem_cntL ht; omega) (fitL_mem (fit_parts.1 hf).2 ht)) l.length 0 (by omega)
    refine Ev.step (f := fun k => quoinref11_SameAct.j0 k ((l.length : Int) != (l.length : Int)) a b s l a b s l) (fun k => by simp only [quoinref11_SameAct.f, if_true]) ?_
    refine Ev.step (f := fun k => quoinref11_SameAct.l0 k ((0 : Nat) : Int) a b s l a b s l) (fun k => by simp only [quoinref11_SameAct.j0]; rw [if_neg (by simp)]; rfl) loop
/-- ████ The law, of trees. -/
theorem law (vs : List S24) (t : S24) (hv : cntL vs ≤ 1048576) (hc : cnt t ≤ 1048576) : ∃ k, quoinlaw11_ExpandActs.f k t.f0 t.f1 t.f2 t.f3 vs = some true := by
  refine Ev.rounds (g := fun k => quoinlaw11_ExpandActs.f k t.f0 t.f1 t.f2 t.f3 vs) ?_
  refine Ev.congr (f := fun k => (expand_Act.f k t.f0 t.f1 t.f2 t.f3 vs).bind fun p => (quoinref11_Act.f k t.f0 t.f1 t.f2 t.f3 vs).bind fun q => (quoinref11_SameAct.f k p.1 p.2.1 p.2.2.1 p.2.2.2.1 q.1 q.2.1 q.2.2.1 q.2.2.2.1).bind fun x => if x = true then (if p.2.2.2.2 = q.2.2.2.2 then (quoinlaw11_alive.f).bind fun y => some y else some false) else some false) (fun k => rfl) ?_
  refine Ev.bind (f := fun k p => (quoinref11_Act.f k t.f0 t.f1 t.f2 t.f3 vs).bind fun q => (quoinref11_SameAct.f k p.1 p.2.1 p.2.2.1 p.2.2.2.1 q.1 q.2.1 q.2.2.1 q.2.2.2.1).bind fun x => if x = true then (if p.2.2.2.2 = q.2.2.2.2 then (quoinlaw11_alive.f).bind fun y => some y else some false) else some false) (own_ev vs t hv hc) ?_
  refine Ev.bind (f := fun k q => (quoinref11_SameAct.f k (answer vs t).1 (answer vs t).2.1 (answer vs t).2.2.1 (answer vs t).2.2.2.1 q.1 q.2.1 q.2.2.1 q.2.2.2.1).bind fun x => if x = true then (if (answer vs t).2.2.2.2 = q.2.2.2.2 then (quoinlaw11_alive.f).bind fun y => some y else some false) else some false) (ref_ev vs t hv hc) ?_
  have hs : Ev (fun k => quoinref11_SameAct.f k (answer vs t).1 (answer vs t).2.1 (answer vs t).2.2.1 (answer vs t).2.2.2.1 (answer vs t).1 (answer vs t).2.1 (answer vs t).2.2.1 (answer vs t).2.2.2.1) true := by
    have hf : fit (sub vs t) = true := sub_fit (fitL_of fun u hu => fit_cnt _ u (Nat.le_trans (mem_cntL hu) hv) (Nat.le_refl _)) _ t (Nat.le_refl _) (fit_cnt _ t hc (Nat.le_refl _))
    unfold answer
    split
    · split
      · exact same_ev _ (sub vs t) (Nat.le_refl _) hf
      · exact same_ev 1 z24 (by decide) (by decide)
    · exact same_ev 1 z24 (by decide) (by decide)
  refine Ev.bind (f := fun _ x => if x = true then (if (answer vs t).2.2.2.2 = (answer vs t).2.2.2.2 then (quoinlaw11_alive.f).bind fun y => some y else some false) else some false) hs ?_
  simp only [if_true]
  exact Ev.now true
end Go.Proofs.YtnkhfkjgedmmjaaGreatDoor.Trees
