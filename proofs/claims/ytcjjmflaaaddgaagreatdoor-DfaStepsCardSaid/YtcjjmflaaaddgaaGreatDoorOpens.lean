/-
  Arguments as they are read: of what kind their cells are, and how much they hold. (Of no one program.)
-/
import Derived.Test.YtcjjmflaaaddgaaGreatDoorRows
import Derived.Test.YtcjjmflaaaddgaaGreatDoorWWords
import Derived.ChangeArms
import Derived.WideShapes
namespace Go.Proofs.YtcjjmflaaaddgaaGreatDoor.Opens
open Go Go.RowKit Go.WideShapes Go.Proofs.YtcjjmflaaaddgaaGreatDoorW.PrintWords

/-- What reads as a value of type t (so deep at most) is of the kind d; good tells what is known of it, wt is no more than what it holds. -/
structure Opn {α : Type} (P : Program) (n : Nat) (t : TypeId) (d : Kd α) (wt : α → Nat) (good : α → Prop) : Prop where
  sz : P.cellsOf t = d.sz
  get : ∀ {H : Type} {enc : TypeId × Value → H} {w : World} {base : Nat} {sp : Nat → Bool} {held : Bool} {fuel : Nat} {cs : List Value} {D : DataW H} {ps : List MemPlace}, fuel ≤ n →
    DataW.trod enc P w base sp held fuel t cs = some (D, ps) → ∃ x, d.K w x cs ∧ good x ∧ wt x ≤ Rows.uptoBulk D
/-- The fields of a struct, from one place on. -/
structure OpnFs {α : Type} (P : Program) (n : Nat) (fs : List Field) (off : Nat) (d : Kd α) (wt : α → Nat) (good : α → Prop) : Prop where
  get : ∀ {H : Type} {enc : TypeId × Value → H} {w : World} {base : Nat} {sp : Nat → Bool} {held : Bool} {fuel : Nat} {cs : List Value} {xs : List (DataW H × List MemPlace)}, fuel ≤ n → xs.length = fs.length →
    (∀ (i : Nat) (f : Field), fs[i]? = some f → DataW.trod enc P w base sp held fuel f.type ((cs.drop f.offset).take (P.cellsOf f.type)) = xs[i]?) →
    ∃ x, d.K w x ((cs.drop off).take d.sz) ∧ good x ∧ wt x ≤ Rows.uptoBulkAll (xs.map (·.1))
section
variable {α β : Type} {P : Program} {n : Nat} {t : TypeId} {d : Kd α} {wt wt' : α → Nat} {good good' : α → Prop}
theorem Opn.imp (h : Opn P n t d wt good) (h1 : ∀ x, good x → good' x) (h2 : ∀ x, wt' x ≤ wt x) : Opn P n t d wt' good' :=
  ⟨h.sz, fun hn hd => let ⟨x, a, b, c⟩ := h.get hn hd; ⟨x, a, h1 x b, Nat.le_trans (h2 x) c⟩⟩
theorem Opn.le {m : Nat} (h : Opn P n t d wt good) (hm : m ≤ n) : Opn P m t d wt good := ⟨h.sz, fun hn hd => h.get (Nat.le_trans hn hm) hd⟩
theorem Opn.int {k : IntKind} (ht : P.underlying t = some (.int k)) (hc : P.cellsOf t = 1) : Opn P n t (Kd.int k) (fun _ => 1) (fun z => (Lit.int k z).wf = true) := by
  refine ⟨hc, fun _ h => ?_⟩
  obtain ⟨z, rfl, hx, hw⟩ := DataW.trod_int ht h
  cases hx
  exact ⟨z, rfl, hw, by simp [Rows.uptoBulk]⟩
theorem add_add (a : Addr) (x y : Nat) : (a.add x).add y = a.add (x + y) := by
  cases x with
  | zero => simp [Addr.add]
  | succ x =>
    cases y with
    | zero => simp [Addr.add]
    | succ y => simp [Addr.add]; omega
theorem pick {α : Type} {Q : Nat → α → Prop} : ∀ n : Nat, (∀ i, i < n → ∃ x, Q i x) → ∃ xs : List α, xs.length = n ∧ ∀ (i : Nat) x, xs[i]? = some x → Q i x
  | 0, _ => ⟨[], rfl, fun i x h => by simp at h⟩
  | n + 1, h => by
    obtain ⟨xs, hl, hx⟩ := pick n fun i hi => h i (by omega)
    obtain ⟨y, hy⟩ := h n (by omega)
    refine ⟨xs ++ [y], by simp [hl], fun i x hi => ?_⟩
    rcases Nat.lt_trichotomy i n with q | q | q
    · rw [List.getElem?_append_left (by omega)] at hi; exact hx i x hi
    · subst q
      rw [List.getElem?_append_right (by omega), hl, Nat.sub_self] at hi
      cases hi; exact hy
    · rw [List.getElem?_eq_none (by simp; omega)] at hi; cases hi
theorem sum_le {H : Type} {wt : α → Nat} : ∀ {xs : List α} {Ds : List (DataW H)}, xs.length = Ds.length → (∀ (i : Nat) x D, xs[i]? = some x → Ds[i]? = some D → wt x ≤ Rows.uptoBulk D) → (xs.map wt).sum ≤ Rows.uptoBulkAll Ds
  | [], [], _, _ => by simp [Rows.uptoBulkAll]
  | x :: xs, D :: Ds, hl, h => by
    have h0 := h 0 x D rfl rfl
    have := sum_le (xs := xs) (Ds := Ds) (by simpa using hl) fun i a b ha hb => h (i + 1) a b (by simpa using ha) (by simpa using hb)
    simp only [List.map_cons, List.sum_cons, Rows.uptoBulkAll]; omega
  | [], _ :: _, hl, _ => by simp at hl
  | _ :: _, [], hl, _ => by simp at hl
/-- A row, its elements' weights, and one more. -/
def wtL (wt : α → Nat) (xs : List α) : Nat := (xs.map wt).sum + 1
theorem Opn.slice {e : TypeId} (ht : P.underlying t = some (.slice e)) (hc : P.cellsOf t = 1) (h : Opn P n e d wt good) : Opn P (n + 1) t (Kd.slice e d) (wtL wt) (fun xs => ∀ x ∈ xs, good x) := by
  refine ⟨hc, fun hn hd => ?_⟩
  rcases DataW.trod_slice ht hd with ⟨rfl, hx⟩ | ⟨a, len, cap, elems, rest, m, rfl, rfl, hx, hb, hl, hm, hlen, hel, _⟩
  · cases hx
    refine ⟨[], ⟨none, 0, rfl, Nat.le_refl _, rfl, Nat.zero_le _, fun h => absurd h (Nat.lt_irrefl 0)⟩, ?_, ?_⟩
    · intro x hx; cases hx
    · simp [wtL, Rows.uptoBulk]
  · cases hx
    have hm' : m ≤ n := by omega
    have step : ∀ i, i < len → ∃ x, ∃ cs' D ps, (P.cellsOf e = cs'.length) ∧ elems[i]? = some (D, ps) ∧ (∀ j u, cs'[j]? = some u → _root_.Go.World.cell? _ (a.add (i * P.cellsOf e + j)) = some u) ∧ d.K _ x cs' ∧ good x ∧ wt x ≤ Rows.uptoBulk D := fun i hi => by
      have hq := hel i hi
      rw [List.getElem?_eq_getElem (by omega)] at hq
      obtain ⟨cs', h1, h2⟩ := Option.bind_eq_some_iff.1 hq
      obtain ⟨x, k1, k2, k3⟩ := h.get hm' (D := (elems[i]'(by omega)).1) (ps := (elems[i]'(by omega)).2) h2
      refine ⟨x, cs', _, _, ?_, List.getElem?_eq_getElem (by omega), fun j u hu => ?_, k1, k2, k3⟩
      · rw [h.sz, d.K_len k1]
      · unfold World.cells? at h1
        split at h1
        · have hj : j < P.cellsOf e := by
            have := (List.getElem?_eq_some_iff.1 hu).1
            rw [h.sz, ← d.K_len k1]; exact this
          have := mapM_some_get h1 j j (by simp [hj])
          rw [hu, add_add] at this
          exact this
        · cases h1
    obtain ⟨xs, hxl, hxs⟩ := pick len step
    refine ⟨xs, ⟨some a, cap, by rw [hxl], by rw [hxl]; exact hl, rfl, ?_, fun _ => ⟨a, rfl, fun j p hj => ?_⟩⟩, fun x hx => ?_, ?_⟩
    · unfold maxLen at hm; omega
    · obtain ⟨cs', D, ps, q1, q2, q3, q4, q5, q6⟩ := hxs j p hj
      exact ⟨cs', d.K_len q4, q4, fun i u hu => by rw [← h.sz]; exact q3 i u hu⟩
    · obtain ⟨i, hi⟩ := List.mem_iff_getElem?.1 hx
      obtain ⟨cs', D, ps, q1, q2, q3, q4, q5, q6⟩ := hxs i x hi
      exact q5
    · have := sum_le (wt := wt) (xs := xs) (Ds := elems.map (·.1)) (by simp; omega) fun i x D hi hD => by
        obtain ⟨cs', D', ps, q1, q2, q3, q4, q5, q6⟩ := hxs i x hi
        rw [List.getElem?_map, q2] at hD
        cases hD; exact q6
      simp only [wtL, Rows.uptoBulk]; omega
theorem OpnFs.one {f : Field} {off : Nat} (ho : f.offset = off) (h : Opn P n f.type d wt good) : OpnFs P n [f] off d wt good := by
  refine ⟨fun {_ _ _ _ _ _ _ cs xs} hn hl hx => ?_⟩
  have h0 := hx 0 f rfl
  match xs, hl with
  | [(D, ps)], _ =>
    obtain ⟨x, a, b, c⟩ := h.get hn h0
    refine ⟨x, by rw [← ho, ← h.sz]; exact a, b, ?_⟩
    simp only [List.map_cons, List.map_nil, Rows.uptoBulkAll]; omega
theorem OpnFs.cons {f : Field} {fs : List Field} {off : Nat} {e : Kd β} {wt2 : β → Nat} {good2 : β → Prop} (ho : f.offset = off) (h : Opn P n f.type d wt good) (k : OpnFs P n fs (off + d.sz) e wt2 good2) :
    OpnFs P n (f :: fs) off (Kd.pair d e) (fun x => wt x.1 + wt2 x.2) (fun x => good x.1 ∧ good2 x.2) := by
  refine ⟨fun {_ _ _ _ _ _ _ cs xs} hn hl hx => ?_⟩
  have h0 := hx 0 f rfl
  match xs, hl with
  | (D, ps) :: xs, hl =>
    obtain ⟨x, a, b, c⟩ := h.get hn h0
    obtain ⟨y, a2, b2, c2⟩ := k.get (cs := cs) (xs := xs) hn (by simpa using hl) fun i g hg => by simpa using hx (i + 1) g (by simpa using hg)
    refine ⟨(x, y), ⟨_, _, ?_, a, a2⟩, ⟨b, b2⟩, ?_⟩
    · show (cs.drop off).take (d.sz + e.sz) = _
      rw [List.take_add, List.drop_drop, ho, h.sz]
    · simp only [List.map_cons, Rows.uptoBulkAll]; omega
/-- A struct. -/
theorem Opn.struct {fs : Array Field} (ht : P.underlying t = some (.struct fs)) (hc : P.cellsOf t = d.sz) (h : OpnFs P n fs.toList 0 d wt good) : Opn P (n + 1) t d wt good := by
  refine ⟨hc, fun {_ _ _ _ _ _ fuel cs D ps} hn hd => ?_⟩
  obtain ⟨xs, m, rfl, hx, hl, hxl, hf⟩ := DataW.trod_struct ht hd
  cases hx
  obtain ⟨x, a, b, c⟩ := h.get (cs := cs) (xs := xs) (fuel := m) (by omega) (by simpa using hxl) fun i f hi => hf i f (by simpa using hi)
  refine ⟨x, ?_, b, ?_⟩
  · rw [List.drop_zero, ← hc, List.take_of_length_le (by omega)] at a; exact a
  · simp only [Rows.uptoBulk]; omega
/-! Arguments. -/
theorem arg_struct {fs : Array Field} (ht : P.underlying t = some (.struct fs)) (h : ∀ n, Opn P n t d wt good) {W : World} {r : Reach} {b0 : Nat} {v : Value} (hv : Value.okWide P W r b0 t v) {H : Type} {enc : TypeId × Value → H} {base : Nat} {sp : Nat → Bool} {held : Bool} {D : DataW H} {ps : List MemPlace}
    (hd : DataW.Trod enc P W base sp held t v D ps) : ∃ cs x, v = .agg (List.toArray cs) ∧ d.K W x cs ∧ good x ∧ wt x ≤ Rows.uptoBulk D := by
  obtain ⟨us, rfl, _⟩ := okWide_struct ht hv
  obtain ⟨fuel, hf⟩ := hd
  obtain ⟨x, a, b, c⟩ := (h fuel).get (Nat.le_refl _) hf
  exact ⟨us.toList, x, by simp, a, b, c⟩
theorem arg_slice {e : TypeId} (ht : P.underlying t = some (.slice e)) (hc : P.cellsOf t = 1) (h : ∀ n, Opn P n e d wt good) {W : World} {r : Reach} {b0 : Nat} {v : Value} (hv : Value.okWide P W r b0 t v) {H : Type} {enc : TypeId × Value → H} {base : Nat} {sp : Nat → Bool} {held : Bool} {D : DataW H} {ps : List MemPlace}
    (hd : DataW.Trod enc P W base sp held t v D ps) : ∃ A c xs, v = .slice A xs.length c ∧ xs.length ≤ c ∧ d.C W A xs.length xs ∧ (∀ x ∈ xs, good x) ∧ wtL wt xs ≤ Rows.uptoBulk D := by
  obtain ⟨a, len, cap, rfl⟩ := okWide_slice ht hv
  obtain ⟨fuel, hf⟩ := hd
  obtain ⟨xs, ⟨A, c, h1, h2, h3⟩, h4, h5⟩ := (Opn.slice ht hc (h fuel)).get (Nat.le_succ _) hf
  simp only [Value.cells, List.cons.injEq, and_true] at h1
  exact ⟨A, c, xs, h1, h2, h3, h4, h5⟩
theorem arg_int {k : IntKind} (ht : P.underlying t = some (.int k)) {W : World} {r : Reach} {b0 : Nat} {v : Value} (hv : Value.okWide P W r b0 t v) {H : Type} {enc : TypeId × Value → H} {base : Nat} {sp : Nat → Bool} {held : Bool} {D : DataW H} {ps : List MemPlace}
    (hd : DataW.Trod enc P W base sp held t v D ps) : ∃ z, v = .int k z ∧ (Lit.int k z).wf = true := by
  obtain ⟨z, rfl⟩ := okWide_int ht hv
  obtain ⟨fuel, hf⟩ := hd
  obtain ⟨z', h1, _, hw⟩ := DataW.trod_int ht hf
  simp [Value.cells] at h1
  subst h1
  exact ⟨z, rfl, hw⟩
end
end Go.Proofs.YtcjjmflaaaddgaaGreatDoor.Opens
