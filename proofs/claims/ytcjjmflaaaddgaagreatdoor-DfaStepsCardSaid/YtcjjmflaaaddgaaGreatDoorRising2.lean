import Derived.Test.YtcjjmflaaaddgaaGreatDoorRising
import Derived.Sort.KeysCollected
import Derived.Deep.AppendLies
namespace Go.Proofs.Tryz.Rising
open Go.Shelf Go.RowKit Go.Lib Go.Sort Go.Maps

theorem holds_of_block {w : World} {g : Nat} {cur : Array Value} {e : TypeId} {ss : List Int} (hb : w.heap[g]? = some (.cells cur e (0, 0))) (ht : cur.toList.take ss.length = ss.map (Value.int .i32)) : Holds (Value.int .i32) w g 0 ss.toArray := by
  intro j hj
  have hj' : j < ss.length := by simpa using hj
  refine ⟨?_, by simp [World.frozen?, hb]⟩
  have h1 : (cur.toList.take ss.length)[j]? = (ss.map (Value.int .i32))[j]? := by rw [ht]
  rw [List.getElem?_take_of_lt hj'] at h1
  simp only [World.cell?, hb, Nat.zero_add]
  simp only [Option.isSome_none, Bool.false_eq_true, if_false]
  rw [← Array.getElem?_toList, h1]
  simp [hj']
theorem heap_sorted {w : World} {g n : Nat} {os : Array Obj} {cur : Array Value} {e : TypeId} {fr : Nat × Nat} (d : Array Int) (hb : w.heap[g]? = some (.cells cur e fr)) :
    (grow (putRow (Value.int .i32) (Sort.ahead w n) g 0 d) os).heap[g]? = some (.cells (putCells (Value.int .i32) 0 d cur) e fr) := by
  have hg : g < w.heap.size := (Array.getElem?_eq_some_iff.1 hb).1
  rw [heap_grow_old _ _ (by simpa using hg)]
  simp [putRow, mapBlock, Sort.ahead, Array.getElem?_modify, hb, onCells]
theorem grownBy_sorted {w : World} {g n : Nat} {os : Array Obj} (d : Array Int) : w.grownBy (grow (putRow (Value.int .i32) (Sort.ahead w n) g 0 d) os) (some g) := by
  refine ⟨rfl, rfl, rfl, by simp, fun k hk hne => ?_⟩
  rw [heap_grow_old _ _ (by simpa using hk)]
  have : g ≠ k := fun e => hne (by rw [e])
  simp [putRow, mapBlock, Sort.ahead, Array.getElem?_modify, this]
theorem take_putCells (cur : Array Value) (ts : List Int) (h : ts.length ≤ cur.size) : (putCells (Value.int .i32) 0 ts.toArray cur).toList.take ts.length = ts.map (Value.int .i32) := by
  apply List.ext_getElem?
  intro j
  by_cases hj : j < ts.length
  · rw [List.getElem?_take_of_lt hj, Array.getElem?_toList]
    simp [putCells, hj, show j < cur.size by omega]
  · rw [List.getElem?_take_eq_none (by omega), List.getElem?_eq_none (by simp; omega)]
theorem ownsRow_sorted {w : World} {base g cap n : Nat} {e : TypeId} {os : Array Obj} {cur : Array Value} {ss ts : List Int} (hl : ts.length = ss.length) (hbase : base ≤ g) (hb : w.heap[g]? = some (.cells cur e (0, 0)))
    (h1 : ss.length ≤ cap) (h2 : cap ≤ maxLen) (h3 : cur.size = cap * 1) :
    (grow (putRow (Value.int .i32) (Sort.ahead w n) g 0 ts.toArray) os).ownsRow base e 1 (.slice (some ⟨g, 0, none⟩) ss.length cap) ss.length (ts.map (Value.int .i32)) :=
  ⟨by simp [hl], .inr ⟨g, cap, _, rfl, hbase, heap_sorted _ hb, h1, h2, by simp [putCells, h3], by rw [Nat.mul_one, ← hl]; exact take_putCells cur ts (by omega)⟩⟩
theorem grown_grow (w : World) (os : Array Obj) (row : Option Nat) : w.grownBy (grow w os) row := ⟨rfl, rfl, rfl, by simp, fun k hk _ => heap_grow_old _ _ hk⟩

theorem setGrown (W : World) (b : Nat) (v : Value) : W.grownBy (W.setCell ⟨b, 0, none⟩ v) (some b) :=
  ⟨rfl, rfl, rfl, by simp [World.setCell], fun k hk hne => by
    have : b ≠ k := fun e => hne (by rw [e])
    simp [World.setCell, Array.getElem?_modify, this]⟩
theorem setBox {W : World} {b : Nat} {v : Value} {e : TypeId} (h : W.heap[b]? = some (.cells #[v] e)) (u : Value) : (W.setCell ⟨b, 0, none⟩ u).heap[b]? = some (.cells #[u] e) := by
  simp [World.setCell, Array.getElem?_modify, h]
def Got {H : Type} (D0 : DataW H) (left : Lit → Bool) (ss : List Int) : Prop := ss.Nodup ∧ ∀ x, x ∈ ss ↔ (has D0 (.int .i32 x) = true ∧ left (.int .i32 x) = false)
theorem Got.start {H : Type} (D0 : DataW H) : Got D0 (has D0) [] := ⟨List.nodup_nil, fun x => by cases has D0 (.int .i32 x) <;> simp⟩
theorem Got.step {H : Type} {D0 : DataW H} {left : Lit → Bool} {ss : List Int} (h : Got D0 left ss) {x : Int} {y : DataW H} (hlk : left (.int .i32 x) = true) (hat : ∀ zd, D0.atKey (.int .i32 x) zd = y) : Got D0 (fun z => left z && !z.sameKey (.int .i32 x)) (ss ++ [x]) := by
  have hhas : has D0 (.int .i32 x) = true := has_true_of_atKey hat
  have hnew : x ∉ ss := fun hx => by have := ((h.2 x).1 hx).2; rw [hlk] at this; cases this
  refine ⟨List.nodup_append.2 ⟨h.1, by simp, fun a ha b hb => by simp at hb; subst hb; exact fun e => hnew (e ▸ ha)⟩, fun y => ?_⟩
  by_cases hy : y = x
  · subst hy; simp [hhas, Lit.sameKey]
  · simp [h.2 y, hy, Lit.sameKey]

theorem info21 : (Tryz.prog.info? 21).map (fun i => (i.zero, i.size, i.bytes)) = some (some (.int .i32 0), 1, 4) := by kernel_rfl
theorem info_parts : ∃ i0, Tryz.prog.info? 21 = some i0 ∧ i0.zero = some (.int .i32 0) ∧ i0.size = 1 ∧ i0.bytes = 4 := by
  have e := info21
  generalize Tryz.prog.info? 21 = o at e
  cases o with
  | none => cases e
  | some i0 =>
    simp at e
    exact ⟨i0, rfl, e.1, e.2.1, e.2.2⟩
theorem law21 : Keyed Tryz.prog 21 := int_keyed Tryz.underlying21

set_option maxRecDepth 100000 in
theorem bool_inv {H : Type} {v : Value} {z : DataW H × List MemPlace} (h : plainElem Tryz.prog 4 v = some z) : ∃ c, v = .bool c := by
  unfold plainElem at h
  rw [Tryz.underlying4] at h
  cases v <;> simp at h
  exact ⟨_, rfl⟩

set_option maxRecDepth 100000 in
set_option maxHeartbeats 2000000 in
theorem rising_walk {H : Type} (b n : Nat) (D0 : DataW H) (w : World) (hown : w.ownsMap Tryz.prog 21 (plainElem Tryz.prog 4) b n D0) (hmax : Maps.size D0 ≤ 65536) :
    Calls Tryz.prog 40 #[.map (some b)] w fun e w' => ∃ (l : List Int) (v : Value), e = .returned v ∧ l.Nodup ∧ (∀ x, x ∈ l ↔ has D0 (.int .i32 x) = true) ∧
      w'.ownsRow (w.heap.size + 1) 21 1 v l.length ((l.mergeSort (fun x y => decide (x ≤ y))).map (Value.int .i32)) ∧ (l.length = 0 → v = .slice none 0 0) ∧ Below w.heap.size w w' := by
  obtain ⟨i0, hi, hz0, hz1, hz2⟩ := info_parts
  have hbl := hown.lt
  have e1 : (w.alloc (.cells #[.slice none 0 0] 22)).heap.size = w.heap.size + 1 := by simp
  go_enter Tryz.func40, Tryz.ntmps40
  go_wp2_with (first
    | (at_range; refine wpList_range_own _ rfl _ 93 rfl 21 4 law21 Tryz.underlying93 _ b n _ rfl (hown.alloc _) ?_; intro w0 hrg0 hg0 hs0)
    | go_in)
  go_frame
  rw [e1] at hrg0 hs0 ⊢
  have hbox0 : w0.heap[w.heap.size]? = some (.cells #[.slice none 0 0] 22) := by rw [hg0.block _ (by rw [e1]; omega) (by simp)]; exact (MapKept.heap_alloc w _).1
  go_loopw [4] (fun _ wr => ∃ (left : Lit → Bool) (cnt : Nat) (ss : List Int) (v : Value), wr.ranges Tryz.prog 21 (plainElem Tryz.prog 4) b (w.heap.size + 1) n D0 left cnt ∧ ss.length + cnt ≤ Maps.size D0 ∧
      wr.ownsRow (w.heap.size + 1) 21 1 v ss.length (ss.map (Value.int .i32)) ∧ wr.heap[w.heap.size]? = some (.cells #[v] 22) ∧ (ss.length = 0 → v = .slice none 0 0) ∧ Got D0 left ss ∧ Below w.heap.size w wr)
    (fun _ wr => wr.rangeLeft b (w.heap.size + 1))
  case atStart =>
    exact ⟨_, _, [], _, hrg0, by simp, ⟨by simp, .inl ⟨rfl, rfl⟩⟩, hbox0, fun _ => rfl, Got.start D0,
      ((Below.refl _ _).alloc (Nat.le_refl _) _).grown hg0 (by simp) (fun j hj => by cases hj)⟩
  case round =>
    obtain ⟨left, cnt, ss, v, hrg, hcs, hrow, hbox, hnl, hC, hnx⟩ := hrel
    go_wp2_with (first
      | (at_next; refine wpList_next_ranges _ rfl _ rfl 21 law21 (plainElem Tryz.prog 4) (Value.int .i32) Value.bool (fun key kl hk => by obtain ⟨x, rfl, _⟩ := Maps.keyOf_int_inv Tryz.underlying21 hk; exact ⟨x, rfl⟩) (fun v y hv => by exact bool_inv hv) b (w.heap.size + 1) n _ _ _ rfl hrg ?_ ?_)
      | go_in)
    · intro hc0 hl0
      have hcell : wr.cell? ⟨w.heap.size, 0, none⟩ = some v := by simp [World.cell?, hbox]
      rcases hrow.2 with ⟨hnil, h0⟩ | ⟨g, cap, cur, rfl, hbase, hb, h1, h2, h3, h4⟩
      · subst hnil
        go_wp2_with (go_at_call 57; refine (sort_tiny none 0 0 (by omega) _ _).mono ?_; rintro e w' ⟨rfl, os, rfl⟩; have hcell2 : (grow wr os).cell? ⟨w.heap.size, 0, none⟩ = some (.slice none 0 0) := (cell?_grow _ _ _ (Array.getElem?_eq_some_iff.1 hbox).1).trans hcell)
        go_ret
        refine ⟨ss, _, rfl, hC.1, fun x => by rw [hC.2 x, hl0]; simp, ?_, fun _ => rfl, hnx.grown (grown_grow _ _ none) hnx.size (fun j hj => by cases hj)⟩
        obtain rfl := List.length_eq_zero_iff.1 h0
        exact ⟨by simp, .inl ⟨rfl, rfl⟩⟩
      · have hne : w.heap.size ≠ g := by omega
        have hlt : w.heap.size < wr.heap.size := (Array.getElem?_eq_some_iff.1 hbox).1
        have hgl : g < wr.heap.size := (Array.getElem?_eq_some_iff.1 hb).1
        by_cases h2s : 2 ≤ ss.length
        · have hH : Holds (Value.int .i32) wr g 0 ss.toArray := holds_of_block hb (by simpa using h4)
          have hc := sort_many g cap w.heap.size ss.toArray (by simpa using h2s) (by simp; omega) wr hH hgl hlt hne (by simpa using hcell)
          simp only [List.size_toArray] at hc
          go_wp2_with (go_at_call 57; refine hc.mono ?_; rintro e w' ⟨rfl, nn, os, rfl⟩; have hcell2 : (grow (putRow (Value.int .i32) (Sort.ahead wr nn) g 0 (ss.mergeSort fun x y => decide (x ≤ y)).toArray) os).cell? ⟨w.heap.size, 0, none⟩ = some (.slice (some ⟨g, 0, none⟩) ss.length cap) := ((grownBy_sorted _).cell_far _ hlt (fun e => hne (by cases e; rfl))).trans hcell)
          go_ret
          refine ⟨ss, _, rfl, hC.1, fun x => by rw [hC.2 x, hl0]; simp, ownsRow_sorted (by simp) hbase hb h1 h2 h3, hnl, hnx.grown (grownBy_sorted _) hnx.size (fun j hj => by cases hj; omega)⟩
        · have hm : ss.mergeSort (fun x y => decide (x ≤ y)) = ss := by
            match ss, h2s with
            | [], _ => simp
            | [x], _ => simp
            | x :: y :: r, hl => simp at hl
          have hc := sort_tiny (some ⟨g, 0, none⟩) ss.length cap (by omega) wr #[.pointer (some ⟨w.heap.size, 0, none⟩)]
          go_wp2_with (go_at_call 57; refine hc.mono ?_; rintro e w' ⟨rfl, os, rfl⟩; have hcell2 : (grow wr os).cell? ⟨w.heap.size, 0, none⟩ = some (.slice (some ⟨g, 0, none⟩) ss.length cap) := (cell?_grow _ _ _ hlt).trans hcell)
          go_ret
          refine ⟨ss, _, rfl, hC.1, fun x => by rw [hC.2 x, hl0]; simp, ?_, hnl, hnx.grown (grown_grow _ _ none) hnx.size (fun j hj => by cases hj)⟩
          rw [hm]
          exact hrow.kept (grown_grow _ _ none) (.inr (by simp [Value.ownBlock]))
    · intro x
      refine ⟨?_, ?_⟩ <;> (
        intro kl yd yp w2 cnt2 hkey hlk hv hat hrg2 hlt hg2 hs2 hen
        obtain ⟨x', ex, rfl, _⟩ := Maps.keyOf_int_inv Tryz.underlying21 hkey
        cases ex
        have hrow2 := hrow.kept hg2 (Or.inr (row_ne_iter hrow hrg).symm)
        have hBo : w.heap.size < wr.heap.size := (Array.getElem?_eq_some_iff.1 hbox).1
        have hbox2 : w2.heap[w.heap.size]? = some (.cells #[v] 22) := (hg2.block _ hBo (by simp)).trans hbox
        have hcell : w2.cell? ⟨w.heap.size, 0, none⟩ = some v := by simp [World.cell?, hbox2]
        have hsz := hnx.size
        clear hs2
        go_wp2_with (first
          | (at_builtin; go_loud (refine wpList_append_own _ rfl _ _ 22 rfl (w.heap.size + 1) 21 i0 (.int .i32 0) 1 4 Tryz.underlying22 hi hz0 hz1 hz2 rfl (by decide) _ _ _ rfl (hrow2.alloc _) ⟨w2.heap.size, 0, none⟩ 1 1 [.int .i32 x] rfl rfl (cell_one_new _ _ _) (by simp [Value.oneCell']) (by unfold maxLen at *; omega) (by omega) (by have := hg2.size; simp <;> omega) ?_; intro v' w3 hown' hg3 hnil3; go_frame; clear hnil3; replace hg3 : (w2.alloc (.cells #[.int .i32 x] 21)).grownBy w3 v.ownBlock := hg3; have hvb : some w.heap.size ≠ v.ownBlock := (fun e => by have := (hrow2.lt _ e.symm).1; omega); have hbox3 : w3.heap[w.heap.size]? = some (.cells #[v] 22) := (hg3.block _ (by have := hg2.size; simp <;> omega) hvb).trans (((MapKept.heap_alloc w2 _).2 _ (by have := hg2.size; omega)).trans hbox2); have hcell3 : w3.cell? ⟨w.heap.size, 0, none⟩ = some v := (by simp [World.cell?, hbox3]); have hfr3 : w3.frozen? ⟨w.heap.size, 0, none⟩ = false := (by simp [World.frozen?, hbox3]); have hv' : ∃ g' c', v' = .slice (some ⟨g', 0, none⟩) (ss.length + 1) c' := (match hown'.2 with | .inl h => absurd h.2 (by omega) | .inr ⟨g', c', _, h, _⟩ => ⟨g', c', h⟩); obtain ⟨g', c', rfl⟩ := hv'))
          | go_in)
        have hrg3 := (hrg2.alloc _).kept hg3 (row_ne_low hrow2 (by omega)) (row_ne_iter hrow2 hrg2)
        have hgs := setGrown w3 w.heap.size (.slice (some ⟨g', 0, none⟩) (ss.length + 1) c')
        have hgb : w.heap.size + 1 ≤ g' := (hown'.lt _ rfl).1
        have hrg4 := hrg3.kept hgs (fun e => by cases e; omega) (fun e => by have := Option.some.inj e; omega)
        have hne4 : g' ≠ w.heap.size := by omega
        go_roundw
        case rel =>
          refine ⟨_, cnt2, ss ++ [x], _, hrg4, by simp <;> omega, by simpa using hown'.kept hgs (.inr (fun e => hne4 (Option.some.inj e))), setBox hbox3 _, fun h => by simp at h, hC.step hlk hat, ?_⟩
          exact ((((hnx.grown hg2 hnx.size (fun j hj => by cases hj; omega)).alloc (by have := hg2.size; omega) _).grown hg3 (by have := hg2.size; simp <;> omega) (fun j hj => by have := (hrow2.lt j hj).1; omega))).grown hgs (by have := hg2.size; have := hg3.size; simp at this; omega) (fun j hj => by cases hj; omega)
        case measure => rw [hrg4.left_eq, hrg.left_eq]; exact hlt)

theorem mem_keys {es : List MapEntry} {ks : List Int} (hk : es.map (·.key) = ks.map (Value.int .i32)) (y : Int) : y ∈ ks ↔ ∃ x ∈ es, x.key = .int .i32 y := by
  constructor
  · intro h
    have : Value.int .i32 y ∈ es.map (·.key) := by rw [hk]; exact List.mem_map_of_mem h
    obtain ⟨x, hx, e⟩ := List.mem_map.1 this
    exact ⟨x, hx, e⟩
  · rintro ⟨x, hx, e⟩
    have : x.key ∈ ks.map (Value.int .i32) := by rw [← hk]; exact List.mem_map_of_mem hx
    obtain ⟨z, hz, e2⟩ := List.mem_map.1 this
    rw [e] at e2
    cases e2
    exact hz

set_option maxRecDepth 100000 in
theorem sortsKeys : Go.Proofs.YtcjjmflaaaddgaaGreatDoor.Am.SortsKeys Tryz.prog 40 .i32 21 where
  enter := enters_of Tryz.func40 (by kernel_rfl) rfl
  calls := by
    intro w b es clock ks hb hst hk hv hw hlen
    have hes : es.size = ks.length := by have := congrArg List.length hk; simpa using this
    have hrd : ∀ x ∈ es.toList, ∃ y : Int, y ∈ ks ∧ x.key = .int .i32 y ∧ Go.WideElems.rd (H := Unit) Tryz.prog 21 (plainElem Tryz.prog 4) x = some (.int .i32 y, ((plainElem (H := Unit) Tryz.prog 4 x.val).map (·.1)).getD (.lit (.bool false))) := by
      intro x hx
      have : x.key ∈ ks.map (Value.int .i32) := by rw [← hk]; exact List.mem_map_of_mem hx
      obtain ⟨z, hz, e2⟩ := List.mem_map.1 this
      obtain ⟨c, hc⟩ := hv x hx
      refine ⟨z, hz, e2.symm, ?_⟩
      obtain ⟨xk, xv, xb⟩ := x
      simp only at e2 hc
      subst e2 hc
      rw [plainElem_bool Tryz.underlying4]
      exact Go.WideElems.rd_mk (keyOf_int_mk Tryz.underlying21 (hw z hz)) (plainElem_bool Tryz.underlying4 c)
    have F : Go.WideElems.Fit (H := Unit) Tryz.prog 21 (plainElem Tryz.prog 4) es clock := ⟨by unfold maxLen; omega, hst, fun x hx => by obtain ⟨y, _, _, h⟩ := hrd x hx; exact ⟨_, h⟩⟩
    have hown : w.ownsMap Tryz.prog 21 (plainElem (H := Unit) Tryz.prog 4) b es.size (.map ((es.toList.map (Go.WideElems.rg Tryz.prog 21 (plainElem Tryz.prog 4))).foldr DataW.insert [])) := ⟨es, clock, hb, F, Nat.le_refl _, rfl⟩
    have hhas : ∀ y : Int, has (.map ((es.toList.map (Go.WideElems.rg Tryz.prog 21 (plainElem (H := Unit) Tryz.prog 4))).foldr DataW.insert [])) (.int .i32 y) = true ↔ y ∈ ks := by
      intro y
      rw [has_eq, List.any_eq_true]
      constructor
      · rintro ⟨p, hp, hs⟩
        obtain ⟨x, hx, rfl⟩ := List.mem_map.1 (mem_sorted.1 hp)
        obtain ⟨z, hz, hz2, hr⟩ := hrd x hx
        rw [Go.WideElems.rg_of hr] at hs
        simp [Lit.sameKey] at hs
        subst hs
        exact hz
      · intro h
        obtain ⟨x, hx, e⟩ := (mem_keys hk y).1 h
        obtain ⟨z, hz, hz2, hr⟩ := hrd x hx
        refine ⟨_, mem_sorted.2 (List.mem_map.2 ⟨x, hx, rfl⟩), ?_⟩
        rw [Go.WideElems.rg_of hr]
        rw [e] at hz2
        cases hz2
        simp [Lit.sameKey]
    refine Calls.mono (rising_walk b es.size _ w hown (by simp [Maps.size, length_sorted]; omega)) fun e w' hh => ?_
    obtain ⟨l, v, he, hnd, hm, hrow, hnl, hbel⟩ := hh
    have hkn : ks.Nodup := by
      have := hst.2.2
      rw [hk] at this
      exact (List.pairwise_map.1 this).imp fun h e => h (by rw [e])
    have hp : l.Perm ks := (List.perm_ext_iff_of_nodup hnd hkn).2 fun y => (hm y).trans (hhas y)
    have hms : l.mergeSort (fun x y => decide (x ≤ y)) = ks.mergeSort (fun x y => decide (x ≤ y)) := by
      rw [← Go.Proofs.YtcjjmflaaaddgaaGreatDoor.Am.sortI_merge, ← Go.Proofs.YtcjjmflaaaddgaaGreatDoor.Am.sortI_merge]
      exact Go.Proofs.YtcjjmflaaaddgaaGreatDoor.Am.rising_unique ((Go.Proofs.YtcjjmflaaaddgaaGreatDoor.Am.sortI_perm l).trans (hp.trans (Go.Proofs.YtcjjmflaaaddgaaGreatDoor.Am.sortI_perm ks).symm)) (Go.Proofs.YtcjjmflaaaddgaaGreatDoor.Am.sortI_sorted l) (Go.Proofs.YtcjjmflaaaddgaaGreatDoor.Am.sortI_sorted ks)
    refine ⟨v, he, ?_, hbel⟩
    rw [hms] at hrow
    have hl2 : l.length = (ks.mergeSort fun x y => decide (x ≤ y)).length := by rw [← hms, List.length_mergeSort]
    rw [hl2] at hrow hnl
    generalize (ks.mergeSort fun x y => decide (x ≤ y)) = m at hrow hnl
    rcases hrow.2 with ⟨rfl, h0⟩ | ⟨g, cap, cur, rfl, hbase, hbk, h1, h2, h3, h4⟩
    · exact .inl ⟨List.length_eq_zero_iff.1 h0, rfl⟩
    · cases m with
      | nil => exact absurd (hnl rfl) (by simp)
      | cons z r =>
        refine .inr ⟨by simp, g, cap, cur, rfl, by omega, hbk, h1, by omega, fun i z hz => ?_⟩
        have hil := (List.getElem?_eq_some_iff.1 hz).1
        have e2 := congrArg (fun l => l[i]?) h4
        simp only [Nat.mul_one] at e2
        rw [List.getElem?_take_of_lt (by omega), Array.getElem?_toList, List.getElem?_map, hz] at e2
        exact e2
end Go.Proofs.Tryz.Rising
