/-
  An abstract machine for closed calls, part 1: what it evaluates, the model's call comes to.
-/
import Derived.Test.YtcjjmflaaaddgaaGreatDoorAm0
import Derived.Defers
import Derived.Lib.Bytealg
import Derived.Laws.Externs
import Derived.MapKept
/-
  Every operation of the abstract machine against the model's.
-/
set_option linter.unusedSimpArgs false
set_option linter.unusedVariables false
namespace Go.Proofs.YtcjjmflaaaddgaaGreatDoor.Am
open Go Go.RowKit

section
variable {B : Nat} {ρ : Rho} {w : World} {s t : AS} {P : Program} {st : St} {a : Act}
variable {next : Act → World → Prop} {Q : Exit → Act → World → Prop}
theorem opA_ok {call : FuncId → List AV → SM AV} (hcall : CallOK P call) {o : Oper} {v : AV} (ha : ARel ρ st a) (hok : OkS s.heap) (h : opA P call (eval st.tmps) o.op s = .ok v t) (hw : WRel B ρ s.heap w) (hf : Fresh ρ s.next t.next)
    (K : ∀ ρ' w' u, VRel ρ' v u → Post B ρ s.next t.next t.heap w w' ρ' → next (a.put o.dst u) w') : o.upon P a next Q ((execOp a.eval o).run P w) := by
  obtain ⟨dst, op, type, pos, after, guard⟩ := o
  have K0 : ∀ u, VRel ρ v u → t.heap = s.heap → next (a.put dst u) w := fun u hu e => K ρ w u hu (.still (e ▸ hw) (Below.refl _ _))
  have pureV : ∀ {m : Sem Value} {u : Value}, m.run P w = .ok u w → VRel ρ v u → t.heap = s.heap → ∀ {o : Oper}, o.dst = dst → o.upon P a next Q ((do pure (Next.value (← m)) : Sem Next).run P w) := fun h hu e o ho => upon_v h (ho ▸ K0 _ hu e)
  change opA P call (eval st.tmps) op s = .ok v t at h
  unfold opA at h
  split at h
  · -- move
    obtain ⟨rfl, hv⟩ := ev_ok h ha hw
    exact K0 _ hv rfl
  · obtain ⟨rfl, hv⟩ := ev_ok h ha hw
    exact K0 _ hv rfl
  · -- pick
    obtain ⟨c, s1, h1, h⟩ := bind_ok.1 h
    obtain ⟨rfl, hc⟩ := ev_ok h1 ha hw
    split at h
    · rename_i b
      generalize hc' : a.eval _ = c' at hc
      cases hc
      cases b with
      | true =>
        rw [cond_true] at h
        obtain ⟨rfl, hv⟩ := ev_ok h ha hw
        simp only [execOp, Sem.run_bind, hc', asBool, Sem.run_pure, Result.andThen_ok, if_true]
        exact K0 _ hv rfl
      | false =>
        rw [cond_false] at h
        obtain ⟨rfl, hv⟩ := ev_ok h ha hw
        simp only [execOp, Sem.run_bind, hc', asBool, Sem.run_pure, Result.andThen_ok, Bool.false_eq_true, if_false]
        exact K0 _ hv rfl
    · exact (fail_ok.1 h).elim
  · -- alloc
    obtain ⟨z, s1, h1, h⟩ := bind_ok.1 h
    obtain ⟨q1, rfl⟩ := lift_ok.1 h1
    obtain ⟨id, s2, h2, h⟩ := bind_ok.1 h
    obtain ⟨rfl, rfl⟩ := pure_ok.1 h
    obtain ⟨zu, hz, hzr⟩ := zeroOf?_run (ρ := ρ) (w := w) q1
    obtain ⟨ρ', w', r1, r2, r3⟩ := newVar_ok (P := P) h2 hw hf hzr
    exact upon_v (w' := w') (by simp only [Instr.alloc, Sem.run_bind, hz, Result.andThen_ok, r1, Sem.run_pure]) (K _ _ _ r2 r3)
  · -- box
    obtain ⟨z, s1, h1, h⟩ := bind_ok.1 h
    obtain ⟨rfl, hv⟩ := ev_ok h1 ha hw
    obtain ⟨id, s2, h2, h⟩ := bind_ok.1 h
    obtain ⟨rfl, rfl⟩ := pure_ok.1 h
    obtain ⟨ρ', w', r1, r2, r3⟩ := newVar_ok (P := P) h2 hw hf hv
    exact upon_v (w' := w') (by simp only [Instr.box, Sem.run_bind, Result.andThen_ok, r1, Sem.run_pure]) (K _ _ _ r2 r3)
  · -- build
    rename_i ty parts
    obtain ⟨ps, s1, h1, h⟩ := bind_ok.1 h
    obtain ⟨q1, rfl⟩ := lift_ok.1 h1
    obtain ⟨e1, e2⟩ := evalParts_ok q1 ha hw
    obtain ⟨rfl, u, r1, r2⟩ := build_ok (P := P) (w := w) (ρ := ρ) (ps := parts.map fun (i, x) => (i, a.eval x)) h (by rw [e1]; simp) (by rw [Array.toList_map]; exact e2)
    exact pureV r1 r2 rfl rfl
  · -- buildSlice
    rename_i ty n parts
    obtain ⟨ps, s1, h1, h⟩ := bind_ok.1 h
    obtain ⟨q1, rfl⟩ := lift_ok.1 h1
    obtain ⟨e1, e2⟩ := evalParts_ok q1 ha hw
    obtain ⟨ρ', w', u, r1, r2, r3⟩ := buildSlice_ok (P := P) (ρ := ρ) (ps := parts.map fun (i, x) => (i, a.eval x)) h (by rw [e1]; simp) (by rw [Array.toList_map]; exact e2) hw hf
    exact upon_v r1 (K _ _ _ r2 r3)
  · -- load
    obtain ⟨x, s1, h1, h⟩ := bind_ok.1 h
    obtain ⟨rfl, hx⟩ := ev_ok h1 ha hw
    split at h
    · rename_i id off
      generalize hx' : a.eval _ = x' at hx
      cases hx with
      | ptr _ _ b base hb =>
        obtain ⟨e1, e2, u, r1, r2⟩ := loadV_ok h hw hb
        exact pureV (by rw [hx']; simp only [Instr.loadAt, Instr.sureAddr, Sem.run_bind, Sem.run_pure, Result.andThen_ok, r1]) r2 e1 rfl
    · exact (fail_ok.1 h).elim
  · -- store
    obtain ⟨x, s1, h1, h⟩ := bind_ok.1 h
    obtain ⟨rfl, hx⟩ := ev_ok h1 ha hw
    split at h
    · rename_i id off
      obtain ⟨y, s2, h2, h⟩ := bind_ok.1 h
      obtain ⟨rfl, hy⟩ := ev_ok h2 ha hw
      obtain ⟨_, s3, h3, h⟩ := bind_ok.1 h
      obtain ⟨rfl, rfl⟩ := pure_ok.1 h
      generalize hx' : a.eval _ = x' at hx
      cases hx with
      | ptr _ _ b base hb =>
        obtain ⟨e2, w', r1, r2, r3⟩ := storeV_ok (P := P) h3 hw hb hy
        exact upon_u (w' := w') (by rw [hx']; simp only [Instr.storeAt, Instr.sureAddr, Sem.run_bind, Sem.run_pure, Result.andThen_ok, r1]) (K ρ w' _ .undef (.still r2 r3))
    · exact (fail_ok.1 h).elim
  · -- nilCheck
    obtain ⟨x, s1, h1, h⟩ := bind_ok.1 h
    obtain ⟨rfl, hx⟩ := ev_ok h1 ha hw
    split at h
    · obtain ⟨rfl, rfl⟩ := pure_ok.1 h
      generalize hx' : a.eval _ = x' at hx
      cases hx with
      | ptr _ _ b base hb =>
        simp only [execOp, hx', Sem.run_pure]
        exact K0 _ (.ptr _ _ b base hb) rfl
    · obtain ⟨rfl, rfl⟩ := pure_ok.1 h
      generalize hx' : a.eval _ = x' at hx
      cases hx with
      | func _ _ _ x y g1 g2 =>
        simp only [execOp, hx', Sem.run_pure]
        exact K0 _ (.func _ _ _ x y g1 g2) rfl
    · exact (fail_ok.1 h).elim
  · -- binOp
    obtain ⟨x, s1, h1, h⟩ := bind_ok.1 h
    obtain ⟨rfl, hx⟩ := ev_ok h1 ha hw
    obtain ⟨y, s2, h2, h⟩ := bind_ok.1 h
    obtain ⟨rfl, hy⟩ := ev_ok h2 ha hw
    obtain ⟨q, rfl⟩ := lift_ok.1 h
    obtain ⟨u, r1, r2⟩ := binOp_ok (P := P) (w := w) q hx hy
    exact pureV r1 r2 rfl rfl
  · -- unOp
    obtain ⟨x, s1, h1, h⟩ := bind_ok.1 h
    obtain ⟨rfl, hx⟩ := ev_ok h1 ha hw
    obtain ⟨q, rfl⟩ := lift_ok.1 h
    obtain ⟨u, r1, r2⟩ := unOp_ok (P := P) (w := w) q hx
    exact pureV r1 r2 rfl rfl
  · -- convert
    obtain ⟨x, s1, h1, h⟩ := bind_ok.1 h
    obtain ⟨rfl, hx⟩ := ev_ok h1 ha hw
    obtain ⟨e1, e2, u, r1, r2⟩ := convert_ok h hx hw
    exact pureV r1 r2 e1 rfl
  · -- makeInterface
    obtain ⟨d, s1, h1, h⟩ := bind_ok.1 h
    obtain ⟨q1, rfl⟩ := lift_ok.1 h1
    split at h
    · exact (fail_ok.1 h).elim
    · rename_i hd
      obtain ⟨x, s2, h2, h⟩ := bind_ok.1 h
      obtain ⟨rfl, hx⟩ := ev_ok h2 ha hw
      obtain ⟨rfl, rfl⟩ := pure_ok.1 h
      refine pureV (u := .iface _ _) ?_ (.iface _ _ _ hx) rfl rfl
      simp only [Instr.makeInterface, Sem.run_bind, run_underlying' q1, Result.andThen_ok]
      cases d <;> first | exact absurd rfl (hd _) | rfl
  · -- makeFunc
    obtain ⟨x, s1, h1, h⟩ := bind_ok.1 h
    obtain ⟨q1, rfl⟩ := lift_ok.1 h1
    obtain ⟨y, s2, h2, h⟩ := bind_ok.1 h
    obtain ⟨q2, rfl⟩ := lift_ok.1 h2
    obtain ⟨rfl, rfl⟩ := pure_ok.1 h
    refine pureV (u := .func (.func _) _ _) rfl (.func _ _ _ _ _ ?_ ?_) rfl rfl
    · rw [Array.toList_map]; exact evalAll_ok q1 ha hw
    · rw [Array.toList_map]; exact evalAll_ok q2 ha hw
  · -- makeMap
    obtain ⟨id, s1, h1, h⟩ := bind_ok.1 h
    obtain ⟨rfl, rfl⟩ := pure_ok.1 h
    obtain ⟨r1, r2, _⟩ := new_alloc h1 hw hf (.map #[] 0) (fun ρ' _ => ⟨rfl, #[], heap_new _ _, rfl, fun i e m he => by simp at he⟩)
    refine upon_v (w' := w.alloc (.map #[] 0)) (u := .map (some w.heap.size)) ?_ (K _ _ _ (.map _ _ r2) r1)
    simp only [Instr.makeMap, Option.map_none, Sem.run_bind, run_newObj, Result.andThen_ok, Sem.run_pure]
    rfl
  · -- makeSlice
    obtain ⟨x, s1, h1, h⟩ := bind_ok.1 h
    obtain ⟨rfl, hx⟩ := ev_ok h1 ha hw
    obtain ⟨y, s2, h2, h⟩ := bind_ok.1 h
    obtain ⟨rfl, hy⟩ := ev_ok h2 ha hw
    obtain ⟨ρ', w', u, r1, r2, r3⟩ := makeSlice_ok h hx hy hw hf
    exact upon_v r1 (K _ _ _ r2 r3)
  · -- slice
    obtain ⟨x, s1, h1, h⟩ := bind_ok.1 h
    obtain ⟨rfl, hx⟩ := ev_ok h1 ha hw
    obtain ⟨lo, s2, h2, h⟩ := bind_ok.1 h
    obtain ⟨rfl, hlo⟩ := evO_ok h2 ha hw
    obtain ⟨hi, s3, h3, h⟩ := bind_ok.1 h
    obtain ⟨rfl, hhi⟩ := evO_ok h3 ha hw
    obtain ⟨mx, s4, h4, h⟩ := bind_ok.1 h
    obtain ⟨rfl, hmx⟩ := evO_ok h4 ha hw
    obtain ⟨rfl, u, r1, r2⟩ := slice_ok (P := P) (w := w) h hx hlo hhi hmx
    exact pureV r1 r2 rfl rfl
  · -- fieldAddr
    obtain ⟨x, s1, h1, h⟩ := bind_ok.1 h
    obtain ⟨rfl, hx⟩ := ev_ok h1 ha hw
    obtain ⟨rfl, u, r1, r2⟩ := fieldAddr_ok (P := P) (w := w) h hx
    exact pureV r1 r2 rfl rfl
  · obtain ⟨x, s1, h1, h⟩ := bind_ok.1 h
    obtain ⟨rfl, hx⟩ := ev_ok h1 ha hw
    obtain ⟨rfl, u, r1, r2⟩ := field_ok (P := P) (w := w) h hx
    exact pureV r1 r2 rfl rfl
  · obtain ⟨x, s1, h1, h⟩ := bind_ok.1 h
    obtain ⟨rfl, hx⟩ := ev_ok h1 ha hw
    obtain ⟨y, s2, h2, h⟩ := bind_ok.1 h
    obtain ⟨rfl, hy⟩ := ev_ok h2 ha hw
    obtain ⟨rfl, u, r1, r2⟩ := indexAddr_ok (P := P) (w := w) h hx hy
    exact pureV r1 r2 rfl rfl
  · obtain ⟨x, s1, h1, h⟩ := bind_ok.1 h
    obtain ⟨rfl, hx⟩ := ev_ok h1 ha hw
    obtain ⟨y, s2, h2, h⟩ := bind_ok.1 h
    obtain ⟨rfl, hy⟩ := ev_ok h2 ha hw
    obtain ⟨rfl, u, r1, r2⟩ := index_ok (P := P) (w := w) h hx hy
    exact pureV r1 r2 rfl rfl
  · -- lookup
    obtain ⟨x, s1, h1, h⟩ := bind_ok.1 h
    obtain ⟨rfl, hx⟩ := ev_ok h1 ha hw
    obtain ⟨y, s2, h2, h⟩ := bind_ok.1 h
    obtain ⟨rfl, hy⟩ := ev_ok h2 ha hw
    obtain ⟨e1, e2, u, r1, r2⟩ := lookup_ok h hx hy hw
    exact pureV r1 r2 e1 rfl
  · -- mapUpdate
    obtain ⟨x, s1, h1, h⟩ := bind_ok.1 h
    obtain ⟨rfl, hx⟩ := ev_ok h1 ha hw
    obtain ⟨y, s2, h2, h⟩ := bind_ok.1 h
    obtain ⟨rfl, hy⟩ := ev_ok h2 ha hw
    obtain ⟨z, s3, h3, h⟩ := bind_ok.1 h
    obtain ⟨rfl, hz⟩ := ev_ok h3 ha hw
    obtain ⟨rfl, e2, w', r1, r2, r3⟩ := mapUpdate_ok h hx hy hz hw
    exact upon_u r1 (K ρ w' _ .undef (.still r2 r3))
  · obtain ⟨x, s1, h1, h⟩ := bind_ok.1 h
    obtain ⟨rfl, hx⟩ := ev_ok h1 ha hw
    obtain ⟨y, s2, h2, h⟩ := bind_ok.1 h
    obtain ⟨rfl, hy⟩ := ev_ok h2 ha hw
    obtain ⟨z, s3, h3, h⟩ := bind_ok.1 h
    obtain ⟨rfl, hz⟩ := ev_ok h3 ha hw
    obtain ⟨rfl, e2, w', r1, r2, r3⟩ := mapUpdate_ok h hx hy hz hw
    exact upon_u r1 (K ρ w' _ .undef (.still r2 r3))
  · -- typeAssert
    rename_i xo xt ty ok
    obtain ⟨x, s1, h1, h⟩ := bind_ok.1 h
    obtain ⟨rfl, hx⟩ := ev_ok h1 ha hw
    obtain ⟨rfl, u, r1, r2⟩ := typeAssert_ok (P := P) (w := w) (xt := xt) h hx
    exact pureV r1 r2 rfl rfl
  · -- extract
    obtain ⟨x, s1, h1, h⟩ := bind_ok.1 h
    obtain ⟨rfl, hx⟩ := ev_ok h1 ha hw
    split at h
    · rename_i vs
      have hq := lift_ok.1 h
      have q := hq.1
      have e := hq.2
      clear hq
      subst e
      generalize hx' : a.eval _ = x' at hx
      cases hx with
      | tuple _ us hu =>
        rw [lget_eq] at q
        obtain ⟨u, hu1, hu2⟩ := hu.get _ _ q
        rw [Array.getElem?_toList] at hu1
        exact pureV (by rw [hx']; simp only [Instr.extract, hu1, Sem.run_pure]) hu2 rfl rfl
    · exact (fail_ok.1 h).elim
  · -- call
    rename_i c
    cases hb : c.callee with
    | builtin b =>
      rw [hb] at h
      obtain ⟨l, s1, h1, h⟩ := bind_ok.1 h
      obtain ⟨q1, rfl⟩ := lift_ok.1 h1
      have hl := evalAll_ok q1 ha hw
      simp only [execOp, resolve, hb, Sem.run_bind, Sem.run_pure, Result.andThen_ok, invoke]
      exact builtin_ok (us := c.args.map a.eval) h (by rw [Array.toList_map]; exact hl) hw hf K
    | value f =>
      have hc := hb
      rw [hb] at h
      obtain ⟨x, s1, h1, h⟩ := bind_ok.1 h
      obtain ⟨rfl, hx⟩ := ev_ok h1 ha hw
      split at h
      · rename_i g first cap
        obtain ⟨l, s2, h2, h⟩ := bind_ok.1 h
        obtain ⟨q1, rfl⟩ := lift_ok.1 h2
        have hl := evalAll_ok q1 ha hw
        generalize hx' : a.eval _ = x' at hx
        cases hx with
        | func _ _ _ x y g1 g2 =>
          rw [lapp_eq, lapp_eq] at h
          have := hcall g _ _ t v hok h B ρ w (x ++ c.args.map a.eval ++ y) (by
            rw [Array.toList_append, Array.toList_append, Array.toList_map, List.append_assoc]
            exact g1.append (hl.append g2)) hw hf
          simp only [execOp, resolve, hc, hx', Deferred.ofValue, Sem.run_bind, Sem.run_pure, Result.andThen_ok, invoke]
          exact upon_lands this fun u w' ⟨ρ', r1, r2⟩ => K ρ' w' u r1 r2
      · exact (fail_ok.1 h).elim
    | invoke r m => rw [hb] at h; exact (fail_ok.1 h).elim
  · exact (fail_ok.1 h).elim
end
end Go.Proofs.YtcjjmflaaaddgaaGreatDoor.Am
/-
  A region's operations one by one, in the text's order.
-/
set_option linter.unusedSimpArgs false
set_option linter.unusedVariables false
namespace Go.Proofs.YtcjjmflaaaddgaaGreatDoor.Am
open Go Go.RowKit

section
variable {B : Nat} {ρ : Rho} {w : World} {s t : AS} {P : Program} {st st' : St} {a : Act}
variable {next : Act → World → Prop} {Q : Exit → Act → World → Prop}
theorem yielded_eq (ha : ARel ρ st a) (ops : Array Oper) (j : Nat) : yieldedA ops st.tmps j = yielded ops a.tmps j := by
  unfold yieldedA yielded
  cases hd : (ops[j]?).bind (·.dst) with
  | none => simp
  | some d =>
    have h := ha.tmps d
    simp only [Option.bind_some]
    rw [Array.getD_eq_getD_getElem?] at h
    cases hg : st.tmps.get d with
    | none =>
      rw [hg] at h
      simp only [orUndef] at h
      cases hc : a.tmps[d]? with
      | none => rfl
      | some u =>
        rw [hc] at h
        simp only [Option.getD_some] at h
        generalize hv : AV.undef = v at h
        cases h <;> first | rfl | cases hv
    | some v =>
      rw [hg] at h
      simp only [orUndef] at h
      cases hc : a.tmps[d]? with
      | none =>
        rw [hc] at h
        simp only [Option.getD_none] at h
        generalize hu : undef = u at h
        cases h <;> first | rfl | cases hu
      | some u =>
        rw [hc] at h
        simp only [Option.getD_some] at h
        cases h <;> rfl
theorem wanted_eq (ha : ARel ρ st a) (ops : Array Oper) (o : Oper) : Region.wanted o (yieldedA ops st.tmps) = Region.wanted o (yielded ops a.tmps) := by
  unfold Region.wanted
  split
  · rfl
  · rw [yielded_eq ha]
theorem putA_ok {d : Option Tmp} {v : AV} {u : Value} (h : putA st d v s = .ok st' t) (ha : ARel ρ st a) (hv : VRel ρ v u) : s = t ∧ ARel ρ st' (a.put d u) := by
  unfold putA at h
  split at h
  · rename_i d
    rw [ble_nat] at h
    by_cases hd : d + 1 ≤ st.size
    · rw [decide_eq_true hd, cond_true] at h
      obtain ⟨rfl, rfl⟩ := pure_ok.1 h
      have hsm := ha.small
      have hd2 : Nat.lt d st.size := hd
      have hd3 : Nat.lt (d + 1) (2 ^ 16) := Nat.lt_of_le_of_lt hd (Nat.lt_of_le_of_lt hsm (by decide))
      refine ⟨rfl, by simp only [Act.put, Array.size_setIfInBounds]; exact ha.size, fun i => ?_, ha.defers, ha.small⟩
      simp only [Act.put]
      rw [Trie.get_set 16 _ _ _ _ hd3, Array.getD_eq_getD_getElem?, Array.getElem?_setIfInBounds]
      by_cases e : i = d
      · subst e
        rw [if_pos rfl, if_pos rfl, if_pos (by rw [ha.size]; exact hd2)]
        exact hv
      · rw [if_neg e, if_neg (Ne.symm e), ← Array.getD_eq_getD_getElem?]
        exact ha.tmps i
    · rw [decide_eq_false hd] at h; cases h
  · obtain ⟨rfl, rfl⟩ := pure_ok.1 h
    exact ⟨rfl, ha⟩
theorem putA_same {d : Option Tmp} {v : AV} (h : putA st d v s = .ok st' t) : s = t := by
  unfold putA at h
  cases d with
  | none => exact (pure_ok.1 h).2
  | some d =>
    simp only at h
    rw [ble_nat] at h
    by_cases hd : d + 1 ≤ st.size
    · rw [decide_eq_true hd, cond_true] at h; exact (pure_ok.1 h).2
    · rw [decide_eq_false hd] at h; cases h
theorem stepA_ok {call : FuncId → List AV → SM AV} (hcall : CallOK P call) {ops : Array Oper} {o : Oper} (ha : ARel ρ st a) (hok : OkS s.heap) (h : stepA P call ops o st s = .ok st' t) (hw : WRel B ρ s.heap w) (hf : Fresh ρ s.next t.next)
    (K : ∀ ρ' w' a', ARel ρ' st' a' → Post B ρ s.next t.next t.heap w w' ρ' → next a' w') : if Region.wanted o (yielded ops a.tmps) then o.wp P a w next Q else next (a.put o.dst undef) w := by
  unfold stepA at h
  rw [wanted_eq ha] at h
  cases hwant : Region.wanted o (yielded ops a.tmps) with
  | false =>
    rw [hwant, cond_false] at h
    rw [if_neg (by simp)]
    obtain ⟨rfl, ha'⟩ := putA_ok h ha .undef
    exact K ρ w _ ha' (.still hw (Below.refl _ _))
  | true =>
    rw [hwant, cond_true] at h
    rw [if_pos rfl]
    generalize ho : o.op = op at h
    split at h
    · rename_i c
      cases hc : c.callee with
      | builtin b => rw [hc] at h; exact (fail_ok.1 h).elim
      | invoke r m => rw [hc] at h; exact (fail_ok.1 h).elim
      | value f =>
        rw [hc] at h
        obtain ⟨x, s1, h1, h⟩ := bind_ok.1 h
        obtain ⟨rfl, hx⟩ := ev_ok h1 ha hw
        split at h
        · rename_i g first cap
          obtain ⟨l, s2, h2, h⟩ := bind_ok.1 h
          obtain ⟨q1, rfl⟩ := lift_ok.1 h2
          have hl := evalAll_ok q1 ha hw
          generalize hx' : a.eval _ = x' at hx
          cases hx with
          | func _ _ _ x y g1 g2 =>
            have ha2 : ARel ρ ⟨st.tmps, st.size, (g, lapp first (lapp l cap)) :: st.defers⟩ { a with defers := { target := .fn (.func g) y, args := x ++ c.args.map a.eval } :: a.defers } :=
              ⟨ha.size, ha.tmps, .cons _ _ _ _ ⟨y, rfl, by
                rw [lapp_eq, lapp_eq, Array.toList_append, Array.toList_append, Array.toList_map, List.append_assoc]
                exact g1.append (hl.append g2)⟩ ha.defers, ha.small⟩
            obtain ⟨rfl, ha'⟩ := putA_ok h ha2 .undef
            have := K ρ w _ ha' (.still hw (Below.refl _ _))
            simp only [Oper.wp, execOp, ho, resolve, hc, hx', Deferred.ofValue, Sem.run_bind, Sem.run_pure, Result.andThen_ok]
            exact this
        · exact (fail_ok.1 h).elim
    · obtain ⟨v, s1, h1, k1⟩ := bind_ok.1 h
      clear h
      have e1 : s1 = t := putA_same k1
      subst e1
      subst ho
      exact opA_ok hcall ha hok h1 hw hf fun ρ' w' u hu hp => K ρ' w' _ (putA_ok k1 (ha.mono hp.ext) hu).2 hp
/-- In the text's order. -/
theorem opsA_ok {call : FuncId → List AV → SM AV} (hcall : CallOK P call) (hgood : ∀ f l, Good (call f l)) {ops : Array Oper} : ∀ (l : List Nat) {ρ : Rho} {w : World} {s t : AS} {st st' : St} {a : Act}, ARel ρ st a → OkS s.heap → opsA P call ops l st s = .ok st' t → WRel B ρ s.heap w → Fresh ρ s.next t.next →
    (∀ ρ' w' a', ARel ρ' st' a' → Post B ρ s.next t.next t.heap w w' ρ' → Q .normal a' w') → wpOps P ops Q l a w
  | [], ρ, w, s, t, st, st', a, ha, hok, h, hw, hf, K => by
    obtain ⟨rfl, rfl⟩ := pure_ok.1 h
    exact K ρ w a ha (.still hw (Below.refl _ _))
  | i :: rest, ρ, w, s, t, st, st', a, ha, hok, h, hw, hf, K => by
    unfold opsA at h
    simp only [wpOps]
    cases ho : ops[i]? with
    | none => rw [ho] at h; exact (fail_ok.1 h).elim
    | some o =>
      rw [ho] at h
      obtain ⟨st1, s1, h1, h2⟩ := bind_ok.1 h
      obtain ⟨_, _, e1, _⟩ := stepA_good hgood ops o st s st1 s1 hok h1
      obtain ⟨_, _, e2, _⟩ := opsA_good hgood ops rest st1 s1 st' t e1.ok h2
      have key := stepA_ok (next := wpOps P ops Q rest) (Q := Q) hcall ha hok h1 hw (hf.sub (Nat.le_refl _) e2.next) fun ρ' w' a' ha' hp =>
        opsA_ok hcall hgood rest ha' e1.ok h2 hp.rel (Fresh.later hp hf e1.next) fun ρ'' w'' a'' ha'' hp' => K ρ'' w'' a'' ha'' (hp.trans hp' e1.next e2.next)
      cases hwant : Region.wanted o (yielded ops a.tmps) with
      | true => rw [hwant, if_pos rfl] at key; simp only [hwant, if_true]; exact .inl key
      | false => rw [hwant] at key; simp only [Bool.false_eq_true, if_false] at key; simp only [hwant, Bool.false_eq_true, if_false]; exact key
end
end Go.Proofs.YtcjjmflaaaddgaaGreatDoor.Am
/-
  The plain law of orders: of operations that read and write keys, any order that keeps what stands ahead ends as the text's order does.
-/
namespace Go.Proofs.YtcjjmflaaaddgaaGreatDoor.Am

section
variable {Key Val : Type} {n : Nat} {T : Nat → Key → Val} {R W : Nat → Key → Prop} {ahead : Nat → Nat → Prop}
/-- Where the listed ones have run: every key stands as at some cut of the text's order. -/
def Cut (n : Nat) (T : Nat → Key → Val) (W : Nat → Key → Prop) (L : Nat → Prop) (σ : Key → Val) : Prop :=
  ∀ k, ∃ m, m ≤ n ∧ σ k = T m k ∧ (∀ j, j < m → W j k → L j) ∧ (∀ j, L j → j < n → W j k → j < m)
structure Orders (n : Nat) (T : Nat → Key → Val) (R W : Nat → Key → Prop) (ahead : Nat → Nat → Prop) : Prop where
  back : ∀ i j, ahead j i → j < i
  keep : ∀ i k, i < n → ¬ W i k → T (i + 1) k = T i k
  loose : ∀ i j k, i < n → j < n → i ≠ j → W j k → (R i k ∨ W i k) → ahead i j ∨ ahead j i
theorem Orders.same (h : Orders n T R W ahead) {k : Key} (a : Nat) : ∀ b, a ≤ b → b ≤ n → (∀ j, a ≤ j → j < b → ¬ W j k) → T b k = T a k
  | 0, h1, _, _ => by rw [Nat.le_zero.1 h1]
  | b + 1, h1, h2, h3 => by
    by_cases e : a = b + 1
    · rw [e]
    · rw [h.keep b k (by omega) (h3 b (by omega) (by omega))]
      exact h.same a b (by omega) (by omega) fun j hj hj2 => h3 j hj (by omega)
theorem Orders.reads (h : Orders n T R W ahead) {L : Nat → Prop} {σ : Key → Val} (hc : Cut n T W L σ) (down : ∀ i j, i < n → L i → ahead j i → L j) {i : Nat} (hi : i < n) (hL : ¬ L i) (hready : ∀ j, ahead j i → L j) {k : Key} (hk : R i k) : σ k = T i k := by
  obtain ⟨m, hm, e, h1, h2⟩ := hc k
  rw [e]
  by_cases q : m ≤ i
  · refine (h.same m i q (by omega) fun j hj hj2 hw => ?_).symm
    rcases h.loose i j k hi (by omega) (by omega) hw (.inl hk) with g | g
    · have := h.back _ _ g; omega
    · have := h2 j (hready j g) (by omega) hw; omega
  · refine h.same i m (by omega) hm fun j hj hj2 hw => ?_
    have hLj := h1 j hj2 hw
    by_cases e : i = j
    · subst e; exact hL hLj
    · rcases h.loose i j k hi (by omega) e hw (.inl hk) with g | g
      · exact hL (down j i (by omega) hLj g)
      · have := h.back _ _ g; omega
theorem Orders.next (h : Orders n T R W ahead) {L : Nat → Prop} {σ σ' : Key → Val} (hc : Cut n T W L σ) (down : ∀ i j, i < n → L i → ahead j i → L j) {i : Nat} (hi : i < n) (hL : ¬ L i) (hready : ∀ j, ahead j i → L j)
    (hw : ∀ k, W i k → σ' k = T (i + 1) k) (hk : ∀ k, ¬ W i k → σ' k = σ k) : Cut n T W (fun j => L j ∨ j = i) σ' := fun k => by
  by_cases q : W i k
  · refine ⟨i + 1, by omega, hw k q, fun j hj hwj => ?_, fun j hj hjn hwj => ?_⟩
    · by_cases e : j = i
      · exact .inr e
      · rcases h.loose i j k hi (by omega) (fun e' => e e'.symm) hwj (.inr q) with g | g
        · have := h.back _ _ g; omega
        · exact .inl (hready j g)
    · rcases hj with hj | rfl
      · by_cases e : j = i
        · omega
        · rcases h.loose i j k hi hjn (fun e' => e e'.symm) hwj (.inr q) with g | g
          · exact (hL (down j i hjn hj g)).elim
          · have := h.back _ _ g; omega
      · omega
  · obtain ⟨m, hm, e, h1, h2⟩ := hc k
    refine ⟨m, hm, (hk k q).trans e, fun j hj hwj => .inl (h1 j hj hwj), fun j hj hjn hwj => ?_⟩
    rcases hj with hj | rfl
    · exact h2 j hj hjn hwj
    · exact (q hwj).elim
theorem Orders.last (h : Orders n T R W ahead) {L : Nat → Prop} {σ : Key → Val} (hc : Cut n T W L σ) (hall : ∀ j, j < n → L j) (k : Key) : σ k = T n k := by
  obtain ⟨m, hm, e, h1, h2⟩ := hc k
  rw [e]
  refine (h.same m n hm (Nat.le_refl _) fun j hj hj2 hw => ?_).symm
  have := h2 j (hall j hj2) hj2 hw; omega
end
end Go.Proofs.YtcjjmflaaaddgaaGreatDoor.Am
/-
  Of the temporaries an operation looks at its own alone, and sets its own alone.
-/
set_option linter.unusedSimpArgs false
set_option linter.unusedVariables false
namespace Go.Proofs.YtcjjmflaaaddgaaGreatDoor.Am
open Go Go.RowKit

section
variable {P : Program} {call : FuncId → List AV → SM AV}
theorem ev_congr {f g : Operand → Option AV} {x : Operand} (h : f x = g x) : ev f x = ev g x := by unfold ev; rw [h]
theorem evO_congr {f g : Operand → Option AV} {x : Option Operand} (h : ∀ y, x = some y → f y = g y) : evO f x = evO g x := by
  cases x with
  | none => rfl
  | some y => simp only [evO, ev_congr (h y rfl)]
theorem evalAll_congr {f g : Operand → Option AV} : ∀ {l : List Operand}, (∀ x ∈ l, f x = g x) → evalAll f l = evalAll g l
  | [], _ => rfl
  | x :: r, h => by
    unfold evalAll
    rw [h x List.mem_cons_self, evalAll_congr fun y hy => h y (List.mem_cons_of_mem _ hy)]
theorem evalParts_congr {f g : Operand → Option AV} : ∀ {l : List (Nat × Operand)}, (∀ x ∈ l, f x.2 = g x.2) → evalParts f l = evalParts g l
  | [], _ => rfl
  | (i, x) :: r, h => by
    unfold evalParts
    rw [h (i, x) List.mem_cons_self, evalParts_congr fun y hy => h y (List.mem_cons_of_mem _ hy)]
theorem opA_congr {f g : Operand → Option AV} (o : Op) (h : ∀ x ∈ o.operands, f x = g x) : opA P call f o = opA P call g o := by
  cases o <;> simp only [Op.operands] at h <;> simp only [opA]
  case move x => exact ev_congr (h x (by simp))
  case assign x => exact ev_congr (h x (by simp))
  case pick c a b => rw [ev_congr (h c (by simp)), ev_congr (h a (by simp)), ev_congr (h b (by simp))]
  case box e x => rw [ev_congr (h x (by simp))]
  case build t ps => rw [evalParts_congr fun x hx => h x.2 (by simp only [List.mem_toArray, List.mem_map]; exact ⟨x, hx, rfl⟩)]
  case buildSlice t n ps => rw [evalParts_congr fun x hx => h x.2 (by simp only [List.mem_toArray, List.mem_map]; exact ⟨x, hx, rfl⟩)]
  case load t x => rw [ev_congr (h x (by simp))]
  case store t x y => rw [ev_congr (h x (by simp)), ev_congr (h y (by simp))]
  case nilCheck x => rw [ev_congr (h x (by simp))]
  case binOp op t x y c => rw [ev_congr (h x (by simp)), ev_congr (h y (by simp))]
  case unOp op t x => rw [ev_congr (h x (by simp))]
  case convert s d x => rw [ev_congr (h x (by simp))]
  case makeInterface t x => rw [ev_congr (h x (by simp))]
  case makeFunc fn first cap =>
    cases fn <;> simp only [opA]
    rw [evalAll_congr fun x hx => h x (by simp only [Array.mem_append]; exact .inl (by simpa using hx)), evalAll_congr fun x hx => h x (by simp only [Array.mem_append]; exact .inr (by simpa using hx))]
  case makeMap t r => cases r <;> simp only [opA]
  case makeSlice t x y => rw [ev_congr (h x (by simp)), ev_congr (h y (by simp))]
  case slice t x lo hi mx =>
    rw [ev_congr (h x (by simp)), evO_congr fun y hy => h y (by simp [hy]), evO_congr fun y hy => h y (by simp [hy]), evO_congr fun y hy => h y (by simp [hy])]
  case fieldAddr t x i => rw [ev_congr (h x (by simp))]
  case field t x i => rw [ev_congr (h x (by simp))]
  case indexAddr t x y => rw [ev_congr (h x (by simp)), ev_congr (h y (by simp))]
  case index t x y => rw [ev_congr (h x (by simp)), ev_congr (h y (by simp))]
  case lookup t x y ok => rw [ev_congr (h x (by simp)), ev_congr (h y (by simp))]
  case mapUpdate t x y z => rw [ev_congr (h x (by simp)), ev_congr (h y (by simp)), ev_congr (h z (by simp))]
  case insert t x y z => rw [ev_congr (h x (by simp)), ev_congr (h y (by simp)), ev_congr (h z (by simp))]
  case typeAssert x xt t ok => rw [ev_congr (h x (by simp))]
  case extract x i => rw [ev_congr (h x (by simp))]
  case call c =>
    have ha : evalAll f c.args.toList = evalAll g c.args.toList := evalAll_congr fun x hx => h x (by simp [Call.operands]; right; simpa using hx)
    cases hc : c.callee with
    | builtin b => simp only [ha]
    | value x => simp only [ev_congr (h x (by simp [Call.operands, hc])), ha]
    | invoke r m => rfl
/-- The temporaries where they count. -/
def Looks (ops : Array Oper) (o : Oper) (a b : Trie AV) : Prop := ∀ d ∈ o.looksAt ops, orUndef (a.get d) = orUndef (b.get d)
theorem eval_looks {ops : Array Oper} {o : Oper} {a b : Trie AV} (h : Looks ops o a b) : ∀ x ∈ o.op.operands, eval a x = eval b x := by
  intro x hx
  cases x with
  | tmp d =>
    show some _ = some _
    rw [h d (List.mem_append_left _ (List.mem_filterMap.2 ⟨.tmp d, by simpa using hx, rfl⟩))]
  | _ => rfl
theorem yieldedA_looks {ops : Array Oper} {o : Oper} {a b : Trie AV} (h : Looks ops o a b) : Region.wanted o (yieldedA ops a) = Region.wanted o (yieldedA ops b) := by
  unfold Region.wanted
  cases hg : o.guard with
  | none => rfl
  | some p =>
    obtain ⟨g, want⟩ := p
    simp only
    have : yieldedA ops a g = yieldedA ops b g := by
      unfold yieldedA
      cases hd : (ops[g]?).bind (·.dst) with
      | none => rfl
      | some d =>
        have e := h d (List.mem_append_right _ (by simp [hg, hd]))
        cases ha : a.get d <;> cases hb : b.get d <;> rw [ha, hb] at e <;> simp only [orUndef] at e <;> simp only [ha, hb]
        · subst e; rfl
        · subst e; rfl
        · subst e; rfl
    rw [this]
/-- What stands in the temporaries behind an operation. -/
noncomputable def putSt (st : St) (d : Option Tmp) (v : AV) : St :=
  match d with
  | some d => ⟨st.tmps.set 16 d v, st.size, st.defers⟩
  | none => st
theorem putA_eq {st st' : St} {d : Option Tmp} {v : AV} {s t : AS} : putA st d v s = .ok st' t ↔ (s = t ∧ st' = putSt st d v ∧ ∀ i, d = some i → i + 1 ≤ st.size) := by
  unfold putA putSt
  cases d with
  | none => simp only [pure_ok]; exact ⟨fun ⟨h, h'⟩ => ⟨h', h.symm, fun _ e => by cases e⟩, fun ⟨h, h', _⟩ => ⟨h'.symm, h⟩⟩
  | some d =>
    simp only
    rw [ble_nat]
    by_cases hd : d + 1 ≤ st.size
    · rw [decide_eq_true hd, cond_true, pure_ok]
      exact ⟨fun ⟨h, h'⟩ => ⟨h', h.symm, fun i e => by cases e; exact hd⟩, fun ⟨h, h', _⟩ => ⟨h'.symm, h⟩⟩
    · rw [decide_eq_false hd, cond_false, fail_ok]
      exact ⟨False.elim, fun ⟨_, _, h⟩ => hd (h d rfl)⟩
/-- Alike in what counts, alike in what they do. -/
theorem stepA_looks {ops : Array Oper} {o : Oper} (hd : ∀ c, o.op ≠ .defer c) {st1 st2 st' : St} (hl : Looks ops o st1.tmps st2.tmps) (hs : st2.size = st1.size) {s t : AS} (h : stepA P call ops o st1 s = .ok st' t) :
    ∃ v, st' = putSt st1 o.dst v ∧ (∀ i, o.dst = some i → i + 1 ≤ st1.size) ∧ stepA P call ops o st2 s = .ok (putSt st2 o.dst v) t := by
  unfold stepA at h ⊢
  rw [← yieldedA_looks hl]
  cases hw : Region.wanted o (yieldedA ops st1.tmps) with
  | false =>
    rw [hw, cond_false] at h
    obtain ⟨rfl, h1, h2⟩ := putA_eq.1 h
    exact ⟨_, h1, h2, by rw [cond_false]; exact putA_eq.2 ⟨rfl, rfl, fun i e => by rw [hs]; exact h2 i e⟩⟩
  | true =>
    rw [hw, cond_true] at h
    have he : opA P call (eval st1.tmps) o.op = opA P call (eval st2.tmps) o.op := opA_congr _ (eval_looks hl)
    generalize ho : o.op = op at h he hd ⊢
    cases op with
    | defer c => exact absurd rfl (hd c)
    | _ =>
      rw [cond_true]
      obtain ⟨v, s1, h1, k1⟩ := bind_ok.1 h
      obtain ⟨rfl, h2, h3⟩ := putA_eq.1 k1
      exact ⟨v, h2, h3, bind_ok.2 ⟨v, s1, he ▸ h1, putA_eq.2 ⟨rfl, rfl, fun i e => by rw [hs]; exact h3 i e⟩⟩⟩
end
end Go.Proofs.YtcjjmflaaaddgaaGreatDoor.Am
/-
  What stands ahead of what in a region: bits, edges, the pairs that stand loose.
-/
set_option linter.unusedSimpArgs false
set_option linter.unusedVariables false
namespace Go.Proofs.YtcjjmflaaaddgaaGreatDoor.Am
open Go Go.RowKit

def Direct (ops : List Oper) (j i : Nat) : Prop := ∃ o e, ops[i]? = some o ∧ e ∈ o.after.toList ∧ Region.binds .any e = true ∧ e.on = j
inductive Ahead (ops : List Oper) : Nat → Nat → Prop where
  | one (j i : Nat) (h : Direct ops j i) : Ahead ops j i
  | more (j k i : Nat) (h : Direct ops k i) (h' : Ahead ops j k) : Ahead ops j i
section
variable {ops : List Oper}
theorem inner_bits {acc : List Nat} {i : Nat} (hacc : ∀ k j, (acc.getD k 0).testBit j = true → Ahead ops j k) (es : List Edge) (hes : ∀ e ∈ es, Region.binds .any e = true → Direct ops e.on i) :
    ∀ (s : Nat), (∀ j, s.testBit j = true → Ahead ops j i) → ∀ j, (es.foldl (init := s) fun s e => if Region.binds .any e then s ||| 2 ^ e.on ||| acc.getD e.on 0 else s).testBit j = true → Ahead ops j i := by
  induction es with
  | nil => intro s hs j hj; exact hs j hj
  | cons e es ih =>
    intro s hs j hj
    rw [List.foldl_cons] at hj
    refine ih (fun e' he' => hes e' (List.mem_cons_of_mem _ he')) _ (fun j hj => ?_) j hj
    by_cases hb : Region.binds .any e = true
    · rw [if_pos hb] at hj
      simp only [Nat.testBit_or, Nat.testBit_two_pow, Bool.or_eq_true, decide_eq_true_eq] at hj
      have hd := hes e List.mem_cons_self hb
      rcases hj with (hj | hj) | hj
      · exact hs j hj
      · exact hj ▸ .one _ _ hd
      · exact .more _ _ _ hd (hacc _ _ hj)
    · rw [if_neg hb] at hj; exact hs j hj
theorem outer_bits : ∀ (rest pre : List Oper) (acc : List Nat), ops = pre ++ rest → acc.length = pre.length → (∀ k j, (acc.getD k 0).testBit j = true → Ahead ops j k) →
    ∀ k j, ((rest.foldl (init := acc) fun acc o => acc ++ [o.after.toList.foldl (init := 0) fun s e => if Region.binds .any e then s ||| 2 ^ e.on ||| acc.getD e.on 0 else s]).getD k 0).testBit j = true → Ahead ops j k := by
  intro rest
  induction rest with
  | nil => intro pre acc _ _ h k j hj; exact h k j hj
  | cons o rest ih =>
    intro pre acc h1 h2 h3 k j hj
    rw [List.foldl_cons] at hj
    refine ih (pre ++ [o]) _ (by rw [h1]; simp) (by simp [h2]) (fun k j hj => ?_) k j hj
    have hi : ops[pre.length]? = some o := by rw [h1]; simp
    by_cases q : k < acc.length
    · rw [List.getD_eq_getElem?_getD, List.getElem?_append_left q, ← List.getD_eq_getElem?_getD] at hj; exact h3 k j hj
    · rw [List.getD_eq_getElem?_getD, List.getElem?_append_right (by omega), ← List.getD_eq_getElem?_getD] at hj
      by_cases q2 : k = acc.length
      · subst q2
        rw [Nat.sub_self] at hj
        refine h2 ▸ inner_bits (i := pre.length) h3 _ (fun e he hb => ⟨o, e, hi, he, hb, rfl⟩) 0 (fun j hj => by simp at hj) j (by simpa using hj)
      · have : k - acc.length = (k - acc.length - 1) + 1 := by omega
        rw [this] at hj
        simp at hj
theorem aheadOf_bits {k j : Nat} (h : ((aheadOf ops []).getD k 0).testBit j = true) : Ahead ops j k :=
  outer_bits ops [] [] rfl rfl (fun k j h => by simp at h) k j h
theorem Direct.back (h : edgesBack ops = true) {j i : Nat} (hd : Direct ops j i) : j < i := by
  obtain ⟨o, e, h1, h2, h3, rfl⟩ := hd
  unfold edgesBack at h
  rw [List.all_eq_true] at h
  have hi : i < ops.length := (List.getElem?_eq_some_iff.1 h1).1
  have h4 := h i (List.mem_range.2 hi)
  rw [List.all_eq_true] at h4
  have e1 : ops.getD i default = o := by rw [List.getD_eq_getElem?_getD, h1]; rfl
  rw [e1] at h4
  have h5 := h4 e h2
  rw [h3] at h5
  simpa using h5
theorem Ahead.back (h : edgesBack ops = true) {j i : Nat} (hd : Ahead ops j i) : j < i := by
  induction hd with
  | one i h' => exact h'.back h
  | more k i h' _ ih => have := h'.back h; omega
/-- Neither ahead of the other: a loose pair. -/
theorem loosePairs_mem {i j : Nat} (hij : i < j) (hj : j < ops.length) (h : ¬ Ahead ops i j) : (i, j) ∈ loosePairs ops := by
  unfold loosePairs
  simp only [List.mem_flatMap, List.mem_map, List.mem_filter, List.mem_range, Bool.not_eq_true']
  refine ⟨j, hj, i, ⟨hij, ?_⟩, rfl⟩
  cases hb : ((aheadOf ops []).getD j 0).testBit i with
  | false => rfl
  | true => exact (h (aheadOf_bits hb)).elim
theorem mem_looseOf {i j : Nat} (h : (i, j) ∈ loosePairs ops) : j ∈ looseOf ops i ∧ i ∈ looseOf ops j := by
  unfold looseOf
  constructor
  · exact List.mem_filterMap.2 ⟨(i, j), h, by simp⟩
  · refine List.mem_filterMap.2 ⟨(i, j), h, ?_⟩
    simp only
    split
    · rename_i e; rw [e]
    · simp
theorem disjoint_spec {a b : List Acc} (h : disjoint a b = true) {id k : Nat} (ha : hasL a id k) (hb : hasL b id k) : False := by
  unfold disjoint at h
  rw [lall_eq, List.all_eq_true] at h
  obtain ⟨x, hx, h1⟩ := ha
  obtain ⟨y, hy, h2⟩ := hb
  have h3 := h x hx
  rw [lall_eq, List.all_eq_true] at h3
  exact Acc.apart_spec (h3 y hy) h1 h2
theorem logsFrom_spec {all : List (List Acc × List Acc)} : ∀ {l : List (List Acc × List Acc)} {i : Nat}, logsFrom ops all i l = true → ∀ (n : Nat) r w, l[n]? = some (r, w) → w ≠ [] → ∀ j ∈ looseOf ops (i + n), ∃ rj wj, all[j]? = some (rj, wj) ∧ disjoint w rj = true ∧ disjoint w wj = true
  | [], i, h, n, r, w, hn, hw, j, hj => by simp at hn
  | (r0, w0) :: l, i, h, n, r, w, hn, hw, j, hj => by
    have tail : logsFrom ops all (i + 1) l = true := by
      cases w0 with
      | nil => exact h
      | cons => unfold logsFrom at h; simp only [Bool.and_eq_true] at h; exact h.2
    cases n with
    | succ n => exact logsFrom_spec tail n r w (by simpa using hn) hw j (by rw [show i + 1 + n = i + (n + 1) by omega]; exact hj)
    | zero =>
      simp only [List.getElem?_cons_zero, Option.some.injEq, Prod.mk.injEq] at hn
      obtain ⟨rfl, rfl⟩ := hn
      cases w0 with
      | nil => exact absurd rfl hw
      | cons x xs =>
        unfold logsFrom at h
        simp only [Bool.and_eq_true, List.all_eq_true] at h
        have := h.1 j hj
        rw [lget_eq] at this
        split at this
        · rename_i rj wj e
          simp only [Bool.and_eq_true] at this
          exact ⟨rj, wj, e, this.1, this.2⟩
        · cases this
end
end Go.Proofs.YtcjjmflaaaddgaaGreatDoor.Am
/-
  Regions that draw their order: whatever order is drawn, they end as the text's order does.
-/
set_option linter.unusedSimpArgs false
set_option linter.unusedVariables false
namespace Go.Proofs.YtcjjmflaaaddgaaGreatDoor.Am
open Go Go.RowKit

section
variable {P : Program} {call : FuncId → List AV → SM AV} {ops : Array Oper}
/-- The text's order, state by state. -/
structure Text (P : Program) (call : FuncId → List AV → SM AV) (ops : Array Oper) (l : List Nat) (SS : Nat → AS) (TT : Nat → St) (lg : List (List Acc × List Acc)) : Prop where
  len : lg.length = l.length
  step : ∀ j i, l[j]? = some i → ∃ o r w tj, ops[i]? = some o ∧ lg[j]? = some (r, w) ∧ stepA P call ops o (TT j) ⟨(SS j).heap, (SS j).next, [], []⟩ = .ok (TT (j + 1)) tj ∧ tj.reads = r ∧ tj.writes = w ∧ (SS (j + 1)).heap = tj.heap ∧ (SS (j + 1)).next = tj.next
theorem opsLog_run : ∀ (l : List Nat) {st st' : St} {s t : AS} {lg : List (List Acc × List Acc)}, opsLog P call ops l st s = .ok (st', lg) t →
    ∃ SS TT, Text P call ops l SS TT lg ∧ SS 0 = s ∧ TT 0 = st ∧ SS l.length = t ∧ TT l.length = st'
  | [], st, st', s, t, lg, h => by
    obtain ⟨e, rfl⟩ := pure_ok.1 h
    cases e
    exact ⟨fun _ => s, fun _ => st, ⟨rfl, fun j i hj => by simp at hj⟩, rfl, rfl, rfl, rfl⟩
  | i :: rest, st, st', s, t, lg, h => by
    unfold opsLog at h
    cases ho : ops[i]? with
    | none => rw [ho] at h; exact (fail_ok.1 h).elim
    | some o =>
      rw [ho] at h
      obtain ⟨⟨st1, r, w⟩, s1, h1, h2⟩ := bind_ok.1 h
      obtain ⟨⟨st2, lg2⟩, s2, h3, h4⟩ := bind_ok.1 h2
      obtain ⟨e, rfl⟩ := pure_ok.1 h4
      cases e
      obtain ⟨SS, TT, hT, e1, e2, e3, e4⟩ := opsLog_run rest h3
      unfold isolate at h1
      cases hq : stepA P call ops o st ⟨s.heap, s.next, [], []⟩ with
      | err e => rw [hq] at h1; cases h1
      | ok a tj =>
        rw [hq] at h1
        cases h1
        refine ⟨fun j => match j with | 0 => s | j + 1 => SS j, fun j => match j with | 0 => st | j + 1 => TT j, ⟨by simp [hT.len], fun j i' hj => ?_⟩, rfl, rfl, e3, e4⟩
        cases j with
        | zero =>
          simp only [List.getElem?_cons_zero, Option.some.injEq] at hj
          subst hj
          exact ⟨o, tj.reads, tj.writes, tj, ho, rfl, by simp only [e2]; exact hq, rfl, rfl, by simp only [e1], by simp only [e1]⟩
        | succ j =>
          obtain ⟨o', r', w', tj', g⟩ := hT.step j i' (by simpa using hj)
          exact ⟨o', r', w', tj', g⟩
abbrev Key := (Nat × Nat) ⊕ Nat
abbrev Val := KV ⊕ AV
noncomputable def look (h : Trie AO) (t : Trie AV) : Key → Val
  | .inl (id, k) => .inl (view (h.get id) k)
  | .inr d => .inr (orUndef (t.get d))
def RKey (ops : Array Oper) (lg : List (List Acc × List Acc)) (i : Nat) : Key → Prop
  | .inl (id, k) => ∃ r w, lg[i]? = some (r, w) ∧ hasL r id k
  | .inr d => ∃ o, ops[i]? = some o ∧ d ∈ o.looksAt ops
def WKey (ops : Array Oper) (lg : List (List Acc × List Acc)) (i : Nat) : Key → Prop
  | .inl (id, k) => ∃ r w, lg[i]? = some (r, w) ∧ hasL w id k
  | .inr d => ∃ o, ops[i]? = some o ∧ o.dst = some d
theorem looseOk_spec {l : List (Nat × Nat)} (h : looseOk ops l = true) {i j : Nat} (hm : (i, j) ∈ l) : ∃ x y, ops[i]? = some x ∧ ops[j]? = some y ∧ x.apart ops y = true := by
  unfold looseOk at h
  rw [List.all_eq_true] at h
  have := h (i, j) hm
  simp only at this
  split at this
  · rename_i x y hx hy; exact ⟨x, y, hx, hy, this⟩
  · cases this
theorem loose_pair {lg : List (List Acc × List Acc)} (hl : looseOk ops (loosePairs ops.toList) = true) (hlog : logsFrom ops.toList lg 0 lg = true) (hlen : lg.length = ops.size) {i j : Nat} (hij : i < j) (hj : j < ops.size) (hn : ¬ Ahead ops.toList i j) {k : Key} :
    ¬ (WKey ops lg j k ∧ (RKey ops lg i k ∨ WKey ops lg i k)) ∧ ¬ (WKey ops lg i k ∧ (RKey ops lg j k ∨ WKey ops lg j k)) := by
  have hm := loosePairs_mem (ops := ops.toList) hij (by simpa using hj) hn
  obtain ⟨x, y, hx, hy, hap⟩ := looseOk_spec hl hm
  obtain ⟨p1, p2, p3⟩ := Oper.apart_spec hap
  obtain ⟨m1, m2⟩ := mem_looseOf hm
  have logs : ∀ {a b : Nat}, b ∈ looseOf ops.toList a → ∀ {id k : Nat} {r w r' w' : List Acc}, lg[a]? = some (r, w) → lg[b]? = some (r', w') → hasL w id k → ¬ hasL r' id k ∧ ¬ hasL w' id k := by
    intro a b hb id k r w r' w' ha hb' hw
    have hne : w ≠ [] := by rintro rfl; exact hasL_nil hw
    obtain ⟨rj, wj, e, d1, d2⟩ := logsFrom_spec hlog a r w ha hne b (by rw [Nat.zero_add]; exact hb)
    rw [hb'] at e; cases e
    exact ⟨fun q => disjoint_spec d1 hw q, fun q => disjoint_spec d2 hw q⟩
  cases k with
  | inl k =>
    obtain ⟨id, k⟩ := k
    constructor
    · rintro ⟨⟨r, w, h1, h2⟩, (⟨r', w', h3, h4⟩ | ⟨r', w', h3, h4⟩)⟩
      · exact (logs m2 h1 h3 h2).1 h4
      · exact (logs m2 h1 h3 h2).2 h4
    · rintro ⟨⟨r, w, h1, h2⟩, (⟨r', w', h3, h4⟩ | ⟨r', w', h3, h4⟩)⟩
      · exact (logs m1 h1 h3 h2).1 h4
      · exact (logs m1 h1 h3 h2).2 h4
  | inr d =>
    constructor
    · rintro ⟨⟨o, h1, h2⟩, (⟨o', h3, h4⟩ | ⟨o', h3, h4⟩)⟩
      · rw [hy] at h1; rw [hx] at h3; cases h1; cases h3; exact p3 d h2 h4
      · rw [hy] at h1; rw [hx] at h3; cases h1; cases h3; exact p2 d h4 h2
    · rintro ⟨⟨o, h1, h2⟩, (⟨o', h3, h4⟩ | ⟨o', h3, h4⟩)⟩
      · rw [hx] at h1; rw [hy] at h3; cases h1; cases h3; exact p1 d h2 h4
      · rw [hx] at h1; rw [hy] at h3; cases h1; cases h3; exact p2 d h2 h4
theorem noDefer_spec (h : noDefer ops = true) {i : Nat} {o : Oper} (ho : ops[i]? = some o) (c : Call) : o.op ≠ .defer c := by
  unfold noDefer at h
  rw [List.all_eq_true] at h
  have hm : o ∈ ops.toList := by
    rw [← Array.getElem?_toList] at ho
    exact List.mem_of_getElem? ho
  have := h o hm
  intro e
  rw [e] at this
  cases this
theorem putSt_get {st : St} {d : Option Tmp} {v : AV} {e : Nat} (h : d ≠ some e) (hs : ∀ i, d = some i → i + 1 ≤ st.size) (hsm : st.size ≤ 65535) : (putSt st d v).tmps.get e = st.tmps.get e := by
  unfold putSt
  cases d with
  | none => rfl
  | some d =>
    have hd := hs d rfl
    have hd3 : Nat.lt (d + 1) (2 ^ 16) := Nat.lt_of_le_of_lt hd (Nat.lt_of_le_of_lt hsm (by decide))
    simp only
    rw [Trie.get_set 16 _ _ _ _ hd3, if_neg (fun q => h (by rw [q]))]
theorem putSt_at {st : St} {v : AV} {e : Nat} (hs : e + 1 ≤ st.size) (hsm : st.size ≤ 65535) : (putSt st (some e) v).tmps.get e = some v := by
  have hd3 : Nat.lt (e + 1) (2 ^ 16) := Nat.lt_of_le_of_lt hs (Nat.lt_of_le_of_lt hsm (by decide))
  simp only [putSt]
  rw [Trie.get_set 16 _ _ _ _ hd3, if_pos rfl]
theorem putSt_size (st : St) (d : Option Tmp) (v : AV) : (putSt st d v).size = st.size := by cases d <;> rfl
theorem putSt_defers (st : St) (d : Option Tmp) (v : AV) : (putSt st d v).defers = st.defers := by cases d <;> rfl
/-- What holds all along the text's order. -/
theorem Text.along {SS : Nat → AS} {TT : Nat → St} {lg : List (List Acc × List Acc)} (hT : Text P call ops (List.range ops.size) SS TT lg) (hgood : ∀ f l, Good (call f l)) (hnd : noDefer ops = true) (hok : OkS (SS 0).heap) : ∀ j, j ≤ ops.size → OkS (SS j).heap ∧ (TT j).size = (TT 0).size ∧ (TT j).defers = (TT 0).defers ∧ (SS 0).next ≤ (SS j).next
  | 0, _ => ⟨hok, rfl, rfl, Nat.le_refl _⟩
  | j + 1, hj => by
    obtain ⟨h1, h2, h3, h0⟩ := hT.along hgood hnd hok j (by omega)
    obtain ⟨o, r, w, tj, ho, _, hst, _, _, e1, e2⟩ := hT.step j j (by rw [List.getElem?_range (by omega)])
    obtain ⟨_, _, ef, _⟩ := stepA_good hgood ops o (TT j) ⟨(SS j).heap, (SS j).next, [], []⟩ _ _ h1 hst
    obtain ⟨v, hv, _, _⟩ := stepA_looks (noDefer_spec hnd ho) (fun _ _ => rfl) rfl hst
    have hn := ef.next
    simp only at hn
    exact ⟨by rw [e1]; exact ef.ok, by rw [hv, putSt_size, h2], by rw [hv, putSt_defers, h3], by rw [e2]; omega⟩
theorem Text.orders {SS : Nat → AS} {TT : Nat → St} {lg : List (List Acc × List Acc)} (hT : Text P call ops (List.range ops.size) SS TT lg) (hgood : ∀ f l, Good (call f l)) (hso : staticOk ops = true) (hlog : logsFrom ops.toList lg 0 lg = true) (hok : OkS (SS 0).heap) (hsm : (TT 0).size ≤ 65535) :
    Orders ops.size (fun j => look (SS j).heap (TT j).tmps) (RKey ops lg) (WKey ops lg) (Ahead ops.toList) := by
  unfold staticOk at hso
  simp only [Bool.and_eq_true] at hso
  obtain ⟨⟨hb, hl⟩, hnd⟩ := hso
  refine ⟨fun i j h => h.back hb, fun i k hi hk => ?_, fun i j k hi hj hne hw hr => ?_⟩
  · obtain ⟨h1, h2, h3, _⟩ := hT.along hgood hnd hok i (by omega)
    obtain ⟨o, r, w, tj, ho, hlg, hst, hr, hw, e1, e2⟩ := hT.step i i (by rw [List.getElem?_range hi])
    cases k with
    | inl k =>
      obtain ⟨id, k⟩ := k
      obtain ⟨dr, dw, ef, _⟩ := stepA_good hgood ops o (TT i) ⟨(SS i).heap, (SS i).next, [], []⟩ _ _ h1 hst
      have ew : dw = w := by rw [← hw, ef.writes]; exact (List.append_nil _).symm
      show Sum.inl _ = Sum.inl _
      rw [e1]
      refine congrArg Sum.inl (ef.keep id k fun q => hk ⟨r, w, hlg, ew ▸ q⟩)
    | inr d =>
      obtain ⟨v, hv, hs, _⟩ := stepA_looks (noDefer_spec hnd ho) (fun _ _ => rfl) rfl hst
      show Sum.inr (orUndef ((TT (i + 1)).tmps.get d)) = Sum.inr _
      rw [hv, putSt_get (fun q => hk ⟨o, ho, q⟩) hs (by rw [h2]; exact hsm)]
  · rcases Nat.lt_or_gt_of_ne hne with q | q
    · by_cases ha : Ahead ops.toList i j
      · exact .inl ha
      · exact ((loose_pair hl hlog (by rw [hT.len, List.length_range]) q hj ha).1 ⟨hw, hr⟩).elim
    · by_cases ha : Ahead ops.toList j i
      · exact .inr ha
      · exact ((loose_pair hl hlog (by rw [hT.len, List.length_range]) q hi ha).2 ⟨hw, hr⟩).elim
end
end Go.Proofs.YtcjjmflaaaddgaaGreatDoor.Am
/-
  Regions that draw their order, against the model: 'wpAny' from the text's order and its footprints.
-/
set_option linter.unusedSimpArgs false
set_option linter.unusedVariables false
namespace Go.Proofs.YtcjjmflaaaddgaaGreatDoor.Am
open Go Go.RowKit

section
variable {P : Program} {call : FuncId → List AV → SM AV} {ops : Array Oper} {SS : Nat → AS} {TT : Nat → St} {lg : List (List Acc × List Acc)}
def On (listed : Array Bool) (j : Nat) : Prop := listed.getD j false = true
theorem ready_mem {listed : Array Bool} {i : Nat} (hs : listed.size = ops.size) : i ∈ Region.ready .any ops listed ↔ i < ops.size ∧ ¬ On listed i ∧ ∀ j, Direct ops.toList j i → On listed j := by
  unfold Region.ready On
  simp only [List.mem_filter, List.mem_range, Bool.and_eq_true, Bool.not_eq_true']
  have e : ∀ i, i < ops.size → listed.getD i true = listed.getD i false := fun i hi => by
    rw [Array.getD_eq_getD_getElem?, Array.getD_eq_getD_getElem?, Array.getElem?_eq_getElem (by omega)]; rfl
  constructor
  · rintro ⟨h1, h2, h3⟩
    refine ⟨h1, by rw [← e i h1, h2]; simp, fun j hd => ?_⟩
    obtain ⟨o, ed, g1, g2, g3, rfl⟩ := hd
    rw [Array.getElem?_toList] at g1
    rw [g1] at h3
    simp only [Option.map_some, Option.getD_some, Array.all_eq_true_iff_forall_mem] at h3
    have := h3 ed (by simpa using g2)
    rw [g3] at this
    simpa using this
  · rintro ⟨h1, h2, h3⟩
    refine ⟨h1, by rw [e i h1]; simpa using h2, ?_⟩
    rw [Array.getElem?_eq_getElem h1]
    simp only [Option.map_some, Option.getD_some, Array.all_eq_true_iff_forall_mem]
    intro ed hed
    by_cases hb : Region.binds .any ed = true
    · rw [hb]
      simpa using h3 ed.on ⟨ops[i], ed, by rw [Array.getElem?_toList, Array.getElem?_eq_getElem h1], by simpa using hed, hb, rfl⟩
    · simp [hb]
/-- Where nothing is ready all are listed. -/
theorem all_listed {listed : Array Bool} (hb : edgesBack ops.toList = true) (hs : listed.size = ops.size) (h : Region.ready .any ops listed = []) : ∀ j, j < ops.size → On listed j := by
  intro j
  induction j using Nat.strongRecOn with
  | ind j ih =>
    intro hj
    rcases Classical.em (On listed j) with q | q
    · exact q
    · have : j ∈ Region.ready .any ops listed := (ready_mem hs).2 ⟨hj, q, fun k hk => ih k (hk.back hb) (by have := hk.back hb; omega)⟩
      rw [h] at this; cases this
theorem On_set {listed : Array Bool} {i j : Nat} (hi : i < listed.size) : On (listed.setIfInBounds i true) j ↔ (On listed j ∨ j = i) := by
  unfold On
  rw [Array.getD_eq_getD_getElem?, Array.getD_eq_getD_getElem?, Array.getElem?_setIfInBounds]
  by_cases e : i = j
  · subst e; simp [hi]
  · simp [e, Ne.symm e]
theorem Text.mono (hT : Text P call ops (List.range ops.size) SS TT lg) (hgood : ∀ f l, Good (call f l)) (hnd : noDefer ops = true) (hok : OkS (SS 0).heap) : ∀ {a b : Nat}, a ≤ b → b ≤ ops.size → (SS a).next ≤ (SS b).next := by
  intro a b
  induction b with
  | zero => intro h _; rw [Nat.le_zero.1 h]; exact Nat.le_refl _
  | succ b ih =>
    intro h hb
    by_cases e : a = b + 1
    · rw [e]; exact Nat.le_refl _
    · have h1 := ih (by omega) (by omega)
      obtain ⟨h2, _⟩ := hT.along hgood hnd hok b (by omega)
      obtain ⟨o, r, w, tj, ho, _, hst, _, _, e1, e2⟩ := hT.step b b (by rw [List.getElem?_range (by omega)])
      obtain ⟨_, _, ef, _⟩ := stepA_good hgood ops o (TT b) ⟨(SS b).heap, (SS b).next, [], []⟩ _ _ h2 hst
      have hn := ef.next
      simp only at hn
      rw [e2]; omega
/-- Where the listed ones have run. -/
structure At (B : Nat) (ops : Array Oper) (SS : Nat → AS) (TT : Nat → St) (lg : List (List Acc × List Acc)) (ρ0 : Rho) (w0 : World) (listed : Array Bool) (a : Act) (w : World) (h : Trie AO) (st : St) (ρ : Rho) : Prop where
  size : listed.size = ops.size
  down : ∀ i j, Direct ops.toList j i → On listed i → On listed j
  cut : Cut ops.size (fun j => look (SS j).heap (TT j).tmps) (WKey ops lg) (On listed) (look h st.tmps)
  ok : OkS h
  rel : WRel B ρ h w
  act : ARel ρ st a
  tsize : st.size = (TT 0).size
  tdef : st.defers = (TT 0).defers
  ext : ρ0.le ρ
  below : Below B w0 w
  new : ∀ id, ρ0 id = none → ρ id ≠ none → ∃ j, j < ops.size ∧ On listed j ∧ (SS j).next ≤ id ∧ id < (SS (j + 1)).next
theorem At.step {B : Nat} {ρ0 ρ : Rho} {w0 w : World} {listed : Array Bool} {a : Act} {h : Trie AO} {st : St} {Q : Exit → Act → World → Prop} {K : Act → World → Prop}
    (hcall : CallOK P call) (hgood : ∀ f l, Good (call f l)) (hT : Text P call ops (List.range ops.size) SS TT lg) (hso : staticOk ops = true) (hlog : logsFrom ops.toList lg 0 lg = true) (hok : OkS (SS 0).heap) (hsm : (TT 0).size ≤ 65535)
    (hf : Fresh ρ0 (SS 0).next (SS ops.size).next) (H : At B ops SS TT lg ρ0 w0 listed a w h st ρ) {i : Nat} (hi : i ∈ Region.ready .any ops listed)
    (next : ∀ a' w' h' st' ρ', At B ops SS TT lg ρ0 w0 (listed.setIfInBounds i true) a' w' h' st' ρ' → K a' w') : wpOp P ops Q i K a w := by
  have hO := hT.orders hgood hso hlog hok hsm
  have hso' := hso
  unfold staticOk at hso'
  simp only [Bool.and_eq_true] at hso'
  obtain ⟨⟨hb, hl⟩, hnd⟩ := hso'
  obtain ⟨hin, hL, hready⟩ := (ready_mem H.size).1 hi
  have down : ∀ i j, i < ops.size → On listed i → Ahead ops.toList j i → On listed j := by
    intro i j hi' hoi ha
    clear hi'
    induction ha with
    | one i hd => exact H.down _ _ hd hoi
    | more k i hd _ ih => exact ih (H.down _ _ hd hoi)
  have hreadyA : ∀ j, Ahead ops.toList j i → On listed j := by
    intro j ha
    cases ha with
    | one _ hd => exact hready _ hd
    | more k _ hd h' => exact down k j (by have := hd.back hb; omega) (hready _ hd) h'
  obtain ⟨hok1, hsz1, _, _⟩ := hT.along hgood hnd hok i (by omega)
  obtain ⟨o, r, w1, tj, ho, hlg, hst, hr, hw, e1, e2⟩ := hT.step i i (by rw [List.getElem?_range hin])
  have hreads := fun k hk => hO.reads H.cut down hin hL hreadyA (k := k) hk
  -- the same operation, here
  have hlooks : Looks ops o (TT i).tmps st.tmps := fun d hd => by
    have := hreads (.inr d) ⟨o, ho, hd⟩
    exact (Sum.inr.inj this).symm
  obtain ⟨v, hv, hs, hst2⟩ := stepA_looks (noDefer_spec hnd ho) hlooks (by rw [H.tsize, hsz1]) hst
  obtain ⟨dr, dw, ef, loc⟩ := stepA_good hgood ops o st ⟨(SS i).heap, (SS i).next, [], []⟩ _ _ hok1 hst2
  have er : dr = r := by rw [← hr, ef.reads]; exact (List.append_nil _).symm
  have ew : dw = w1 := by rw [← hw, ef.writes]; exact (List.append_nil _).symm
  obtain ⟨t', g1, g2, g3, g4⟩ := loc ⟨h, (SS i).next, [], []⟩ H.ok rfl fun id k q => Sum.inl.inj (hreads (.inl (id, k)) ⟨r, w1, hlg, er ▸ q⟩)
  have hfr : Fresh ρ (SS i).next t'.next := fun id q1 q2 => by
    rw [g3, ← e2] at q2
    have q3 := hT.mono hgood hnd hok (Nat.zero_le i) (by omega)
    have q4 := hT.mono hgood hnd hok (show i + 1 ≤ ops.size by omega) (Nat.le_refl _)
    rcases hρ : ρ id with _ | p
    · rfl
    · obtain ⟨j, j1, j2, j3, j4⟩ := H.new id (hf id (by omega) (by omega)) (by rw [hρ]; simp)
      have hne : j ≠ i := fun q => hL (q ▸ j2)
      rcases Nat.lt_or_gt_of_ne hne with q | q
      · have := hT.mono hgood hnd hok (show j + 1 ≤ i by omega) (by omega); omega
      · have := hT.mono hgood hnd hok (show i + 1 ≤ j by omega) (by omega); omega
  have fin := stepA_ok (next := K) (Q := Q) hcall H.act (s := ⟨h, (SS i).next, [], []⟩) H.ok g1 H.rel hfr fun ρ' w' a' ha' hp => by
    refine next a' w' t'.heap (putSt st o.dst v) ρ' ⟨by rw [Array.size_setIfInBounds]; exact H.size, ?_, ?_, g2.ok, hp.rel, ha', by rw [putSt_size, H.tsize], by rw [putSt_defers, H.tdef], H.ext.trans hp.ext, H.below.trans hp.below, ?_⟩
    · intro i' j' hd hon
      rw [On_set (by rw [H.size]; exact hin)] at hon ⊢
      rcases hon with hon | rfl
      · exact .inl (H.down _ _ hd hon)
      · exact .inl (hready _ hd)
    · have := hO.next (σ' := look t'.heap (putSt st o.dst v).tmps) H.cut down hin hL hreadyA (fun k hk => ?_) (fun k hk => ?_)
      · intro k
        obtain ⟨m, m1, m2, m3, m4⟩ := this k
        exact ⟨m, m1, m2, fun j q1 q2 => (On_set (by rw [H.size]; exact hin)).2 (m3 j q1 q2), fun j q1 => m4 j ((On_set (by rw [H.size]; exact hin)).1 q1)⟩
      · cases k with
        | inl k =>
          obtain ⟨id, k⟩ := k
          obtain ⟨r', w', q1, q2⟩ := hk
          rw [hlg] at q1; cases q1
          show Sum.inl _ = Sum.inl _
          rw [e1]
          exact congrArg Sum.inl (g4 id k (ew ▸ q2))
        | inr d =>
          obtain ⟨o', q1, q2⟩ := hk
          rw [ho] at q1; cases q1
          show Sum.inr (orUndef _) = Sum.inr (orUndef _)
          have hs' : d + 1 ≤ (TT i).size := hs d q2
          rw [hv, q2, putSt_at (by rw [H.tsize, ← hsz1]; exact hs') (by rw [H.tsize]; exact hsm), putSt_at hs' (by rw [hsz1]; exact hsm)]
      · cases k with
        | inl k =>
          obtain ⟨id, k⟩ := k
          show Sum.inl _ = Sum.inl _
          exact congrArg Sum.inl (g2.keep id k fun q => hk ⟨r, w1, hlg, ew ▸ q⟩)
        | inr d =>
          show Sum.inr (orUndef _) = Sum.inr (orUndef _)
          rw [putSt_get (fun q => hk ⟨o, ho, q⟩) (fun i' q => by rw [H.tsize, ← hsz1]; exact hs i' q) (by rw [H.tsize]; exact hsm)]
    · intro id q1 q2
      rcases hρ : ρ id with _ | p
      · obtain ⟨n1, n2⟩ := hp.new id hρ q2
        exact ⟨i, hin, (On_set (by rw [H.size]; exact hin)).2 (.inr rfl), n1, by rw [e2, ← g3]; exact n2⟩
      · obtain ⟨j, j1, j2, j3⟩ := H.new id q1 (by rw [hρ]; simp)
        exact ⟨j, j1, (On_set (by rw [H.size]; exact hin)).2 (.inl j2), j3⟩
  unfold wpOp
  rw [ho]
  simp only
  cases hwant : Region.wanted o (yielded ops a.tmps) with
  | true => rw [hwant, if_pos rfl] at fin; rw [if_pos rfl]; exact .inl fin
  | false => rw [hwant] at fin; simp only [Bool.false_eq_true, if_false] at fin ⊢; exact fin
theorem count_lt {α : Type} {p q : α → Bool} : ∀ {l : List α}, (∀ x ∈ l, q x = true → p x = true) → (∃ x ∈ l, p x = true ∧ q x = false) → l.countP q < l.countP p
  | [], _, ⟨_, h, _⟩ => by cases h
  | y :: l, h1, ⟨x, hx, h2, h3⟩ => by
    have hle : l.countP q ≤ l.countP p := List.countP_mono_left fun z hz hq => h1 z (List.mem_cons_of_mem _ hz) hq
    rw [List.countP_cons, List.countP_cons]
    rcases List.mem_cons.1 hx with rfl | hx
    · rw [h2, h3]; simp; omega
    · have ih := count_lt (fun z hz => h1 z (List.mem_cons_of_mem _ hz)) ⟨x, hx, h2, h3⟩
      have := h1 y List.mem_cons_self
      cases hq : q y with
      | false => simp; omega
      | true => rw [this hq]; simp; omega
def unlisted (n : Nat) (listed : Array Bool) : Nat := (List.range n).countP fun j => !listed.getD j false
theorem unlisted_set {listed : Array Bool} {n i : Nat} (hs : listed.size = n) (hi : i < n) (h : ¬ On listed i) : unlisted n (listed.setIfInBounds i true) < unlisted n listed := by
  refine count_lt (fun x _ hx => ?_) ⟨i, List.mem_range.2 hi, ?_, ?_⟩
  · simp only [Bool.not_eq_true'] at hx ⊢
    cases hq : listed.getD x false with
    | false => rfl
    | true =>
      have : On (listed.setIfInBounds i true) x := (On_set (by omega)).2 (.inl hq)
      unfold On at this; rw [this] at hx; cases hx
  · unfold On at h; simpa using h
  · have : On (listed.setIfInBounds i true) i := (On_set (by omega)).2 (.inr rfl)
    unfold On at this; simp [this]
theorem At.any {B : Nat} {ρ0 : Rho} {w0 : World} {Q : Exit → Act → World → Prop} 
    (hcall : CallOK P call) (hgood : ∀ f l, Good (call f l)) (hT : Text P call ops (List.range ops.size) SS TT lg) (hso : staticOk ops = true) (hlog : logsFrom ops.toList lg 0 lg = true) (hok : OkS (SS 0).heap) (hsm : (TT 0).size ≤ 65535)
    (hf : Fresh ρ0 (SS 0).next (SS ops.size).next)
    (last : ∀ listed a w h st ρ, At B ops SS TT lg ρ0 w0 listed a w h st ρ → (∀ j, j < ops.size → On listed j) → Q .normal a w) : ∀ (fuel : Nat) (listed : Array Bool) (a : Act) (w : World) (h : Trie AO) (st : St) (ρ : Rho), At B ops SS TT lg ρ0 w0 listed a w h st ρ → unlisted ops.size listed ≤ fuel → wpAny P .any ops Q fuel listed a w := by
  have hb : edgesBack ops.toList = true := by
    unfold staticOk at hso; simp only [Bool.and_eq_true] at hso; exact hso.1.1
  intro fuel
  induction fuel with
  | zero =>
    intro listed a w h st ρ H hc
    have hr : Region.ready .any ops listed = [] := by
      cases hq : Region.ready .any ops listed with
      | nil => rfl
      | cons i l =>
        obtain ⟨h1, h2, _⟩ := (ready_mem H.size).1 (by rw [hq]; exact List.mem_cons_self : i ∈ Region.ready .any ops listed)
        have := unlisted_set H.size h1 h2; omega
    exact ⟨hr, last _ _ _ _ _ _ H (all_listed hb H.size hr)⟩
  | succ fuel ih =>
    intro listed a w h st ρ H hc
    refine ⟨fun hr => last _ _ _ _ _ _ H (all_listed hb H.size hr), fun i hi => ?_⟩
    obtain ⟨h1, h2, _⟩ := (ready_mem H.size).1 hi
    exact H.step hcall hgood hT hso hlog hok hsm hf hi fun a' w' h' st' ρ' H' => ih _ _ _ _ _ _ H' (by have := unlisted_set H.size h1 h2; omega)
theorem drawA_ok {B : Nat} {ρ : Rho} {w : World} {s t : AS} {st st' : St} {a : Act} {Q : Exit → Act → World → Prop} {rid : Nat} (hm : P.follows .mixedOrders = true)
    (hcall : CallOK P call) (hgood : ∀ f l, Good (call f l)) (ha : ARel ρ st a) (hok : OkS s.heap) (h : drawA P call ops st s = .ok st' t) (hw : WRel B ρ s.heap w) (hf : Fresh ρ s.next t.next)
    (K : ∀ ρ' w' a', ARel ρ' st' a' → Post B ρ s.next t.next t.heap w w' ρ' → Q .normal a' w') : (Code.region rid ops true).wp P Q a w := by
  unfold drawA at h
  obtain ⟨_, s1, h1, h⟩ := bind_ok.1 h
  obtain ⟨hso, rfl⟩ := check_ok.1 h1
  obtain ⟨⟨st1, lg⟩, s2, h2, h⟩ := bind_ok.1 h
  obtain ⟨_, s3, h3, h⟩ := bind_ok.1 h
  obtain ⟨hlog, rfl⟩ := check_ok.1 h3
  obtain ⟨rfl, rfl⟩ := pure_ok.1 h
  obtain ⟨SS, TT, hT, e1, e2, e3, e4⟩ := opsLog_run _ h2
  rw [List.length_range] at e3 e4
  subst e1; subst e2
  have hnd : noDefer ops = true := by
    unfold staticOk at hso; simp only [Bool.and_eq_true] at hso; exact hso.2
  have hO := hT.orders hgood hso hlog hok ha.small
  refine wp_region_any hm ?_
  refine At.any (B := B) (ρ0 := ρ) (w0 := w) hcall hgood hT hso hlog hok ha.small (by rw [e3]; exact hf) ?_ ops.size _ a _ (SS 0).heap (TT 0) ρ ⟨by simp, ?_, ?_, hok, hw.heap rfl, ha, rfl, rfl, Rho.le.refl _, (Below.refl B w).drew, fun id q1 q2 => absurd q1 q2⟩ ?_
  · intro listed a' w' h' stL ρ' H hall
    have heq := fun k => hO.last H.cut hall k
    have hheap : ∀ m, (SS ops.size).heap.get m = h'.get m := fun m => view_ext fun k => (Sum.inl.inj (heq (.inl (m, k)))).symm
    obtain ⟨_, z2, z3, _⟩ := hT.along hgood hnd hok ops.size (Nat.le_refl _)
    have hact : ARel ρ' st1 a' := by
      rw [← e4]
      refine ⟨by rw [H.act.size, H.tsize, z2], fun i => ?_, by rw [z3, ← H.tdef]; exact H.act.defers, by rw [z2]; exact ha.small⟩
      have : orUndef (stL.tmps.get i) = orUndef ((TT ops.size).tmps.get i) := Sum.inr.inj (heq (.inr i))
      rw [← this]; exact H.act.tmps i
    refine K ρ' w' a' hact ⟨H.ext, fun id q1 q2 => ?_, H.rel.congr (by rw [← e3]; exact hheap), H.below⟩
    obtain ⟨j, j1, j2, j3, j4⟩ := H.new id q1 q2
    have := hT.mono hgood hnd hok (Nat.zero_le j) (by omega)
    have := hT.mono hgood hnd hok (show j + 1 ≤ ops.size by omega) (Nat.le_refl _)
    rw [← e3]; omega
  · intro i j _ hon
    unfold On at hon
    rw [Array.getD_eq_getD_getElem?, Array.getElem?_replicate] at hon
    split at hon <;> cases hon
  · have hno : ∀ j, ¬ On (Array.replicate ops.size false) j := fun j hon => by
      unfold On at hon
      rw [Array.getD_eq_getD_getElem?, Array.getElem?_replicate] at hon
      split at hon <;> cases hon
    exact fun k => ⟨0, Nat.zero_le _, rfl, fun j q _ => by omega, fun j q => (hno j q).elim⟩
  · unfold unlisted
    exact Nat.le_trans List.countP_le_length (by rw [List.length_range]; exact Nat.le_refl _)
end
end Go.Proofs.YtcjjmflaaaddgaaGreatDoor.Am
/-
  The abstract machine's code and calls against the model's.
-/
set_option linter.unusedSimpArgs false
set_option linter.unusedVariables false
namespace Go.Proofs.YtcjjmflaaaddgaaGreatDoor.Am
open Go Go.RowKit

def exitOf : AX → Exit
  | .normal => .normal
  | .exit id => .exit id
  | .ret => .ret
/-- Loops so many rounds at most. -/
def CodeGoal (P : Program) (k : Nat) (c : Code) (Q : Exit → Act → World → Prop) (a : Act) (w : World) : Prop :=
  match c with
  | .loop d => Code.rounds P d Q k a w
  | c => c.wp P Q a w
theorem CodeGoal.wp {P : Program} {k : Nat} {c : Code} {Q : Exit → Act → World → Prop} {a : Act} {w : World} (h : CodeGoal P k c Q a w) : c.wp P Q a w := by
  cases c <;> first | exact h | exact wp_loop_rounds k h
def CodeOK (P : Program) (k : Nat) (code : Code → St → SM (AX × St)) : Prop := ∀ (c : Code) (st : St) (s : AS) (x : AX) (st' : St) (t : AS), OkS s.heap → code c st s = .ok (x, st') t → ∀ (B : Nat) (ρ : Rho) (w : World) (a : Act), ARel ρ st a → WRel B ρ s.heap w → Fresh ρ s.next t.next →
  ∀ Q : Exit → Act → World → Prop, (∀ ρ' w' a', ARel ρ' st' a' → Post B ρ s.next t.next t.heap w w' ρ' → Q (exitOf x) a' w') → CodeGoal P k c Q a w
section
variable {P : Program}
theorem codeStep_ok (hm : P.follows .mixedOrders = true) {k : Nat} {ih : Ex} (hcode : CodeOK P k ih.code) (hcall : CallOK P ih.call) (hg1 : ∀ c st, Good (ih.code c st)) (hg2 : ∀ f l, Good (ih.call f l)) : CodeOK P (k + 1) (codeStep P ih) := by
  intro c st s x st' t hok h B ρ w a ha hw hf Q K
  unfold codeStep at h
  split at h
  · obtain ⟨e, rfl⟩ := pure_ok.1 h; cases e
    exact wp_skip (K ρ w a ha (.still hw (Below.refl _ _)))
  · obtain ⟨e, rfl⟩ := pure_ok.1 h; cases e
    exact wp_label (K ρ w a ha (.still hw (Below.refl _ _)))
  · rename_i rid ops d
    obtain ⟨st1, s1, h1, h2⟩ := bind_ok.1 h
    obtain ⟨e, rfl⟩ := pure_ok.1 h2; cases e
    cases d with
    | true => exact drawA_ok hm hcall hg2 ha hok h1 hw hf K
    | false => exact wp_region (opsA_ok hcall hg2 _ ha hok h1 hw hf K)
  · rename_i c1 c2
    obtain ⟨⟨x1, st1⟩, s1, h1, h2⟩ := bind_ok.1 h
    obtain ⟨_, _, e1, _⟩ := hg1 c1 st s _ s1 hok h1
    refine wp_seq ?_
    cases x1 with
    | normal =>
      obtain ⟨_, _, e2, _⟩ := hg1 c2 st1 s1 _ t e1.ok h2
      exact (hcode c1 st s _ st1 s1 hok h1 B ρ w a ha hw (hf.sub (Nat.le_refl _) e2.next) _ fun ρ' w' a' ha' hp =>
        (hcode c2 st1 s1 x st' t e1.ok h2 B ρ' w' a' ha' hp.rel (Fresh.later hp hf e1.next) Q fun ρ'' w'' a'' ha'' hp' => K ρ'' w'' a'' ha'' (hp.trans hp' e1.next e2.next)).wp).wp
    | exit id =>
      obtain ⟨e, rfl⟩ := pure_ok.1 h2; cases e
      exact (hcode c1 st s _ _ _ hok h1 B ρ w a ha hw hf (Exit.then (c2.wp P Q) Q) K).wp
    | ret =>
      obtain ⟨e, rfl⟩ := pure_ok.1 h2; cases e
      exact (hcode c1 st s _ _ _ hok h1 B ρ w a ha hw hf (Exit.then (c2.wp P Q) Q) K).wp
  · rename_i c c1 c2
    obtain ⟨v, s1, h1, h2⟩ := bind_ok.1 h
    obtain ⟨rfl, hv⟩ := ev_ok h1 ha hw
    split at h2
    · rename_i b
      generalize hc' : a.eval _ = c' at hv
      cases hv
      cases b with
      | true => exact wp_cond_true hc' (hcode c1 st s _ _ _ hok h2 B ρ w a ha hw hf Q K).wp
      | false => exact wp_cond_false hc' (hcode c2 st s _ _ _ hok h2 B ρ w a ha hw hf Q K).wp
    · exact (fail_ok.1 h2).elim
  · rename_i id c1
    obtain ⟨⟨x1, st1⟩, s1, h1, h2⟩ := bind_ok.1 h
    refine wp_block ?_
    cases x1 with
    | normal =>
      obtain ⟨e, rfl⟩ := pure_ok.1 h2; cases e
      exact (hcode c1 st s _ _ _ hok h1 B ρ w a ha hw hf (Exit.inBlock id Q) K).wp
    | ret =>
      obtain ⟨e, rfl⟩ := pure_ok.1 h2; cases e
      exact (hcode c1 st s _ _ _ hok h1 B ρ w a ha hw hf (Exit.inBlock id Q) K).wp
    | exit id' =>
      simp only at h2
      rw [beq_nat] at h2
      by_cases e : id' = id
      · rw [decide_eq_true e, cond_true] at h2
        obtain ⟨e2, rfl⟩ := pure_ok.1 h2; cases e2
        exact (hcode c1 st s _ _ _ hok h1 B ρ w a ha hw hf _ fun ρ' w' a' ha' hp => by
          show if id' = id then _ else _
          rw [if_pos e]; exact K ρ' w' a' ha' hp).wp
      · rw [decide_eq_false e, cond_false] at h2
        obtain ⟨e2, rfl⟩ := pure_ok.1 h2; cases e2
        exact (hcode c1 st s _ _ _ hok h1 B ρ w a ha hw hf _ fun ρ' w' a' ha' hp => by
          show if id' = id then _ else _
          rw [if_neg e]; exact K ρ' w' a' ha' hp).wp
  · rename_i c1
    obtain ⟨⟨x1, st1⟩, s1, h1, h2⟩ := bind_ok.1 h
    obtain ⟨_, _, e1, _⟩ := hg1 c1 st s _ s1 hok h1
    show c1.wp P (Exit.then (Code.rounds P c1 Q k) Q) a w
    cases x1 with
    | normal =>
      obtain ⟨_, _, e2, _⟩ := hg1 (.loop c1) st1 s1 _ t e1.ok h2
      exact (hcode c1 st s _ st1 s1 hok h1 B ρ w a ha hw (hf.sub (Nat.le_refl _) e2.next) _ fun ρ' w' a' ha' hp =>
        hcode (.loop c1) st1 s1 x st' t e1.ok h2 B ρ' w' a' ha' hp.rel (Fresh.later hp hf e1.next) Q fun ρ'' w'' a'' ha'' hp' => K ρ'' w'' a'' ha'' (hp.trans hp' e1.next e2.next)).wp
    | exit id =>
      obtain ⟨e, rfl⟩ := pure_ok.1 h2; cases e
      exact (hcode c1 st s _ _ _ hok h1 B ρ w a ha hw hf (Exit.then (Code.rounds P c1 Q k) Q) K).wp
    | ret =>
      obtain ⟨e, rfl⟩ := pure_ok.1 h2; cases e
      exact (hcode c1 st s _ _ _ hok h1 B ρ w a ha hw hf (Exit.then (Code.rounds P c1 Q k) Q) K).wp
  · obtain ⟨e, rfl⟩ := pure_ok.1 h; cases e
    exact wp_exit (K ρ w a ha (.still hw (Below.refl _ _)))
  · obtain ⟨e, rfl⟩ := pure_ok.1 h; cases e
    exact wp_ret (K ρ w a ha (.still hw (Below.refl _ _)))
  · exact (fail_ok.1 h).elim
end
end Go.Proofs.YtcjjmflaaaddgaaGreatDoor.Am
/-
  The abstract machine's calls against the model's.
-/
set_option linter.unusedSimpArgs false
set_option linter.unusedVariables false
namespace Go.Proofs.YtcjjmflaaaddgaaGreatDoor.Am
open Go Go.RowKit

section
variable {B : Nat} {ρ : Rho} {w : World} {s t : AS} {P : Program}
theorem argsT_get : ∀ (l : List AV) (i : Nat) (t : Trie AV) (j : Nat), i + l.length ≤ 65535 → (argsT l i t).get j = if i ≤ j ∧ j < i + l.length then l[j - i]? else t.get j
  | [], i, t, j, h => by rw [if_neg (by simp only [List.length_nil]; omega)]; rfl
  | v :: r, i, t, j, h => by
    simp only [List.length_cons] at h ⊢
    unfold argsT
    have hd3 : Nat.lt (i + 1) (2 ^ 16) := Nat.lt_of_le_of_lt (show i + 1 ≤ 65535 by omega) (by decide)
    rw [argsT_get r (i + 1) _ j (by omega), Trie.get_set 16 _ _ _ _ hd3]
    by_cases e : j = i
    · subst e; rw [if_neg (by omega), if_pos rfl, if_pos (by omega), Nat.sub_self]; rfl
    · by_cases q : i + 1 ≤ j ∧ j < i + 1 + r.length
      · rw [if_pos q, if_pos (by omega), show j - i = (j - (i + 1)) + 1 by omega, List.getElem?_cons_succ]
      · rw [if_neg q, if_neg e, if_neg (by omega)]
theorem args_act {l : List AV} {us : Array Value} {n : Nat} (hv : VRels ρ l us.toList) (hn : l.length ≤ n) (hs : n ≤ 65535) : ARel ρ ⟨argsT l 0 .leaf, n, []⟩ { tmps := us ++ Array.replicate (n - us.size) undef, defers := [] } := by
  have hl : l.length = us.size := by have := hv.length; simpa using this
  refine ⟨by simp only [Array.size_append, Array.size_replicate]; omega, fun i => ?_, .nil, hs⟩
  simp only
  rw [argsT_get l 0 _ i (by omega), Array.getD_eq_getD_getElem?]
  by_cases q : i < l.length
  · rw [if_pos (by omega), Nat.sub_zero, List.getElem?_eq_getElem q]
    obtain ⟨u, hu, hr⟩ := hv.get i _ (List.getElem?_eq_getElem q)
    rw [Array.getElem?_append_left (by omega), ← Array.getElem?_toList, hu]
    exact hr
  · rw [if_neg (by omega)]
    have e : (us ++ Array.replicate (n - us.size) undef)[i]?.getD undef = undef := by
      rw [Array.getElem?_append_right (by omega), Array.getElem?_replicate]
      split <;> rfl
    rw [e]; exact .undef
def resultOf (tmps : Array Value) : ResultVar → Sem Value
  | .tmp t => pure (tmps.getD t undef)
  | .cell a t => do loadVar t (← asAddr (tmps.getD a undef))
theorem resultsA_ok {st : St} {a : Act} (ha : ARel ρ st a) : ∀ {rs : List ResultVar} {s t : AS} {l : List AV}, resultsA P rs st.tmps s = .ok l t → WRel B ρ s.heap w →
    t.heap = s.heap ∧ t.next = s.next ∧ ∃ vs : List Value, (rs.mapM (resultOf a.tmps)).run P w = .ok vs w ∧ VRels ρ l vs
  | [], s, t, l, h, hw => by
    obtain ⟨rfl, rfl⟩ := pure_ok.1 h
    exact ⟨rfl, rfl, [], rfl, .nil⟩
  | .tmp x :: r, s, t, l, h, hw => by
    unfold resultsA at h
    obtain ⟨l', s1, h1, h2⟩ := bind_ok.1 h
    obtain ⟨rfl, rfl⟩ := pure_ok.1 h2
    obtain ⟨e1, e2, vs, h3, h4⟩ := resultsA_ok ha h1 hw
    refine ⟨e1, e2, _ :: vs, ?_, .cons _ _ _ _ (ha.tmps x) h4⟩
    simp only [List.mapM_cons, Sem.run_bind, resultOf, Sem.run_pure, Result.andThen_ok, h3]
  | .cell x ty :: r, s, t, l, h, hw => by
    unfold resultsA at h
    have hx := ha.tmps x
    generalize hy : orUndef (st.tmps.get x) = y at h hx
    split at h
    · rename_i id off
      obtain ⟨v, s1, h1, h2⟩ := bind_ok.1 h
      obtain ⟨l', s2, h3, h4⟩ := bind_ok.1 h2
      obtain ⟨rfl, rfl⟩ := pure_ok.1 h4
      generalize hx' : a.tmps.getD x undef = x' at hx
      cases hx with
      | ptr _ _ b base hb =>
        obtain ⟨e1, e2, u, r1, r2⟩ := loadV_ok h1 hw hb
        obtain ⟨e3, e4, vs, h5, h6⟩ := resultsA_ok ha h3 (e1 ▸ hw)
        refine ⟨e3.trans e1, e4.trans e2, u :: vs, ?_, .cons _ _ _ _ r2 h6⟩
        simp only [List.mapM_cons, Sem.run_bind, resultOf, hx', asAddr, Sem.run_pure, Result.andThen_ok, r1, h5]
    · exact (fail_ok.1 h).elim
theorem results_ok {st : St} {a : Act} (ha : ARel ρ st a) {fn : Func} {l : List AV} (h : resultsA P fn.results.toList st.tmps s = .ok l t) (hw : WRel B ρ s.heap w) :
    t.heap = s.heap ∧ t.next = s.next ∧ ∃ v, (results fn a.tmps).run P w = .ok v w ∧ VRel ρ (oneOrTuple l) v := by
  obtain ⟨e1, e2, vs, h1, h2⟩ := resultsA_ok ha h hw
  refine ⟨e1, e2, ?_⟩
  have hdef : results fn a.tmps = (do
      let vs ← fn.results.mapM (resultOf a.tmps)
      pure (if h : vs.size = 1 then vs[0] else .tuple vs)) := by
    unfold results
    congr 1
  have hrun : (results fn a.tmps).run P w = .ok (if h : vs.toArray.size = 1 then vs.toArray[0] else .tuple vs.toArray) w := by
    rw [hdef, Array.mapM_eq_mapM_toList]
    simp only [Sem.run_bind, map_eq_pure_bind, h1, Result.andThen_ok, Sem.run_pure]
  refine ⟨_, hrun, ?_⟩
  cases h2 with
  | nil => exact .tuple _ _ .nil
  | cons v u l m h3 h4 =>
    cases h4 with
    | nil => exact h3
    | cons v2 u2 l m h5 h6 => exact .tuple _ _ (.cons _ _ _ _ h3 (.cons _ _ _ _ h5 h6))
/-- A deferred call that does nothing where nothing panics. -/
def IdleOK (P : Program) (f : FuncId) : Prop := ∀ (us : Array Value) (w : World), (callFunc f us).run P w = .ok (.enter f us) w ∧
  CallsD P f us .returning w fun e u' w' => ∃ v, e = .returned v ∧ settle u' = .returning ∧ Below w.heap.size w w'
structure KnownOK (P : Program) (K : Known) : Prop where
  sums : ∀ f g, K.sums f = some g → ∀ (l : List AV) (s t : AS) (v : AV), OkS s.heap → g l s = .ok v t → ∀ (B : Nat) (ρ : Rho) (w : World) (us : Array Value), VRels ρ l us.toList → WRel B ρ s.heap w → Fresh ρ s.next t.next →
    Lands P f us w fun u w' => ∃ ρ', VRel ρ' v u ∧ Post B ρ s.next t.next t.heap w w' ρ'
  idle : ∀ f, K.idle f = true → IdleOK P f
theorem leaves_idle {fn : Func} {tmps : Array Value} {R : Ending → World → Prop} : ∀ {ds : List (FuncId × List AV)} {es : List Deferred} {w : World}, DRels ρ ds es → (∀ d ∈ ds, IdleOK P d.1) →
    (∀ w', Below w.heap.size w w' → ∃ v, (results fn tmps).run P w' = .ok v w' ∧ R (.returned v) w') → Leaves P fn tmps R es .returning w
  | [], es, w, hd, hi, K => by
    cases hd
    exact K w (Below.refl _ _)
  | d :: ds, es, w, hd, hi, K => by
    cases hd with
    | cons _ e _ m h1 h2 =>
      obtain ⟨cap, h3, h4⟩ := h1
      obtain ⟨i1, i2⟩ := hi d List.mem_cons_self (e.args ++ cap) w
      refine ⟨by simp, .func d.1, cap, d.1, e.args ++ cap, h3, ?_, CallsD.mono i2 fun e' u' w' hr => ?_⟩
      · rw [h3]; exact i1
      · obtain ⟨v, rfl, hs, hb⟩ := hr
        simp only
        rw [hs]
        exact leaves_idle h2 (fun d hd => hi d (List.mem_cons_of_mem _ hd)) fun w'' hb2 => K w'' (hb.trans (hb2.mono hb.size))
theorem bodyOf?_run {f : FuncId} {c : Code} {n : Nat} {rs : List ResultVar} (h : bodyOf? P f = some (c, n, rs)) : ∃ fn, P.funcs[f]? = some fn ∧ fn.body = some c ∧ fn.ntmps = n ∧ n ≤ 65535 ∧ fn.results.toList = rs ∧ (fn.name == "runtime.NumGoroutine") = false := by
  unfold bodyOf? at h
  split at h
  · cases h
  · rename_i fn hf
    split at h
    · cases h
    · rename_i c' hb
      cases hq : (fn.name == "runtime.NumGoroutine" || !Nat.ble fn.ntmps 65535) with
      | true => rw [hq] at h; cases h
      | false =>
        rw [hq] at h
        simp only [Bool.or_eq_false_iff, Bool.not_eq_false', ble_nat, decide_eq_true_eq] at hq
        cases h
        exact ⟨fn, hf, hb, rfl, hq.2, rfl, hq.1⟩
theorem callStep_ok {K : Known} (hK : KnownOK P K) {k : Nat} {ih : Ex} (hcode : CodeOK P k ih.code) (hg1 : ∀ c st, Good (ih.code c st)) : CallOK P (callStep P K ih) := by
  intro f l s t v hok h B ρ w us hv hw hf
  have hm : ∀ {m : SM AV} {n : Nat}, SM.mark n m s = .ok v t → m s = .ok v t := fun {m n} h => by
    unfold SM.mark at h; cases hq : m s <;> rw [hq] at h <;> cases h; rfl
  unfold callStep at h
  replace h := hm h
  cases hg : K.sums f with
  | some g =>
    rw [hg] at h
    exact hK.sums f g hg l s t v hok h B ρ w us hv hw hf
  | none =>
    rw [hg] at h
    obtain ⟨⟨c, n, rs⟩, s1, h1, h⟩ := bind_ok.1 h
    obtain ⟨q1, rfl⟩ := lift_ok.1 h1
    obtain ⟨_, s2, h2, h⟩ := bind_ok.1 h
    obtain ⟨q2, rfl⟩ := check_ok.1 h2
    obtain ⟨⟨x, st⟩, s3, h3, h⟩ := bind_ok.1 h
    obtain ⟨fn, hfn, hb, hn, hsm, hrs, hname⟩ := bodyOf?_run q1
    rw [llen_eq, ble_nat, decide_eq_true_eq] at q2
    have ha := args_act hv q2 hsm
    have fin : ∀ x, x ≠ .exit 0 ∨ True → (∀ id, x ≠ .exit id) → (do SM.check 256 (st.defers.all fun d => K.idle d.1); let l ← resultsA P rs st.tmps; pure (oneOrTuple l) : SM AV) s3 = .ok v t → ih.code c ⟨argsT l 0 .leaf, n, []⟩ s = .ok (x, st) s3 →
        Lands P f us w fun u w' => ∃ ρ', VRel ρ' v u ∧ Post B ρ s.next t.next t.heap w w' ρ' := by
      intro x _ hx h h3
      obtain ⟨_, s4, h4, h⟩ := bind_ok.1 h
      obtain ⟨q4, rfl⟩ := check_ok.1 h4
      obtain ⟨rl, s5, h5, h⟩ := bind_ok.1 h
      obtain ⟨rfl, rfl⟩ := pure_ok.1 h
      rw [List.all_eq_true] at q4
      left
      refine ⟨?_, calls_of_wp_defers hfn hb ?_⟩
      · have hname' : ¬ fn.name = "runtime.NumGoroutine" := fun e => by rw [e] at hname; simp at hname
        simp [callFunc, hfn, hname', hb]
      · rw [hn]
        have hpost : ∀ (e : Exit), (e = .normal ∨ e = .ret) → ∀ ρ' w' a', ARel ρ' st a' → Post B ρ s.next s3.next s3.heap w w' ρ' → bodyPostD P fn (fun e w' => ∃ u, e = .returned u ∧ ∃ ρ', VRel ρ' (oneOrTuple rl) u ∧ Post B ρ s.next s5.next s5.heap w w' ρ') e a' w' := by
          intro e he ρ' w' a' ha' hp
          have key : Leaves P fn a'.tmps (fun e w' => ∃ u, e = .returned u ∧ ∃ ρ', VRel ρ' (oneOrTuple rl) u ∧ Post B ρ s.next s5.next s5.heap w w' ρ') a'.defers .returning w' := by
            refine leaves_idle ha'.defers (fun d hd => hK.idle _ (q4 d hd)) fun w'' hb2 => ?_
            have hw'' : WRel B ρ' s3.heap w'' := hp.rel.grown hb2.size hb2.block
            obtain ⟨e1, e2, u, r1, r2⟩ := results_ok ha' (fn := fn) (by rw [hrs]; exact h5) hw''
            exact ⟨u, r1, u, rfl, ρ', r2, hp.ext, by rw [e2]; exact hp.new, by rw [e1]; exact hw'', hp.below.trans (hb2.mono hp.rel.size)⟩
          rcases he with rfl | rfl <;> exact key
        have e5 : s3.next ≤ s5.next := by
          obtain ⟨_, _, e5, _⟩ := resultsA_good (P := P) rs st.tmps s3 _ s5 (by
            obtain ⟨_, _, ef, _⟩ := hg1 _ _ _ _ _ hok h3; exact ef.ok) h5
          exact e5.next
        refine (hcode c _ s x st s3 hok h3 B ρ w _ ha hw (hf.sub (Nat.le_refl _) e5) _ fun ρ' w' a' ha' hp => hpost _ ?_ ρ' w' a' ha' hp).wp
        cases x with
        | normal => exact .inl rfl
        | ret => exact .inr rfl
        | exit id => exact (hx id rfl).elim
    cases x with
    | exit id => exact (fail_ok.1 h).elim
    | normal => exact fin _ (.inr trivial) (fun _ e => by cases e) h h3
    | ret => exact fin _ (.inr trivial) (fun _ e => by cases e) h h3
end
end Go.Proofs.YtcjjmflaaaddgaaGreatDoor.Am
/-
  A closed call that the abstract machine evaluates to a value: the model's call comes to that value, and nothing that stood before has turned.
-/
set_option linter.unusedSimpArgs false
set_option linter.unusedVariables false
namespace Go.Proofs.YtcjjmflaaaddgaaGreatDoor.Am
open Go Go.RowKit

theorem run_ok {P : Program} (hm : P.follows .mixedOrders = true) {K : Known} (hK : KnownOK P K) (hG : KnownGood K) : ∀ n : Nat, CodeOK P n (Ex.run P K n).code ∧ CallOK P (Ex.run P K n).call
  | 0 => by
    constructor
    · intro c st s x st' t _ h; cases h
    · intro f l s t v _ h; cases h
  | n + 1 => by
    obtain ⟨h1, h2⟩ := run_ok hm hK hG n
    obtain ⟨g1, g2⟩ := run_good (P := P) hG n
    exact ⟨codeStep_ok hm h1 h2 g1 g2, callStep_ok hK h1 g1⟩

/-- The package-level variables that are listed, as a world holds them. -/
def Holds (h : Trie AO) (w : World) : Prop := ∀ id o, h.get id = some o → id < own0 ∧ id < w.heap.size ∧ o.ok ∧ GRel ⟨fun i => if i < own0 then some (i, 0) else none, fun _ => 0⟩ w id o
theorem Holds.leaf (w : World) : Holds .leaf w := fun id o h => by cases h
theorem Holds.set {h : Trie AO} {w : World} (hw : Holds h w) {id : Nat} {o : AO} (h1 : id < own0) (h2 : id < w.heap.size) (h3 : o.ok) (h4 : GRel ⟨fun i => if i < own0 then some (i, 0) else none, fun _ => 0⟩ w id o) : Holds (Trie.set 32 h id o) w := fun i x hx => by
  have h64 : own0 = 64 := rfl
  rw [Trie.get_set 32 _ _ _ _ (Nat.lt_of_lt_of_le (show id + 1 < 65 by omega) (by decide))] at hx
  by_cases e : i = id
  · rw [if_pos e] at hx; cases hx; subst e; exact ⟨h1, h2, h3, h4⟩
  · rw [if_neg e] at hx; exact hw i x hx
theorem Holds.below {h : Trie AO} {w w' : World} (hw : Holds h w) (hb : Below w.heap.size w w') : Holds h w' := fun i x hx => by
  obtain ⟨h1, h2, h3, h4⟩ := hw i x hx
  exact ⟨h1, Nat.lt_of_lt_of_le h2 hb.size, h3, h4.keep (Rho.le.refl _) (hb.block i h2)⟩
/-- A table of numbers. -/
theorem Holds.tab {h : Trie AO} {w : World} (hw : Holds h w) {id : Nat} (h1 : id < own0) (k : IntKind) (zs : List Int) (e : TypeId) (hz : 0 < zs.length) (hc : ∀ (i : Nat) z, zs[i]? = some z → w.cell? ⟨id, i, none⟩ = some (.int k z)) : Holds (Trie.set 32 h id (.cells (zs.map fun z => AV.int k z) zs.length e 0 0 true)) w := by
  refine hw.set h1 ?_ (by simp [AO.ok]) ⟨by simp, fun v hv => ?_, fun i v hv => ?_⟩
  · obtain ⟨z, hz⟩ : ∃ z, zs[0]? = some z := ⟨_, List.getElem?_eq_getElem hz⟩
    have := hc 0 z hz
    unfold World.cell? at this
    rcases Nat.lt_or_ge id w.heap.size with q | q
    · exact q
    · simp [Array.getElem?_eq_none q] at this
  · obtain ⟨z, _, rfl⟩ := List.mem_map.1 hv; rfl
  · rw [List.getElem?_map, Option.map_eq_some_iff] at hv
    obtain ⟨z, hz, rfl⟩ := hv
    exact ⟨_, hc i z hz, .int _ _⟩
theorem closed_lands {P : Program} (hm : P.follows .mixedOrders = true) {K : Known} (hK : KnownOK P K) (hG : KnownGood K) {n : Nat} {f : FuncId} {H : Trie AO} {v : AV} {t : AS}
    (h : (Ex.run P K n).call f [] (AS.init H) = .ok v t) (w : World) (hw : Holds H w) :
    Lands P f #[] w fun u w' => ∃ ρ', VRel ρ' v u ∧ Below w.heap.size w w' := by
  have hok : OkS (AS.init H).heap := fun id o ho => (hw id o ho).2.2.1
  have hf : Fresh ⟨fun i => if i < own0 then some (i, 0) else none, fun _ => 0⟩ (AS.init H).next t.next := fun id h1 _ => by
    have h1' : own0 ≤ id := h1
    show (if id < own0 then some (id, 0) else none) = none
    rw [if_neg (by omega)]
  have hr : WRel w.heap.size ⟨fun i => if i < own0 then some (i, 0) else none, fun _ => 0⟩ (AS.init H).heap w := by
    refine ⟨Nat.le_refl _, fun id hid => ?_, fun id o _ ho => ?_, fun id b base hid hb => ?_, fun id o hid ho _ => ?_, fun id id' o o' b k b' k' hid _ _ ho => ?_, fun b => ⟨fun _ => rfl, fun _ _ _ _ => Nat.zero_le _⟩⟩
    · show (if id < own0 then some (id, 0) else none) = _
      rw [if_pos hid]
    · exact ⟨(hw id o ho).2.1, (hw id o ho).2.2.2⟩
    · have hb' : (if id < own0 then some (id, 0) else none) = some (b, base) := hb
      rw [if_neg (by omega)] at hb'; cases hb'
    · have := (hw id o ho).1; omega
    · have := (hw id o ho).1; omega
  have key := (run_ok hm hK hG n).2 f [] (AS.init H) t v hok h w.heap.size _ w #[] .nil hr hf
  rcases key with ⟨k1, k2⟩ | ⟨u, w', k1, ρ', k2, k3⟩
  · exact .inl ⟨k1, Calls.mono k2 fun e w' h => by obtain ⟨u, h1, ρ', h2, h3⟩ := h; exact ⟨u, h1, ρ', h2, h3.below⟩⟩
  · exact .inr ⟨u, w', k1, ρ', k2, k3.below⟩
/-- A closed call that answers true. -/
theorem closed_true {P : Program} (hm : P.follows .mixedOrders = true) {K : Known} (hK : KnownOK P K) (hG : KnownGood K) {n : Nat} {f : FuncId} {H : Trie AO}
    (hf : ∃ fn, P.funcs[f]? = some fn ∧ fn.body.isSome = true)
    (h : Rs.isTrue ((Ex.run P K n).call f [] (AS.init H)) = true) (w : World) (hw : Holds H w) :
    Calls P f #[] w fun e w' => e = .returned (.bool true) ∧ Below w.heap.size w w' := by
  cases hr : (Ex.run P K n).call f [] (AS.init H) with
  | err e => rw [hr] at h; cases h
  | ok v t =>
    rw [hr] at h
    have hv : v = .bool true := by
      unfold Rs.isTrue at h
      split at h
      · rename_i s e; cases e; rfl
      · cases h
    subst hv
    rcases closed_lands hm hK hG hr w hw with ⟨_, k⟩ | ⟨u, w', k, _⟩
    · refine Calls.mono k fun e w' h => ?_
      obtain ⟨u, h1, ρ', h2, h3⟩ := h
      cases h2
      exact ⟨h1, h3⟩
    · obtain ⟨fn, hfn, hb⟩ := hf
      exfalso
      obtain ⟨c, hc⟩ := Option.isSome_iff_exists.1 hb
      unfold callFunc at k
      simp [hfn, hc] at k
      split at k <;> simp [Sem.run] at k

/-! What is known of functions without a body. -/
/-- Its answer hangs on its arguments alone: what the model's entry tells. -/
structure Plain (P : Program) (f : FuncId) (g : List AV → SM AV) : Prop where
  ok : ∀ l s t v, g l s = .ok v t → t = s ∧ ∀ s', g l s' = .ok v s'
  run : ∀ l s v, g l s = .ok v s → ∀ (ρ : Rho) (us : Array Value) (w : World), VRels ρ l us.toList → ∃ u, (callFunc f us).run P w = .ok (.value u) w ∧ VRel ρ v u
theorem Plain.noEscape {P : Program} {f : FuncId} {fn : Func} (hf : P.funcs[f]? = some fn) (hname : (fn.name == "runtime.NumGoroutine") = false)
    (hb : fn.body.isNone = true) (hn : Extern.findNext fn = none) (he : Extern.find fn = some Extern.AbiNoEscape.same) : Plain P f noEscapeA := by
  constructor
  · intro l s t v h
    unfold noEscapeA at h ⊢
    split at h
    · obtain ⟨rfl, rfl⟩ := pure_ok.1 h; exact ⟨rfl, fun _ => rfl⟩
    · exact (fail_ok.1 h).elim
  · intro l s v h ρ us w hv
    unfold noEscapeA at h
    split at h
    · obtain ⟨rfl, _⟩ := pure_ok.1 h
      obtain ⟨us⟩ := us
      cases hv with
      | cons _ u _ _ h1 h2 =>
        cases h2
        refine ⟨u, ?_, h1⟩
        rw [run_callFunc_extern hf hname hb hn he]
        rfl
    · exact (fail_ok.1 h).elim
theorem Plain.lands {P : Program} {f : FuncId} {g : List AV → SM AV} (h : Plain P f g) {l : List AV} {s t : AS} {v : AV} (hg : g l s = .ok v t) (B : Nat) (ρ : Rho) (w : World) (us : Array Value) (hv : VRels ρ l us.toList) (hw : WRel B ρ s.heap w) :
    Lands P f us w fun u w' => ∃ ρ', VRel ρ' v u ∧ Post B ρ s.next t.next t.heap w w' ρ' := by
  obtain ⟨rfl, _⟩ := h.ok l s t v hg
  obtain ⟨u, h1, h2⟩ := h.run l _ v hg ρ us w hv
  exact .inr ⟨u, w, h1, ρ, h2, .same hw⟩
theorem Plain.good {P : Program} {f : FuncId} {g : List AV → SM AV} (h : Plain P f g) (l : List AV) : Good (g l) := .still fun s v t hg => by
  obtain ⟨rfl, h2⟩ := h.ok l s t v hg
  exact ⟨rfl, h2⟩
end Go.Proofs.YtcjjmflaaaddgaaGreatDoor.Am
/-
  A function of which it is known, without a look at its code, that it answers the keys of a map (numbers), sorted, in a row of its own.
-/
set_option linter.unusedSimpArgs false
set_option linter.unusedVariables false
namespace Go.Proofs.YtcjjmflaaaddgaaGreatDoor.Am
open Go Go.RowKit

/-- x among rising ones. -/
noncomputable def insI (x : Int) (l : List Int) : List Int := List.rec (motive := fun _ => List Int) [x] (fun y r ih => cond (intLt y x) (y :: ih) (x :: y :: r)) l
noncomputable def sortI (l : List Int) : List Int := List.rec (motive := fun _ => List Int) [] (fun y _ ih => insI y ih) l
def intKeys (k : IntKind) : List (AV × AV × Nat) → Option (List Int)
  | [] => some []
  | (.int j z, .bool _, _) :: r =>
    match intKeys k r with
    | some l => cond (kindEq j k && (Lit.int k z).wf) (some (z :: l)) none
    | none => none
  | _ => none
def bornIn (clock : Nat) (es : List (AV × AV × Nat)) : Bool := es.all fun e => Nat.ble (e.2.2 + 1) clock
def apartN : List Nat → Bool
  | [] => true
  | a :: r => r.all (fun b => !Nat.beq a b) && apartN r
def apartI : List Int → Bool
  | [] => true
  | a :: r => r.all (fun b => !intEq a b) && apartI r
noncomputable def sortedKeysA (k : IntKind) (elem : TypeId) (args : List AV) : SM AV :=
  match args with
  | [.map id] => do
    let (es, clock) ← mapO id
    let ks ← SM.lift 281 (intKeys k es)
    SM.check 282 (bornIn clock es && apartN (es.map fun e => e.2.2) && apartI ks && Nat.ble (llen es) 65536)
    match sortI ks with
    | [] => pure .nilSlice
    | z :: r => do
      let g ← newO (.cells ((z :: r).map fun z => .int k z) (llen (z :: r)) elem 0 0 false)
      pure (.slice g 0 (llen (z :: r)) 1 (llen (z :: r)))
  | _ => SM.fail 280

theorem insI_eq (x : Int) (l : List Int) : insI x l = match l with | [] => [x] | y :: r => if y < x then y :: insI x r else x :: y :: r := by
  cases l with
  | nil => rfl
  | cons y r =>
    show cond (intLt y x) (y :: insI x r) (x :: y :: r) = _
    rw [intLt_eq]
    by_cases h : y < x <;> simp [h]
theorem insI_perm (x : Int) (l : List Int) : (insI x l).Perm (x :: l) := by
  induction l with
  | nil => exact List.Perm.refl _
  | cons y r ih =>
    rw [insI_eq]
    simp only
    split
    · exact (List.Perm.cons y ih).trans (List.Perm.swap x y r)
    · exact List.Perm.refl _
theorem insI_sorted (x : Int) (l : List Int) (h : l.Pairwise (· ≤ ·)) : (insI x l).Pairwise (· ≤ ·) := by
  induction l with
  | nil => exact List.pairwise_singleton _ _
  | cons y r ih =>
    rw [insI_eq]
    simp only
    rw [List.pairwise_cons] at h
    split
    · rename_i hlt
      refine List.pairwise_cons.2 ⟨fun z hz => ?_, ih h.2⟩
      rcases List.mem_cons.1 ((insI_perm x r).mem_iff.1 hz) with e | e
      · omega
      · exact h.1 z e
    · rename_i hge
      refine List.pairwise_cons.2 ⟨fun z hz => ?_, List.pairwise_cons.2 h⟩
      rcases List.mem_cons.1 hz with e | e
      · omega
      · have := h.1 z e; omega
theorem sortI_perm (l : List Int) : (sortI l).Perm l := by
  induction l with
  | nil => exact List.Perm.refl _
  | cons y r ih => exact (insI_perm y (sortI r)).trans (List.Perm.cons y ih)
theorem sortI_sorted (l : List Int) : (sortI l).Pairwise (· ≤ ·) := by
  induction l with
  | nil => exact List.Pairwise.nil
  | cons y r ih => exact insI_sorted y _ ih
theorem rising_unique : ∀ {l m : List Int}, l.Perm m → l.Pairwise (· ≤ ·) → m.Pairwise (· ≤ ·) → l = m
  | [], m, h, _, _ => h.nil_eq
  | x :: l, [], h, _, _ => by have := h.length_eq; simp at this
  | x :: l, y :: m, h, h1, h2 => by
    rw [List.pairwise_cons] at h1 h2
    have e : x = y := by
      rcases List.mem_cons.1 (h.mem_iff.1 List.mem_cons_self) with a | a
      · exact a
      · rcases List.mem_cons.1 (h.mem_iff.2 List.mem_cons_self) with b | b
        · exact b.symm
        · have := h1.1 y b; have := h2.1 x a; omega
    subst e
    rw [rising_unique (List.Perm.cons_inv h) h1.2 h2.2]
theorem sortI_merge (l : List Int) : sortI l = l.mergeSort fun x y => decide (x ≤ y) := by
  refine rising_unique ((sortI_perm l).trans (List.mergeSort_perm l _).symm) (sortI_sorted l) ?_
  have := List.pairwise_mergeSort (le := fun x y : Int => decide (x ≤ y)) (by intro a b c h1 h2; simp at h1 h2 ⊢; omega) (by intro a b; simp; omega) l
  exact this.imp fun h => by simpa using h

/-- The row that is answered. -/
def KeysRow (w w' : World) (elem : TypeId) (k : IntKind) (l : List Int) (v : Value) : Prop :=
  (l = [] ∧ v = .slice none 0 0) ∨ l ≠ [] ∧ ∃ g c C, v = .slice (some ⟨g, 0, none⟩) l.length c ∧ w.heap.size ≤ g ∧ w'.heap[g]? = some (.cells C elem (0, 0)) ∧ l.length ≤ c ∧ c ≤ C.size ∧ ∀ (i : Nat) z, l[i]? = some z → C[i]? = some (.int k z)
structure SortsKeys (P : Program) (f : FuncId) (k : IntKind) (elem : TypeId) : Prop where
  enter : ∀ us w, (callFunc f us).run P w = .ok (.enter f us) w
  calls : ∀ (w : World) (b : Nat) (es : Array MapEntry) (clock : Nat) (ks : List Int), w.heap[b]? = some (.map es clock) → MapKept.Stamped es clock → es.toList.map (·.key) = ks.map (Value.int k) → (∀ x ∈ es.toList, ∃ c, x.val = .bool c) →
    (∀ z ∈ ks, (Lit.int k z).wf = true) → ks.length ≤ 65536 → Calls P f #[.map (some b)] w fun e w' => ∃ v, e = .returned v ∧ KeysRow w w' elem k (ks.mergeSort fun x y => decide (x ≤ y)) v ∧ Below w.heap.size w w'
theorem apartN_nodup {l : List Nat} (h : apartN l = true) : l.Nodup := by
  induction l with
  | nil => exact List.nodup_nil
  | cons a r ih =>
    simp only [apartN, Bool.and_eq_true, List.all_eq_true] at h
    refine List.nodup_cons.2 ⟨fun hm => ?_, ih h.2⟩
    have := h.1 a hm
    simp at this
theorem apartI_nodup {l : List Int} (h : apartI l = true) : l.Nodup := by
  induction l with
  | nil => exact List.nodup_nil
  | cons a r ih =>
    simp only [apartI, Bool.and_eq_true, List.all_eq_true] at h
    refine List.nodup_cons.2 ⟨fun hm => ?_, ih h.2⟩
    have := h.1 a hm
    rw [intEq_eq] at this
    simp at this
theorem intKeys_ok {k : IntKind} {ρ : Rho} : ∀ {es : List (AV × AV × Nat)} {ks : List Int} {ms : List MapEntry}, intKeys k es = some ks → ERels ρ es ms →
    ms.map (·.key) = ks.map (Value.int k) ∧ (∀ x ∈ ms, ∃ c, x.val = .bool c) ∧ (∀ z ∈ ks, (Lit.int k z).wf = true) ∧ ks.length = es.length
  | [], ks, ms, h, hr => by
    cases h
    have : ms = [] := by have := hr.1; simp at this; exact List.eq_nil_of_length_eq_zero this.symm
    subst this
    refine ⟨rfl, ?_, ?_, rfl⟩
    · intro x hx; cases hx
    · intro x hx; cases hx
  | e :: es, ks, [], h, hr => by have := hr.1; simp at this
  | e :: es, ks, m :: ms, h, hr => by
    have h0 := hr.2 0 e m rfl rfl
    have hrest : ERels ρ es ms := ⟨by have := hr.1; simpa using this, fun i a b ha hb => hr.2 (i + 1) a b (by simpa using ha) (by simpa using hb)⟩
    obtain ⟨ek, ev, en⟩ := e
    cases ek with
    | int j z =>
      cases ev with
      | bool b =>
        simp only [intKeys] at h
        cases hl : intKeys k es with
        | none => rw [hl] at h; cases h
        | some l =>
          rw [hl] at h
          cases hc : kindEq j k && (Lit.int k z).wf with
          | false => simp only [hc, cond_false] at h; cases h
          | true =>
            simp only [hc, cond_true] at h
            cases h
            rw [Bool.and_eq_true] at hc
            obtain ⟨a1, a2, a3, a4⟩ := intKeys_ok hl hrest
            obtain ⟨b1, b2, b3⟩ := h0
            have e : j = k := by have := hc.1; rw [kindEq_eq] at this; simpa using this
            subst e
            have k1 : m.key = .int j z := by
              revert b1; generalize m.key = q; intro b1; cases b1; rfl
            have k2 : m.val = .bool b := by
              revert b2; generalize m.val = q; intro b2; cases b2; rfl
            refine ⟨by simp only [List.map_cons, k1, a1], fun x hx => ?_, fun x hx => ?_, by simp [a4]⟩
            · rcases List.mem_cons.1 hx with q | q
              · subst q; exact ⟨_, k2⟩
              · exact a2 x q
            · rcases List.mem_cons.1 hx with q | q
              · subst q; exact hc.2
              · exact a3 x q
      | _ => cases h
    | _ => cases h
theorem born_ok {ρ : Rho} : ∀ {es : List (AV × AV × Nat)} {ms : List MapEntry}, ERels ρ es ms → ms.map (·.born) = es.map fun e => e.2.2
  | [], ms, hr => by
    have : ms = [] := by have := hr.1; simp at this; exact List.eq_nil_of_length_eq_zero this.symm
    subst this; rfl
  | e :: es, [], hr => by have := hr.1; simp at this
  | e :: es, m :: ms, hr => by
    have h0 := (hr.2 0 e m rfl rfl).2.2
    have hrest : ERels ρ es ms := ⟨by have := hr.1; simpa using this, fun i a b ha hb => hr.2 (i + 1) a b (by simpa using ha) (by simpa using hb)⟩
    simp only [List.map_cons, born_ok hrest, h0]
theorem sortedKeys_lands {P : Program} {f : FuncId} {k : IntKind} {elem : TypeId} (hs : SortsKeys P f k elem) {l : List AV} {s t : AS} {v : AV} (h : sortedKeysA k elem l s = .ok v t) (B : Nat) (ρ : Rho) (w : World) (us : Array Value) (hv : VRels ρ l us.toList) (hw : WRel B ρ s.heap w) (hf : Fresh ρ s.next t.next) :
    Lands P f us w fun u w' => ∃ ρ', VRel ρ' v u ∧ Post B ρ s.next t.next t.heap w w' ρ' := by
  unfold sortedKeysA at h
  split at h
  · rename_i id
    obtain ⟨⟨es, clock⟩, s1, h1, k1⟩ := bind_ok.1 h
    obtain ⟨ks, s2, h2, k2⟩ := bind_ok.1 k1
    obtain ⟨q2, rfl⟩ := lift_ok.1 h2
    obtain ⟨_, s3, h3, k3⟩ := bind_ok.1 k2
    obtain ⟨q3, rfl⟩ := check_ok.1 h3
    obtain ⟨g1, g2, g3⟩ := mapO_ok h1
    obtain ⟨us⟩ := us
    cases hv with
    | cons _ u _ _ hv1 hv2 =>
      cases hv2
      cases hv1 with
      | map _ b hb =>
        simp only [Bool.and_eq_true] at q3
        obtain ⟨⟨⟨c1, c2⟩, c3⟩, c4⟩ := q3
        have hid : ¬ id < own0 := fun hlt => by
          have := (hw.globs id _ hlt g1).2
          exact this
        obtain ⟨b', base, hb', ho⟩ := hw.obj id _ (by omega) g1 rfl
        rw [hb] at hb'; cases hb'
        obtain ⟨_, ms, hm, hr⟩ := ho
        obtain ⟨a1, a2, a3, a4⟩ := intKeys_ok q2 hr
        have hst : MapKept.Stamped ms clock := by
          refine ⟨fun x hx => ?_, ?_, ?_⟩
          · have hmem : x.born ∈ ms.toList.map (·.born) := List.mem_map_of_mem hx
            rw [born_ok hr] at hmem
            obtain ⟨e, he, he2⟩ := List.mem_map.1 hmem
            have := List.all_eq_true.1 c1 e he
            rw [ble_nat, decide_eq_true_eq] at this
            omega
          · rw [born_ok hr]; exact apartN_nodup c2
          · rw [a1]
            exact List.Pairwise.map _ (fun x y hne e => hne (by injection e)) (apartI_nodup c3)
        have hlen : ks.length ≤ 65536 := by rw [llen_eq, ble_nat, decide_eq_true_eq] at c4; omega
        refine .inl ⟨hs.enter _ _, Calls.mono (hs.calls w b ms clock ks hm hst a1 a2 a3 hlen) fun e w' hh => ?_⟩
        obtain ⟨u, he, hrow, hbel⟩ := hh
        refine ⟨u, he, ?_⟩
        have hbelB : Below B w w' := hbel.mono hw.size
        rw [← sortI_merge] at hrow
        cases hl : sortI ks with
        | nil =>
          rw [hl] at k3 hrow
          obtain ⟨rfl, rfl⟩ := pure_ok.1 k3
          rcases hrow with ⟨_, rfl⟩ | ⟨h0, _⟩
          · refine ⟨ρ, .nilSlice, Rho.le.refl _, fun _ a b => absurd a b, ?_, hbelB⟩
            rw [g2]
            exact hw.grown hbel.size hbel.block
          · exact (h0 rfl).elim
        | cons z r =>
          rw [hl] at k3 hrow
          obtain ⟨g', s4, h4, k4⟩ := bind_ok.1 k3
          obtain ⟨rfl, rfl⟩ := pure_ok.1 k4
          rcases hrow with ⟨h0, _⟩ | ⟨_, g, c, C, rfl, hg, hC, hlc, hcC, hcell⟩
          · cases h0
          · obtain ⟨n1, n2, n3, n4⟩ := newO_ok h4
            have hnone : ρ g' = none := hf g' (by omega) (by omega)
            have hsz0 : ρ.sz g = 0 := (hw.room g).1 hg
            have hgl : g < w'.heap.size := lt_of_block hC
            have hrow : ORel (ρ.addS g' g 0 c) w' g 0 (.cells ((z :: r).map fun z => .int k z) (llen (z :: r)) elem 0 0 false) := by
              refine ⟨⟨C, (0, 0), hC, by simp only [List.length_map]; omega, fun i v hi => ?_, Nat.le_refl _, .inl rfl, fun q => by cases q⟩, by rw [llen_eq]; simp, fun v hv => ?_⟩
              · rw [List.getElem?_map, Option.map_eq_some_iff] at hi
                obtain ⟨y, hy, rfl⟩ := hi
                exact ⟨_, by rw [Nat.zero_add]; exact hcell i y hy, .int _ _⟩
              · obtain ⟨y, _, rfl⟩ := List.mem_map.1 hv; rfl
            have hrel := hw.new (B := B) (w' := w') (id := g') (b := g) (base := 0) (n := c) (o := .cells ((z :: r).map fun z => .int k z) (llen (z :: r)) elem 0 0 false) n3 hnone (fun m => by rw [n4 m, g2]) hbel.size (by have := hw.size; omega) hgl
              (fun i x c' k' hi _ _ _ hc' => by have := (hw.lt i c' k' hi hc').2; omega) (fun k' _ hk' => hbel.block k' hk') hrow (by omega) (fun C' e' fr' hq => by rw [hC] at hq; cases hq; exact hcC)
            refine ⟨ρ.addS g' g 0 c, ?_, ρ.le_addS 0 hnone (by omega), fun i h0 h => ?_, hrel, hbelB⟩
            · rw [llen_eq]
              have := VRel.sliceA (ρ := ρ.addS g' g 0 c) g' 0 (z :: r).length 1 (z :: r).length g 0 c (by simp [Rho.addS_at]) hlc hlc (by omega) (by rw [Rho.addS_sz, if_pos rfl]; omega)
              exact this
            · rw [Rho.addS_at] at h
              by_cases e : i = g'
              · omega
              · rw [if_neg e] at h; exact absurd h0 h
  · exact (fail_ok.1 h).elim
theorem sortedKeys_good (k : IntKind) (elem : TypeId) (l : List AV) : Good (sortedKeysA k elem l) := by
  unfold sortedKeysA
  split
  · refine (mapO_good _).bind fun x => (Good.lift _ _).bind fun ks => (Good.check _ _).bind fun _ => ?_
    cases sortI ks with
    | nil => exact .pure _
    | cons z r => exact (newO_good (by rw [llen_eq]; simp [AO.ok])).bind fun _ => .pure _
  · exact .fail _
end Go.Proofs.YtcjjmflaaaddgaaGreatDoor.Am
