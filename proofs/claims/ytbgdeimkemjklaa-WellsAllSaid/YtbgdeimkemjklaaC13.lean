/-
  wells.Check on the district of the law's own trial.
-/
import Derived.Test.YtbgdeimkemjklaaC12
set_option linter.unusedSimpArgs false
set_option linter.unusedVariables false
set_option linter.unusedSectionVars false
namespace Go.Proofs.Ytbgdeimkemjklaa
open Go GoV
set_option maxRecDepth 100000

theorem c_len64 (f r d : Int) (k : List Int) (c : Option Nat) : ap Try.prog pol 24 [well f r d k c] = some (.ret (.bool (decide (k.length ≤ 64)))) := by
  rw [ap_eq _ Try.func24 rfl Try.ntmps24 Try.results24 (by kernel_rfl) rfl (by exact Nat.le_of_ble_eq_true rfl)]
  simp (config := { maxSteps := 1000000 }) only [RUN, PATHS, BASE, FA, POL, start_tm, Heap.empty, reduceIte, Nat.reduceLT, Nat.reduceLeDiff, Nat.reduceEqDiff, Nat.reduceAdd, Nat.reduceSub, Nat.reduceMul, Nat.reduceBEq, Int.reduceLT, Int.reduceLE, Int.reduceEq, Int.reduceNeg, Int.reduceAdd, Int.reduceSub, Int.reduceMul, Bool.false_eq_true, Bool.not_true, Bool.not_false, decide_eq_true_eq, and_self, true_and, and_true, reduceCtorEq, ne_eq, not_false_eq_true, not_true_eq_false, decide_true, decide_false, or_false, false_or, INTS]
  exact b_iff (by omega)
def D0 : Dis := ⟨.empty, 4, 100, 0, [⟨.empty, -1, 1, 20, 50, 0, 0, 0, 0, 1, 0, 1⟩], [⟨.empty, 0, 0, -1⟩], [], [], []⟩
theorem ALLI_nil {α : Type} (P : Nat → α → Prop) : ALLI P [] := fun i x h => by simp at h
theorem ALLI_one {α : Type} {P : Nat → α → Prop} {a : α} (h : P 0 a) : ALLI P [a] := fun i x e => by
  cases i with
  | zero => simp at e; subst e; exact h
  | succ i => simp at e
theorem D0_K : D0.K := ⟨by decide, by decide, by decide, ALLI_one (by decide), ALLI_nil _, ALLI_one (by decide), ALLI_nil _, ALLI_nil _⟩
theorem D0_L : D0.LEN := by decide
theorem c_chk2 (nm : ByteArray) (hours cap start : Int) (rs fs : List PV) (rc fc : Option Nat) (cs gs ds ws : PV) (f r d : Int) (k : List Int) (c : Option Nat) (hk : k.length ≤ 1000000) (id : Nat) (H : Heap) (hr : H.rows id = some (.gro 10 [dist nm hours cap start (.vs 12 rs rc) (.vs 4 fs fc) cs gs ds ws] 0)) :
    callF G Try.prog pol 25 [well f r d k c, .ptr id 1 0 0] H = some (.ret (.bool (decide (WOK f r d k fs.length rs.length))), ⟨H.rows, H.next + 1⟩) := by
  rw [callF_eq _ _ Try.func25 rfl Try.ntmps25 Try.results25 (by kernel_rfl) rfl (by exact Nat.le_of_ble_eq_true rfl)]
  simp (config := { maxSteps := 1000000 }) only [RUN, PATHS, BASE, FA, POL, start_tm, Heap.empty, reduceIte, Nat.reduceLT, Nat.reduceLeDiff, Nat.reduceEqDiff, Nat.reduceAdd, Nat.reduceSub, Nat.reduceMul, Nat.reduceBEq, Int.reduceLT, Int.reduceLE, Int.reduceEq, Int.reduceNeg, Int.reduceAdd, Int.reduceSub, Int.reduceMul, Bool.false_eq_true, Bool.not_true, Bool.not_false, decide_eq_true_eq, and_self, true_and, and_true, reduceCtorEq, ne_eq, not_false_eq_true, not_true_eq_false, decide_true, decide_false, or_false, false_or, INTS, hr, c_wvalid f r d k c hk]
theorem c_w1 (f : Int) (c : Option Nat) (h : f = 0 ∨ f = 1) (id : Nat) (H : Heap) (hid : id < H.next) (hr : H.rows id = some (.gro 4 [well f 0 2 [1, 1] c] 0)) (rc fc : Option Nat) (X : Option (CR × Heap))
    (hX : callF G Try.prog pol 12 [dist .empty 4 100 0 (.vs 12 [rch ⟨.empty, -1, 1, 20, 50, 0, 0, 0, 0, 1, 0, 1⟩] rc) (.vs 4 [frm ⟨.empty, 0, 0, -1⟩] fc) .nils .nils .nils (.gsl 4 id 1 0 1)] H = X) :
    ∃ H', X = some (.ret (I (if f = 0 then 0 else 420)), H') ∧ (∀ i < H.next, H'.rows i = H.rows i) ∧ H.next ≤ H'.next := by
  subst hX
  rw [callF_eq _ _ Try.func12 rfl Try.ntmps12 Try.results12 (by kernel_rfl) rfl (by exact Nat.le_of_ble_eq_true rfl)]
  simp (config := { maxSteps := 1000000 }) only [RUN, PATHS, BASE, FA, POL, start_tm, Heap.empty, reduceIte, Nat.reduceLT, Nat.reduceLeDiff, Nat.reduceEqDiff, Nat.reduceAdd, Nat.reduceSub, Nat.reduceMul, Nat.reduceBEq, Int.reduceLT, Int.reduceLE, Int.reduceEq, Int.reduceNeg, Int.reduceAdd, Int.reduceSub, Int.reduceMul, Bool.false_eq_true, Bool.not_true, Bool.not_false, decide_eq_true_eq, and_self, true_and, and_true, reduceCtorEq, ne_eq, not_false_eq_true, not_true_eq_false, decide_true, decide_false, or_false, false_or]
  generalize hE : callF _ _ _ 21 _ _ = E
  obtain ⟨H', c1, rfl, hh, hn, hk⟩ := c_xcheck D0 (by intro x hx; simp [D0] at hx; subst hx; unfold Rch.OK I64; simp) rc fc .nils .nils .nils _ (SL_nils 2) (SL_nils 10) (SL_nils 4) _ _ hE
  have hc : c1 = 0 := by
    rcases hk with ⟨a, _⟩ | ⟨_, _, e⟩ | ⟨_, a, _⟩
    · exact absurd D0_L a
    · exact e
    · exact absurd D0_K a
  subst hc
  have ne : ¬ id = H.next + 1 := by omega
  have r1 := hh id (by simp only [heap_add_next]; omega)
  have r2 := hh (H.next + 1) (by simp only [heap_add_next]; omega)
  simp only [heap_add_rows, ne, hr, if_false, if_true] at r1 r2
  have hh' : ∀ i < H.next, H'.rows i = H.rows i := fun i hi => by
    have := hh i (by simp only [heap_add_next]; omega)
    simpa only [heap_add_rows, (show ¬ i = H.next + 1 by omega), if_false] using this
  simp only [heap_add_next] at hn
  simp (config := { maxSteps := 1000000 }) only [RUN, PATHS, BASE, FA, POL, start_tm, Heap.empty, reduceIte, Nat.reduceLT, Nat.reduceLeDiff, Nat.reduceEqDiff, Nat.reduceAdd, Nat.reduceSub, Nat.reduceMul, Nat.reduceBEq, Int.reduceLT, Int.reduceLE, Int.reduceEq, Int.reduceNeg, Int.reduceAdd, Int.reduceSub, Int.reduceMul, Bool.false_eq_true, Bool.not_true, Bool.not_false, decide_eq_true_eq, and_self, true_and, and_true, reduceCtorEq, ne_eq, not_false_eq_true, not_true_eq_false, decide_true, decide_false, or_false, false_or, NUM, r1, r2]
  rw [callF_eq _ _ Try.func23 rfl Try.ntmps23 Try.results23 (by kernel_rfl) rfl (by exact Nat.le_of_ble_eq_true rfl)]
  have e64 : ap Try.prog pol 24 [.agg [I f, I 0, I 2, .vs 1 [I 1, I 1] c]] = some (.ret (.bool true)) := c_len64 f 0 2 [1, 1] c
  simp (config := { maxSteps := 1000000 }) only [RUN, PATHS, BASE, FA, POL, start_tm, Heap.empty, reduceIte, Nat.reduceLT, Nat.reduceLeDiff, Nat.reduceEqDiff, Nat.reduceAdd, Nat.reduceSub, Nat.reduceMul, Nat.reduceBEq, Int.reduceLT, Int.reduceLE, Int.reduceEq, Int.reduceNeg, Int.reduceAdd, Int.reduceSub, Int.reduceMul, Bool.false_eq_true, Bool.not_true, Bool.not_false, decide_eq_true_eq, and_self, true_and, and_true, reduceCtorEq, ne_eq, not_false_eq_true, not_true_eq_false, decide_true, decide_false, or_false, false_or, WW_loop, NUM, r1, r2, e64]
  rw [callF_eq _ _ Try.func23 rfl Try.ntmps23 Try.results23 (by kernel_rfl) rfl (by exact Nat.le_of_ble_eq_true rfl)]
  have c2 := fun Hx hx => c_chk2 .empty 4 100 0 [rch ⟨.empty, -1, 1, 20, 50, 0, 0, 0, 0, 1, 0, 1⟩] [frm ⟨.empty, 0, 0, -1⟩] rc fc .nils .nils .nils (.gsl 4 id 1 0 1) f 0 2 [1, 1] c (by decide) (H.next + 1) Hx hx
  have w1 : WOK f 0 2 [1, 1] 1 1 ↔ f = 0 := by
    constructor
    · intro w; have := w.2.1; have := w.1; omega
    · rintro rfl; decide
  have c3 : callF G Try.prog pol 25 [.agg [I f, I 0, I 2, ints [1, 1] c], .ptr (H.next + 1) 1 0 0] ⟨H'.rows, H'.next + 1 + 1⟩ = some (.ret (.bool (decide (WOK f 0 2 [1, 1] 1 1))), ⟨H'.rows, H'.next + 1 + 1 + 1⟩) := c2 _ r2
  rcases h with rfl | rfl
  · have w2 := w1.2 rfl
    simp (config := { maxSteps := 1000000 }) only [RUN, PATHS, BASE, FA, POL, start_tm, Heap.empty, reduceIte, Nat.reduceLT, Nat.reduceLeDiff, Nat.reduceEqDiff, Nat.reduceAdd, Nat.reduceSub, Nat.reduceMul, Nat.reduceBEq, Int.reduceLT, Int.reduceLE, Int.reduceEq, Int.reduceNeg, Int.reduceAdd, Int.reduceSub, Int.reduceMul, Bool.false_eq_true, Bool.not_true, Bool.not_false, decide_eq_true_eq, and_self, true_and, and_true, reduceCtorEq, ne_eq, not_false_eq_true, not_true_eq_false, decide_true, decide_false, or_false, false_or, WW_loop, NUM, r1, r2, c3, w2]
    refine ⟨_, rfl, hh', ?_⟩
    simp only
    omega
  · have w2 : ¬ WOK 1 0 2 [1, 1] 1 1 := fun w => by have := w1.1 w; omega
    simp (config := { maxSteps := 1000000 }) only [RUN, PATHS, BASE, FA, POL, start_tm, Heap.empty, reduceIte, Nat.reduceLT, Nat.reduceLeDiff, Nat.reduceEqDiff, Nat.reduceAdd, Nat.reduceSub, Nat.reduceMul, Nat.reduceBEq, Int.reduceLT, Int.reduceLE, Int.reduceEq, Int.reduceNeg, Int.reduceAdd, Int.reduceSub, Int.reduceMul, Bool.false_eq_true, Bool.not_true, Bool.not_false, decide_eq_true_eq, and_self, true_and, and_true, reduceCtorEq, ne_eq, not_false_eq_true, not_true_eq_false, decide_true, decide_false, or_false, false_or, WW_loop, NUM, r1, r2, c3, w2]
    refine ⟨_, rfl, hh', ?_⟩
    simp only
    omega
end Go.Proofs.Ytbgdeimkemjklaa
