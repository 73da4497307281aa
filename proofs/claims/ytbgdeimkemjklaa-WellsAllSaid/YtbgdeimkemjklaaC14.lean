/-
  The law's own trial.
-/
import Derived.Test.YtbgdeimkemjklaaC13
set_option linter.unusedSimpArgs false
set_option linter.unusedVariables false
set_option linter.unusedSectionVars false
namespace Go.Proofs.Ytbgdeimkemjklaa
open Go GoV
set_option maxRecDepth 100000

abbrev W0 : PV := .agg [I 0, I 0, I 2, .vs 1 [I 1, I 1] (some 2)]
theorem n_litres : ap Try.prog pol 34 [.nils] = some (.ret (.bool true)) := by
  rw [ap_eq _ Try.func34 rfl Try.ntmps34 Try.results34 (by kernel_rfl) rfl (by exact Nat.le_of_ble_eq_true rfl)]
  simp (config := { maxSteps := 1000000 }) only [RUN, PATHS, BASE, FA, POL, start_tm, Heap.empty, reduceIte, Nat.reduceLT, Nat.reduceLeDiff, Nat.reduceEqDiff, Nat.reduceAdd, Nat.reduceSub, Nat.reduceMul, Nat.reduceBEq, Int.reduceLT, Int.reduceLE, Int.reduceEq, Int.reduceNeg, Int.reduceAdd, Int.reduceSub, Int.reduceMul, Bool.false_eq_true, Bool.not_true, Bool.not_false, decide_eq_true_eq, and_self, true_and, and_true, reduceCtorEq, ne_eq, not_false_eq_true, not_true_eq_false, decide_true, decide_false, or_false, false_or]
  rw [callF_eq _ _ Try.func40 rfl Try.ntmps40 Try.results40 (by kernel_rfl) rfl (by exact Nat.le_of_ble_eq_true rfl)]
  simp (config := { maxSteps := 1000000 }) only [RUN, PATHS, BASE, FA, POL, start_tm, Heap.empty, reduceIte, Nat.reduceLT, Nat.reduceLeDiff, Nat.reduceEqDiff, Nat.reduceAdd, Nat.reduceSub, Nat.reduceMul, Nat.reduceBEq, Int.reduceLT, Int.reduceLE, Int.reduceEq, Int.reduceNeg, Int.reduceAdd, Int.reduceSub, Int.reduceMul, Bool.false_eq_true, Bool.not_true, Bool.not_false, decide_eq_true_eq, and_self, true_and, and_true, reduceCtorEq, ne_eq, not_false_eq_true, not_true_eq_false, decide_true, decide_false, or_false, false_or, WW_loop, NUM]
theorem n_valid0 : ap Try.prog pol 26 [.agg [I 0, I 0, I 0, .nils], I 600, I 64] = some (.ret (.bool false)) := by
  rw [ap_eq _ Try.func26 rfl Try.ntmps26 Try.results26 (by kernel_rfl) rfl (by exact Nat.le_of_ble_eq_true rfl)]
  simp (config := { maxSteps := 1000000 }) only [RUN, PATHS, BASE, FA, POL, start_tm, Heap.empty, reduceIte, Nat.reduceLT, Nat.reduceLeDiff, Nat.reduceEqDiff, Nat.reduceAdd, Nat.reduceSub, Nat.reduceMul, Nat.reduceBEq, Int.reduceLT, Int.reduceLE, Int.reduceEq, Int.reduceNeg, Int.reduceAdd, Int.reduceSub, Int.reduceMul, Bool.false_eq_true, Bool.not_true, Bool.not_false, decide_eq_true_eq, and_self, true_and, and_true, reduceCtorEq, ne_eq, not_false_eq_true, not_true_eq_false, decide_true, decide_false, or_false, false_or]
theorem n_valid1 : ap Try.prog pol 26 [W0, I 600, I 64] = some (.ret (.bool true)) := c_wvalid 0 0 2 [1, 1] (some 2) (by decide) 600 64
theorem n_check0 : ap Try.prog pol 29 [.agg [I 0, I 0, I 0, .nils], .nils] = some (.ret (I 420)) := by
  rw [ap_eq _ Try.func29 rfl Try.ntmps29 Try.results29 (by kernel_rfl) rfl (by exact Nat.le_of_ble_eq_true rfl)]
  simp (config := { maxSteps := 1000000 }) only [RUN, PATHS, BASE, FA, POL, start_tm, Heap.empty, reduceIte, Nat.reduceLT, Nat.reduceLeDiff, Nat.reduceEqDiff, Nat.reduceAdd, Nat.reduceSub, Nat.reduceMul, Nat.reduceBEq, Int.reduceLT, Int.reduceLE, Int.reduceEq, Int.reduceNeg, Int.reduceAdd, Int.reduceSub, Int.reduceMul, Bool.false_eq_true, Bool.not_true, Bool.not_false, decide_eq_true_eq, and_self, true_and, and_true, reduceCtorEq, ne_eq, not_false_eq_true, not_true_eq_false, decide_true, decide_false, or_false, false_or, NUM, n_valid0]
theorem n_check1 : ap Try.prog pol 29 [W0, .nils] = some (.ret (I 0)) := by
  rw [ap_eq _ Try.func29 rfl Try.ntmps29 Try.results29 (by kernel_rfl) rfl (by exact Nat.le_of_ble_eq_true rfl)]
  simp (config := { maxSteps := 1000000 }) only [RUN, PATHS, BASE, FA, POL, start_tm, Heap.empty, reduceIte, Nat.reduceLT, Nat.reduceLeDiff, Nat.reduceEqDiff, Nat.reduceAdd, Nat.reduceSub, Nat.reduceMul, Nat.reduceBEq, Int.reduceLT, Int.reduceLE, Int.reduceEq, Int.reduceNeg, Int.reduceAdd, Int.reduceSub, Int.reduceMul, Bool.false_eq_true, Bool.not_true, Bool.not_false, decide_eq_true_eq, and_self, true_and, and_true, reduceCtorEq, ne_eq, not_false_eq_true, not_true_eq_false, decide_true, decide_false, or_false, false_or, NUM, n_valid1, n_litres]
theorem n_until : ap Try.prog pol 30 [W0, .nils] = some (.ret .nils) := by
  rw [ap_eq _ Try.func30 rfl Try.ntmps30 Try.results30 (by kernel_rfl) rfl (by exact Nat.le_of_ble_eq_true rfl)]
  simp (config := { maxSteps := 1000000 }) only [RUN, PATHS, BASE, FA, POL, start_tm, Heap.empty, reduceIte, Nat.reduceLT, Nat.reduceLeDiff, Nat.reduceEqDiff, Nat.reduceAdd, Nat.reduceSub, Nat.reduceMul, Nat.reduceBEq, Int.reduceLT, Int.reduceLE, Int.reduceEq, Int.reduceNeg, Int.reduceAdd, Int.reduceSub, Int.reduceMul, Bool.false_eq_true, Bool.not_true, Bool.not_false, decide_eq_true_eq, and_self, true_and, and_true, reduceCtorEq, ne_eq, not_false_eq_true, not_true_eq_false, decide_true, decide_false, or_false, false_or, NUM]
theorem o1 : ap Try.prog pol 15 [W0, .vs 1 [I 3, I 0] (some 2)] = some (.ret (.tup [.vs 1 [I 1, I 2, I 0] none, I 0])) :=
  (c_owed 0 0 2 [1, 1] [3, 0] (some 2) (some 2) (by decide) (by decide)).trans (by kernel_rfl)
theorem o2 : ap Try.prog pol 17 [W0, .vs 1 [I 3, I 0] (some 2), .vs 1 [I 0, I 1, I 0] (some 3)] = some (.ret (.tup [.vs 1 [I 1, I 2, I 2] none, I 0])) :=
  (c_repaid 0 0 2 [1, 1] [3, 0] [0, 1, 0] (some 2) (some 2) (some 3) (by decide) (by decide)).trans (by kernel_rfl)
theorem o3 : ap Try.prog pol 15 [.agg [I 0, I 0, I 0, .nils], .nils] = some (.ret (.tup [.vs 1 [] none, I 420])) := by
  rw [ap_eq _ Try.func15 rfl Try.ntmps15 Try.results15 (by kernel_rfl) rfl (by exact Nat.le_of_ble_eq_true rfl)]
  simp (config := { maxSteps := 1000000 }) only [RUN, PATHS, BASE, FA, POL, start_tm, Heap.empty, reduceIte, Nat.reduceLT, Nat.reduceLeDiff, Nat.reduceEqDiff, Nat.reduceAdd, Nat.reduceSub, Nat.reduceMul, Nat.reduceBEq, Int.reduceLT, Int.reduceLE, Int.reduceEq, Int.reduceNeg, Int.reduceAdd, Int.reduceSub, Int.reduceMul, Bool.false_eq_true, Bool.not_true, Bool.not_false, decide_eq_true_eq, and_self, true_and, and_true, reduceCtorEq, ne_eq, not_false_eq_true, not_true_eq_false, decide_true, decide_false, or_false, false_or, NUM, n_check0, isNils_gsl, SOFAR]
theorem o4 : ap Try.prog pol 15 [W0, .nils] = some (.ret (.tup [.vs 1 [] none, I 0])) := by
  rw [ap_eq _ Try.func15 rfl Try.ntmps15 Try.results15 (by kernel_rfl) rfl (by exact Nat.le_of_ble_eq_true rfl)]
  simp (config := { maxSteps := 1000000 }) only [RUN, PATHS, BASE, FA, POL, start_tm, Heap.empty, reduceIte, Nat.reduceLT, Nat.reduceLeDiff, Nat.reduceEqDiff, Nat.reduceAdd, Nat.reduceSub, Nat.reduceMul, Nat.reduceBEq, Int.reduceLT, Int.reduceLE, Int.reduceEq, Int.reduceNeg, Int.reduceAdd, Int.reduceSub, Int.reduceMul, Bool.false_eq_true, Bool.not_true, Bool.not_false, decide_eq_true_eq, and_self, true_and, and_true, reduceCtorEq, ne_eq, not_false_eq_true, not_true_eq_false, decide_true, decide_false, or_false, false_or, WW_loop, NUM, n_check1, n_until, isNils_gsl, SOFAR]
theorem u5 : ap Try.prog pol 30 [W0, .vs 1 [I 5] (some 1)] = some (.ret (.vs 1 [I 2, I 5] none)) :=
  (c_until 0 0 2 [1, 1] [5] (some 2) (some 1) (BD_of (f := 0) (r := 0) (by decide))).trans (by kernel_rfl)
theorem k5 : ap Try.prog pol 29 [W0, .vs 1 [I 5] (some 1)] = some (.ret (I 0)) := (c_wcheck 0 0 2 [1, 1] [5] (some 2) (some 1) (by decide) (by decide)).trans (by kernel_rfl)
theorem o5 : ap Try.prog pol 17 [W0, .vs 1 [I 5] (some 1), .nils] = some (.ret (.tup [.vs 1 [] none, I 420])) := by
  rw [ap_eq _ Try.func17 rfl Try.ntmps17 Try.results17 (by kernel_rfl) rfl (by exact Nat.le_of_ble_eq_true rfl)]
  simp (config := { maxSteps := 1000000 }) only [RUN, PATHS, BASE, FA, POL, start_tm, Heap.empty, reduceIte, Nat.reduceLT, Nat.reduceLeDiff, Nat.reduceEqDiff, Nat.reduceAdd, Nat.reduceSub, Nat.reduceMul, Nat.reduceBEq, Int.reduceLT, Int.reduceLE, Int.reduceEq, Int.reduceNeg, Int.reduceAdd, Int.reduceSub, Int.reduceMul, Bool.false_eq_true, Bool.not_true, Bool.not_false, decide_eq_true_eq, and_self, true_and, and_true, reduceCtorEq, ne_eq, not_false_eq_true, not_true_eq_false, decide_true, decide_false, or_false, false_or, NUM, k5, u5, isNils_gsl, SOFAR]
theorem s1 : ap Try.prog pol 19 [.vs 1 [I 1, I 2, I 0] none, .vs 1 [I 1, I 2, I 0] (some 3)] = some (.ret (.bool true)) := c_same [1, 2, 0] [1, 2, 0] none (some 3) (by decide) (by decide)
theorem s2 : ap Try.prog pol 19 [.vs 1 [I 1, I 2, I 2] none, .vs 1 [I 1, I 2, I 2] (some 3)] = some (.ret (.bool true)) := c_same [1, 2, 2] [1, 2, 2] none (some 3) (by decide) (by decide)
theorem c_sane : ap Try.prog pol 10 [] = some (.ret (.bool true)) := by
  rw [ap_eq _ Try.func10 rfl Try.ntmps10 Try.results10 (by kernel_rfl) rfl (by exact Nat.le_of_ble_eq_true rfl)]
  simp (config := { maxSteps := 1000000 }) only [RUN, PATHS, BASE, FA, POL, start_tm, Heap.empty, reduceIte, Nat.reduceLT, Nat.reduceLeDiff, Nat.reduceEqDiff, Nat.reduceAdd, Nat.reduceSub, Nat.reduceMul, Nat.reduceBEq, Int.reduceLT, Int.reduceLE, Int.reduceEq, Int.reduceNeg, Int.reduceAdd, Int.reduceSub, Int.reduceMul, Bool.false_eq_true, Bool.not_true, Bool.not_false, decide_eq_true_eq, and_self, true_and, and_true, reduceCtorEq, ne_eq, not_false_eq_true, not_true_eq_false, decide_true, decide_false, or_false, false_or, o1, o2, o3, o4, o5]
  generalize hE : callF _ _ _ 12 _ _ = E
  obtain ⟨H', rfl, hh, hn⟩ := c_w1 0 (some 2) (.inl rfl) 1 _ (by decide) (by simp only [heap_add_rows, if_true]; rfl) (some 1) (some 1) _ hE
  have r1 := hh 1 (by decide)
  simp only [heap_add_rows, if_true] at r1
  simp only [heap_add_next] at hn
  simp (config := { maxSteps := 1000000 }) only [RUN, PATHS, BASE, FA, POL, start_tm, Heap.empty, reduceIte, Nat.reduceLT, Nat.reduceLeDiff, Nat.reduceEqDiff, Nat.reduceAdd, Nat.reduceSub, Nat.reduceMul, Nat.reduceBEq, Int.reduceLT, Int.reduceLE, Int.reduceEq, Int.reduceNeg, Int.reduceAdd, Int.reduceSub, Int.reduceMul, Bool.false_eq_true, Bool.not_true, Bool.not_false, decide_eq_true_eq, and_self, true_and, and_true, reduceCtorEq, ne_eq, not_false_eq_true, not_true_eq_false, decide_true, decide_false, or_false, false_or, NUM, r1]
  generalize hE2 : callF _ _ _ 12 _ _ = E2
  obtain ⟨H2, rfl, hh2, hn2⟩ := c_w1 1 (some 2) (.inr rfl) 1 _ (by simp only [heap_set_next]; omega) (by simp (config := { maxSteps := 1000000 }) only [RUN, PATHS, BASE, FA, POL, start_tm, Heap.empty, reduceIte, Nat.reduceLT, Nat.reduceLeDiff, Nat.reduceEqDiff, Nat.reduceAdd, Nat.reduceSub, Nat.reduceMul, Nat.reduceBEq, Int.reduceLT, Int.reduceLE, Int.reduceEq, Int.reduceNeg, Int.reduceAdd, Int.reduceSub, Int.reduceMul, Bool.false_eq_true, Bool.not_true, Bool.not_false, decide_eq_true_eq, and_self, true_and, and_true, reduceCtorEq, ne_eq, not_false_eq_true, not_true_eq_false, decide_true, decide_false, or_false, false_or, r1]; rfl) (some 1) (some 1) _ hE2
  simp (config := { maxSteps := 1000000 }) only [RUN, PATHS, BASE, FA, POL, start_tm, Heap.empty, reduceIte, Nat.reduceLT, Nat.reduceLeDiff, Nat.reduceEqDiff, Nat.reduceAdd, Nat.reduceSub, Nat.reduceMul, Nat.reduceBEq, Int.reduceLT, Int.reduceLE, Int.reduceEq, Int.reduceNeg, Int.reduceAdd, Int.reduceSub, Int.reduceMul, Bool.false_eq_true, Bool.not_true, Bool.not_false, decide_eq_true_eq, and_self, true_and, and_true, reduceCtorEq, ne_eq, not_false_eq_true, not_true_eq_false, decide_true, decide_false, or_false, false_or, NUM, r1, s1, s2]
end Go.Proofs.Ytbgdeimkemjklaa
