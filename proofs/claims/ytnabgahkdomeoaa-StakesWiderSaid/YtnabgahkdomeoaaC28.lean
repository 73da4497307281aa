/-
  Few; the walks of StakesShareSpec and StakesSettleSpec.
-/
import Derived.Test.YtnabgahkdomeoaaC27
set_option linter.unusedSimpArgs false
set_option linter.unusedVariables false
set_option linter.unusedSectionVars false
namespace Go.Proofs.Ytnabgahkdomeoaa
open Go GoV
set_option maxRecDepth 100000

theorem c_few26n : ap Try.prog pol 26 [.nils] = some (.ret (.bool true)) := by
  rw [ap_eq _ Try.func26 rfl Try.ntmps26 Try.results26 (by kernel_rfl) rfl (by exact Nat.le_of_ble_eq_true rfl)]
  simp (config := { maxSteps := 1000000 }) only [RUN, PATHS, BASE, FA, POL, start_tm, Heap.empty, reduceIte, Nat.reduceLT, Nat.reduceLeDiff, Nat.reduceEqDiff, Nat.reduceAdd, Nat.reduceSub, Nat.reduceMul, Nat.reduceBEq, Int.reduceLT, Int.reduceLE, Int.reduceEq, Int.reduceNeg, Int.reduceAdd, Int.reduceSub, Int.reduceMul, Bool.false_eq_true, Bool.not_true, Bool.not_false, decide_eq_true_eq, and_self, true_and, and_true, reduceCtorEq, ne_eq, not_false_eq_true, not_true_eq_false, decide_true, decide_false, or_false, false_or, NUM, WW_loop]
theorem c_fewB (w : List Int) (c : Option Nat) : ∃ b, ap Try.prog pol 11 [.nils, .nils, .vs 1 (w.map I) c] = some (.ret (.bool b)) := by
  by_cases h1 : (w.length : Int) ≤ 100
  · refine ⟨true, ?_⟩
    rw [ap_eq _ Try.func11 rfl Try.ntmps11 Try.results11 (by kernel_rfl) rfl (by exact Nat.le_of_ble_eq_true rfl)]
    simp (config := { maxSteps := 1000000 }) only [RUN, PATHS, BASE, FA, POL, start_tm, Heap.empty, reduceIte, Nat.reduceLT, Nat.reduceLeDiff, Nat.reduceEqDiff, Nat.reduceAdd, Nat.reduceSub, Nat.reduceMul, Nat.reduceBEq, Int.reduceLT, Int.reduceLE, Int.reduceEq, Int.reduceNeg, Int.reduceAdd, Int.reduceSub, Int.reduceMul, Bool.false_eq_true, Bool.not_true, Bool.not_false, decide_eq_true_eq, and_self, true_and, and_true, reduceCtorEq, ne_eq, not_false_eq_true, not_true_eq_false, decide_true, decide_false, or_false, false_or, NUM, SIN, c_few26n, List.length_map, h1]
  by_cases h2 : 600 < (w.length : Int)
  rotate_left
  · refine ⟨false, ?_⟩
    rw [ap_eq _ Try.func11 rfl Try.ntmps11 Try.results11 (by kernel_rfl) rfl (by exact Nat.le_of_ble_eq_true rfl)]
    simp (config := { maxSteps := 1000000 }) only [RUN, PATHS, BASE, FA, POL, start_tm, Heap.empty, reduceIte, Nat.reduceLT, Nat.reduceLeDiff, Nat.reduceEqDiff, Nat.reduceAdd, Nat.reduceSub, Nat.reduceMul, Nat.reduceBEq, Int.reduceLT, Int.reduceLE, Int.reduceEq, Int.reduceNeg, Int.reduceAdd, Int.reduceSub, Int.reduceMul, Bool.false_eq_true, Bool.not_true, Bool.not_false, decide_eq_true_eq, and_self, true_and, and_true, reduceCtorEq, ne_eq, not_false_eq_true, not_true_eq_false, decide_true, decide_false, or_false, false_or, NUM, SIN, c_few26n, List.length_map, h1, h2]
  by_cases h3 : (w.length : Int) ≤ 2000
  · refine ⟨true, ?_⟩
    rw [ap_eq _ Try.func11 rfl Try.ntmps11 Try.results11 (by kernel_rfl) rfl (by exact Nat.le_of_ble_eq_true rfl)]
    simp (config := { maxSteps := 1000000 }) only [RUN, PATHS, BASE, FA, POL, start_tm, Heap.empty, reduceIte, Nat.reduceLT, Nat.reduceLeDiff, Nat.reduceEqDiff, Nat.reduceAdd, Nat.reduceSub, Nat.reduceMul, Nat.reduceBEq, Int.reduceLT, Int.reduceLE, Int.reduceEq, Int.reduceNeg, Int.reduceAdd, Int.reduceSub, Int.reduceMul, Bool.false_eq_true, Bool.not_true, Bool.not_false, decide_eq_true_eq, and_self, true_and, and_true, reduceCtorEq, ne_eq, not_false_eq_true, not_true_eq_false, decide_true, decide_false, or_false, false_or, NUM, SIN, c_few26n, List.length_map, h1, h2, h3]
  · refine ⟨false, ?_⟩
    rw [ap_eq _ Try.func11 rfl Try.ntmps11 Try.results11 (by kernel_rfl) rfl (by exact Nat.le_of_ble_eq_true rfl)]
    simp (config := { maxSteps := 1000000 }) only [RUN, PATHS, BASE, FA, POL, start_tm, Heap.empty, reduceIte, Nat.reduceLT, Nat.reduceLeDiff, Nat.reduceEqDiff, Nat.reduceAdd, Nat.reduceSub, Nat.reduceMul, Nat.reduceBEq, Int.reduceLT, Int.reduceLE, Int.reduceEq, Int.reduceNeg, Int.reduceAdd, Int.reduceSub, Int.reduceMul, Bool.false_eq_true, Bool.not_true, Bool.not_false, decide_eq_true_eq, and_self, true_and, and_true, reduceCtorEq, ne_eq, not_false_eq_true, not_true_eq_false, decide_true, decide_false, or_false, false_or, NUM, SIN, c_few26n, List.length_map, h1, h2, h3]
theorem c_fewA (l : List Stk) (ps : List Pst) (w : List Int) (c c' d : Option Nat) : ∃ b, ap Try.prog pol 11 [.vs 4 (l.map stk) c, .vs 3 (ps.map pst) c', .vs 1 (w.map I) d] = some (.ret (.bool b)) := by
  obtain ⟨b, hb, _⟩ := c_few37 ps c'
  cases b
  · refine ⟨false, ?_⟩
    rw [ap_eq _ Try.func11 rfl Try.ntmps11 Try.results11 (by kernel_rfl) rfl (by exact Nat.le_of_ble_eq_true rfl)]
    simp (config := { maxSteps := 1000000 }) only [RUN, PATHS, BASE, FA, POL, start_tm, Heap.empty, reduceIte, Nat.reduceLT, Nat.reduceLeDiff, Nat.reduceEqDiff, Nat.reduceAdd, Nat.reduceSub, Nat.reduceMul, Nat.reduceBEq, Int.reduceLT, Int.reduceLE, Int.reduceEq, Int.reduceNeg, Int.reduceAdd, Int.reduceSub, Int.reduceMul, Bool.false_eq_true, Bool.not_true, Bool.not_false, decide_eq_true_eq, and_self, true_and, and_true, reduceCtorEq, ne_eq, not_false_eq_true, not_true_eq_false, decide_true, decide_false, or_false, false_or, NUM, SPS, SST, SIN, hb]
  have key : ∀ (p q : Prop) [Decidable p] [Decidable q], True := fun _ _ _ _ => trivial
  by_cases g1 : (l.length : Int) ≤ 60
  · by_cases h1 : (w.length : Int) ≤ 100
    · refine ⟨true, ?_⟩
      rw [ap_eq _ Try.func11 rfl Try.ntmps11 Try.results11 (by kernel_rfl) rfl (by exact Nat.le_of_ble_eq_true rfl)]
      simp (config := { maxSteps := 1000000 }) only [RUN, PATHS, BASE, FA, POL, start_tm, Heap.empty, reduceIte, Nat.reduceLT, Nat.reduceLeDiff, Nat.reduceEqDiff, Nat.reduceAdd, Nat.reduceSub, Nat.reduceMul, Nat.reduceBEq, Int.reduceLT, Int.reduceLE, Int.reduceEq, Int.reduceNeg, Int.reduceAdd, Int.reduceSub, Int.reduceMul, Bool.false_eq_true, Bool.not_true, Bool.not_false, decide_eq_true_eq, and_self, true_and, and_true, reduceCtorEq, ne_eq, not_false_eq_true, not_true_eq_false, decide_true, decide_false, or_false, false_or, NUM, SPS, SST, SIN, hb, List.length_map, g1, h1]
    by_cases h2 : 600 < (w.length : Int)
    rotate_left
    · refine ⟨false, ?_⟩
      rw [ap_eq _ Try.func11 rfl Try.ntmps11 Try.results11 (by kernel_rfl) rfl (by exact Nat.le_of_ble_eq_true rfl)]
      simp (config := { maxSteps := 1000000 }) only [RUN, PATHS, BASE, FA, POL, start_tm, Heap.empty, reduceIte, Nat.reduceLT, Nat.reduceLeDiff, Nat.reduceEqDiff, Nat.reduceAdd, Nat.reduceSub, Nat.reduceMul, Nat.reduceBEq, Int.reduceLT, Int.reduceLE, Int.reduceEq, Int.reduceNeg, Int.reduceAdd, Int.reduceSub, Int.reduceMul, Bool.false_eq_true, Bool.not_true, Bool.not_false, decide_eq_true_eq, and_self, true_and, and_true, reduceCtorEq, ne_eq, not_false_eq_true, not_true_eq_false, decide_true, decide_false, or_false, false_or, NUM, SPS, SST, SIN, hb, List.length_map, g1, h1, h2]
    by_cases h3 : (w.length : Int) ≤ 2000
    · refine ⟨true, ?_⟩
      rw [ap_eq _ Try.func11 rfl Try.ntmps11 Try.results11 (by kernel_rfl) rfl (by exact Nat.le_of_ble_eq_true rfl)]
      simp (config := { maxSteps := 1000000 }) only [RUN, PATHS, BASE, FA, POL, start_tm, Heap.empty, reduceIte, Nat.reduceLT, Nat.reduceLeDiff, Nat.reduceEqDiff, Nat.reduceAdd, Nat.reduceSub, Nat.reduceMul, Nat.reduceBEq, Int.reduceLT, Int.reduceLE, Int.reduceEq, Int.reduceNeg, Int.reduceAdd, Int.reduceSub, Int.reduceMul, Bool.false_eq_true, Bool.not_true, Bool.not_false, decide_eq_true_eq, and_self, true_and, and_true, reduceCtorEq, ne_eq, not_false_eq_true, not_true_eq_false, decide_true, decide_false, or_false, false_or, NUM, SPS, SST, SIN, hb, List.length_map, g1, h1, h2, h3]
    · refine ⟨false, ?_⟩
      rw [ap_eq _ Try.func11 rfl Try.ntmps11 Try.results11 (by kernel_rfl) rfl (by exact Nat.le_of_ble_eq_true rfl)]
      simp (config := { maxSteps := 1000000 }) only [RUN, PATHS, BASE, FA, POL, start_tm, Heap.empty, reduceIte, Nat.reduceLT, Nat.reduceLeDiff, Nat.reduceEqDiff, Nat.reduceAdd, Nat.reduceSub, Nat.reduceMul, Nat.reduceBEq, Int.reduceLT, Int.reduceLE, Int.reduceEq, Int.reduceNeg, Int.reduceAdd, Int.reduceSub, Int.reduceMul, Bool.false_eq_true, Bool.not_true, Bool.not_false, decide_eq_true_eq, and_self, true_and, and_true, reduceCtorEq, ne_eq, not_false_eq_true, not_true_eq_false, decide_true, decide_false, or_false, false_or, NUM, SPS, SST, SIN, hb, List.length_map, g1, h1, h2, h3]
  by_cases g2 : 256 < (l.length : Int)
  rotate_left
  · refine ⟨false, ?_⟩
    rw [ap_eq _ Try.func11 rfl Try.ntmps11 Try.results11 (by kernel_rfl) rfl (by exact Nat.le_of_ble_eq_true rfl)]
    simp (config := { maxSteps := 1000000 }) only [RUN, PATHS, BASE, FA, POL, start_tm, Heap.empty, reduceIte, Nat.reduceLT, Nat.reduceLeDiff, Nat.reduceEqDiff, Nat.reduceAdd, Nat.reduceSub, Nat.reduceMul, Nat.reduceBEq, Int.reduceLT, Int.reduceLE, Int.reduceEq, Int.reduceNeg, Int.reduceAdd, Int.reduceSub, Int.reduceMul, Bool.false_eq_true, Bool.not_true, Bool.not_false, decide_eq_true_eq, and_self, true_and, and_true, reduceCtorEq, ne_eq, not_false_eq_true, not_true_eq_false, decide_true, decide_false, or_false, false_or, NUM, SPS, SST, SIN, hb, List.length_map, g1, g2]
  by_cases g3 : (l.length : Int) ≤ 1000
  rotate_left
  · refine ⟨false, ?_⟩
    rw [ap_eq _ Try.func11 rfl Try.ntmps11 Try.results11 (by kernel_rfl) rfl (by exact Nat.le_of_ble_eq_true rfl)]
    simp (config := { maxSteps := 1000000 }) only [RUN, PATHS, BASE, FA, POL, start_tm, Heap.empty, reduceIte, Nat.reduceLT, Nat.reduceLeDiff, Nat.reduceEqDiff, Nat.reduceAdd, Nat.reduceSub, Nat.reduceMul, Nat.reduceBEq, Int.reduceLT, Int.reduceLE, Int.reduceEq, Int.reduceNeg, Int.reduceAdd, Int.reduceSub, Int.reduceMul, Bool.false_eq_true, Bool.not_true, Bool.not_false, decide_eq_true_eq, and_self, true_and, and_true, reduceCtorEq, ne_eq, not_false_eq_true, not_true_eq_false, decide_true, decide_false, or_false, false_or, NUM, SPS, SST, SIN, hb, List.length_map, g1, g2, g3]
  by_cases h1 : (w.length : Int) ≤ 100
  · refine ⟨true, ?_⟩
    rw [ap_eq _ Try.func11 rfl Try.ntmps11 Try.results11 (by kernel_rfl) rfl (by exact Nat.le_of_ble_eq_true rfl)]
    simp (config := { maxSteps := 1000000 }) only [RUN, PATHS, BASE, FA, POL, start_tm, Heap.empty, reduceIte, Nat.reduceLT, Nat.reduceLeDiff, Nat.reduceEqDiff, Nat.reduceAdd, Nat.reduceSub, Nat.reduceMul, Nat.reduceBEq, Int.reduceLT, Int.reduceLE, Int.reduceEq, Int.reduceNeg, Int.reduceAdd, Int.reduceSub, Int.reduceMul, Bool.false_eq_true, Bool.not_true, Bool.not_false, decide_eq_true_eq, and_self, true_and, and_true, reduceCtorEq, ne_eq, not_false_eq_true, not_true_eq_false, decide_true, decide_false, or_false, false_or, NUM, SPS, SST, SIN, hb, List.length_map, g1, g2, g3, h1]
  by_cases h2 : 600 < (w.length : Int)
  rotate_left
  · refine ⟨false, ?_⟩
    rw [ap_eq _ Try.func11 rfl Try.ntmps11 Try.results11 (by kernel_rfl) rfl (by exact Nat.le_of_ble_eq_true rfl)]
    simp (config := { maxSteps := 1000000 }) only [RUN, PATHS, BASE, FA, POL, start_tm, Heap.empty, reduceIte, Nat.reduceLT, Nat.reduceLeDiff, Nat.reduceEqDiff, Nat.reduceAdd, Nat.reduceSub, Nat.reduceMul, Nat.reduceBEq, Int.reduceLT, Int.reduceLE, Int.reduceEq, Int.reduceNeg, Int.reduceAdd, Int.reduceSub, Int.reduceMul, Bool.false_eq_true, Bool.not_true, Bool.not_false, decide_eq_true_eq, and_self, true_and, and_true, reduceCtorEq, ne_eq, not_false_eq_true, not_true_eq_false, decide_true, decide_false, or_false, false_or, NUM, SPS, SST, SIN, hb, List.length_map, g1, g2, g3, h1, h2]
  by_cases h3 : (w.length : Int) ≤ 2000
  · refine ⟨true, ?_⟩
    rw [ap_eq _ Try.func11 rfl Try.ntmps11 Try.results11 (by kernel_rfl) rfl (by exact Nat.le_of_ble_eq_true rfl)]
    simp (config := { maxSteps := 1000000 }) only [RUN, PATHS, BASE, FA, POL, start_tm, Heap.empty, reduceIte, Nat.reduceLT, Nat.reduceLeDiff, Nat.reduceEqDiff, Nat.reduceAdd, Nat.reduceSub, Nat.reduceMul, Nat.reduceBEq, Int.reduceLT, Int.reduceLE, Int.reduceEq, Int.reduceNeg, Int.reduceAdd, Int.reduceSub, Int.reduceMul, Bool.false_eq_true, Bool.not_true, Bool.not_false, decide_eq_true_eq, and_self, true_and, and_true, reduceCtorEq, ne_eq, not_false_eq_true, not_true_eq_false, decide_true, decide_false, or_false, false_or, NUM, SPS, SST, SIN, hb, List.length_map, g1, g2, g3, h1, h2, h3]
  · refine ⟨false, ?_⟩
    rw [ap_eq _ Try.func11 rfl Try.ntmps11 Try.results11 (by kernel_rfl) rfl (by exact Nat.le_of_ble_eq_true rfl)]
    simp (config := { maxSteps := 1000000 }) only [RUN, PATHS, BASE, FA, POL, start_tm, Heap.empty, reduceIte, Nat.reduceLT, Nat.reduceLeDiff, Nat.reduceEqDiff, Nat.reduceAdd, Nat.reduceSub, Nat.reduceMul, Nat.reduceBEq, Int.reduceLT, Int.reduceLE, Int.reduceEq, Int.reduceNeg, Int.reduceAdd, Int.reduceSub, Int.reduceMul, Bool.false_eq_true, Bool.not_true, Bool.not_false, decide_eq_true_eq, and_self, true_and, and_true, reduceCtorEq, ne_eq, not_false_eq_true, not_true_eq_false, decide_true, decide_false, or_false, false_or, NUM, SPS, SST, SIN, hb, List.length_map, g1, g2, g3, h1, h2, h3]
theorem c_saneV : ap Try.prog pol 10 [] = some (.ret (.bool true)) := c_sane
theorem w_share (T : Int) (w : List Int) : ap Try.prog pol 4 [I T, .vs 1 (w.map I) none] = some (.ret (.bool true)) := by
  obtain ⟨b, hb⟩ := c_fewB w none
  have c1 := c_share T w none
  have c2 := c_rShare T w none
  cases b
  · rw [ap_eq _ Try.func4 rfl Try.ntmps4 Try.results4 (by kernel_rfl) rfl (by exact Nat.le_of_ble_eq_true rfl)]
    simp (config := { maxSteps := 1000000 }) only [RUN, PATHS, BASE, FA, POL, start_tm, Heap.empty, reduceIte, Nat.reduceLT, Nat.reduceLeDiff, Nat.reduceEqDiff, Nat.reduceAdd, Nat.reduceSub, Nat.reduceMul, Nat.reduceBEq, Int.reduceLT, Int.reduceLE, Int.reduceEq, Int.reduceNeg, Int.reduceAdd, Int.reduceSub, Int.reduceMul, Bool.false_eq_true, Bool.not_true, Bool.not_false, decide_eq_true_eq, and_self, true_and, and_true, reduceCtorEq, ne_eq, not_false_eq_true, not_true_eq_false, decide_true, decide_false, or_false, false_or, NUM, SIN, c_saneV, hb]
  by_cases h : CKW T w = 0
  · have hl := (CKW_0 h).1
    have lo := OUTS_len h
    rw [SHV_ok h] at c1 c2
    have cs := c_same (OUTS T w) (OUTS T w) none none (by omega)
    rw [decide_eq_true rfl] at cs
    rw [ap_eq _ Try.func4 rfl Try.ntmps4 Try.results4 (by kernel_rfl) rfl (by exact Nat.le_of_ble_eq_true rfl)]
    simp (config := { maxSteps := 1000000 }) only [RUN, PATHS, BASE, FA, POL, start_tm, Heap.empty, reduceIte, Nat.reduceLT, Nat.reduceLeDiff, Nat.reduceEqDiff, Nat.reduceAdd, Nat.reduceSub, Nat.reduceMul, Nat.reduceBEq, Int.reduceLT, Int.reduceLE, Int.reduceEq, Int.reduceNeg, Int.reduceAdd, Int.reduceSub, Int.reduceMul, Bool.false_eq_true, Bool.not_true, Bool.not_false, decide_eq_true_eq, and_self, true_and, and_true, reduceCtorEq, ne_eq, not_false_eq_true, not_true_eq_false, decide_true, decide_false, or_false, false_or, NUM, SIN, c_saneV, hb, c1, c2, cs]
  · unfold SHV at c1 c2
    rw [if_pos h] at c1 c2
    rw [ap_eq _ Try.func4 rfl Try.ntmps4 Try.results4 (by kernel_rfl) rfl (by exact Nat.le_of_ble_eq_true rfl)]
    simp (config := { maxSteps := 1000000 }) only [RUN, PATHS, BASE, FA, POL, start_tm, Heap.empty, reduceIte, Nat.reduceLT, Nat.reduceLeDiff, Nat.reduceEqDiff, Nat.reduceAdd, Nat.reduceSub, Nat.reduceMul, Nat.reduceBEq, Int.reduceLT, Int.reduceLE, Int.reduceEq, Int.reduceNeg, Int.reduceAdd, Int.reduceSub, Int.reduceMul, Bool.false_eq_true, Bool.not_true, Bool.not_false, decide_eq_true_eq, and_self, true_and, and_true, reduceCtorEq, ne_eq, not_false_eq_true, not_true_eq_false, decide_true, decide_false, or_false, false_or, NUM, SIN, c_saneV, hb, c1, c2, c_same0]
theorem w_settle (l : List Stk) (ps : List Pst) (w : List Int) : ap Try.prog pol 5 [.vs 4 (l.map stk) none, .vs 3 (ps.map pst) none, .vs 1 (w.map I) none] = some (.ret (.bool true)) := by
  obtain ⟨b, hb⟩ := c_fewA l ps w none none none
  cases b
  · rw [ap_eq _ Try.func5 rfl Try.ntmps5 Try.results5 (by kernel_rfl) rfl (by exact Nat.le_of_ble_eq_true rfl)]
    simp (config := { maxSteps := 1000000 }) only [RUN, PATHS, BASE, FA, POL, start_tm, Heap.empty, reduceIte, Nat.reduceLT, Nat.reduceLeDiff, Nat.reduceEqDiff, Nat.reduceAdd, Nat.reduceSub, Nat.reduceMul, Nat.reduceBEq, Int.reduceLT, Int.reduceLE, Int.reduceEq, Int.reduceNeg, Int.reduceAdd, Int.reduceSub, Int.reduceMul, Bool.false_eq_true, Bool.not_true, Bool.not_false, decide_eq_true_eq, and_self, true_and, and_true, reduceCtorEq, ne_eq, not_false_eq_true, not_true_eq_false, decide_true, decide_false, or_false, false_or, NUM, SIN, SST, SPS, c_saneV, hb]
  by_cases h : CHK l ps = 0
  rotate_left
  · have c1 := c_settle1 l ps w none none none h
    have c2 := c_rSettle1 l ps w none none none h
    rw [ap_eq _ Try.func5 rfl Try.ntmps5 Try.results5 (by kernel_rfl) rfl (by exact Nat.le_of_ble_eq_true rfl)]
    simp (config := { maxSteps := 1000000 }) only [RUN, PATHS, BASE, FA, POL, start_tm, Heap.empty, reduceIte, Nat.reduceLT, Nat.reduceLeDiff, Nat.reduceEqDiff, Nat.reduceAdd, Nat.reduceSub, Nat.reduceMul, Nat.reduceBEq, Int.reduceLT, Int.reduceLE, Int.reduceEq, Int.reduceNeg, Int.reduceAdd, Int.reduceSub, Int.reduceMul, Bool.false_eq_true, Bool.not_true, Bool.not_false, decide_eq_true_eq, and_self, true_and, and_true, reduceCtorEq, ne_eq, not_false_eq_true, not_true_eq_false, decide_true, decide_false, or_false, false_or, NUM, SIN, SST, SPS, c_saneV, hb, c1, c2, c_same0]
  by_cases h2 : CKW 0 w = 0
  rotate_left
  · have c1 := c_settle2 l ps w none none none h h2
    have c2 := c_rSettle2 l ps w none none none h h2
    rw [ap_eq _ Try.func5 rfl Try.ntmps5 Try.results5 (by kernel_rfl) rfl (by exact Nat.le_of_ble_eq_true rfl)]
    simp (config := { maxSteps := 1000000 }) only [RUN, PATHS, BASE, FA, POL, start_tm, Heap.empty, reduceIte, Nat.reduceLT, Nat.reduceLeDiff, Nat.reduceEqDiff, Nat.reduceAdd, Nat.reduceSub, Nat.reduceMul, Nat.reduceBEq, Int.reduceLT, Int.reduceLE, Int.reduceEq, Int.reduceNeg, Int.reduceAdd, Int.reduceSub, Int.reduceMul, Bool.false_eq_true, Bool.not_true, Bool.not_false, decide_eq_true_eq, and_self, true_and, and_true, reduceCtorEq, ne_eq, not_false_eq_true, not_true_eq_false, decide_true, decide_false, or_false, false_or, NUM, SIN, SST, SPS, c_saneV, hb, c1, c2, c_same0]
  have c1 := c_settle3 l ps w none none none h h2
  obtain ⟨cp, c2⟩ := c_rSettle3 l ps w none none none h h2
  obtain ⟨⟨hl, hg⟩, ⟨hp, ok⟩, hi⟩ := CHK_0 h
  have bt := PAID_sum hg ok l.length
  rw [List.take_length] at bt
  have cw := CKW_T h2 (T := SUMI (PAID l ps)) (by omega)
  have lo := OUTS_len cw
  have hl' := (CKW_0 h2).1
  have cs := c_same (PAID l ps) (PAID l ps) none cp (by simp [PAID]; omega)
  rw [decide_eq_true rfl] at cs
  have cs2 := c_same (OUTS (SUMI (PAID l ps)) w) (OUTS (SUMI (PAID l ps)) w) none none (by omega)
  rw [decide_eq_true rfl] at cs2
  rw [ap_eq _ Try.func5 rfl Try.ntmps5 Try.results5 (by kernel_rfl) rfl (by exact Nat.le_of_ble_eq_true rfl)]
  simp (config := { maxSteps := 1000000 }) only [RUN, PATHS, BASE, FA, POL, start_tm, Heap.empty, reduceIte, Nat.reduceLT, Nat.reduceLeDiff, Nat.reduceEqDiff, Nat.reduceAdd, Nat.reduceSub, Nat.reduceMul, Nat.reduceBEq, Int.reduceLT, Int.reduceLE, Int.reduceEq, Int.reduceNeg, Int.reduceAdd, Int.reduceSub, Int.reduceMul, Bool.false_eq_true, Bool.not_true, Bool.not_false, decide_eq_true_eq, and_self, true_and, and_true, reduceCtorEq, ne_eq, not_false_eq_true, not_true_eq_false, decide_true, decide_false, or_false, false_or, NUM, SIN, SST, SPS, c_saneV, hb, c1, c2, cs, cs2]
end Go.Proofs.Ytnabgahkdomeoaa
