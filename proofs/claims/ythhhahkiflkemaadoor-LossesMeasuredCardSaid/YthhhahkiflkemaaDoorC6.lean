/-
  Lost, Worst, Best, Need, Reachable and Most, and their specification.
-/
import Derived.Test.YthhhahkiflkemaaDoorC5
set_option linter.unusedSimpArgs false
set_option linter.unusedVariables false
set_option linter.unusedSectionVars false
namespace Go.Proofs.YthhhahkiflkemaaDoor
open Go GoV
set_option maxRecDepth 100000

theorem VC_0 (x : Rch) (n : Int) : VC x n = 0 ↔ RIGHT x ∧ 0 ≤ n ∧ n ≤ 1073741824 := by
  unfold VC
  by_cases h : RIGHT x
  · by_cases h2 : 0 ≤ n ∧ n ≤ 1073741824 <;> simp [h, h2]
  · simp [h]
abbrev rng (a b : Int) : PV := .agg [I a, I b]
theorem c_Lost (x : Rch) (hx : x.OK) (v : Int) : ap Tryd.prog pol 17 [rch x, I v] = some (.ret (if VC x v = 0 then .tup [rng (LO (los x) v) (HI (los x) v), I 0] else .tup [rng 0 0, I (VC x v)])) := by
  rw [ap_eq _ Tryd.func17 rfl Tryd.ntmps17 Tryd.results17 (by kernel_rfl) rfl (by exact Nat.le_of_ble_eq_true rfl)]
  by_cases h : VC x v = 0
  · obtain ⟨h1, h2⟩ := (VC_0 x v).1 h
    simp (config := { maxSteps := 1000000 }) only [RUN, PATHS, BASE, FA, POL, start_tm, Heap.empty, reduceIte, Nat.reduceLT, Nat.reduceLeDiff, Nat.reduceEqDiff, Nat.reduceAdd, Nat.reduceSub, Nat.reduceMul, Nat.reduceBEq, Int.reduceLT, Int.reduceLE, Int.reduceEq, Int.reduceNeg, Int.reduceAdd, Int.reduceSub, Int.reduceMul, Bool.false_eq_true, Bool.not_true, Bool.not_false, decide_eq_true_eq, and_self, true_and, and_true, reduceCtorEq, ne_eq, not_false_eq_true, not_true_eq_false, decide_true, decide_false, or_false, false_or, NUM, c_valid47 x hx v, c_lost x h1 v h2 hx, h]
  · simp (config := { maxSteps := 1000000 }) only [RUN, PATHS, BASE, FA, POL, start_tm, Heap.empty, reduceIte, Nat.reduceLT, Nat.reduceLeDiff, Nat.reduceEqDiff, Nat.reduceAdd, Nat.reduceSub, Nat.reduceMul, Nat.reduceBEq, Int.reduceLT, Int.reduceLE, Int.reduceEq, Int.reduceNeg, Int.reduceAdd, Int.reduceSub, Int.reduceMul, Bool.false_eq_true, Bool.not_true, Bool.not_false, decide_eq_true_eq, and_self, true_and, and_true, reduceCtorEq, ne_eq, not_false_eq_true, not_true_eq_false, decide_true, decide_false, or_false, false_or, NUM, c_valid47 x hx v, h]
theorem c_refLost (x : Rch) (hx : x.OK) (v : Int) : ap Tryd.prog pol 18 [rch x, I v] = some (.ret (if VC x v = 0 then .tup [rng (LO (los x) v) (HI (los x) v), I 0] else .tup [rng 0 0, I (VC x v)])) := by
  rw [ap_eq _ Tryd.func18 rfl Tryd.ntmps18 Tryd.results18 (by kernel_rfl) rfl (by exact Nat.le_of_ble_eq_true rfl)]
  by_cases h1 : RIGHT x
  · by_cases h2 : 0 ≤ v
    · by_cases h3 : v ≤ 1073741824
      · have h := (VC_0 x v).2 ⟨h1, h2, h3⟩
        simp (config := { maxSteps := 1000000 }) only [RUN, PATHS, BASE, FA, POL, start_tm, Heap.empty, reduceIte, Nat.reduceLT, Nat.reduceLeDiff, Nat.reduceEqDiff, Nat.reduceAdd, Nat.reduceSub, Nat.reduceMul, Nat.reduceBEq, Int.reduceLT, Int.reduceLE, Int.reduceEq, Int.reduceNeg, Int.reduceAdd, Int.reduceSub, Int.reduceMul, Bool.false_eq_true, Bool.not_true, Bool.not_false, decide_eq_true_eq, and_self, true_and, and_true, reduceCtorEq, ne_eq, not_false_eq_true, not_true_eq_false, decide_true, decide_false, or_false, false_or, NUM, c_right x hx, h1, c_reflost x h1 v ⟨h2, h3⟩, h, (show ¬ v < 0 by omega), (show ¬ 1073741824 < v by omega)]
      · have h : VC x v = 1 := by unfold VC; rw [if_pos h1, if_neg (by omega)]
        simp (config := { maxSteps := 1000000 }) only [RUN, PATHS, BASE, FA, POL, start_tm, Heap.empty, reduceIte, Nat.reduceLT, Nat.reduceLeDiff, Nat.reduceEqDiff, Nat.reduceAdd, Nat.reduceSub, Nat.reduceMul, Nat.reduceBEq, Int.reduceLT, Int.reduceLE, Int.reduceEq, Int.reduceNeg, Int.reduceAdd, Int.reduceSub, Int.reduceMul, Bool.false_eq_true, Bool.not_true, Bool.not_false, decide_eq_true_eq, and_self, true_and, and_true, reduceCtorEq, ne_eq, not_false_eq_true, not_true_eq_false, decide_true, decide_false, or_false, false_or, NUM, c_right x hx, h1, h, (show ¬ v < 0 by omega), (show 1073741824 < v by omega), (show ¬ (1 : Int) = 0 by decide)]
    · have h : VC x v = 1 := by unfold VC; rw [if_pos h1, if_neg (by omega)]
      simp (config := { maxSteps := 1000000 }) only [RUN, PATHS, BASE, FA, POL, start_tm, Heap.empty, reduceIte, Nat.reduceLT, Nat.reduceLeDiff, Nat.reduceEqDiff, Nat.reduceAdd, Nat.reduceSub, Nat.reduceMul, Nat.reduceBEq, Int.reduceLT, Int.reduceLE, Int.reduceEq, Int.reduceNeg, Int.reduceAdd, Int.reduceSub, Int.reduceMul, Bool.false_eq_true, Bool.not_true, Bool.not_false, decide_eq_true_eq, and_self, true_and, and_true, reduceCtorEq, ne_eq, not_false_eq_true, not_true_eq_false, decide_true, decide_false, or_false, false_or, NUM, c_right x hx, h1, h, (show v < 0 by omega), (show ¬ (1 : Int) = 0 by decide)]
  · have h : VC x v = 210 := by unfold VC; rw [if_neg h1]
    simp (config := { maxSteps := 1000000 }) only [RUN, PATHS, BASE, FA, POL, start_tm, Heap.empty, reduceIte, Nat.reduceLT, Nat.reduceLeDiff, Nat.reduceEqDiff, Nat.reduceAdd, Nat.reduceSub, Nat.reduceMul, Nat.reduceBEq, Int.reduceLT, Int.reduceLE, Int.reduceEq, Int.reduceNeg, Int.reduceAdd, Int.reduceSub, Int.reduceMul, Bool.false_eq_true, Bool.not_true, Bool.not_false, decide_eq_true_eq, and_self, true_and, and_true, reduceCtorEq, ne_eq, not_false_eq_true, not_true_eq_false, decide_true, decide_false, or_false, false_or, NUM, c_right x hx, h1, h, (show ¬ (210 : Int) = 0 by decide)]
theorem c_Worst (x : Rch) (hx : x.OK) (v : Int) : ap Tryd.prog pol 19 [rch x, I v] = some (.ret (if VC x v = 0 then .tup [I (WO (los x) v), I 0] else .tup [I 0, I (VC x v)])) := by
  rw [ap_eq _ Tryd.func19 rfl Tryd.ntmps19 Tryd.results19 (by kernel_rfl) rfl (by exact Nat.le_of_ble_eq_true rfl)]
  by_cases h : VC x v = 0
  · obtain ⟨h1, h2⟩ := (VC_0 x v).1 h
    have b := HI_bd h1.RT h2.1
    simp (config := { maxSteps := 1000000 }) only [RUN, PATHS, BASE, FA, POL, start_tm, Heap.empty, reduceIte, Nat.reduceLT, Nat.reduceLeDiff, Nat.reduceEqDiff, Nat.reduceAdd, Nat.reduceSub, Nat.reduceMul, Nat.reduceBEq, Int.reduceLT, Int.reduceLE, Int.reduceEq, Int.reduceNeg, Int.reduceAdd, Int.reduceSub, Int.reduceMul, Bool.false_eq_true, Bool.not_true, Bool.not_false, decide_eq_true_eq, and_self, true_and, and_true, reduceCtorEq, ne_eq, not_false_eq_true, not_true_eq_false, decide_true, decide_false, or_false, false_or, NUM, c_valid47 x hx v, c_lost x h1 v h2 hx, h, i64_in (x := v - HI (los x) v) (by unfold I64; omega)]
    rfl
  · simp (config := { maxSteps := 1000000 }) only [RUN, PATHS, BASE, FA, POL, start_tm, Heap.empty, reduceIte, Nat.reduceLT, Nat.reduceLeDiff, Nat.reduceEqDiff, Nat.reduceAdd, Nat.reduceSub, Nat.reduceMul, Nat.reduceBEq, Int.reduceLT, Int.reduceLE, Int.reduceEq, Int.reduceNeg, Int.reduceAdd, Int.reduceSub, Int.reduceMul, Bool.false_eq_true, Bool.not_true, Bool.not_false, decide_eq_true_eq, and_self, true_and, and_true, reduceCtorEq, ne_eq, not_false_eq_true, not_true_eq_false, decide_true, decide_false, or_false, false_or, NUM, c_valid47 x hx v, h]
theorem c_refWorst (x : Rch) (hx : x.OK) (v : Int) : ap Tryd.prog pol 20 [rch x, I v] = some (.ret (if VC x v = 0 then .tup [I (WO (los x) v), I 0] else .tup [I 0, I (VC x v)])) := by
  rw [ap_eq _ Tryd.func20 rfl Tryd.ntmps20 Tryd.results20 (by kernel_rfl) rfl (by exact Nat.le_of_ble_eq_true rfl)]
  by_cases h : VC x v = 0
  · obtain ⟨h1, h2⟩ := (VC_0 x v).1 h
    have b := HI_bd h1.RT h2.1
    simp (config := { maxSteps := 1000000 }) only [RUN, PATHS, BASE, FA, POL, start_tm, Heap.empty, reduceIte, Nat.reduceLT, Nat.reduceLeDiff, Nat.reduceEqDiff, Nat.reduceAdd, Nat.reduceSub, Nat.reduceMul, Nat.reduceBEq, Int.reduceLT, Int.reduceLE, Int.reduceEq, Int.reduceNeg, Int.reduceAdd, Int.reduceSub, Int.reduceMul, Bool.false_eq_true, Bool.not_true, Bool.not_false, decide_eq_true_eq, and_self, true_and, and_true, reduceCtorEq, ne_eq, not_false_eq_true, not_true_eq_false, decide_true, decide_false, or_false, false_or, NUM, c_refLost x hx v, h, i64_in (x := v - HI (los x) v) (by unfold I64; omega)]
    rfl
  · simp (config := { maxSteps := 1000000 }) only [RUN, PATHS, BASE, FA, POL, start_tm, Heap.empty, reduceIte, Nat.reduceLT, Nat.reduceLeDiff, Nat.reduceEqDiff, Nat.reduceAdd, Nat.reduceSub, Nat.reduceMul, Nat.reduceBEq, Int.reduceLT, Int.reduceLE, Int.reduceEq, Int.reduceNeg, Int.reduceAdd, Int.reduceSub, Int.reduceMul, Bool.false_eq_true, Bool.not_true, Bool.not_false, decide_eq_true_eq, and_self, true_and, and_true, reduceCtorEq, ne_eq, not_false_eq_true, not_true_eq_false, decide_true, decide_false, or_false, false_or, NUM, c_refLost x hx v, h]
theorem c_Best (x : Rch) (hx : x.OK) (v : Int) : ap Tryd.prog pol 21 [rch x, I v] = some (.ret (if VC x v = 0 then .tup [I (BE (los x) v), I 0] else .tup [I 0, I (VC x v)])) := by
  rw [ap_eq _ Tryd.func21 rfl Tryd.ntmps21 Tryd.results21 (by kernel_rfl) rfl (by exact Nat.le_of_ble_eq_true rfl)]
  by_cases h : VC x v = 0
  · obtain ⟨h1, h2⟩ := (VC_0 x v).1 h
    have b := LO_bd h1.RT h2.1
    simp (config := { maxSteps := 1000000 }) only [RUN, PATHS, BASE, FA, POL, start_tm, Heap.empty, reduceIte, Nat.reduceLT, Nat.reduceLeDiff, Nat.reduceEqDiff, Nat.reduceAdd, Nat.reduceSub, Nat.reduceMul, Nat.reduceBEq, Int.reduceLT, Int.reduceLE, Int.reduceEq, Int.reduceNeg, Int.reduceAdd, Int.reduceSub, Int.reduceMul, Bool.false_eq_true, Bool.not_true, Bool.not_false, decide_eq_true_eq, and_self, true_and, and_true, reduceCtorEq, ne_eq, not_false_eq_true, not_true_eq_false, decide_true, decide_false, or_false, false_or, NUM, c_valid47 x hx v, c_lost x h1 v h2 hx, h, i64_in (x := v - LO (los x) v) (by unfold I64; omega)]
    rfl
  · simp (config := { maxSteps := 1000000 }) only [RUN, PATHS, BASE, FA, POL, start_tm, Heap.empty, reduceIte, Nat.reduceLT, Nat.reduceLeDiff, Nat.reduceEqDiff, Nat.reduceAdd, Nat.reduceSub, Nat.reduceMul, Nat.reduceBEq, Int.reduceLT, Int.reduceLE, Int.reduceEq, Int.reduceNeg, Int.reduceAdd, Int.reduceSub, Int.reduceMul, Bool.false_eq_true, Bool.not_true, Bool.not_false, decide_eq_true_eq, and_self, true_and, and_true, reduceCtorEq, ne_eq, not_false_eq_true, not_true_eq_false, decide_true, decide_false, or_false, false_or, NUM, c_valid47 x hx v, h]
theorem c_refBest (x : Rch) (hx : x.OK) (v : Int) : ap Tryd.prog pol 22 [rch x, I v] = some (.ret (if VC x v = 0 then .tup [I (BE (los x) v), I 0] else .tup [I 0, I (VC x v)])) := by
  rw [ap_eq _ Tryd.func22 rfl Tryd.ntmps22 Tryd.results22 (by kernel_rfl) rfl (by exact Nat.le_of_ble_eq_true rfl)]
  by_cases h : VC x v = 0
  · obtain ⟨h1, h2⟩ := (VC_0 x v).1 h
    have b := LO_bd h1.RT h2.1
    simp (config := { maxSteps := 1000000 }) only [RUN, PATHS, BASE, FA, POL, start_tm, Heap.empty, reduceIte, Nat.reduceLT, Nat.reduceLeDiff, Nat.reduceEqDiff, Nat.reduceAdd, Nat.reduceSub, Nat.reduceMul, Nat.reduceBEq, Int.reduceLT, Int.reduceLE, Int.reduceEq, Int.reduceNeg, Int.reduceAdd, Int.reduceSub, Int.reduceMul, Bool.false_eq_true, Bool.not_true, Bool.not_false, decide_eq_true_eq, and_self, true_and, and_true, reduceCtorEq, ne_eq, not_false_eq_true, not_true_eq_false, decide_true, decide_false, or_false, false_or, NUM, c_refLost x hx v, h, i64_in (x := v - LO (los x) v) (by unfold I64; omega)]
    rfl
  · simp (config := { maxSteps := 1000000 }) only [RUN, PATHS, BASE, FA, POL, start_tm, Heap.empty, reduceIte, Nat.reduceLT, Nat.reduceLeDiff, Nat.reduceEqDiff, Nat.reduceAdd, Nat.reduceSub, Nat.reduceMul, Nat.reduceBEq, Int.reduceLT, Int.reduceLE, Int.reduceEq, Int.reduceNeg, Int.reduceAdd, Int.reduceSub, Int.reduceMul, Bool.false_eq_true, Bool.not_true, Bool.not_false, decide_eq_true_eq, and_self, true_and, and_true, reduceCtorEq, ne_eq, not_false_eq_true, not_true_eq_false, decide_true, decide_false, or_false, false_or, NUM, c_refLost x hx v, h]
theorem c_least (f : Nat) (hf : f = 52 ∨ f = 54 ∨ f = 55) (x : Rch) (hx : x.OK) (h : RIGHT x) (w : Int) :
    ∃ r, ap Tryd.prog pol 51 [I w, .fn f [.rop (rchc x)]] = some (.ret (I r)) ∧ IsL (fun v => w < ARR f (los x) v) 1073741825 r := by
  obtain ⟨r, e, hl⟩ := c_search f hf x hx h w
  refine ⟨r, ?_, hl⟩
  rw [ap_eq _ Tryd.func51 rfl Tryd.ntmps51 Tryd.results51 (by kernel_rfl) rfl (by exact Nat.le_of_ble_eq_true rfl)]
  simp (config := { maxSteps := 1000000 }) only [RUN, PATHS, BASE, FA, POL, start_tm, Heap.empty, reduceIte, Nat.reduceLT, Nat.reduceLeDiff, Nat.reduceEqDiff, Nat.reduceAdd, Nat.reduceSub, Nat.reduceMul, Nat.reduceBEq, Int.reduceLT, Int.reduceLE, Int.reduceEq, Int.reduceNeg, Int.reduceAdd, Int.reduceSub, Int.reduceMul, Bool.false_eq_true, Bool.not_true, Bool.not_false, decide_eq_true_eq, and_self, true_and, and_true, reduceCtorEq, ne_eq, not_false_eq_true, not_true_eq_false, decide_true, decide_false, or_false, false_or, NUM, e]
theorem c_need (x : Rch) (hx : x.OK) (w : Int) : (VC x w ≠ 0 ∧ ap Tryd.prog pol 23 [rch x, I w] = some (.ret (.tup [I 0, .bool false, I (VC x w)]))) ∨
    (VC x w = 0 ∧ ∃ r, IsL (fun v => w - 1 < WO (los x) v) 1073741825 r ∧ ap Tryd.prog pol 23 [rch x, I w] = some (.ret (if r ≤ 1073741824 then .tup [I r, .bool true, I 0] else .tup [I 0, .bool false, I 0]))) := by
  by_cases h : VC x w = 0
  · right
    refine ⟨h, ?_⟩
    obtain ⟨h1, h2⟩ := (VC_0 x w).1 h
    obtain ⟨r, er, hl⟩ := c_least 52 (by decide) x hx h1 (w - 1)
    refine ⟨r, hl, ?_⟩
    rw [ap_eq _ Tryd.func23 rfl Tryd.ntmps23 Tryd.results23 (by kernel_rfl) rfl (by exact Nat.le_of_ble_eq_true rfl)]
    by_cases hr : r ≤ 1073741824
    · simp (config := { maxSteps := 1000000 }) only [RUN, PATHS, BASE, FA, POL, start_tm, Heap.empty, reduceIte, Nat.reduceLT, Nat.reduceLeDiff, Nat.reduceEqDiff, Nat.reduceAdd, Nat.reduceSub, Nat.reduceMul, Nat.reduceBEq, Int.reduceLT, Int.reduceLE, Int.reduceEq, Int.reduceNeg, Int.reduceAdd, Int.reduceSub, Int.reduceMul, Bool.false_eq_true, Bool.not_true, Bool.not_false, decide_eq_true_eq, and_self, true_and, and_true, reduceCtorEq, ne_eq, not_false_eq_true, not_true_eq_false, decide_true, decide_false, or_false, false_or, NUM, c_valid47 x hx w, h, i64_in (x := w - 1) (by unfold I64; omega), er, (show ¬ 1073741824 < r by omega), hr]
    · simp (config := { maxSteps := 1000000 }) only [RUN, PATHS, BASE, FA, POL, start_tm, Heap.empty, reduceIte, Nat.reduceLT, Nat.reduceLeDiff, Nat.reduceEqDiff, Nat.reduceAdd, Nat.reduceSub, Nat.reduceMul, Nat.reduceBEq, Int.reduceLT, Int.reduceLE, Int.reduceEq, Int.reduceNeg, Int.reduceAdd, Int.reduceSub, Int.reduceMul, Bool.false_eq_true, Bool.not_true, Bool.not_false, decide_eq_true_eq, and_self, true_and, and_true, reduceCtorEq, ne_eq, not_false_eq_true, not_true_eq_false, decide_true, decide_false, or_false, false_or, NUM, c_valid47 x hx w, h, i64_in (x := w - 1) (by unfold I64; omega), er, (show 1073741824 < r by omega), hr]
  · left
    refine ⟨h, ?_⟩
    rw [ap_eq _ Tryd.func23 rfl Tryd.ntmps23 Tryd.results23 (by kernel_rfl) rfl (by exact Nat.le_of_ble_eq_true rfl)]
    simp (config := { maxSteps := 1000000 }) only [RUN, PATHS, BASE, FA, POL, start_tm, Heap.empty, reduceIte, Nat.reduceLT, Nat.reduceLeDiff, Nat.reduceEqDiff, Nat.reduceAdd, Nat.reduceSub, Nat.reduceMul, Nat.reduceBEq, Int.reduceLT, Int.reduceLE, Int.reduceEq, Int.reduceNeg, Int.reduceAdd, Int.reduceSub, Int.reduceMul, Bool.false_eq_true, Bool.not_true, Bool.not_false, decide_eq_true_eq, and_self, true_and, and_true, reduceCtorEq, ne_eq, not_false_eq_true, not_true_eq_false, decide_true, decide_false, or_false, false_or, NUM, c_valid47 x hx w, h]
theorem c_reach (x : Rch) (hx : x.OK) (w : Int) : (VC x w ≠ 0 ∧ ap Tryd.prog pol 25 [rch x, I w] = some (.ret (.tup [I 0, .bool false, I (VC x w)]))) ∨
    (VC x w = 0 ∧ ∃ r, IsL (fun v => w - 1 < BE (los x) v) 1073741825 r ∧ ap Tryd.prog pol 25 [rch x, I w] = some (.ret (if r ≤ 1073741824 then .tup [I r, .bool true, I 0] else .tup [I 0, .bool false, I 0]))) := by
  by_cases h : VC x w = 0
  · right
    refine ⟨h, ?_⟩
    obtain ⟨h1, h2⟩ := (VC_0 x w).1 h
    obtain ⟨r, er, hl⟩ := c_least 54 (by decide) x hx h1 (w - 1)
    refine ⟨r, hl, ?_⟩
    rw [ap_eq _ Tryd.func25 rfl Tryd.ntmps25 Tryd.results25 (by kernel_rfl) rfl (by exact Nat.le_of_ble_eq_true rfl)]
    by_cases hr : r ≤ 1073741824
    · simp (config := { maxSteps := 1000000 }) only [RUN, PATHS, BASE, FA, POL, start_tm, Heap.empty, reduceIte, Nat.reduceLT, Nat.reduceLeDiff, Nat.reduceEqDiff, Nat.reduceAdd, Nat.reduceSub, Nat.reduceMul, Nat.reduceBEq, Int.reduceLT, Int.reduceLE, Int.reduceEq, Int.reduceNeg, Int.reduceAdd, Int.reduceSub, Int.reduceMul, Bool.false_eq_true, Bool.not_true, Bool.not_false, decide_eq_true_eq, and_self, true_and, and_true, reduceCtorEq, ne_eq, not_false_eq_true, not_true_eq_false, decide_true, decide_false, or_false, false_or, NUM, c_valid47 x hx w, h, i64_in (x := w - 1) (by unfold I64; omega), er, (show ¬ 1073741824 < r by omega), hr]
    · simp (config := { maxSteps := 1000000 }) only [RUN, PATHS, BASE, FA, POL, start_tm, Heap.empty, reduceIte, Nat.reduceLT, Nat.reduceLeDiff, Nat.reduceEqDiff, Nat.reduceAdd, Nat.reduceSub, Nat.reduceMul, Nat.reduceBEq, Int.reduceLT, Int.reduceLE, Int.reduceEq, Int.reduceNeg, Int.reduceAdd, Int.reduceSub, Int.reduceMul, Bool.false_eq_true, Bool.not_true, Bool.not_false, decide_eq_true_eq, and_self, true_and, and_true, reduceCtorEq, ne_eq, not_false_eq_true, not_true_eq_false, decide_true, decide_false, or_false, false_or, NUM, c_valid47 x hx w, h, i64_in (x := w - 1) (by unfold I64; omega), er, (show 1073741824 < r by omega), hr]
  · left
    refine ⟨h, ?_⟩
    rw [ap_eq _ Tryd.func25 rfl Tryd.ntmps25 Tryd.results25 (by kernel_rfl) rfl (by exact Nat.le_of_ble_eq_true rfl)]
    simp (config := { maxSteps := 1000000 }) only [RUN, PATHS, BASE, FA, POL, start_tm, Heap.empty, reduceIte, Nat.reduceLT, Nat.reduceLeDiff, Nat.reduceEqDiff, Nat.reduceAdd, Nat.reduceSub, Nat.reduceMul, Nat.reduceBEq, Int.reduceLT, Int.reduceLE, Int.reduceEq, Int.reduceNeg, Int.reduceAdd, Int.reduceSub, Int.reduceMul, Bool.false_eq_true, Bool.not_true, Bool.not_false, decide_eq_true_eq, and_self, true_and, and_true, reduceCtorEq, ne_eq, not_false_eq_true, not_true_eq_false, decide_true, decide_false, or_false, false_or, NUM, c_valid47 x hx w, h]
theorem c_most (x : Rch) (hx : x.OK) (w : Int) : (VC x w ≠ 0 ∧ ap Tryd.prog pol 27 [rch x, I w] = some (.ret (.tup [I 0, I (VC x w)]))) ∨
    (VC x w = 0 ∧ ∃ r, IsL (fun v => w < WO (los x) v) 1073741825 r ∧ ap Tryd.prog pol 27 [rch x, I w] = some (.ret (.tup [I (r - 1), I 0]))) := by
  by_cases h : VC x w = 0
  · right
    refine ⟨h, ?_⟩
    obtain ⟨h1, h2⟩ := (VC_0 x w).1 h
    obtain ⟨r, er, hl⟩ := c_least 55 (by decide) x hx h1 w
    have b1 := hl.lo
    have b2 := hl.hi
    refine ⟨r, hl, ?_⟩
    rw [ap_eq _ Tryd.func27 rfl Tryd.ntmps27 Tryd.results27 (by kernel_rfl) rfl (by exact Nat.le_of_ble_eq_true rfl)]
    simp (config := { maxSteps := 1000000 }) only [RUN, PATHS, BASE, FA, POL, start_tm, Heap.empty, reduceIte, Nat.reduceLT, Nat.reduceLeDiff, Nat.reduceEqDiff, Nat.reduceAdd, Nat.reduceSub, Nat.reduceMul, Nat.reduceBEq, Int.reduceLT, Int.reduceLE, Int.reduceEq, Int.reduceNeg, Int.reduceAdd, Int.reduceSub, Int.reduceMul, Bool.false_eq_true, Bool.not_true, Bool.not_false, decide_eq_true_eq, and_self, true_and, and_true, reduceCtorEq, ne_eq, not_false_eq_true, not_true_eq_false, decide_true, decide_false, or_false, false_or, NUM, c_valid47 x hx w, h, er, i64_in (x := r - 1) (by unfold I64; omega)]
  · left
    refine ⟨h, ?_⟩
    rw [ap_eq _ Tryd.func27 rfl Tryd.ntmps27 Tryd.results27 (by kernel_rfl) rfl (by exact Nat.le_of_ble_eq_true rfl)]
    simp (config := { maxSteps := 1000000 }) only [RUN, PATHS, BASE, FA, POL, start_tm, Heap.empty, reduceIte, Nat.reduceLT, Nat.reduceLeDiff, Nat.reduceEqDiff, Nat.reduceAdd, Nat.reduceSub, Nat.reduceMul, Nat.reduceBEq, Int.reduceLT, Int.reduceLE, Int.reduceEq, Int.reduceNeg, Int.reduceAdd, Int.reduceSub, Int.reduceMul, Bool.false_eq_true, Bool.not_true, Bool.not_false, decide_eq_true_eq, and_self, true_and, and_true, reduceCtorEq, ne_eq, not_false_eq_true, not_true_eq_false, decide_true, decide_false, or_false, false_or, NUM, c_valid47 x hx w, h]
/-- What arrives, by a flag. -/
def AB (best : Bool) (r : Los) (v : Int) : Int := if best then BE r v else WO r v
theorem AB_mono {best : Bool} {r : Los} (h : r.RT) {a b : Int} (ha : 0 ≤ a) (hab : a ≤ b) : AB best r a ≤ AB best r b := by
  unfold AB; split
  · exact BE_mono h ha hab
  · exact WO_mono h ha hab
theorem c_arrives (x : Rch) (h : RIGHT x) (v : Int) (hv : 0 ≤ v ∧ v ≤ 1073741824) (best : Bool) : ap Tryd.prog pol 72 [rch x, I v, .bool best] = some (.ret (I (AB best (los x) v))) := by
  have b1 := LO_bd h.RT hv.1
  have b2 := HI_bd h.RT hv.1
  rw [ap_eq _ Tryd.func72 rfl Tryd.ntmps72 Tryd.results72 (by kernel_rfl) rfl (by exact Nat.le_of_ble_eq_true rfl)]
  cases best
  · simp (config := { maxSteps := 1000000 }) only [RUN, PATHS, BASE, FA, POL, start_tm, Heap.empty, reduceIte, Nat.reduceLT, Nat.reduceLeDiff, Nat.reduceEqDiff, Nat.reduceAdd, Nat.reduceSub, Nat.reduceMul, Nat.reduceBEq, Int.reduceLT, Int.reduceLE, Int.reduceEq, Int.reduceNeg, Int.reduceAdd, Int.reduceSub, Int.reduceMul, Bool.false_eq_true, Bool.not_true, Bool.not_false, decide_eq_true_eq, and_self, true_and, and_true, reduceCtorEq, ne_eq, not_false_eq_true, not_true_eq_false, decide_true, decide_false, or_false, false_or, NUM, c_reflost x h v hv, i64_in (x := v - HI (los x) v) (by unfold I64; omega)]
    rfl
  · simp (config := { maxSteps := 1000000 }) only [RUN, PATHS, BASE, FA, POL, start_tm, Heap.empty, reduceIte, Nat.reduceLT, Nat.reduceLeDiff, Nat.reduceEqDiff, Nat.reduceAdd, Nat.reduceSub, Nat.reduceMul, Nat.reduceBEq, Int.reduceLT, Int.reduceLE, Int.reduceEq, Int.reduceNeg, Int.reduceAdd, Int.reduceSub, Int.reduceMul, Bool.false_eq_true, Bool.not_true, Bool.not_false, decide_eq_true_eq, and_self, true_and, and_true, reduceCtorEq, ne_eq, not_false_eq_true, not_true_eq_false, decide_true, decide_false, or_false, false_or, NUM, c_reflost x h v hv, i64_in (x := v - LO (los x) v) (by unfold I64; omega)]
    rfl
theorem c_refleast (x : Rch) (h : RIGHT x) (w : Int) (best : Bool) : ∃ r, IsL (fun v => w ≤ AB best (los x) v) 1073741825 r ∧ ap Tryd.prog pol 56 [rch x, I w, .bool best] = some (.ret (I (if r ≤ 1073741824 then r else -1))) := by
  have ca := c_arrives x h 1073741824 ⟨by decide, by decide⟩ best
  by_cases h0 : AB best (los x) 1073741824 < w
  · refine ⟨1073741825, ⟨by decide, by decide, fun i h1 h2 h3 => ?_, fun i h1 h2 => by omega⟩, ?_⟩
    · have := AB_mono (best := best) h.RT h1 (show i ≤ 1073741824 by omega)
      omega
    · rw [ap_eq _ Tryd.func56 rfl Tryd.ntmps56 Tryd.results56 (by kernel_rfl) rfl (by exact Nat.le_of_ble_eq_true rfl)]
      simp (config := { maxSteps := 1000000 }) only [RUN, PATHS, BASE, FA, POL, start_tm, Heap.empty, reduceIte, Nat.reduceLT, Nat.reduceLeDiff, Nat.reduceEqDiff, Nat.reduceAdd, Nat.reduceSub, Nat.reduceMul, Nat.reduceBEq, Int.reduceLT, Int.reduceLE, Int.reduceEq, Int.reduceNeg, Int.reduceAdd, Int.reduceSub, Int.reduceMul, Bool.false_eq_true, Bool.not_true, Bool.not_false, decide_eq_true_eq, and_self, true_and, and_true, reduceCtorEq, ne_eq, not_false_eq_true, not_true_eq_false, decide_true, decide_false, or_false, false_or, NUM, ca, h0]
  rw [ap_eq _ Tryd.func56 rfl Tryd.ntmps56 Tryd.results56 (by kernel_rfl) rfl (by exact Nat.le_of_ble_eq_true rfl)]
  simp (config := { maxSteps := 1000000 }) only [RUN, PATHS, BASE, FA, POL, start_tm, Heap.empty, reduceIte, Nat.reduceLT, Nat.reduceLeDiff, Nat.reduceEqDiff, Nat.reduceAdd, Nat.reduceSub, Nat.reduceMul, Nat.reduceBEq, Int.reduceLT, Int.reduceLE, Int.reduceEq, Int.reduceNeg, Int.reduceAdd, Int.reduceSub, Int.reduceMul, Bool.false_eq_true, Bool.not_true, Bool.not_false, decide_eq_true_eq, and_self, true_and, and_true, reduceCtorEq, ne_eq, not_false_eq_true, not_true_eq_false, decide_true, decide_false, or_false, false_or, NUM, ca, h0]
  generalize hL : W _ (.loop _) _ = L
  obtain ⟨ex, s, rfl, rfl, r, h7, hd, hf, hr, hl⟩ := loop_at hL (α := Int × Int) (fun p => (p.2 - p.1).toNat)
    (fun s0 p s => 0 ≤ p.1 ∧ p.1 ≤ p.2 ∧ p.2 ≤ 1073741824 ∧ s.tmps 7 = I p.1 ∧ s.tmps 8 = I p.2 ∧ s.tmps 1 = I w ∧ s.tmps 2 = .bool best ∧ s.tmps 3 = .bptr 0 3 0 0 ∧ s.boxes 3 = some (0, [.str x.nm, I x.up, I x.dl, I x.cp, I x.bk, I x.si, I x.e0, I x.e1, I x.s0, I x.s1, I x.s2, I x.s3]) ∧ s.defers = [] ∧ s.fid = 0 ∧ (∀ i, 0 ≤ i → i < p.1 → ¬ w ≤ AB best (los x) i) ∧ (w ≤ AB best (los x) p.2))
    (fun s0 ex s => ex = .exit 0 ∧ ∃ r, s.tmps 7 = I r ∧ s.defers = [] ∧ s.fid = 0 ∧ r ≤ 1073741824 ∧ IsL (fun v => w ≤ AB best (los x) v) 1073741825 r) (0, 1073741824)
    (by simp (config := { maxSteps := 1000000 }) only [RUN, PATHS, BASE, FA, POL, start_tm, Heap.empty, reduceIte, Nat.reduceLT, Nat.reduceLeDiff, Nat.reduceEqDiff, Nat.reduceAdd, Nat.reduceSub, Nat.reduceMul, Nat.reduceBEq, Int.reduceLT, Int.reduceLE, Int.reduceEq, Int.reduceNeg, Int.reduceAdd, Int.reduceSub, Int.reduceMul, Bool.false_eq_true, Bool.not_true, Bool.not_false, decide_eq_true_eq, and_self, true_and, and_true, reduceCtorEq, ne_eq, not_false_eq_true, not_true_eq_false, decide_true, decide_false, or_false, false_or]; exact ⟨fun i h1 h2 => by omega, by omega⟩) (by
      rintro ⟨a, b⟩ s r0 hW ⟨h0a, hab, hb, q7, q8, q1, q2, q3, qb, hd, hfi, no, yes⟩
      simp only at *
      by_cases hp : a < b
      · obtain ⟨m, em, hm⟩ : ∃ m, (a + b).tdiv 2 = m ∧ (a ≤ m ∧ m < b) := ⟨_, rfl, by rw [Int.tdiv_eq_ediv_of_nonneg (by omega)]; omega⟩
        have cm := c_arrives x h m (by omega) best
        by_cases hm' : w ≤ AB best (los x) m
        · simp (config := { maxSteps := 1000000 }) only [RUN, PATHS, BASE, FA, POL, start_tm, Heap.empty, reduceIte, Nat.reduceLT, Nat.reduceLeDiff, Nat.reduceEqDiff, Nat.reduceAdd, Nat.reduceSub, Nat.reduceMul, Nat.reduceBEq, Int.reduceLT, Int.reduceLE, Int.reduceEq, Int.reduceNeg, Int.reduceAdd, Int.reduceSub, Int.reduceMul, Bool.false_eq_true, Bool.not_true, Bool.not_false, decide_eq_true_eq, and_self, true_and, and_true, reduceCtorEq, ne_eq, not_false_eq_true, not_true_eq_false, decide_true, decide_false, or_false, false_or, NUM, q7, q8, q1, q2, q3, qb, hd, hfi, hp, i64_in (x := a + b) (by unfold I64; omega), em, i64_in (x := m) (by unfold I64; omega), cm, hm'] at hW
          subst hW
          refine rd_next (a, m) ?_ (show (m - a).toNat < (b - a).toNat by omega)
          simp (config := { maxSteps := 1000000 }) only [RUN, PATHS, BASE, FA, POL, start_tm, Heap.empty, reduceIte, Nat.reduceLT, Nat.reduceLeDiff, Nat.reduceEqDiff, Nat.reduceAdd, Nat.reduceSub, Nat.reduceMul, Nat.reduceBEq, Int.reduceLT, Int.reduceLE, Int.reduceEq, Int.reduceNeg, Int.reduceAdd, Int.reduceSub, Int.reduceMul, Bool.false_eq_true, Bool.not_true, Bool.not_false, decide_eq_true_eq, and_self, true_and, and_true, reduceCtorEq, ne_eq, not_false_eq_true, not_true_eq_false, decide_true, decide_false, or_false, false_or, q7, q1, q2, q3, qb]
          exact ⟨h0a, hm.1, by omega, no, hm'⟩
        · simp (config := { maxSteps := 1000000 }) only [RUN, PATHS, BASE, FA, POL, start_tm, Heap.empty, reduceIte, Nat.reduceLT, Nat.reduceLeDiff, Nat.reduceEqDiff, Nat.reduceAdd, Nat.reduceSub, Nat.reduceMul, Nat.reduceBEq, Int.reduceLT, Int.reduceLE, Int.reduceEq, Int.reduceNeg, Int.reduceAdd, Int.reduceSub, Int.reduceMul, Bool.false_eq_true, Bool.not_true, Bool.not_false, decide_eq_true_eq, and_self, true_and, and_true, reduceCtorEq, ne_eq, not_false_eq_true, not_true_eq_false, decide_true, decide_false, or_false, false_or, NUM, q7, q8, q1, q2, q3, qb, hd, hfi, hp, i64_in (x := a + b) (by unfold I64; omega), em, i64_in (x := m) (by unfold I64; omega), i64_in (x := m + 1) (by unfold I64; omega), cm, hm'] at hW
          subst hW
          refine rd_next (m + 1, b) ?_ (show (b - (m + 1)).toNat < (b - a).toNat by omega)
          simp (config := { maxSteps := 1000000 }) only [RUN, PATHS, BASE, FA, POL, start_tm, Heap.empty, reduceIte, Nat.reduceLT, Nat.reduceLeDiff, Nat.reduceEqDiff, Nat.reduceAdd, Nat.reduceSub, Nat.reduceMul, Nat.reduceBEq, Int.reduceLT, Int.reduceLE, Int.reduceEq, Int.reduceNeg, Int.reduceAdd, Int.reduceSub, Int.reduceMul, Bool.false_eq_true, Bool.not_true, Bool.not_false, decide_eq_true_eq, and_self, true_and, and_true, reduceCtorEq, ne_eq, not_false_eq_true, not_true_eq_false, decide_true, decide_false, or_false, false_or, q8, q1, q2, q3, qb]
          refine ⟨by omega, by omega, hb, fun i h1 h2 => ?_, yes⟩
          have := AB_mono (best := best) h.RT h1 (show i ≤ m by omega)
          omega
      · simp (config := { maxSteps := 1000000 }) only [RUN, PATHS, BASE, FA, POL, start_tm, Heap.empty, reduceIte, Nat.reduceLT, Nat.reduceLeDiff, Nat.reduceEqDiff, Nat.reduceAdd, Nat.reduceSub, Nat.reduceMul, Nat.reduceBEq, Int.reduceLT, Int.reduceLE, Int.reduceEq, Int.reduceNeg, Int.reduceAdd, Int.reduceSub, Int.reduceMul, Bool.false_eq_true, Bool.not_true, Bool.not_false, decide_eq_true_eq, and_self, true_and, and_true, reduceCtorEq, ne_eq, not_false_eq_true, not_true_eq_false, decide_true, decide_false, or_false, false_or, NUM, q7, q8, q1, q2, q3, qb, hd, hfi, hp] at hW
        subst hW
        have : a = b := by omega
        subst this
        refine rd_exit ⟨rfl, a, ?_⟩
        simp (config := { maxSteps := 1000000 }) only [RUN, PATHS, BASE, FA, POL, start_tm, Heap.empty, reduceIte, Nat.reduceLT, Nat.reduceLeDiff, Nat.reduceEqDiff, Nat.reduceAdd, Nat.reduceSub, Nat.reduceMul, Nat.reduceBEq, Int.reduceLT, Int.reduceLE, Int.reduceEq, Int.reduceNeg, Int.reduceAdd, Int.reduceSub, Int.reduceMul, Bool.false_eq_true, Bool.not_true, Bool.not_false, decide_eq_true_eq, and_self, true_and, and_true, reduceCtorEq, ne_eq, not_false_eq_true, not_true_eq_false, decide_true, decide_false, or_false, false_or, q7]
        refine ⟨hb, h0a, by omega, no, fun i h1 h2 => ?_⟩
        have := AB_mono (best := best) h.RT h0a h1
        omega)
  simp (config := { maxSteps := 1000000 }) only [RUN, PATHS, BASE, FA, POL, start_tm, Heap.empty, reduceIte, Nat.reduceLT, Nat.reduceLeDiff, Nat.reduceEqDiff, Nat.reduceAdd, Nat.reduceSub, Nat.reduceMul, Nat.reduceBEq, Int.reduceLT, Int.reduceLE, Int.reduceEq, Int.reduceNeg, Int.reduceAdd, Int.reduceSub, Int.reduceMul, Bool.false_eq_true, Bool.not_true, Bool.not_false, decide_eq_true_eq, and_self, true_and, and_true, reduceCtorEq, ne_eq, not_false_eq_true, not_true_eq_false, decide_true, decide_false, or_false, false_or, h7, hd, hf]
  exact ⟨r, hl, by rw [if_pos hr]⟩
end Go.Proofs.YthhhahkiflkemaaDoor
