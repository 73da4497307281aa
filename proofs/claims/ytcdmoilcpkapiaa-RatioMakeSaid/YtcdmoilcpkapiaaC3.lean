/-
  The functions of package ratio and of its reference, continued: sums, products, order, Times.
-/
import Derived.Test.YtcdmoilcpkapiaaC2
set_option linter.unusedSimpArgs false
set_option linter.unusedVariables false
set_option linter.unusedSectionVars false
namespace Go.Proofs.Ytcdmoilcpkapiaa
open Go GoV
set_option maxRecDepth 100000

abbrev w64 (x : Int) : Int := IntKind.i64.wrap x
/-- What an operation on valid ratios comes to. -/
def OPR (a b c d x y : Int) : Int × Int × Int := if VALID a b ∧ VALID c d then MK x y else (0, 0, 120)
theorem c_op_add (a b c d : Int) : ap Try.prog pol 43 [rat a b, rat c d] = some (.ret (.tup [I (w64 (w64 (a * d) + w64 (c * b))), I (w64 (b * d))])) := by
  rw [ap_eq _ Try.func43 rfl Try.ntmps43 Try.results43 (by kernel_rfl) rfl (by exact Nat.le_of_ble_eq_true rfl)]
  simp (config := { maxSteps := 1000000 }) only [RUN, PATHS, BASE, FA, POL, start_tm, Heap.empty, reduceIte, Nat.reduceLT, Nat.reduceLeDiff, Nat.reduceEqDiff, Nat.reduceAdd, Nat.reduceSub, Nat.reduceMul, Nat.reduceBEq, Int.reduceLT, Int.reduceLE, Int.reduceEq, Int.reduceNeg, Int.reduceAdd, Int.reduceSub, Int.reduceMul, Bool.false_eq_true, Bool.not_true, Bool.not_false, decide_eq_true_eq, and_self, true_and, and_true, reduceCtorEq, ne_eq, not_false_eq_true, not_true_eq_false, decide_true, decide_false, or_false, false_or]
theorem c_op_sub (a b c d : Int) : ap Try.prog pol 46 [rat a b, rat c d] = some (.ret (.tup [I (w64 (w64 (a * d) - w64 (c * b))), I (w64 (b * d))])) := by
  rw [ap_eq _ Try.func46 rfl Try.ntmps46 Try.results46 (by kernel_rfl) rfl (by exact Nat.le_of_ble_eq_true rfl)]
  simp (config := { maxSteps := 1000000 }) only [RUN, PATHS, BASE, FA, POL, start_tm, Heap.empty, reduceIte, Nat.reduceLT, Nat.reduceLeDiff, Nat.reduceEqDiff, Nat.reduceAdd, Nat.reduceSub, Nat.reduceMul, Nat.reduceBEq, Int.reduceLT, Int.reduceLE, Int.reduceEq, Int.reduceNeg, Int.reduceAdd, Int.reduceSub, Int.reduceMul, Bool.false_eq_true, Bool.not_true, Bool.not_false, decide_eq_true_eq, and_self, true_and, and_true, reduceCtorEq, ne_eq, not_false_eq_true, not_true_eq_false, decide_true, decide_false, or_false, false_or]
theorem c_op_mul (a b c d : Int) : ap Try.prog pol 45 [rat a b, rat c d] = some (.ret (.tup [I (w64 (a * c)), I (w64 (b * d))])) := by
  rw [ap_eq _ Try.func45 rfl Try.ntmps45 Try.results45 (by kernel_rfl) rfl (by exact Nat.le_of_ble_eq_true rfl)]
  simp (config := { maxSteps := 1000000 }) only [RUN, PATHS, BASE, FA, POL, start_tm, Heap.empty, reduceIte, Nat.reduceLT, Nat.reduceLeDiff, Nat.reduceEqDiff, Nat.reduceAdd, Nat.reduceSub, Nat.reduceMul, Nat.reduceBEq, Int.reduceLT, Int.reduceLE, Int.reduceEq, Int.reduceNeg, Int.reduceAdd, Int.reduceSub, Int.reduceMul, Bool.false_eq_true, Bool.not_true, Bool.not_false, decide_eq_true_eq, and_self, true_and, and_true, reduceCtorEq, ne_eq, not_false_eq_true, not_true_eq_false, decide_true, decide_false, or_false, false_or]
theorem c_op_div (a b c d : Int) : ap Try.prog pol 47 [rat a b, rat c d] = some (.ret (.tup [I (w64 (a * d)), I (w64 (b * c))])) := by
  rw [ap_eq _ Try.func47 rfl Try.ntmps47 Try.results47 (by kernel_rfl) rfl (by exact Nat.le_of_ble_eq_true rfl)]
  simp (config := { maxSteps := 1000000 }) only [RUN, PATHS, BASE, FA, POL, start_tm, Heap.empty, reduceIte, Nat.reduceLT, Nat.reduceLeDiff, Nat.reduceEqDiff, Nat.reduceAdd, Nat.reduceSub, Nat.reduceMul, Nat.reduceBEq, Int.reduceLT, Int.reduceLE, Int.reduceEq, Int.reduceNeg, Int.reduceAdd, Int.reduceSub, Int.reduceMul, Bool.false_eq_true, Bool.not_true, Bool.not_false, decide_eq_true_eq, and_self, true_and, and_true, reduceCtorEq, ne_eq, not_false_eq_true, not_true_eq_false, decide_true, decide_false, or_false, false_or]
theorem c_do (f : Nat) (hf : (f == 48 || f == 50 || f == 38) = false) (a b c d x y : Int) (ha : I64 a) (hb : I64 b) (hc : I64 c) (hd : I64 d) (hx : I64 x) (hy : I64 y)
    (h : ap Try.prog pol f [rat a b, rat c d] = some (.ret (.tup [I x, I y]))) : ap Try.prog pol 44 [.agg [.fn f []], rat a b, rat c d] = some (.ret (ratE (OPR a b c d x y))) := by
  rw [ap_eq _ Try.func44 rfl Try.ntmps44 Try.results44 (by kernel_rfl) rfl (by exact Nat.le_of_ble_eq_true rfl)]
  unfold OPR
  by_cases h1 : VALID a b
  · by_cases h2 : VALID c d
    · simp (config := { maxSteps := 1000000 }) only [RUN, PATHS, BASE, FA, POL, start_tm, Heap.empty, reduceIte, Nat.reduceLT, Nat.reduceLeDiff, Nat.reduceEqDiff, Nat.reduceAdd, Nat.reduceSub, Nat.reduceMul, Nat.reduceBEq, Int.reduceLT, Int.reduceLE, Int.reduceEq, Int.reduceNeg, Int.reduceAdd, Int.reduceSub, Int.reduceMul, Bool.false_eq_true, Bool.not_true, Bool.not_false, decide_eq_true_eq, and_self, true_and, and_true, reduceCtorEq, ne_eq, not_false_eq_true, not_true_eq_false, decide_true, decide_false, or_false, false_or, c_check a b ha hb, c_check c d hc hd, h1, h2, hf, h, c_make x y hx hy]
    · simp (config := { maxSteps := 1000000 }) only [RUN, PATHS, BASE, FA, POL, start_tm, Heap.empty, reduceIte, Nat.reduceLT, Nat.reduceLeDiff, Nat.reduceEqDiff, Nat.reduceAdd, Nat.reduceSub, Nat.reduceMul, Nat.reduceBEq, Int.reduceLT, Int.reduceLE, Int.reduceEq, Int.reduceNeg, Int.reduceAdd, Int.reduceSub, Int.reduceMul, Bool.false_eq_true, Bool.not_true, Bool.not_false, decide_eq_true_eq, and_self, true_and, and_true, reduceCtorEq, ne_eq, not_false_eq_true, not_true_eq_false, decide_true, decide_false, or_false, false_or, c_check a b ha hb, c_check c d hc hd, h1, h2, (show ¬ (120 : Int) = 0 by omega)]
  · simp (config := { maxSteps := 1000000 }) only [RUN, PATHS, BASE, FA, POL, start_tm, Heap.empty, reduceIte, Nat.reduceLT, Nat.reduceLeDiff, Nat.reduceEqDiff, Nat.reduceAdd, Nat.reduceSub, Nat.reduceMul, Nat.reduceBEq, Int.reduceLT, Int.reduceLE, Int.reduceEq, Int.reduceNeg, Int.reduceAdd, Int.reduceSub, Int.reduceMul, Bool.false_eq_true, Bool.not_true, Bool.not_false, decide_eq_true_eq, and_self, true_and, and_true, reduceCtorEq, ne_eq, not_false_eq_true, not_true_eq_false, decide_true, decide_false, or_false, false_or, c_check a b ha hb, h1, (show ¬ (120 : Int) = 0 by omega)]
    simp only [false_and, if_false]
section
variable (a b c d : Int) (ha : I64 a) (hb : I64 b) (hc : I64 c) (hd : I64 d)
include ha hb hc hd
theorem c_add : ap Try.prog pol 25 [rat a b, rat c d] = some (.ret (ratE (OPR a b c d (w64 (w64 (a * d) + w64 (c * b))) (w64 (b * d))))) := by
  rw [ap_eq _ Try.func25 rfl Try.ntmps25 Try.results25 (by kernel_rfl) rfl (by exact Nat.le_of_ble_eq_true rfl)]
  simp (config := { maxSteps := 1000000 }) only [RUN, PATHS, BASE, FA, POL, start_tm, Heap.empty, reduceIte, Nat.reduceLT, Nat.reduceLeDiff, Nat.reduceEqDiff, Nat.reduceAdd, Nat.reduceSub, Nat.reduceMul, Nat.reduceBEq, Int.reduceLT, Int.reduceLE, Int.reduceEq, Int.reduceNeg, Int.reduceAdd, Int.reduceSub, Int.reduceMul, Bool.false_eq_true, Bool.not_true, Bool.not_false, decide_eq_true_eq, and_self, true_and, and_true, reduceCtorEq, ne_eq, not_false_eq_true, not_true_eq_false, decide_true, decide_false, or_false, false_or, c_do 43 rfl a b c d _ _ ha hb hc hd (I64_wrap _) (I64_wrap _) (c_op_add a b c d)]
theorem c_sub : ap Try.prog pol 28 [rat a b, rat c d] = some (.ret (ratE (OPR a b c d (w64 (w64 (a * d) - w64 (c * b))) (w64 (b * d))))) := by
  rw [ap_eq _ Try.func28 rfl Try.ntmps28 Try.results28 (by kernel_rfl) rfl (by exact Nat.le_of_ble_eq_true rfl)]
  simp (config := { maxSteps := 1000000 }) only [RUN, PATHS, BASE, FA, POL, start_tm, Heap.empty, reduceIte, Nat.reduceLT, Nat.reduceLeDiff, Nat.reduceEqDiff, Nat.reduceAdd, Nat.reduceSub, Nat.reduceMul, Nat.reduceBEq, Int.reduceLT, Int.reduceLE, Int.reduceEq, Int.reduceNeg, Int.reduceAdd, Int.reduceSub, Int.reduceMul, Bool.false_eq_true, Bool.not_true, Bool.not_false, decide_eq_true_eq, and_self, true_and, and_true, reduceCtorEq, ne_eq, not_false_eq_true, not_true_eq_false, decide_true, decide_false, or_false, false_or, c_do 46 rfl a b c d _ _ ha hb hc hd (I64_wrap _) (I64_wrap _) (c_op_sub a b c d)]
theorem c_mul : ap Try.prog pol 26 [rat a b, rat c d] = some (.ret (ratE (OPR a b c d (w64 (a * c)) (w64 (b * d))))) := by
  rw [ap_eq _ Try.func26 rfl Try.ntmps26 Try.results26 (by kernel_rfl) rfl (by exact Nat.le_of_ble_eq_true rfl)]
  simp (config := { maxSteps := 1000000 }) only [RUN, PATHS, BASE, FA, POL, start_tm, Heap.empty, reduceIte, Nat.reduceLT, Nat.reduceLeDiff, Nat.reduceEqDiff, Nat.reduceAdd, Nat.reduceSub, Nat.reduceMul, Nat.reduceBEq, Int.reduceLT, Int.reduceLE, Int.reduceEq, Int.reduceNeg, Int.reduceAdd, Int.reduceSub, Int.reduceMul, Bool.false_eq_true, Bool.not_true, Bool.not_false, decide_eq_true_eq, and_self, true_and, and_true, reduceCtorEq, ne_eq, not_false_eq_true, not_true_eq_false, decide_true, decide_false, or_false, false_or, c_do 45 rfl a b c d _ _ ha hb hc hd (I64_wrap _) (I64_wrap _) (c_op_mul a b c d)]
theorem c_divi : ap Try.prog pol 31 [rat a b, rat c d] = some (.ret (ratE (OPR a b c d (w64 (a * d)) (w64 (b * c))))) := by
  rw [ap_eq _ Try.func31 rfl Try.ntmps31 Try.results31 (by kernel_rfl) rfl (by exact Nat.le_of_ble_eq_true rfl)]
  simp (config := { maxSteps := 1000000 }) only [RUN, PATHS, BASE, FA, POL, start_tm, Heap.empty, reduceIte, Nat.reduceLT, Nat.reduceLeDiff, Nat.reduceEqDiff, Nat.reduceAdd, Nat.reduceSub, Nat.reduceMul, Nat.reduceBEq, Int.reduceLT, Int.reduceLE, Int.reduceEq, Int.reduceNeg, Int.reduceAdd, Int.reduceSub, Int.reduceMul, Bool.false_eq_true, Bool.not_true, Bool.not_false, decide_eq_true_eq, and_self, true_and, and_true, reduceCtorEq, ne_eq, not_false_eq_true, not_true_eq_false, decide_true, decide_false, or_false, false_or, c_do 47 rfl a b c d _ _ ha hb hc hd (I64_wrap _) (I64_wrap _) (c_op_div a b c d)]
theorem c_refadd : ap Try.prog pol 27 [rat a b, rat c d] = some (.ret (ratE (OPR a b c d (w64 (w64 (a * d) + w64 (c * b))) (w64 (b * d))))) := by
  rw [ap_eq _ Try.func27 rfl Try.ntmps27 Try.results27 (by kernel_rfl) rfl (by exact Nat.le_of_ble_eq_true rfl)]
  unfold OPR
  by_cases h : VALID a b ∧ VALID c d
  · simp (config := { maxSteps := 1000000 }) only [RUN, PATHS, BASE, FA, POL, start_tm, Heap.empty, reduceIte, Nat.reduceLT, Nat.reduceLeDiff, Nat.reduceEqDiff, Nat.reduceAdd, Nat.reduceSub, Nat.reduceMul, Nat.reduceBEq, Int.reduceLT, Int.reduceLE, Int.reduceEq, Int.reduceNeg, Int.reduceAdd, Int.reduceSub, Int.reduceMul, Bool.false_eq_true, Bool.not_true, Bool.not_false, decide_eq_true_eq, and_self, true_and, and_true, reduceCtorEq, ne_eq, not_false_eq_true, not_true_eq_false, decide_true, decide_false, or_false, false_or, c_both a b c d ha hb hc hd, h, c_refmake _ _ (I64_wrap _) (I64_wrap _)]
  · simp (config := { maxSteps := 1000000 }) only [RUN, PATHS, BASE, FA, POL, start_tm, Heap.empty, reduceIte, Nat.reduceLT, Nat.reduceLeDiff, Nat.reduceEqDiff, Nat.reduceAdd, Nat.reduceSub, Nat.reduceMul, Nat.reduceBEq, Int.reduceLT, Int.reduceLE, Int.reduceEq, Int.reduceNeg, Int.reduceAdd, Int.reduceSub, Int.reduceMul, Bool.false_eq_true, Bool.not_true, Bool.not_false, decide_eq_true_eq, and_self, true_and, and_true, reduceCtorEq, ne_eq, not_false_eq_true, not_true_eq_false, decide_true, decide_false, or_false, false_or, c_both a b c d ha hb hc hd, h]
theorem c_refsub : ap Try.prog pol 29 [rat a b, rat c d] = some (.ret (ratE (OPR a b c d (w64 (w64 (a * d) - w64 (c * b))) (w64 (b * d))))) := by
  rw [ap_eq _ Try.func29 rfl Try.ntmps29 Try.results29 (by kernel_rfl) rfl (by exact Nat.le_of_ble_eq_true rfl)]
  unfold OPR
  by_cases h : VALID a b ∧ VALID c d
  · simp (config := { maxSteps := 1000000 }) only [RUN, PATHS, BASE, FA, POL, start_tm, Heap.empty, reduceIte, Nat.reduceLT, Nat.reduceLeDiff, Nat.reduceEqDiff, Nat.reduceAdd, Nat.reduceSub, Nat.reduceMul, Nat.reduceBEq, Int.reduceLT, Int.reduceLE, Int.reduceEq, Int.reduceNeg, Int.reduceAdd, Int.reduceSub, Int.reduceMul, Bool.false_eq_true, Bool.not_true, Bool.not_false, decide_eq_true_eq, and_self, true_and, and_true, reduceCtorEq, ne_eq, not_false_eq_true, not_true_eq_false, decide_true, decide_false, or_false, false_or, c_both a b c d ha hb hc hd, h, c_refmake _ _ (I64_wrap _) (I64_wrap _)]
  · simp (config := { maxSteps := 1000000 }) only [RUN, PATHS, BASE, FA, POL, start_tm, Heap.empty, reduceIte, Nat.reduceLT, Nat.reduceLeDiff, Nat.reduceEqDiff, Nat.reduceAdd, Nat.reduceSub, Nat.reduceMul, Nat.reduceBEq, Int.reduceLT, Int.reduceLE, Int.reduceEq, Int.reduceNeg, Int.reduceAdd, Int.reduceSub, Int.reduceMul, Bool.false_eq_true, Bool.not_true, Bool.not_false, decide_eq_true_eq, and_self, true_and, and_true, reduceCtorEq, ne_eq, not_false_eq_true, not_true_eq_false, decide_true, decide_false, or_false, false_or, c_both a b c d ha hb hc hd, h]
theorem c_refmul : ap Try.prog pol 30 [rat a b, rat c d] = some (.ret (ratE (OPR a b c d (w64 (a * c)) (w64 (b * d))))) := by
  rw [ap_eq _ Try.func30 rfl Try.ntmps30 Try.results30 (by kernel_rfl) rfl (by exact Nat.le_of_ble_eq_true rfl)]
  unfold OPR
  by_cases h : VALID a b ∧ VALID c d
  · simp (config := { maxSteps := 1000000 }) only [RUN, PATHS, BASE, FA, POL, start_tm, Heap.empty, reduceIte, Nat.reduceLT, Nat.reduceLeDiff, Nat.reduceEqDiff, Nat.reduceAdd, Nat.reduceSub, Nat.reduceMul, Nat.reduceBEq, Int.reduceLT, Int.reduceLE, Int.reduceEq, Int.reduceNeg, Int.reduceAdd, Int.reduceSub, Int.reduceMul, Bool.false_eq_true, Bool.not_true, Bool.not_false, decide_eq_true_eq, and_self, true_and, and_true, reduceCtorEq, ne_eq, not_false_eq_true, not_true_eq_false, decide_true, decide_false, or_false, false_or, c_both a b c d ha hb hc hd, h, c_refmake _ _ (I64_wrap _) (I64_wrap _)]
  · simp (config := { maxSteps := 1000000 }) only [RUN, PATHS, BASE, FA, POL, start_tm, Heap.empty, reduceIte, Nat.reduceLT, Nat.reduceLeDiff, Nat.reduceEqDiff, Nat.reduceAdd, Nat.reduceSub, Nat.reduceMul, Nat.reduceBEq, Int.reduceLT, Int.reduceLE, Int.reduceEq, Int.reduceNeg, Int.reduceAdd, Int.reduceSub, Int.reduceMul, Bool.false_eq_true, Bool.not_true, Bool.not_false, decide_eq_true_eq, and_self, true_and, and_true, reduceCtorEq, ne_eq, not_false_eq_true, not_true_eq_false, decide_true, decide_false, or_false, false_or, c_both a b c d ha hb hc hd, h]
theorem c_refdivi : ap Try.prog pol 32 [rat a b, rat c d] = some (.ret (ratE (OPR a b c d (w64 (a * d)) (w64 (b * c))))) := by
  rw [ap_eq _ Try.func32 rfl Try.ntmps32 Try.results32 (by kernel_rfl) rfl (by exact Nat.le_of_ble_eq_true rfl)]
  unfold OPR
  by_cases h : VALID a b ∧ VALID c d
  · by_cases h0 : c = 0
    · subst h0
      simp (config := { maxSteps := 1000000 }) only [RUN, PATHS, BASE, FA, POL, start_tm, Heap.empty, reduceIte, Nat.reduceLT, Nat.reduceLeDiff, Nat.reduceEqDiff, Nat.reduceAdd, Nat.reduceSub, Nat.reduceMul, Nat.reduceBEq, Int.reduceLT, Int.reduceLE, Int.reduceEq, Int.reduceNeg, Int.reduceAdd, Int.reduceSub, Int.reduceMul, Bool.false_eq_true, Bool.not_true, Bool.not_false, decide_eq_true_eq, and_self, true_and, and_true, reduceCtorEq, ne_eq, not_false_eq_true, not_true_eq_false, decide_true, decide_false, or_false, false_or, c_both a b 0 d ha hb hc hd, h, Int.mul_zero]
      rfl
    · simp (config := { maxSteps := 1000000 }) only [RUN, PATHS, BASE, FA, POL, start_tm, Heap.empty, reduceIte, Nat.reduceLT, Nat.reduceLeDiff, Nat.reduceEqDiff, Nat.reduceAdd, Nat.reduceSub, Nat.reduceMul, Nat.reduceBEq, Int.reduceLT, Int.reduceLE, Int.reduceEq, Int.reduceNeg, Int.reduceAdd, Int.reduceSub, Int.reduceMul, Bool.false_eq_true, Bool.not_true, Bool.not_false, decide_eq_true_eq, and_self, true_and, and_true, reduceCtorEq, ne_eq, not_false_eq_true, not_true_eq_false, decide_true, decide_false, or_false, false_or, c_both a b c d ha hb hc hd, h, h0, c_refmake _ _ (I64_wrap _) (I64_wrap _)]
  · simp (config := { maxSteps := 1000000 }) only [RUN, PATHS, BASE, FA, POL, start_tm, Heap.empty, reduceIte, Nat.reduceLT, Nat.reduceLeDiff, Nat.reduceEqDiff, Nat.reduceAdd, Nat.reduceSub, Nat.reduceMul, Nat.reduceBEq, Int.reduceLT, Int.reduceLE, Int.reduceEq, Int.reduceNeg, Int.reduceAdd, Int.reduceSub, Int.reduceMul, Bool.false_eq_true, Bool.not_true, Bool.not_false, decide_eq_true_eq, and_self, true_and, and_true, reduceCtorEq, ne_eq, not_false_eq_true, not_true_eq_false, decide_true, decide_false, or_false, false_or, c_both a b c d ha hb hc hd, h]
theorem c_less : ap Try.prog pol 21 [rat a b, rat c d] = some (.ret (.bool (decide (w64 (a * d) < w64 (c * b))))) := by
  rw [ap_eq _ Try.func21 rfl Try.ntmps21 Try.results21 (by kernel_rfl) rfl (by exact Nat.le_of_ble_eq_true rfl)]
  simp (config := { maxSteps := 1000000 }) only [RUN, PATHS, BASE, FA, POL, start_tm, Heap.empty, reduceIte, Nat.reduceLT, Nat.reduceLeDiff, Nat.reduceEqDiff, Nat.reduceAdd, Nat.reduceSub, Nat.reduceMul, Nat.reduceBEq, Int.reduceLT, Int.reduceLE, Int.reduceEq, Int.reduceNeg, Int.reduceAdd, Int.reduceSub, Int.reduceMul, Bool.false_eq_true, Bool.not_true, Bool.not_false, decide_eq_true_eq, and_self, true_and, and_true, reduceCtorEq, ne_eq, not_false_eq_true, not_true_eq_false, decide_true, decide_false, or_false, false_or]
/-- The order. -/
def CMP (x y : Int) : Int := if x < y then -1 else if y < x then 1 else 0
def CMPR (a b c d : Int) : Int × Int := if VALID a b ∧ VALID c d then (CMP (w64 (a * d)) (w64 (c * b)), 0) else (0, 120)
omit ha hb hc hd in
theorem c_nan (x : Int) : ap Try.prog pol 49 [I x] = some (.ret (.bool false)) := by
  rw [ap_eq _ Try.func49 rfl Try.ntmps49 Try.results49 (by kernel_rfl) rfl (by exact Nat.le_of_ble_eq_true rfl)]
  simp (config := { maxSteps := 1000000 }) only [RUN, PATHS, BASE, FA, POL, start_tm, Heap.empty, reduceIte, Nat.reduceLT, Nat.reduceLeDiff, Nat.reduceEqDiff, Nat.reduceAdd, Nat.reduceSub, Nat.reduceMul, Nat.reduceBEq, Int.reduceLT, Int.reduceLE, Int.reduceEq, Int.reduceNeg, Int.reduceAdd, Int.reduceSub, Int.reduceMul, Bool.false_eq_true, Bool.not_true, Bool.not_false, decide_eq_true_eq, and_self, true_and, and_true, reduceCtorEq, ne_eq, not_false_eq_true, not_true_eq_false, decide_true, decide_false, or_false, false_or]
omit ha hb hc hd in
theorem c_compare (x y : Int) : ap Try.prog pol 42 [I x, I y] = some (.ret (I (CMP x y))) := by
  rw [ap_eq _ Try.func42 rfl Try.ntmps42 Try.results42 (by kernel_rfl) rfl (by exact Nat.le_of_ble_eq_true rfl)]
  unfold CMP
  simp (config := { maxSteps := 1000000 }) only [RUN, PATHS, BASE, FA, POL, start_tm, Heap.empty, reduceIte, Nat.reduceLT, Nat.reduceLeDiff, Nat.reduceEqDiff, Nat.reduceAdd, Nat.reduceSub, Nat.reduceMul, Nat.reduceBEq, Int.reduceLT, Int.reduceLE, Int.reduceEq, Int.reduceNeg, Int.reduceAdd, Int.reduceSub, Int.reduceMul, Bool.false_eq_true, Bool.not_true, Bool.not_false, decide_eq_true_eq, and_self, true_and, and_true, reduceCtorEq, ne_eq, not_false_eq_true, not_true_eq_false, decide_true, decide_false, or_false, false_or, c_nan]
  repeat' split
  all_goals rfl
theorem c_cmp : ap Try.prog pol 22 [rat a b, rat c d] = some (.ret (.tup [I (CMPR a b c d).1, I (CMPR a b c d).2])) := by
  rw [ap_eq _ Try.func22 rfl Try.ntmps22 Try.results22 (by kernel_rfl) rfl (by exact Nat.le_of_ble_eq_true rfl)]
  unfold CMPR
  by_cases h1 : VALID a b
  · by_cases h2 : VALID c d
    · simp (config := { maxSteps := 1000000 }) only [RUN, PATHS, BASE, FA, POL, start_tm, Heap.empty, reduceIte, Nat.reduceLT, Nat.reduceLeDiff, Nat.reduceEqDiff, Nat.reduceAdd, Nat.reduceSub, Nat.reduceMul, Nat.reduceBEq, Int.reduceLT, Int.reduceLE, Int.reduceEq, Int.reduceNeg, Int.reduceAdd, Int.reduceSub, Int.reduceMul, Bool.false_eq_true, Bool.not_true, Bool.not_false, decide_eq_true_eq, and_self, true_and, and_true, reduceCtorEq, ne_eq, not_false_eq_true, not_true_eq_false, decide_true, decide_false, or_false, false_or, c_check a b ha hb, c_check c d hc hd, h1, h2, c_compare]
    · simp (config := { maxSteps := 1000000 }) only [RUN, PATHS, BASE, FA, POL, start_tm, Heap.empty, reduceIte, Nat.reduceLT, Nat.reduceLeDiff, Nat.reduceEqDiff, Nat.reduceAdd, Nat.reduceSub, Nat.reduceMul, Nat.reduceBEq, Int.reduceLT, Int.reduceLE, Int.reduceEq, Int.reduceNeg, Int.reduceAdd, Int.reduceSub, Int.reduceMul, Bool.false_eq_true, Bool.not_true, Bool.not_false, decide_eq_true_eq, and_self, true_and, and_true, reduceCtorEq, ne_eq, not_false_eq_true, not_true_eq_false, decide_true, decide_false, or_false, false_or, c_check a b ha hb, c_check c d hc hd, h1, h2, (show ¬ (120 : Int) = 0 by omega)]
  · simp (config := { maxSteps := 1000000 }) only [RUN, PATHS, BASE, FA, POL, start_tm, Heap.empty, reduceIte, Nat.reduceLT, Nat.reduceLeDiff, Nat.reduceEqDiff, Nat.reduceAdd, Nat.reduceSub, Nat.reduceMul, Nat.reduceBEq, Int.reduceLT, Int.reduceLE, Int.reduceEq, Int.reduceNeg, Int.reduceAdd, Int.reduceSub, Int.reduceMul, Bool.false_eq_true, Bool.not_true, Bool.not_false, decide_eq_true_eq, and_self, true_and, and_true, reduceCtorEq, ne_eq, not_false_eq_true, not_true_eq_false, decide_true, decide_false, or_false, false_or, c_check a b ha hb, h1, (show ¬ (120 : Int) = 0 by omega)]
    simp only [false_and, if_false]
theorem c_refcmp : ap Try.prog pol 33 [rat a b, rat c d] = some (.ret (.tup [I (CMPR a b c d).1, I (CMPR a b c d).2])) := by
  rw [ap_eq _ Try.func33 rfl Try.ntmps33 Try.results33 (by kernel_rfl) rfl (by exact Nat.le_of_ble_eq_true rfl)]
  unfold CMPR
  by_cases h : VALID a b ∧ VALID c d
  · simp (config := { maxSteps := 1000000 }) only [RUN, PATHS, BASE, FA, POL, start_tm, Heap.empty, reduceIte, Nat.reduceLT, Nat.reduceLeDiff, Nat.reduceEqDiff, Nat.reduceAdd, Nat.reduceSub, Nat.reduceMul, Nat.reduceBEq, Int.reduceLT, Int.reduceLE, Int.reduceEq, Int.reduceNeg, Int.reduceAdd, Int.reduceSub, Int.reduceMul, Bool.false_eq_true, Bool.not_true, Bool.not_false, decide_eq_true_eq, and_self, true_and, and_true, reduceCtorEq, ne_eq, not_false_eq_true, not_true_eq_false, decide_true, decide_false, or_false, false_or, c_both a b c d ha hb hc hd, h, c_less a b c d ha hb hc hd, c_less c d a b hc hd ha hb]
    unfold CMP
    repeat' split
    all_goals rfl
  · simp (config := { maxSteps := 1000000 }) only [RUN, PATHS, BASE, FA, POL, start_tm, Heap.empty, reduceIte, Nat.reduceLT, Nat.reduceLeDiff, Nat.reduceEqDiff, Nat.reduceAdd, Nat.reduceSub, Nat.reduceMul, Nat.reduceBEq, Int.reduceLT, Int.reduceLE, Int.reduceEq, Int.reduceNeg, Int.reduceAdd, Int.reduceSub, Int.reduceMul, Bool.false_eq_true, Bool.not_true, Bool.not_false, decide_eq_true_eq, and_self, true_and, and_true, reduceCtorEq, ne_eq, not_false_eq_true, not_true_eq_false, decide_true, decide_false, or_false, false_or, c_both a b c d ha hb hc hd, h]
end
/-! ### Times -/
theorem c_down (n d : Int) (hn : -4611686018427387904 ≤ n ∧ n ≤ 4611686018427387904) (hd : 1 ≤ d ∧ d ≤ 1073741824) : ap Try.prog pol 36 [I n, I d] = some (.ret (I (n / d))) := by
  rw [ap_eq _ Try.func36 rfl Try.ntmps36 Try.results36 (by kernel_rfl) rfl (by exact Nat.le_of_ble_eq_true rfl)]
  simp (config := { maxSteps := 1000000 }) only [RUN, PATHS, BASE, FA, POL, start_tm, Heap.empty, reduceIte, Nat.reduceLT, Nat.reduceLeDiff, Nat.reduceEqDiff, Nat.reduceAdd, Nat.reduceSub, Nat.reduceMul, Nat.reduceBEq, Int.reduceLT, Int.reduceLE, Int.reduceEq, Int.reduceNeg, Int.reduceAdd, Int.reduceSub, Int.reduceMul, Bool.false_eq_true, Bool.not_true, Bool.not_false, decide_eq_true_eq, and_self, true_and, and_true, reduceCtorEq, ne_eq, not_false_eq_true, not_true_eq_false, decide_true, decide_false, or_false, false_or, (show ¬ d = 0 by omega)]
  have e1 : (n.tmod d + d).tmod d = n % d := by
    rw [Int.tmod_eq_emod_of_nonneg (by have := Int.lt_tmod_of_pos n (b := d) (by omega); omega)]
    rw [Int.add_emod_right]
    have := Int.tmod_eq_emod (a := n) (b := d)
    rw [this]
    split
    · simp
    · rw [Int.sub_emod]; simp
      rw [show (d.natAbs : Int) = d by omega]
      simp
  have b1 := Int.lt_tmod_of_pos n (b := d) (by omega)
  have b2 := Int.tmod_lt_of_pos n (b := d) (by omega)
  rw [i64_in (x := n.tmod d + d) (by unfold I64; omega), e1]
  have b3 := Int.emod_nonneg n (b := d) (by omega)
  have b4 := Int.emod_lt_of_pos n (b := d) (by omega)
  rw [i64_in (x := n - n % d) (by unfold I64; omega)]
  have e2 : n - n % d = d * (n / d) := by have := Int.mul_ediv_add_emod n d; omega
  rw [e2, Int.mul_tdiv_cancel_left _ (by omega)]
  have b5 : n / d ≤ 4611686018427387904 := by
    apply Int.ediv_le_of_le_mul (by omega)
    omega
  have b6 : -4611686018427387904 ≤ n / d := by
    apply Int.le_ediv_of_mul_le (by omega)
    omega
  rw [i64_in (by unfold I64; omega)]
theorem tdiv_floor {n d : Int} (hd : 1 ≤ d) : n / d = if n.tmod d < 0 then n.tdiv d - 1 else n.tdiv d := by
  have e := Int.mul_tdiv_add_tmod n d
  have b1 := Int.lt_tmod_of_pos n (b := d) (by omega)
  have b2 := Int.tmod_lt_of_pos n (b := d) (by omega)
  split
  · have e2 : n = (n.tmod d + d) + d * (n.tdiv d - 1) := by rw [Int.mul_sub]; omega
    rw (occs := .pos [1]) [e2]
    rw [Int.add_mul_ediv_left _ _ (by omega), Int.ediv_eq_zero_of_lt (by omega) (by omega), Int.zero_add]
  · have e2 : n = n.tmod d + d * (n.tdiv d) := by omega
    rw (occs := .pos [1]) [e2]
    rw [Int.add_mul_ediv_left _ _ (by omega), Int.ediv_eq_zero_of_lt (by omega) (by omega), Int.zero_add]
theorem ediv_bd {n d B : Int} (hd : 1 ≤ d) (hB : 0 ≤ B) (h : -B ≤ n ∧ n ≤ B) : -B ≤ n / d ∧ n / d ≤ B := by
  constructor
  · apply Int.le_ediv_of_mul_le (by omega)
    have := Int.mul_le_mul_of_nonneg_left hd hB
    rw [Int.neg_mul]; omega
  · apply Int.ediv_le_of_le_mul (by omega)
    have := Int.mul_le_mul_of_nonneg_left hd hB
    omega
theorem c_floor (n d : Int) (hn : -4611686018427387904 ≤ n ∧ n ≤ 4611686018427387904) (hd : 1 ≤ d ∧ d ≤ 1073741824) : ap Try.prog pol 37 [I n, I d] = some (.ret (I (n / d))) := by
  rw [ap_eq _ Try.func37 rfl Try.ntmps37 Try.results37 (by kernel_rfl) rfl (by exact Nat.le_of_ble_eq_true rfl)]
  simp (config := { maxSteps := 1000000 }) only [RUN, PATHS, BASE, FA, POL, start_tm, Heap.empty, reduceIte, Nat.reduceLT, Nat.reduceLeDiff, Nat.reduceEqDiff, Nat.reduceAdd, Nat.reduceSub, Nat.reduceMul, Nat.reduceBEq, Int.reduceLT, Int.reduceLE, Int.reduceEq, Int.reduceNeg, Int.reduceAdd, Int.reduceSub, Int.reduceMul, Bool.false_eq_true, Bool.not_true, Bool.not_false, decide_eq_true_eq, and_self, true_and, and_true, reduceCtorEq, ne_eq, not_false_eq_true, not_true_eq_false, decide_true, decide_false, or_false, false_or, (show ¬ d = 0 by omega)]
  have b := ediv_bd hd.1 (by omega) hn
  have e := tdiv_floor (n := n) hd.1
  rw [e] at b ⊢
  split
  · next h =>
    rw [if_pos h] at b
    rw [i64_in (x := n.tdiv d) (by unfold I64; omega), i64_in (by unfold I64; omega)]
  · next h =>
    rw [if_neg h] at b
    rw [i64_in (by unfold I64; omega)]
theorem mul_bd {a n M N : Int} (ha : -M ≤ a ∧ a ≤ M) (hn : -N ≤ n ∧ n ≤ N) : -(M * N) ≤ a * n ∧ a * n ≤ M * N := by
  have h : (a * n).natAbs ≤ (M * N).natAbs := by
    rw [Int.natAbs_mul, Int.natAbs_mul]
    exact Nat.mul_le_mul (by omega) (by omega)
  have : 0 ≤ M * N := Int.mul_nonneg (by omega) (by omega)
  omega
def TIMES (a b n : Int) : Int × Int × Int := if VALID a b then (if n < -1073741824 ∨ 1073741824 < n then (0, 0, 1) else ((a * n) / b, -((-a * n) / b), 0)) else (0, 0, 120)
abbrev tup3 (r : Int × Int × Int) : PV := .tup [I r.1, I r.2.1, I r.2.2]
theorem c_times (a b n : Int) (ha : I64 a) (hb : I64 b) (hn : I64 n) : ap Try.prog pol 15 [rat a b, I n] = some (.ret (tup3 (TIMES a b n))) := by
  rw [ap_eq _ Try.func15 rfl Try.ntmps15 Try.results15 (by kernel_rfl) rfl (by exact Nat.le_of_ble_eq_true rfl)]
  unfold TIMES
  by_cases h : VALID a b
  · by_cases h1 : n < -1073741824
    · simp (config := { maxSteps := 1000000 }) only [RUN, PATHS, BASE, FA, POL, start_tm, Heap.empty, reduceIte, Nat.reduceLT, Nat.reduceLeDiff, Nat.reduceEqDiff, Nat.reduceAdd, Nat.reduceSub, Nat.reduceMul, Nat.reduceBEq, Int.reduceLT, Int.reduceLE, Int.reduceEq, Int.reduceNeg, Int.reduceAdd, Int.reduceSub, Int.reduceMul, Bool.false_eq_true, Bool.not_true, Bool.not_false, decide_eq_true_eq, and_self, true_and, and_true, reduceCtorEq, ne_eq, not_false_eq_true, not_true_eq_false, decide_true, decide_false, or_false, false_or, c_check a b ha hb, h, h1, true_or]
    · by_cases h2 : 1073741824 < n
      · simp (config := { maxSteps := 1000000 }) only [RUN, PATHS, BASE, FA, POL, start_tm, Heap.empty, reduceIte, Nat.reduceLT, Nat.reduceLeDiff, Nat.reduceEqDiff, Nat.reduceAdd, Nat.reduceSub, Nat.reduceMul, Nat.reduceBEq, Int.reduceLT, Int.reduceLE, Int.reduceEq, Int.reduceNeg, Int.reduceAdd, Int.reduceSub, Int.reduceMul, Bool.false_eq_true, Bool.not_true, Bool.not_false, decide_eq_true_eq, and_self, true_and, and_true, reduceCtorEq, ne_eq, not_false_eq_true, not_true_eq_false, decide_true, decide_false, or_false, false_or, c_check a b ha hb, h, h1, h2]
      · obtain ⟨v1, v2, v3, v4, v5⟩ := h
        have m1 := mul_bd (a := a) (n := n) (M := 1073741824) (N := 1073741824) ⟨v3, v4⟩ ⟨by omega, by omega⟩
        have m2 := mul_bd (a := -a) (n := n) (M := 1073741824) (N := 1073741824) ⟨by omega, by omega⟩ ⟨by omega, by omega⟩
        have b2 := ediv_bd (n := -a * n) v1 (B := 4611686018427387904) (by omega) (by omega)
        simp (config := { maxSteps := 1000000 }) only [RUN, PATHS, BASE, FA, POL, start_tm, Heap.empty, reduceIte, Nat.reduceLT, Nat.reduceLeDiff, Nat.reduceEqDiff, Nat.reduceAdd, Nat.reduceSub, Nat.reduceMul, Nat.reduceBEq, Int.reduceLT, Int.reduceLE, Int.reduceEq, Int.reduceNeg, Int.reduceAdd, Int.reduceSub, Int.reduceMul, Bool.false_eq_true, Bool.not_true, Bool.not_false, decide_eq_true_eq, and_self, true_and, and_true, reduceCtorEq, ne_eq, not_false_eq_true, not_true_eq_false, decide_true, decide_false, or_false, false_or, c_check a b ha hb, (show VALID a b from ⟨v1, v2, v3, v4, v5⟩), h1, h2, Int.zero_sub, (i64_in (x := a * n) (by unfold I64; omega)), (i64_in (x := -a) (by unfold I64; omega)), (i64_in (x := -a * n) (by unfold I64; omega)),
          c_down (a * n) b (by omega) ⟨v1, v2⟩, c_down (-a * n) b (by omega) ⟨v1, v2⟩, (i64_in (x := -(-a * n / b)) (by unfold I64; omega))]
  · simp (config := { maxSteps := 1000000 }) only [RUN, PATHS, BASE, FA, POL, start_tm, Heap.empty, reduceIte, Nat.reduceLT, Nat.reduceLeDiff, Nat.reduceEqDiff, Nat.reduceAdd, Nat.reduceSub, Nat.reduceMul, Nat.reduceBEq, Int.reduceLT, Int.reduceLE, Int.reduceEq, Int.reduceNeg, Int.reduceAdd, Int.reduceSub, Int.reduceMul, Bool.false_eq_true, Bool.not_true, Bool.not_false, decide_eq_true_eq, and_self, true_and, and_true, reduceCtorEq, ne_eq, not_false_eq_true, not_true_eq_false, decide_true, decide_false, or_false, false_or, c_check a b ha hb, h, (show ¬ (120 : Int) = 0 by omega)]
theorem c_reftimes (a b n : Int) (ha : I64 a) (hb : I64 b) (hn : I64 n) : ap Try.prog pol 16 [rat a b, I n] = some (.ret (tup3 (TIMES a b n))) := by
  rw [ap_eq _ Try.func16 rfl Try.ntmps16 Try.results16 (by kernel_rfl) rfl (by exact Nat.le_of_ble_eq_true rfl)]
  unfold TIMES
  by_cases h : VALID a b
  · by_cases h1 : n < -1073741824
    · simp (config := { maxSteps := 1000000 }) only [RUN, PATHS, BASE, FA, POL, start_tm, Heap.empty, reduceIte, Nat.reduceLT, Nat.reduceLeDiff, Nat.reduceEqDiff, Nat.reduceAdd, Nat.reduceSub, Nat.reduceMul, Nat.reduceBEq, Int.reduceLT, Int.reduceLE, Int.reduceEq, Int.reduceNeg, Int.reduceAdd, Int.reduceSub, Int.reduceMul, Bool.false_eq_true, Bool.not_true, Bool.not_false, decide_eq_true_eq, and_self, true_and, and_true, reduceCtorEq, ne_eq, not_false_eq_true, not_true_eq_false, decide_true, decide_false, or_false, false_or, c_valid a b ha hb, h, h1, true_or]
    · by_cases h2 : 1073741824 < n
      · simp (config := { maxSteps := 1000000 }) only [RUN, PATHS, BASE, FA, POL, start_tm, Heap.empty, reduceIte, Nat.reduceLT, Nat.reduceLeDiff, Nat.reduceEqDiff, Nat.reduceAdd, Nat.reduceSub, Nat.reduceMul, Nat.reduceBEq, Int.reduceLT, Int.reduceLE, Int.reduceEq, Int.reduceNeg, Int.reduceAdd, Int.reduceSub, Int.reduceMul, Bool.false_eq_true, Bool.not_true, Bool.not_false, decide_eq_true_eq, and_self, true_and, and_true, reduceCtorEq, ne_eq, not_false_eq_true, not_true_eq_false, decide_true, decide_false, or_false, false_or, c_valid a b ha hb, h, h1, h2]
      · obtain ⟨v1, v2, v3, v4, v5⟩ := h
        have m1 := mul_bd (a := a) (n := n) (M := 1073741824) (N := 1073741824) ⟨v3, v4⟩ ⟨by omega, by omega⟩
        have m2 := mul_bd (a := -a) (n := n) (M := 1073741824) (N := 1073741824) ⟨by omega, by omega⟩ ⟨by omega, by omega⟩
        have b2 := ediv_bd (n := -a * n) v1 (B := 4611686018427387904) (by omega) (by omega)
        simp (config := { maxSteps := 1000000 }) only [RUN, PATHS, BASE, FA, POL, start_tm, Heap.empty, reduceIte, Nat.reduceLT, Nat.reduceLeDiff, Nat.reduceEqDiff, Nat.reduceAdd, Nat.reduceSub, Nat.reduceMul, Nat.reduceBEq, Int.reduceLT, Int.reduceLE, Int.reduceEq, Int.reduceNeg, Int.reduceAdd, Int.reduceSub, Int.reduceMul, Bool.false_eq_true, Bool.not_true, Bool.not_false, decide_eq_true_eq, and_self, true_and, and_true, reduceCtorEq, ne_eq, not_false_eq_true, not_true_eq_false, decide_true, decide_false, or_false, false_or, c_valid a b ha hb, (show VALID a b from ⟨v1, v2, v3, v4, v5⟩), h1, h2, Int.zero_sub, (i64_in (x := a * n) (by unfold I64; omega)), (i64_in (x := -a) (by unfold I64; omega)), (i64_in (x := -a * n) (by unfold I64; omega)),
          c_floor (a * n) b (by omega) ⟨v1, v2⟩, c_floor (-a * n) b (by omega) ⟨v1, v2⟩, (i64_in (x := -(-a * n / b)) (by unfold I64; omega))]
  · simp (config := { maxSteps := 1000000 }) only [RUN, PATHS, BASE, FA, POL, start_tm, Heap.empty, reduceIte, Nat.reduceLT, Nat.reduceLeDiff, Nat.reduceEqDiff, Nat.reduceAdd, Nat.reduceSub, Nat.reduceMul, Nat.reduceBEq, Int.reduceLT, Int.reduceLE, Int.reduceEq, Int.reduceNeg, Int.reduceAdd, Int.reduceSub, Int.reduceMul, Bool.false_eq_true, Bool.not_true, Bool.not_false, decide_eq_true_eq, and_self, true_and, and_true, reduceCtorEq, ne_eq, not_false_eq_true, not_true_eq_false, decide_true, decide_false, or_false, false_or, c_valid a b ha hb, h]
end Go.Proofs.Ytcdmoilcpkapiaa
