/-
  Comparing and multiplying fractions.
-/
import Derived.Test.YthhhahkiflkemaaDoorC2
set_option linter.unusedSimpArgs false
set_option linter.unusedVariables false
set_option linter.unusedSectionVars false
namespace Go.Proofs.YthhhahkiflkemaaDoor
open Go GoV
set_option maxRecDepth 100000

abbrev w64 (x : Int) : Int := IntKind.i64.wrap x
section
variable (a b c d : Int) (ha : I64 a) (hb : I64 b) (hc : I64 c) (hd : I64 d)
include ha hb hc hd
theorem c_less : ap Tryd.prog pol 77 [rat a b, rat c d] = some (.ret (.bool (decide (w64 (a * d) < w64 (c * b))))) := by
  rw [ap_eq _ Tryd.func77 rfl Tryd.ntmps77 Tryd.results77 (by kernel_rfl) rfl (by exact Nat.le_of_ble_eq_true rfl)]
  simp (config := { maxSteps := 1000000 }) only [RUN, PATHS, BASE, FA, POL, start_tm, Heap.empty, reduceIte, Nat.reduceLT, Nat.reduceLeDiff, Nat.reduceEqDiff, Nat.reduceAdd, Nat.reduceSub, Nat.reduceMul, Nat.reduceBEq, Int.reduceLT, Int.reduceLE, Int.reduceEq, Int.reduceNeg, Int.reduceAdd, Int.reduceSub, Int.reduceMul, Bool.false_eq_true, Bool.not_true, Bool.not_false, decide_eq_true_eq, and_self, true_and, and_true, reduceCtorEq, ne_eq, not_false_eq_true, not_true_eq_false, decide_true, decide_false, or_false, false_or]
def CMP (x y : Int) : Int := if x < y then -1 else if y < x then 1 else 0
def CMPR (a b c d : Int) : Int × Int := if VALID a b ∧ VALID c d then (CMP (w64 (a * d)) (w64 (c * b)), 0) else (0, 120)
omit ha hb hc hd in
theorem c_nan (x : Int) : ap Tryd.prog pol 73 [I x] = some (.ret (.bool false)) := by
  rw [ap_eq _ Tryd.func73 rfl Tryd.ntmps73 Tryd.results73 (by kernel_rfl) rfl (by exact Nat.le_of_ble_eq_true rfl)]
  simp (config := { maxSteps := 1000000 }) only [RUN, PATHS, BASE, FA, POL, start_tm, Heap.empty, reduceIte, Nat.reduceLT, Nat.reduceLeDiff, Nat.reduceEqDiff, Nat.reduceAdd, Nat.reduceSub, Nat.reduceMul, Nat.reduceBEq, Int.reduceLT, Int.reduceLE, Int.reduceEq, Int.reduceNeg, Int.reduceAdd, Int.reduceSub, Int.reduceMul, Bool.false_eq_true, Bool.not_true, Bool.not_false, decide_eq_true_eq, and_self, true_and, and_true, reduceCtorEq, ne_eq, not_false_eq_true, not_true_eq_false, decide_true, decide_false, or_false, false_or]
omit ha hb hc hd in
theorem c_compare (x y : Int) : ap Tryd.prog pol 58 [I x, I y] = some (.ret (I (CMP x y))) := by
  rw [ap_eq _ Tryd.func58 rfl Tryd.ntmps58 Tryd.results58 (by kernel_rfl) rfl (by exact Nat.le_of_ble_eq_true rfl)]
  unfold CMP
  simp (config := { maxSteps := 1000000 }) only [RUN, PATHS, BASE, FA, POL, start_tm, Heap.empty, reduceIte, Nat.reduceLT, Nat.reduceLeDiff, Nat.reduceEqDiff, Nat.reduceAdd, Nat.reduceSub, Nat.reduceMul, Nat.reduceBEq, Int.reduceLT, Int.reduceLE, Int.reduceEq, Int.reduceNeg, Int.reduceAdd, Int.reduceSub, Int.reduceMul, Bool.false_eq_true, Bool.not_true, Bool.not_false, decide_eq_true_eq, and_self, true_and, and_true, reduceCtorEq, ne_eq, not_false_eq_true, not_true_eq_false, decide_true, decide_false, or_false, false_or, c_nan]
  repeat' split
  all_goals rfl
theorem c_cmp : ap Tryd.prog pol 29 [rat a b, rat c d] = some (.ret (.tup [I (CMPR a b c d).1, I (CMPR a b c d).2])) := by
  rw [ap_eq _ Tryd.func29 rfl Tryd.ntmps29 Tryd.results29 (by kernel_rfl) rfl (by exact Nat.le_of_ble_eq_true rfl)]
  unfold CMPR
  by_cases h1 : VALID a b
  · by_cases h2 : VALID c d
    · simp (config := { maxSteps := 1000000 }) only [RUN, PATHS, BASE, FA, POL, start_tm, Heap.empty, reduceIte, Nat.reduceLT, Nat.reduceLeDiff, Nat.reduceEqDiff, Nat.reduceAdd, Nat.reduceSub, Nat.reduceMul, Nat.reduceBEq, Int.reduceLT, Int.reduceLE, Int.reduceEq, Int.reduceNeg, Int.reduceAdd, Int.reduceSub, Int.reduceMul, Bool.false_eq_true, Bool.not_true, Bool.not_false, decide_eq_true_eq, and_self, true_and, and_true, reduceCtorEq, ne_eq, not_false_eq_true, not_true_eq_false, decide_true, decide_false, or_false, false_or, c_check a b ha hb, c_check c d hc hd, h1, h2, c_compare]
    · simp (config := { maxSteps := 1000000 }) only [RUN, PATHS, BASE, FA, POL, start_tm, Heap.empty, reduceIte, Nat.reduceLT, Nat.reduceLeDiff, Nat.reduceEqDiff, Nat.reduceAdd, Nat.reduceSub, Nat.reduceMul, Nat.reduceBEq, Int.reduceLT, Int.reduceLE, Int.reduceEq, Int.reduceNeg, Int.reduceAdd, Int.reduceSub, Int.reduceMul, Bool.false_eq_true, Bool.not_true, Bool.not_false, decide_eq_true_eq, and_self, true_and, and_true, reduceCtorEq, ne_eq, not_false_eq_true, not_true_eq_false, decide_true, decide_false, or_false, false_or, c_check a b ha hb, c_check c d hc hd, h1, h2, (show ¬ (120 : Int) = 0 by omega)]
  · simp (config := { maxSteps := 1000000 }) only [RUN, PATHS, BASE, FA, POL, start_tm, Heap.empty, reduceIte, Nat.reduceLT, Nat.reduceLeDiff, Nat.reduceEqDiff, Nat.reduceAdd, Nat.reduceSub, Nat.reduceMul, Nat.reduceBEq, Int.reduceLT, Int.reduceLE, Int.reduceEq, Int.reduceNeg, Int.reduceAdd, Int.reduceSub, Int.reduceMul, Bool.false_eq_true, Bool.not_true, Bool.not_false, decide_eq_true_eq, and_self, true_and, and_true, reduceCtorEq, ne_eq, not_false_eq_true, not_true_eq_false, decide_true, decide_false, or_false, false_or, c_check a b ha hb, h1, (show ¬ (120 : Int) = 0 by omega)]
    simp only [false_and, if_false]
end
theorem c_down (n d : Int) (hn : -4611686018427387904 ≤ n ∧ n ≤ 4611686018427387904) (hd : 1 ≤ d ∧ d ≤ 1073741824) : ap Tryd.prog pol 59 [I n, I d] = some (.ret (I (n / d))) := by
  rw [ap_eq _ Tryd.func59 rfl Tryd.ntmps59 Tryd.results59 (by kernel_rfl) rfl (by exact Nat.le_of_ble_eq_true rfl)]
  simp (config := { maxSteps := 1000000 }) only [RUN, PATHS, BASE, FA, POL, start_tm, Heap.empty, reduceIte, Nat.reduceLT, Nat.reduceLeDiff, Nat.reduceEqDiff, Nat.reduceAdd, Nat.reduceSub, Nat.reduceMul, Nat.reduceBEq, Int.reduceLT, Int.reduceLE, Int.reduceEq, Int.reduceNeg, Int.reduceAdd, Int.reduceSub, Int.reduceMul, Bool.false_eq_true, Bool.not_true, Bool.not_false, decide_eq_true_eq, and_self, true_and, and_true, reduceCtorEq, ne_eq, not_false_eq_true, not_true_eq_false, decide_true, decide_false, or_false, false_or, (show ¬ d = 0 by omega)]
  have e1 : (n.tmod d + d).tmod d = n % d := by
    rw [Int.tmod_eq_emod_of_nonneg (by have := Int.lt_tmod_of_pos n (b := d) (by omega); omega)]
    rw [Int.add_emod_right]
    have := Int.tmod_eq_emod (a := n) (b := d)
    rw [this]
    split
    · simp
    · rw [Int.sub_emod]; simp
      rw [show (d.natAbs : Int) = d by omega]
      simp
  have b1 := Int.lt_tmod_of_pos n (b := d) (by omega)
  have b2 := Int.tmod_lt_of_pos n (b := d) (by omega)
  rw [i64_in (x := n.tmod d + d) (by unfold I64; omega), e1]
  have b3 := Int.emod_nonneg n (b := d) (by omega)
  have b4 := Int.emod_lt_of_pos n (b := d) (by omega)
  rw [i64_in (x := n - n % d) (by unfold I64; omega)]
  have e2 : n - n % d = d * (n / d) := by have := Int.mul_ediv_add_emod n d; omega
  rw [e2, Int.mul_tdiv_cancel_left _ (by omega)]
  have b5 : n / d ≤ 4611686018427387904 := by
    apply Int.ediv_le_of_le_mul (by omega)
    omega
  have b6 : -4611686018427387904 ≤ n / d := by
    apply Int.le_ediv_of_mul_le (by omega)
    omega
  rw [i64_in (by unfold I64; omega)]
theorem tdiv_floor {n d : Int} (hd : 1 ≤ d) : n / d = if n.tmod d < 0 then n.tdiv d - 1 else n.tdiv d := by
  have e := Int.mul_tdiv_add_tmod n d
  have b1 := Int.lt_tmod_of_pos n (b := d) (by omega)
  have b2 := Int.tmod_lt_of_pos n (b := d) (by omega)
  split
  · have e2 : n = (n.tmod d + d) + d * (n.tdiv d - 1) := by rw [Int.mul_sub]; omega
    rw (occs := .pos [1]) [e2]
    rw [Int.add_mul_ediv_left _ _ (by omega), Int.ediv_eq_zero_of_lt (by omega) (by omega), Int.zero_add]
  · have e2 : n = n.tmod d + d * (n.tdiv d) := by omega
    rw (occs := .pos [1]) [e2]
    rw [Int.add_mul_ediv_left _ _ (by omega), Int.ediv_eq_zero_of_lt (by omega) (by omega), Int.zero_add]
theorem ediv_bd {n d B : Int} (hd : 1 ≤ d) (hB : 0 ≤ B) (h : -B ≤ n ∧ n ≤ B) : -B ≤ n / d ∧ n / d ≤ B := by
  constructor
  · apply Int.le_ediv_of_mul_le (by omega)
    have := Int.mul_le_mul_of_nonneg_left hd hB
    rw [Int.neg_mul]; omega
  · apply Int.ediv_le_of_le_mul (by omega)
    have := Int.mul_le_mul_of_nonneg_left hd hB
    omega
theorem mul_bd {a n M N : Int} (ha : -M ≤ a ∧ a ≤ M) (hn : -N ≤ n ∧ n ≤ N) : -(M * N) ≤ a * n ∧ a * n ≤ M * N := by
  have h : (a * n).natAbs ≤ (M * N).natAbs := by
    rw [Int.natAbs_mul, Int.natAbs_mul]
    exact Nat.mul_le_mul (by omega) (by omega)
  have : 0 ≤ M * N := Int.mul_nonneg (by omega) (by omega)
  omega
abbrev tup3 (r : Int × Int × Int) : PV := .tup [I r.1, I r.2.1, I r.2.2]
def TIMES (a b n : Int) : Int × Int × Int := if VALID a b then (if n < -1073741824 ∨ 1073741824 < n then (0, 0, 1) else ((a * n) / b, -((-a * n) / b), 0)) else (0, 0, 120)
theorem c_times (a b n : Int) (ha : I64 a) (hb : I64 b) (hn : I64 n) : ap Tryd.prog pol 30 [rat a b, I n] = some (.ret (tup3 (TIMES a b n))) := by
  rw [ap_eq _ Tryd.func30 rfl Tryd.ntmps30 Tryd.results30 (by kernel_rfl) rfl (by exact Nat.le_of_ble_eq_true rfl)]
  unfold TIMES
  by_cases h : VALID a b
  · by_cases h1 : n < -1073741824
    · simp (config := { maxSteps := 1000000 }) only [RUN, PATHS, BASE, FA, POL, start_tm, Heap.empty, reduceIte, Nat.reduceLT, Nat.reduceLeDiff, Nat.reduceEqDiff, Nat.reduceAdd, Nat.reduceSub, Nat.reduceMul, Nat.reduceBEq, Int.reduceLT, Int.reduceLE, Int.reduceEq, Int.reduceNeg, Int.reduceAdd, Int.reduceSub, Int.reduceMul, Bool.false_eq_true, Bool.not_true, Bool.not_false, decide_eq_true_eq, and_self, true_and, and_true, reduceCtorEq, ne_eq, not_false_eq_true, not_true_eq_false, decide_true, decide_false, or_false, false_or, c_check a b ha hb, h, h1, true_or]
    · by_cases h2 : 1073741824 < n
      · simp (config := { maxSteps := 1000000 }) only [RUN, PATHS, BASE, FA, POL, start_tm, Heap.empty, reduceIte, Nat.reduceLT, Nat.reduceLeDiff, Nat.reduceEqDiff, Nat.reduceAdd, Nat.reduceSub, Nat.reduceMul, Nat.reduceBEq, Int.reduceLT, Int.reduceLE, Int.reduceEq, Int.reduceNeg, Int.reduceAdd, Int.reduceSub, Int.reduceMul, Bool.false_eq_true, Bool.not_true, Bool.not_false, decide_eq_true_eq, and_self, true_and, and_true, reduceCtorEq, ne_eq, not_false_eq_true, not_true_eq_false, decide_true, decide_false, or_false, false_or, c_check a b ha hb, h, h1, h2]
      · obtain ⟨v1, v2, v3, v4, v5⟩ := h
        have m1 := mul_bd (a := a) (n := n) (M := 1073741824) (N := 1073741824) ⟨v3, v4⟩ ⟨by omega, by omega⟩
        have m2 := mul_bd (a := -a) (n := n) (M := 1073741824) (N := 1073741824) ⟨by omega, by omega⟩ ⟨by omega, by omega⟩
        have b2 := ediv_bd (n := -a * n) v1 (B := 4611686018427387904) (by omega) (by omega)
        simp (config := { maxSteps := 1000000 }) only [RUN, PATHS, BASE, FA, POL, start_tm, Heap.empty, reduceIte, Nat.reduceLT, Nat.reduceLeDiff, Nat.reduceEqDiff, Nat.reduceAdd, Nat.reduceSub, Nat.reduceMul, Nat.reduceBEq, Int.reduceLT, Int.reduceLE, Int.reduceEq, Int.reduceNeg, Int.reduceAdd, Int.reduceSub, Int.reduceMul, Bool.false_eq_true, Bool.not_true, Bool.not_false, decide_eq_true_eq, and_self, true_and, and_true, reduceCtorEq, ne_eq, not_false_eq_true, not_true_eq_false, decide_true, decide_false, or_false, false_or, c_check a b ha hb, (show VALID a b from ⟨v1, v2, v3, v4, v5⟩), h1, h2, Int.zero_sub, (i64_in (x := a * n) (by unfold I64; omega)), (i64_in (x := -a) (by unfold I64; omega)), (i64_in (x := -a * n) (by unfold I64; omega)),
          c_down (a * n) b (by omega) ⟨v1, v2⟩, c_down (-a * n) b (by omega) ⟨v1, v2⟩, (i64_in (x := -(-a * n / b)) (by unfold I64; omega))]
  · simp (config := { maxSteps := 1000000 }) only [RUN, PATHS, BASE, FA, POL, start_tm, Heap.empty, reduceIte, Nat.reduceLT, Nat.reduceLeDiff, Nat.reduceEqDiff, Nat.reduceAdd, Nat.reduceSub, Nat.reduceMul, Nat.reduceBEq, Int.reduceLT, Int.reduceLE, Int.reduceEq, Int.reduceNeg, Int.reduceAdd, Int.reduceSub, Int.reduceMul, Bool.false_eq_true, Bool.not_true, Bool.not_false, decide_eq_true_eq, and_self, true_and, and_true, reduceCtorEq, ne_eq, not_false_eq_true, not_true_eq_false, decide_true, decide_false, or_false, false_or, c_check a b ha hb, h, (show ¬ (120 : Int) = 0 by omega)]
end Go.Proofs.YthhhahkiflkemaaDoor
