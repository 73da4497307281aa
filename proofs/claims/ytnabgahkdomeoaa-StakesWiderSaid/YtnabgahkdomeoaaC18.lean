/-
  stakes.Share.
-/
import Derived.Test.YtnabgahkdomeoaaC17
import Derived.Test.YtnabgahkdomeoaaL3
set_option linter.unusedSimpArgs false
set_option linter.unusedVariables false
set_option linter.unusedSectionVars false
namespace Go.Proofs.Ytnabgahkdomeoaa
open Go GoV
set_option maxRecDepth 100000

def CKW (T : Int) (w : List Int) : Int := if 600 < w.length then 2 else if (0 ≤ T ∧ T ≤ 1099511627776) ∧ ∀ x ∈ w, OKL x then 0 else 380
theorem CKW_0 {T : Int} {w : List Int} (h : CKW T w = 0) : w.length ≤ 600 ∧ (0 ≤ T ∧ T ≤ 1099511627776) ∧ ∀ x ∈ w, OKL x := by
  unfold CKW at h
  split at h
  · cases h
  · split at h
    · next h1 h2 => exact ⟨by omega, h2⟩
    · cases h
theorem c_right (T : Int) (w : List Int) (c : Option Nat) : ap Try.prog pol 33 [I T, .vs 1 (w.map I) c] = some (.ret (I (CKW T w))) := by
  rw [ap_eq _ Try.func33 rfl Try.ntmps33 Try.results33 (by kernel_rfl) rfl (by exact Nat.le_of_ble_eq_true rfl)]
  by_cases hl : 600 < w.length
  · rw [show CKW T w = 2 by unfold CKW; rw [if_pos hl]]
    simp (config := { maxSteps := 1000000 }) only [RUN, PATHS, BASE, FA, POL, start_tm, Heap.empty, reduceIte, Nat.reduceLT, Nat.reduceLeDiff, Nat.reduceEqDiff, Nat.reduceAdd, Nat.reduceSub, Nat.reduceMul, Nat.reduceBEq, Int.reduceLT, Int.reduceLE, Int.reduceEq, Int.reduceNeg, Int.reduceAdd, Int.reduceSub, Int.reduceMul, Bool.false_eq_true, Bool.not_true, Bool.not_false, decide_eq_true_eq, and_self, true_and, and_true, reduceCtorEq, ne_eq, not_false_eq_true, not_true_eq_false, decide_true, decide_false, or_false, false_or, NUM, SIN, List.length_map, (show (600 : Int) < w.length by omega)]
  have ch := c_has4 w c (by omega)
  have ci := c_in T 1099511627776
  by_cases h1 : 0 ≤ T ∧ T ≤ 1099511627776
  rotate_left
  · rw [show CKW T w = 380 by unfold CKW; rw [if_neg hl, if_neg (fun h => h1 h.1)]]
    rw [decide_eq_false h1] at ci
    simp (config := { maxSteps := 1000000 }) only [RUN, PATHS, BASE, FA, POL, start_tm, Heap.empty, reduceIte, Nat.reduceLT, Nat.reduceLeDiff, Nat.reduceEqDiff, Nat.reduceAdd, Nat.reduceSub, Nat.reduceMul, Nat.reduceBEq, Int.reduceLT, Int.reduceLE, Int.reduceEq, Int.reduceNeg, Int.reduceAdd, Int.reduceSub, Int.reduceMul, Bool.false_eq_true, Bool.not_true, Bool.not_false, decide_eq_true_eq, and_self, true_and, and_true, reduceCtorEq, ne_eq, not_false_eq_true, not_true_eq_false, decide_true, decide_false, or_false, false_or, NUM, SIN, List.length_map, (show ¬ (600 : Int) < w.length by omega), ci]
  rw [decide_eq_true h1] at ci
  by_cases h2 : ∃ x ∈ w, ¬ OKL x
  · rw [show CKW T w = 380 by unfold CKW; rw [if_neg hl, if_neg (fun h => by obtain ⟨x, hx, hn⟩ := h2; exact hn (h.2 x hx))]]
    rw [decide_eq_true h2] at ch
    simp (config := { maxSteps := 1000000 }) only [RUN, PATHS, BASE, FA, POL, start_tm, Heap.empty, reduceIte, Nat.reduceLT, Nat.reduceLeDiff, Nat.reduceEqDiff, Nat.reduceAdd, Nat.reduceSub, Nat.reduceMul, Nat.reduceBEq, Int.reduceLT, Int.reduceLE, Int.reduceEq, Int.reduceNeg, Int.reduceAdd, Int.reduceSub, Int.reduceMul, Bool.false_eq_true, Bool.not_true, Bool.not_false, decide_eq_true_eq, and_self, true_and, and_true, reduceCtorEq, ne_eq, not_false_eq_true, not_true_eq_false, decide_true, decide_false, or_false, false_or, NUM, SIN, List.length_map, (show ¬ (600 : Int) < w.length by omega), ci, ch]
  · rw [show CKW T w = 0 by unfold CKW; rw [if_neg hl, if_pos ⟨h1, fun x hx => Decidable.not_not.1 fun h => h2 ⟨x, hx, h⟩⟩]]
    rw [decide_eq_false h2] at ch
    simp (config := { maxSteps := 1000000 }) only [RUN, PATHS, BASE, FA, POL, start_tm, Heap.empty, reduceIte, Nat.reduceLT, Nat.reduceLeDiff, Nat.reduceEqDiff, Nat.reduceAdd, Nat.reduceSub, Nat.reduceMul, Nat.reduceBEq, Int.reduceLT, Int.reduceLE, Int.reduceEq, Int.reduceNeg, Int.reduceAdd, Int.reduceSub, Int.reduceMul, Bool.false_eq_true, Bool.not_true, Bool.not_false, decide_eq_true_eq, and_self, true_and, and_true, reduceCtorEq, ne_eq, not_false_eq_true, not_true_eq_false, decide_true, decide_false, or_false, false_or, NUM, SIN, List.length_map, (show ¬ (600 : Int) < w.length by omega), ci, ch]
/-- The shares so far, and noughts. -/
def PADZ (q : List Int) (n : Nat) : List Int := q ++ List.replicate (n - q.length) 0
theorem PADZ_set {q : List Int} {n : Nat} (x : Int) (h : q.length < n) : (PADZ q n).set q.length x = PADZ (q ++ [x]) n := by
  unfold PADZ
  rw [show n - q.length = (n - (q ++ [x]).length) + 1 by simp; omega, List.replicate_succ]
  simp
theorem PADZ_len {q : List Int} {n : Nat} (h : q.length ≤ n) : (PADZ q n).length = n := by simp [PADZ]; omega
theorem PADZ_at {q : List Int} {n : Nat} (h : q.length < n) : (PADZ q n)[q.length]? = some 0 := by
  unfold PADZ
  rw [List.getElem?_append_right (by omega), Nat.sub_self, show n - q.length = (n - q.length - 1) + 1 by omega, List.replicate_succ]; rfl
theorem SHQ_take {T S : Int} {w : List Int} {j : Nat} {x : Int} (e : w[j]? = some x) : SHQ T S (w.take (j + 1)) = SHQ T S (w.take j) ++ [T * x / S] := by
  rw [List.take_add_one, e]; simp [SHQ]
theorem SUM_take_le {w : List Int} (h : ∀ x ∈ w, OKL x) (j : Nat) : 0 ≤ SUMI (w.take j) ∧ SUMI (w.take j) ≤ 1073741824 * w.length := by
  have h1 := SUMI_bounds (a := 0) (b := 1073741824) (w.take j) (fun x hx => h x (List.mem_of_mem_take hx))
  have : ((w.take j).length : Int) ≤ w.length := by rw [List.length_take]; omega
  omega
theorem mapI_set (l : List Int) (k : Nat) (x : Int) : (l.map I).set k (I x) = (l.set k x).map I := by rw [List.map_set]
theorem zeros (n : Nat) : List.replicate n (I 0) = ((PADZ [] n).map I) := by simp [PADZ]
end Go.Proofs.Ytnabgahkdomeoaa
