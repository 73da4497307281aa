/-
  The specification's searches; the laws of one parcel.
-/
import Derived.Test.YthhhahkiflkemaaDoorC6
set_option linter.unusedSimpArgs false
set_option linter.unusedVariables false
set_option linter.unusedSectionVars false
namespace Go.Proofs.YthhhahkiflkemaaDoor
open Go GoV
set_option maxRecDepth 100000

theorem IsL_congr {p q : Int → Prop} {n r : Int} (h : ∀ v, p v ↔ q v) (hl : IsL p n r) : IsL q n r :=
  ⟨hl.lo, hl.hi, fun i h1 h2 h3 => hl.no i h1 h2 ((h i).2 h3), fun i h1 h2 => (h i).1 (hl.yes i h1 h2)⟩
theorem c_find (x : Rch) (hx : x.OK) (w : Int) (best : Bool) : (VC x w ≠ 0 ∧ ap Tryd.prog pol 53 [rch x, I w, .bool best] = some (.ret (.tup [I 0, .bool false, I (VC x w)]))) ∨
    (VC x w = 0 ∧ ∃ r, IsL (fun v => w ≤ AB best (los x) v) 1073741825 r ∧ ap Tryd.prog pol 53 [rch x, I w, .bool best] = some (.ret (if r ≤ 1073741824 then .tup [I r, .bool true, I 0] else .tup [I 0, .bool false, I 0]))) := by
  by_cases h1 : RIGHT x
  rotate_left
  · have h : VC x w = 210 := by unfold VC; rw [if_neg h1]
    left
    refine ⟨by omega, ?_⟩
    rw [ap_eq _ Tryd.func53 rfl Tryd.ntmps53 Tryd.results53 (by kernel_rfl) rfl (by exact Nat.le_of_ble_eq_true rfl)]
    simp (config := { maxSteps := 1000000 }) only [RUN, PATHS, BASE, FA, POL, start_tm, Heap.empty, reduceIte, Nat.reduceLT, Nat.reduceLeDiff, Nat.reduceEqDiff, Nat.reduceAdd, Nat.reduceSub, Nat.reduceMul, Nat.reduceBEq, Int.reduceLT, Int.reduceLE, Int.reduceEq, Int.reduceNeg, Int.reduceAdd, Int.reduceSub, Int.reduceMul, Bool.false_eq_true, Bool.not_true, Bool.not_false, decide_eq_true_eq, and_self, true_and, and_true, reduceCtorEq, ne_eq, not_false_eq_true, not_true_eq_false, decide_true, decide_false, or_false, false_or, NUM, c_right x hx, h1, h]
  by_cases h2 : 0 ≤ w ∧ w ≤ 1073741824
  rotate_left
  · have h : VC x w = 1 := by unfold VC; rw [if_pos h1, if_neg (by omega)]
    left
    refine ⟨by omega, ?_⟩
    rw [ap_eq _ Tryd.func53 rfl Tryd.ntmps53 Tryd.results53 (by kernel_rfl) rfl (by exact Nat.le_of_ble_eq_true rfl)]
    by_cases h3 : w < 0
    · simp (config := { maxSteps := 1000000 }) only [RUN, PATHS, BASE, FA, POL, start_tm, Heap.empty, reduceIte, Nat.reduceLT, Nat.reduceLeDiff, Nat.reduceEqDiff, Nat.reduceAdd, Nat.reduceSub, Nat.reduceMul, Nat.reduceBEq, Int.reduceLT, Int.reduceLE, Int.reduceEq, Int.reduceNeg, Int.reduceAdd, Int.reduceSub, Int.reduceMul, Bool.false_eq_true, Bool.not_true, Bool.not_false, decide_eq_true_eq, and_self, true_and, and_true, reduceCtorEq, ne_eq, not_false_eq_true, not_true_eq_false, decide_true, decide_false, or_false, false_or, NUM, c_right x hx, h1, h, h3]
    · simp (config := { maxSteps := 1000000 }) only [RUN, PATHS, BASE, FA, POL, start_tm, Heap.empty, reduceIte, Nat.reduceLT, Nat.reduceLeDiff, Nat.reduceEqDiff, Nat.reduceAdd, Nat.reduceSub, Nat.reduceMul, Nat.reduceBEq, Int.reduceLT, Int.reduceLE, Int.reduceEq, Int.reduceNeg, Int.reduceAdd, Int.reduceSub, Int.reduceMul, Bool.false_eq_true, Bool.not_true, Bool.not_false, decide_eq_true_eq, and_self, true_and, and_true, reduceCtorEq, ne_eq, not_false_eq_true, not_true_eq_false, decide_true, decide_false, or_false, false_or, NUM, c_right x hx, h1, h, h3, (show 1073741824 < w by omega)]
  have h := (VC_0 x w).2 ⟨h1, h2⟩
  obtain ⟨r, hl, er⟩ := c_refleast x h1 w best
  have b1 := hl.lo
  right
  refine ⟨h, r, hl, ?_⟩
  rw [ap_eq _ Tryd.func53 rfl Tryd.ntmps53 Tryd.results53 (by kernel_rfl) rfl (by exact Nat.le_of_ble_eq_true rfl)]
  by_cases hr : r ≤ 1073741824
  · rw [if_pos hr] at er
    simp (config := { maxSteps := 1000000 }) only [RUN, PATHS, BASE, FA, POL, start_tm, Heap.empty, reduceIte, Nat.reduceLT, Nat.reduceLeDiff, Nat.reduceEqDiff, Nat.reduceAdd, Nat.reduceSub, Nat.reduceMul, Nat.reduceBEq, Int.reduceLT, Int.reduceLE, Int.reduceEq, Int.reduceNeg, Int.reduceAdd, Int.reduceSub, Int.reduceMul, Bool.false_eq_true, Bool.not_true, Bool.not_false, decide_eq_true_eq, and_self, true_and, and_true, reduceCtorEq, ne_eq, not_false_eq_true, not_true_eq_false, decide_true, decide_false, or_false, false_or, NUM, c_right x hx, h1, er, hr, (show ¬ w < 0 by omega), (show ¬ 1073741824 < w by omega), (show ¬ r < 0 by omega)]
  · rw [if_neg hr] at er
    simp (config := { maxSteps := 1000000 }) only [RUN, PATHS, BASE, FA, POL, start_tm, Heap.empty, reduceIte, Nat.reduceLT, Nat.reduceLeDiff, Nat.reduceEqDiff, Nat.reduceAdd, Nat.reduceSub, Nat.reduceMul, Nat.reduceBEq, Int.reduceLT, Int.reduceLE, Int.reduceEq, Int.reduceNeg, Int.reduceAdd, Int.reduceSub, Int.reduceMul, Bool.false_eq_true, Bool.not_true, Bool.not_false, decide_eq_true_eq, and_self, true_and, and_true, reduceCtorEq, ne_eq, not_false_eq_true, not_true_eq_false, decide_true, decide_false, or_false, false_or, NUM, c_right x hx, h1, er, hr, (show ¬ w < 0 by omega), (show ¬ 1073741824 < w by omega)]
theorem c_refneed (x : Rch) (w : Int) (R : PV) (h : ap Tryd.prog pol 53 [rch x, I w, .bool false] = some (.ret R)) (h3 : ∃ a b c, R = .tup [a, b, c] ∧ (∃ n, a = I n) ∧ (∃ n, b = .bool n) ∧ (∃ n, c = I n)) : ap Tryd.prog pol 24 [rch x, I w] = some (.ret R) := by
  obtain ⟨_, _, _, rfl, ⟨a, rfl⟩, ⟨b, rfl⟩, ⟨c, rfl⟩⟩ := h3
  rw [ap_eq _ Tryd.func24 rfl Tryd.ntmps24 Tryd.results24 (by kernel_rfl) rfl (by exact Nat.le_of_ble_eq_true rfl)]
  simp (config := { maxSteps := 1000000 }) only [RUN, PATHS, BASE, FA, POL, start_tm, Heap.empty, reduceIte, Nat.reduceLT, Nat.reduceLeDiff, Nat.reduceEqDiff, Nat.reduceAdd, Nat.reduceSub, Nat.reduceMul, Nat.reduceBEq, Int.reduceLT, Int.reduceLE, Int.reduceEq, Int.reduceNeg, Int.reduceAdd, Int.reduceSub, Int.reduceMul, Bool.false_eq_true, Bool.not_true, Bool.not_false, decide_eq_true_eq, and_self, true_and, and_true, reduceCtorEq, ne_eq, not_false_eq_true, not_true_eq_false, decide_true, decide_false, or_false, false_or, NUM, h]
theorem c_refreach (x : Rch) (w : Int) (R : PV) (h : ap Tryd.prog pol 53 [rch x, I w, .bool true] = some (.ret R)) (h3 : ∃ a b c, R = .tup [a, b, c] ∧ (∃ n, a = I n) ∧ (∃ n, b = .bool n) ∧ (∃ n, c = I n)) : ap Tryd.prog pol 26 [rch x, I w] = some (.ret R) := by
  obtain ⟨_, _, _, rfl, ⟨a, rfl⟩, ⟨b, rfl⟩, ⟨c, rfl⟩⟩ := h3
  rw [ap_eq _ Tryd.func26 rfl Tryd.ntmps26 Tryd.results26 (by kernel_rfl) rfl (by exact Nat.le_of_ble_eq_true rfl)]
  simp (config := { maxSteps := 1000000 }) only [RUN, PATHS, BASE, FA, POL, start_tm, Heap.empty, reduceIte, Nat.reduceLT, Nat.reduceLeDiff, Nat.reduceEqDiff, Nat.reduceAdd, Nat.reduceSub, Nat.reduceMul, Nat.reduceBEq, Int.reduceLT, Int.reduceLE, Int.reduceEq, Int.reduceNeg, Int.reduceAdd, Int.reduceSub, Int.reduceMul, Bool.false_eq_true, Bool.not_true, Bool.not_false, decide_eq_true_eq, and_self, true_and, and_true, reduceCtorEq, ne_eq, not_false_eq_true, not_true_eq_false, decide_true, decide_false, or_false, false_or, NUM, h]
/-- What both searches answer. -/
def NDR (x : Rch) (w : Int) (A : Los → Int → Int) (R : PV) : Prop := (VC x w ≠ 0 ∧ R = .tup [I 0, .bool false, I (VC x w)]) ∨
  (VC x w = 0 ∧ ∃ r, IsL (fun v => w ≤ A (los x) v) 1073741825 r ∧ ((r ≤ 1073741824 ∧ R = .tup [I r, .bool true, I 0]) ∨ (1073741824 < r ∧ R = .tup [I 0, .bool false, I 0])))
theorem NDR_one {x : Rch} {w : Int} {A : Los → Int → Int} {R S : PV} (h : NDR x w A R) (h' : NDR x w A S) : R = S := by
  rcases h with ⟨a, rfl⟩ | ⟨a, r, hl, h⟩ <;> rcases h' with ⟨b, rfl⟩ | ⟨b, s, hs, h'⟩
  · rfl
  · exact absurd b a
  · exact absurd a b
  · have := IsL_one hl hs
    subst this
    rcases h with ⟨c, rfl⟩ | ⟨c, rfl⟩ <;> rcases h' with ⟨d, rfl⟩ | ⟨d, rfl⟩
    · rfl
    · omega
    · omega
    · rfl
theorem NDR_sh {x : Rch} {w : Int} {A : Los → Int → Int} {R : PV} (h : NDR x w A R) : ∃ a b c, R = .tup [a, b, c] ∧ (∃ n, a = I n) ∧ (∃ n, b = .bool n) ∧ (∃ n, c = I n) := by
  rcases h with ⟨a, rfl⟩ | ⟨a, r, hl, ⟨_, rfl⟩ | ⟨_, rfl⟩⟩ <;> exact ⟨_, _, _, rfl, ⟨_, rfl⟩, ⟨_, rfl⟩, ⟨_, rfl⟩⟩
theorem c_need' (x : Rch) (hx : x.OK) (w : Int) : ∃ R, ap Tryd.prog pol 23 [rch x, I w] = some (.ret R) ∧ NDR x w WO R := by
  rcases c_need x hx w with ⟨a, e⟩ | ⟨a, r, hl, e⟩
  · exact ⟨_, e, .inl ⟨a, rfl⟩⟩
  · have hl' := IsL_congr (q := fun v => w ≤ WO (los x) v) (fun v => by omega) hl
    by_cases hr : r ≤ 1073741824
    · rw [if_pos hr] at e
      exact ⟨_, e, .inr ⟨a, r, hl', .inl ⟨hr, rfl⟩⟩⟩
    · rw [if_neg hr] at e
      exact ⟨_, e, .inr ⟨a, r, hl', .inr ⟨by omega, rfl⟩⟩⟩
theorem c_reach' (x : Rch) (hx : x.OK) (w : Int) : ∃ R, ap Tryd.prog pol 25 [rch x, I w] = some (.ret R) ∧ NDR x w BE R := by
  rcases c_reach x hx w with ⟨a, e⟩ | ⟨a, r, hl, e⟩
  · exact ⟨_, e, .inl ⟨a, rfl⟩⟩
  · have hl' := IsL_congr (q := fun v => w ≤ BE (los x) v) (fun v => by omega) hl
    by_cases hr : r ≤ 1073741824
    · rw [if_pos hr] at e
      exact ⟨_, e, .inr ⟨a, r, hl', .inl ⟨hr, rfl⟩⟩⟩
    · rw [if_neg hr] at e
      exact ⟨_, e, .inr ⟨a, r, hl', .inr ⟨by omega, rfl⟩⟩⟩
theorem c_find' (x : Rch) (hx : x.OK) (w : Int) (best : Bool) : ∃ R, ap Tryd.prog pol 53 [rch x, I w, .bool best] = some (.ret R) ∧ NDR x w (AB best) R := by
  rcases c_find x hx w best with ⟨a, e⟩ | ⟨a, r, hl, e⟩
  · exact ⟨_, e, .inl ⟨a, rfl⟩⟩
  · by_cases hr : r ≤ 1073741824
    · rw [if_pos hr] at e
      exact ⟨_, e, .inr ⟨a, r, hl, .inl ⟨hr, rfl⟩⟩⟩
    · rw [if_neg hr] at e
      exact ⟨_, e, .inr ⟨a, r, hl, .inr ⟨by omega, rfl⟩⟩⟩
theorem c_refmost (x : Rch) (hx : x.OK) (w : Int) : (VC x w ≠ 0 ∧ ap Tryd.prog pol 28 [rch x, I w] = some (.ret (.tup [I 0, I (VC x w)]))) ∨
    (VC x w = 0 ∧ ∃ r, IsL (fun v => w < WO (los x) v) 1073741825 r ∧ ap Tryd.prog pol 28 [rch x, I w] = some (.ret (.tup [I (r - 1), I 0]))) := by
  obtain ⟨R, eR, hR⟩ := c_find' x hx w false
  rcases hR with ⟨a, rfl⟩ | ⟨a, r0, hl0, h0⟩
  · left
    refine ⟨a, ?_⟩
    rw [ap_eq _ Tryd.func28 rfl Tryd.ntmps28 Tryd.results28 (by kernel_rfl) rfl (by exact Nat.le_of_ble_eq_true rfl)]
    simp (config := { maxSteps := 1000000 }) only [RUN, PATHS, BASE, FA, POL, start_tm, Heap.empty, reduceIte, Nat.reduceLT, Nat.reduceLeDiff, Nat.reduceEqDiff, Nat.reduceAdd, Nat.reduceSub, Nat.reduceMul, Nat.reduceBEq, Int.reduceLT, Int.reduceLE, Int.reduceEq, Int.reduceNeg, Int.reduceAdd, Int.reduceSub, Int.reduceMul, Bool.false_eq_true, Bool.not_true, Bool.not_false, decide_eq_true_eq, and_self, true_and, and_true, reduceCtorEq, ne_eq, not_false_eq_true, not_true_eq_false, decide_true, decide_false, or_false, false_or, NUM, eR, a]
  · right
    refine ⟨a, ?_⟩
    obtain ⟨h1, h2⟩ := (VC_0 x w).1 a
    obtain ⟨r, hl, er⟩ := c_refleast x h1 (w + 1) false
    have hl' := IsL_congr (q := fun v => w < WO (los x) v) (fun v => by show w + 1 ≤ AB false (los x) v ↔ _; simp only [AB]; simp; omega) hl
    have b1 := hl.lo
    have b2 := hl.hi
    refine ⟨r, hl', ?_⟩
    obtain ⟨b, c, eR'⟩ : ∃ b c, ap Tryd.prog pol 53 [rch x, I w, .bool false] = some (.ret (.tup [I b, .bool c, I 0])) := by
      rcases h0 with ⟨_, rfl⟩ | ⟨_, rfl⟩ <;> exact ⟨_, _, eR⟩
    rw [ap_eq _ Tryd.func28 rfl Tryd.ntmps28 Tryd.results28 (by kernel_rfl) rfl (by exact Nat.le_of_ble_eq_true rfl)]
    by_cases hr : r ≤ 1073741824
    · rw [if_pos hr] at er
      simp (config := { maxSteps := 1000000 }) only [RUN, PATHS, BASE, FA, POL, start_tm, Heap.empty, reduceIte, Nat.reduceLT, Nat.reduceLeDiff, Nat.reduceEqDiff, Nat.reduceAdd, Nat.reduceSub, Nat.reduceMul, Nat.reduceBEq, Int.reduceLT, Int.reduceLE, Int.reduceEq, Int.reduceNeg, Int.reduceAdd, Int.reduceSub, Int.reduceMul, Bool.false_eq_true, Bool.not_true, Bool.not_false, decide_eq_true_eq, and_self, true_and, and_true, reduceCtorEq, ne_eq, not_false_eq_true, not_true_eq_false, decide_true, decide_false, or_false, false_or, NUM, eR', er, i64_in (x := w + 1) (by unfold I64; omega), (show ¬ r < 0 by omega), i64_in (x := r - 1) (by unfold I64; omega)]
    · rw [if_neg hr] at er
      simp (config := { maxSteps := 1000000 }) only [RUN, PATHS, BASE, FA, POL, start_tm, Heap.empty, reduceIte, Nat.reduceLT, Nat.reduceLeDiff, Nat.reduceEqDiff, Nat.reduceAdd, Nat.reduceSub, Nat.reduceMul, Nat.reduceBEq, Int.reduceLT, Int.reduceLE, Int.reduceEq, Int.reduceNeg, Int.reduceAdd, Int.reduceSub, Int.reduceMul, Bool.false_eq_true, Bool.not_true, Bool.not_false, decide_eq_true_eq, and_self, true_and, and_true, reduceCtorEq, ne_eq, not_false_eq_true, not_true_eq_false, decide_true, decide_false, or_false, false_or, NUM, eR', er, i64_in (x := w + 1) (by unfold I64; omega)]
      have : r = 1073741825 := by omega
      subst this; rfl
end Go.Proofs.YthhhahkiflkemaaDoor
