/-
  The chapter's examples.
-/
import Derived.Test.YtnabgahkdomeoaaC26
set_option linter.unusedSimpArgs false
set_option linter.unusedVariables false
set_option linter.unusedSectionVars false
namespace Go.Proofs.Ytnabgahkdomeoaa
open Go GoV
set_option maxRecDepth 100000

def XS : Stk := ⟨2, 0, 10, 3⟩
def PX (n : Int) : Pst := ⟨2, [⟨5, 9⟩], some 1, [n], some 1⟩
theorem c_past (n : Int) : ap Try.prog pol 25 [I n] = some (.ret (.vs 3 ([PX n].map pst) (some 1))) := by
  rw [ap_eq _ Try.func25 rfl Try.ntmps25 Try.results25 (by kernel_rfl) rfl (by exact Nat.le_of_ble_eq_true rfl)]
  simp (config := { maxSteps := 1000000 }) only [RUN, PATHS, BASE, FA, POL, start_tm, Heap.empty, reduceIte, Nat.reduceLT, Nat.reduceLeDiff, Nat.reduceEqDiff, Nat.reduceAdd, Nat.reduceSub, Nat.reduceMul, Nat.reduceBEq, Int.reduceLT, Int.reduceLE, Int.reduceEq, Int.reduceNeg, Int.reduceAdd, Int.reduceSub, Int.reduceMul, Bool.false_eq_true, Bool.not_true, Bool.not_false, decide_eq_true_eq, and_self, true_and, and_true, reduceCtorEq, ne_eq, not_false_eq_true, not_true_eq_false, decide_true, decide_false, or_false, false_or, NUM, SIN]
  rfl
theorem good1 : GOOD [XS] := by
  intro k hk x e
  have : k = 0 := by simp at hk; omega
  subst this
  cases e
  exact ⟨by unfold OKS XS; decide, fun y h => by omega⟩
theorem good2 : ¬ GOOD [XS, XS] := by
  intro h
  have := (h 1 (by simp) XS rfl).2 XS (by omega) rfl
  omega
theorem inc1 (n : Int) : INC [PX n] := by
  intro k hk x e y h
  have : k = 0 := by simp at hk; omega
  omega
theorem okp1 {n : Int} (h : 0 ≤ n ∧ n ≤ 1099511627776) : ∀ x ∈ [PX n], OKP x := by
  intro x hx
  simp only [List.mem_singleton] at hx
  subst hx
  refine ⟨by show (0 : Int) ≤ 2 ∧ (2 : Int) ≤ 63; decide, ?_, rfl, fun m hm => ?_⟩
  · show RIGHT [⟨5, 9⟩]
    decide
  · have : m = n := by simpa [PX] using hm
    subst this; exact h
theorem chk1 {n : Int} (h : 0 ≤ n ∧ n ≤ 1099511627776) : CHK [XS] [PX n] = 0 := by
  have h1 : CKS [XS] = 0 := by unfold CKS; rw [if_neg (by simp), if_pos good1]
  have h2 : CKP [PX n] = 0 := CKP_0.2 ⟨by simp, okp1 h⟩
  unfold CHK
  rw [if_pos h1, if_pos h2, if_pos (inc1 n)]
theorem forv1 (n : Int) : FORV XS [PX n] = min 10 (3 * DIST ⟨5, 9⟩ n) := by
  simp [FORV, FND, XS, PX, AMT]
theorem for1 {n : Int} (h : 0 ≤ n ∧ n ≤ 1099511627776) : FOR [XS] [PX n] 0 = (min 10 (3 * DIST ⟨5, 9⟩ n), 0) := by
  unfold FOR
  rw [if_pos (chk1 h), if_pos (by simp), ← forv1]; rfl
theorem c_nil14 : ap Try.prog pol 14 [.nils] = some (.ret (I 0)) := by
  rw [ap_eq _ Try.func14 rfl Try.ntmps14 Try.results14 (by kernel_rfl) rfl (by exact Nat.le_of_ble_eq_true rfl)]
  simp (config := { maxSteps := 1000000 }) only [RUN, PATHS, BASE, FA, POL, start_tm, Heap.empty, reduceIte, Nat.reduceLT, Nat.reduceLeDiff, Nat.reduceEqDiff, Nat.reduceAdd, Nat.reduceSub, Nat.reduceMul, Nat.reduceBEq, Int.reduceLT, Int.reduceLE, Int.reduceEq, Int.reduceNeg, Int.reduceAdd, Int.reduceSub, Int.reduceMul, Bool.false_eq_true, Bool.not_true, Bool.not_false, decide_eq_true_eq, and_self, true_and, and_true, reduceCtorEq, ne_eq, not_false_eq_true, not_true_eq_false, decide_true, decide_false, or_false, false_or, WW_loop]
theorem c_nil68 : ap Try.prog pol 68 [.nils, .fn 60 []] = some (.ret (I (-1))) := by
  rw [ap_eq _ Try.func68 rfl Try.ntmps68 Try.results68 (by kernel_rfl) rfl (by exact Nat.le_of_ble_eq_true rfl)]
  simp (config := { maxSteps := 1000000 }) only [RUN, PATHS, BASE, FA, POL, start_tm, Heap.empty, reduceIte, Nat.reduceLT, Nat.reduceLeDiff, Nat.reduceEqDiff, Nat.reduceAdd, Nat.reduceSub, Nat.reduceMul, Nat.reduceBEq, Int.reduceLT, Int.reduceLE, Int.reduceEq, Int.reduceNeg, Int.reduceAdd, Int.reduceSub, Int.reduceMul, Bool.false_eq_true, Bool.not_true, Bool.not_false, decide_eq_true_eq, and_self, true_and, and_true, reduceCtorEq, ne_eq, not_false_eq_true, not_true_eq_false, decide_true, decide_false, or_false, false_or, WW_loop]
theorem c_nil59 : ap Try.prog pol 59 [.nils, .fn 60 []] = some (.ret (.bool false)) := by
  rw [ap_eq _ Try.func59 rfl Try.ntmps59 Try.results59 (by kernel_rfl) rfl (by exact Nat.le_of_ble_eq_true rfl)]
  simp (config := { maxSteps := 1000000 }) only [RUN, PATHS, BASE, FA, POL, start_tm, Heap.empty, reduceIte, Nat.reduceLT, Nat.reduceLeDiff, Nat.reduceEqDiff, Nat.reduceAdd, Nat.reduceSub, Nat.reduceMul, Nat.reduceBEq, Int.reduceLT, Int.reduceLE, Int.reduceEq, Int.reduceNeg, Int.reduceAdd, Int.reduceSub, Int.reduceMul, Bool.false_eq_true, Bool.not_true, Bool.not_false, decide_eq_true_eq, and_self, true_and, and_true, reduceCtorEq, ne_eq, not_false_eq_true, not_true_eq_false, decide_true, decide_false, or_false, false_or, WW_loop, c_nil68]
theorem c_nil44 : ap Try.prog pol 44 [.nils] = some (.ret (I 0)) := by
  rw [ap_eq _ Try.func44 rfl Try.ntmps44 Try.results44 (by kernel_rfl) rfl (by exact Nat.le_of_ble_eq_true rfl)]
  simp (config := { maxSteps := 1000000 }) only [RUN, PATHS, BASE, FA, POL, start_tm, Heap.empty, reduceIte, Nat.reduceLT, Nat.reduceLeDiff, Nat.reduceEqDiff, Nat.reduceAdd, Nat.reduceSub, Nat.reduceMul, Nat.reduceBEq, Int.reduceLT, Int.reduceLE, Int.reduceEq, Int.reduceNeg, Int.reduceAdd, Int.reduceSub, Int.reduceMul, Bool.false_eq_true, Bool.not_true, Bool.not_false, decide_eq_true_eq, and_self, true_and, and_true, reduceCtorEq, ne_eq, not_false_eq_true, not_true_eq_false, decide_true, decide_false, or_false, false_or, WW_loop, c_nil59]
theorem c_nil27 : ap Try.prog pol 27 [.nils, .nils] = some (.ret (I 0)) := by
  rw [ap_eq _ Try.func27 rfl Try.ntmps27 Try.results27 (by kernel_rfl) rfl (by exact Nat.le_of_ble_eq_true rfl)]
  simp (config := { maxSteps := 1000000 }) only [RUN, PATHS, BASE, FA, POL, start_tm, Heap.empty, reduceIte, Nat.reduceLT, Nat.reduceLeDiff, Nat.reduceEqDiff, Nat.reduceAdd, Nat.reduceSub, Nat.reduceMul, Nat.reduceBEq, Int.reduceLT, Int.reduceLE, Int.reduceEq, Int.reduceNeg, Int.reduceAdd, Int.reduceSub, Int.reduceMul, Bool.false_eq_true, Bool.not_true, Bool.not_false, decide_eq_true_eq, and_self, true_and, and_true, reduceCtorEq, ne_eq, not_false_eq_true, not_true_eq_false, decide_true, decide_false, or_false, false_or, WW_loop, c_nil14, c_nil44, NUM]
theorem c_nil12 : ap Try.prog pol 12 [.nils, .nils, I 0] = some (.ret (.tup [I 0, I 1])) := by
  have ci := c_in 0 (-1)
  rw [decide_eq_false (by omega)] at ci
  rw [ap_eq _ Try.func12 rfl Try.ntmps12 Try.results12 (by kernel_rfl) rfl (by exact Nat.le_of_ble_eq_true rfl)]
  simp (config := { maxSteps := 1000000 }) only [RUN, PATHS, BASE, FA, POL, start_tm, Heap.empty, reduceIte, Nat.reduceLT, Nat.reduceLeDiff, Nat.reduceEqDiff, Nat.reduceAdd, Nat.reduceSub, Nat.reduceMul, Nat.reduceBEq, Int.reduceLT, Int.reduceLE, Int.reduceEq, Int.reduceNeg, Int.reduceAdd, Int.reduceSub, Int.reduceMul, Bool.false_eq_true, Bool.not_true, Bool.not_false, decide_eq_true_eq, and_self, true_and, and_true, reduceCtorEq, ne_eq, not_false_eq_true, not_true_eq_false, decide_true, decide_false, or_false, false_or, WW_loop, c_nil27, NUM, ci, i64_in (x := -1) (by unfold I64; omega)]
theorem c_nil64 : ap Try.prog pol 64 [.nils, .fn 53 []] = some (.ret (I (-1))) := by
  rw [ap_eq _ Try.func64 rfl Try.ntmps64 Try.results64 (by kernel_rfl) rfl (by exact Nat.le_of_ble_eq_true rfl)]
  simp (config := { maxSteps := 1000000 }) only [RUN, PATHS, BASE, FA, POL, start_tm, Heap.empty, reduceIte, Nat.reduceLT, Nat.reduceLeDiff, Nat.reduceEqDiff, Nat.reduceAdd, Nat.reduceSub, Nat.reduceMul, Nat.reduceBEq, Int.reduceLT, Int.reduceLE, Int.reduceEq, Int.reduceNeg, Int.reduceAdd, Int.reduceSub, Int.reduceMul, Bool.false_eq_true, Bool.not_true, Bool.not_false, decide_eq_true_eq, and_self, true_and, and_true, reduceCtorEq, ne_eq, not_false_eq_true, not_true_eq_false, decide_true, decide_false, or_false, false_or, WW_loop]
theorem c_nil52 : ap Try.prog pol 52 [.nils, .fn 53 []] = some (.ret (.bool false)) := by
  rw [ap_eq _ Try.func52 rfl Try.ntmps52 Try.results52 (by kernel_rfl) rfl (by exact Nat.le_of_ble_eq_true rfl)]
  simp (config := { maxSteps := 1000000 }) only [RUN, PATHS, BASE, FA, POL, start_tm, Heap.empty, reduceIte, Nat.reduceLT, Nat.reduceLeDiff, Nat.reduceEqDiff, Nat.reduceAdd, Nat.reduceSub, Nat.reduceMul, Nat.reduceBEq, Int.reduceLT, Int.reduceLE, Int.reduceEq, Int.reduceNeg, Int.reduceAdd, Int.reduceSub, Int.reduceMul, Bool.false_eq_true, Bool.not_true, Bool.not_false, decide_eq_true_eq, and_self, true_and, and_true, reduceCtorEq, ne_eq, not_false_eq_true, not_true_eq_false, decide_true, decide_false, or_false, false_or, WW_loop, c_nil64]
theorem c_nil33 : ap Try.prog pol 33 [I 7, .nils] = some (.ret (I 0)) ∧ ap Try.prog pol 33 [I (-1), .nils] = some (.ret (I 380)) := by
  have c1 := c_in 7 1099511627776
  have c2 := c_in (-1) 1099511627776
  rw [decide_eq_true (by omega)] at c1
  rw [decide_eq_false (by omega)] at c2
  constructor
  · rw [ap_eq _ Try.func33 rfl Try.ntmps33 Try.results33 (by kernel_rfl) rfl (by exact Nat.le_of_ble_eq_true rfl)]
    simp (config := { maxSteps := 1000000 }) only [RUN, PATHS, BASE, FA, POL, start_tm, Heap.empty, reduceIte, Nat.reduceLT, Nat.reduceLeDiff, Nat.reduceEqDiff, Nat.reduceAdd, Nat.reduceSub, Nat.reduceMul, Nat.reduceBEq, Int.reduceLT, Int.reduceLE, Int.reduceEq, Int.reduceNeg, Int.reduceAdd, Int.reduceSub, Int.reduceMul, Bool.false_eq_true, Bool.not_true, Bool.not_false, decide_eq_true_eq, and_self, true_and, and_true, reduceCtorEq, ne_eq, not_false_eq_true, not_true_eq_false, decide_true, decide_false, or_false, false_or, NUM, c_nil52, c1]
  · rw [ap_eq _ Try.func33 rfl Try.ntmps33 Try.results33 (by kernel_rfl) rfl (by exact Nat.le_of_ble_eq_true rfl)]
    simp (config := { maxSteps := 1000000 }) only [RUN, PATHS, BASE, FA, POL, start_tm, Heap.empty, reduceIte, Nat.reduceLT, Nat.reduceLeDiff, Nat.reduceEqDiff, Nat.reduceAdd, Nat.reduceSub, Nat.reduceMul, Nat.reduceBEq, Int.reduceLT, Int.reduceLE, Int.reduceEq, Int.reduceNeg, Int.reduceAdd, Int.reduceSub, Int.reduceMul, Bool.false_eq_true, Bool.not_true, Bool.not_false, decide_eq_true_eq, and_self, true_and, and_true, reduceCtorEq, ne_eq, not_false_eq_true, not_true_eq_false, decide_true, decide_false, or_false, false_or, NUM, c_nil52, c2]
theorem c_nil16 : ap Try.prog pol 16 [I 7, .nils] = some (.ret (.tup [.vs 1 [] none, I 7, I 0])) ∧ ap Try.prog pol 16 [I (-1), .nils] = some (.ret (.tup [.nils, I 0, I 380])) := by
  constructor
  · rw [ap_eq _ Try.func16 rfl Try.ntmps16 Try.results16 (by kernel_rfl) rfl (by exact Nat.le_of_ble_eq_true rfl)]
    simp (config := { maxSteps := 1000000 }) only [RUN, PATHS, BASE, FA, POL, start_tm, Heap.empty, reduceIte, Nat.reduceLT, Nat.reduceLeDiff, Nat.reduceEqDiff, Nat.reduceAdd, Nat.reduceSub, Nat.reduceMul, Nat.reduceBEq, Int.reduceLT, Int.reduceLE, Int.reduceEq, Int.reduceNeg, Int.reduceAdd, Int.reduceSub, Int.reduceMul, Bool.false_eq_true, Bool.not_true, Bool.not_false, decide_eq_true_eq, and_self, true_and, and_true, reduceCtorEq, ne_eq, not_false_eq_true, not_true_eq_false, decide_true, decide_false, or_false, false_or, NUM, WW_loop, c_nil33, (show (0 : Int) ≤ maxN by unfold maxN; omega), (show 8 ≤ maxB by decide), Nat.zero_add, Nat.le_refl, Int.le_refl]
  · rw [ap_eq _ Try.func16 rfl Try.ntmps16 Try.results16 (by kernel_rfl) rfl (by exact Nat.le_of_ble_eq_true rfl)]
    simp (config := { maxSteps := 1000000 }) only [RUN, PATHS, BASE, FA, POL, start_tm, Heap.empty, reduceIte, Nat.reduceLT, Nat.reduceLeDiff, Nat.reduceEqDiff, Nat.reduceAdd, Nat.reduceSub, Nat.reduceMul, Nat.reduceBEq, Int.reduceLT, Int.reduceLE, Int.reduceEq, Int.reduceNeg, Int.reduceAdd, Int.reduceSub, Int.reduceMul, Bool.false_eq_true, Bool.not_true, Bool.not_false, decide_eq_true_eq, and_self, true_and, and_true, reduceCtorEq, ne_eq, not_false_eq_true, not_true_eq_false, decide_true, decide_false, or_false, false_or, NUM, WW_loop, c_nil33]
theorem sha1 : SHA 10 (SUMI [1, 1, 1]) [1, 1, 1] [⟨0, 1⟩, ⟨1, 1⟩, ⟨2, 1⟩] 1 := ⟨.refl _, by simp [QLT], by decide⟩
theorem sha2 : SHA 2 (SUMI [1, 1, 1]) [1, 1, 1] [⟨0, 2⟩, ⟨1, 2⟩, ⟨2, 2⟩] 2 := ⟨.refl _, by simp [QLT], by decide⟩
theorem sha3 : SHA 9 (SUMI [4, 0, 5]) [4, 0, 5] [⟨0, 0⟩, ⟨1, 0⟩, ⟨2, 0⟩] 0 := ⟨.refl _, by simp [QLT], by decide⟩
theorem outs1 : OUTS 10 [1, 1, 1] = [4, 3, 3] ∧ REST 10 [1, 1, 1] = 0 := by
  unfold OUTS REST
  rw [if_neg (by decide), if_neg (by decide), ← SHO_eq sha1]
  exact ⟨by decide, rfl⟩
theorem outs2 : OUTS 2 [1, 1, 1] = [1, 1, 0] ∧ REST 2 [1, 1, 1] = 0 := by
  unfold OUTS REST
  rw [if_neg (by decide), if_neg (by decide), ← SHO_eq sha2]
  exact ⟨by decide, rfl⟩
theorem outs3 : OUTS 9 [4, 0, 5] = [4, 0, 5] ∧ REST 9 [4, 0, 5] = 0 := by
  unfold OUTS REST
  rw [if_neg (by decide), if_neg (by decide), ← SHO_eq sha3]
  exact ⟨by decide, rfl⟩
theorem c_sane : SANE := by
  have f1 := c_forfeit [XS] [PX 11] (some 1) (some 1) 0
  have f2 := c_forfeit [XS] [PX 0] (some 1) (some 1) 0
  rw [for1 (by omega)] at f1 f2
  have s1 := c_share 10 [1, 1, 1] (some 3)
  have s2 := c_share 2 [1, 1, 1] (some 3)
  rw [SHV_ok (by decide), outs1.1, outs1.2] at s1
  rw [SHV_ok (by decide), outs2.1, outs2.2] at s2
  have s3 := c_settle3 [XS] [PX 12] [4, 0, 5] (some 1) (some 1) (some 3) (chk1 (by omega)) (by decide)
  have pd : PAID [XS] [PX 12] = [9] := by simp only [PAID, List.map_cons, List.map_nil, forv1]; decide
  rw [pd, show SUMI [9] = 9 by decide, outs3.1, outs3.2] at s3
  have k1 := c_check [XS] (some 1)
  have k2 := c_check [XS, XS] none
  rw [if_neg (by simp), if_pos good1] at k1
  rw [if_neg (by simp), if_neg good2] at k2
  have m1 := c_same [4, 3, 3] [4, 3, 3] none (some 3) (by simp)
  have m2 := c_same [1, 1, 0] [1, 1, 0] none (some 3) (by simp)
  have m3 := c_same [9] [9] none (some 1) (by simp)
  have m4 := c_same [4, 0, 5] [4, 0, 5] none (some 3) (by simp)
  rw [decide_eq_true rfl] at m1 m2 m3 m4
  have p1 := c_past 11
  have p2 := c_past 0
  have p3 := c_past 12
  rw [show min 10 (3 * DIST ⟨5, 9⟩ 11) = 6 by decide] at f1
  rw [show min 10 (3 * DIST ⟨5, 9⟩ 0) = 10 by decide] at f2
  simp only [List.map_cons, List.map_nil, stk, XS] at f1 f2 s1 s2 s3 k1 k2 m1 m2 m3 m4 p1 p2 p3
  have q1 := pst_0 (PX 11)
  have q2 := pst_0 (PX 0)
  have q3 := pst_0 (PX 12)
  generalize pst (PX 11) = P1 at *
  generalize pst (PX 0) = P2 at *
  generalize pst (PX 12) = P3 at *
  unfold SANE
  rw [ap_eq _ Try.func10 rfl Try.ntmps10 Try.results10 (by kernel_rfl) rfl (by exact Nat.le_of_ble_eq_true rfl)]
  simp (config := { maxSteps := 1000000 }) only [RUN, PATHS, BASE, FA, POL, start_tm, Heap.empty, reduceIte, Nat.reduceLT, Nat.reduceLeDiff, Nat.reduceEqDiff, Nat.reduceAdd, Nat.reduceSub, Nat.reduceMul, Nat.reduceBEq, Int.reduceLT, Int.reduceLE, Int.reduceEq, Int.reduceNeg, Int.reduceAdd, Int.reduceSub, Int.reduceMul, Bool.false_eq_true, Bool.not_true, Bool.not_false, decide_eq_true_eq, and_self, true_and, and_true, reduceCtorEq, ne_eq, not_false_eq_true, not_true_eq_false, decide_true, decide_false, or_false, false_or, NUM, f1, f2, s1, s2, s3, k1, k2, m1, m2, m3, m4, p1, p2, p3, q1, q2, q3, c_nil12, c_nil16]
  skip
end Go.Proofs.Ytnabgahkdomeoaa
