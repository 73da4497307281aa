/-
  The laws of one parcel: what they compute.
-/
import Derived.Test.YthhhahkiflkemaaDoorC7
set_option linter.unusedSimpArgs false
set_option linter.unusedVariables false
set_option linter.unusedSectionVars false
namespace Go.Proofs.YthhhahkiflkemaaDoor
open Go GoV
set_option maxRecDepth 100000

theorem IsL_iff {p : Int → Prop} {n r : Int} (h : IsL p n r) {v : Int} (h0 : 0 ≤ v) (h1 : v < n) : p v ↔ r ≤ v :=
  ⟨fun g => by
    by_cases h2 : r ≤ v
    · exact h2
    · exact absurd g (h.no v h0 (by omega)), fun g => h.yes v g h1⟩
theorem eq_rng (a b c d : Int) (xo yo : Operand) : binPV Tryd.prog .eql 32 xo yo (rng a b) (rng c d) = some (.bool (decide (a = c ∧ b = d))) ∧ binPV Tryd.prog .neq 32 xo yo (rng a b) (rng c d) = some (.bool (decide (¬ (a = c ∧ b = d)))) := by
  refine bin_agg (by kernel_rfl) (fun n => ?_) xo yo
  have g2 : Tryd.prog.stoodInHeld 32 = false := by kernel_rfl
  simp only [eqPV, Tryd.underlying32, g2, eqFs, partPV, FA, Option.bind_some, Bool.false_eq_true, if_false, List.getElem?_cons_zero, List.getElem?_cons_succ, if_true, String.reduceEq]
  by_cases h1 : a = c <;> by_cases h2 : b = d <;> simp [h1, h2]
theorem AB_f : AB false = WO := by funext r v; rfl
theorem AB_t : AB true = BE := by funext r v; rfl
section
variable (hs : ap Tryd.prog pol 11 [] = some (.ret (.bool true))) (x : Rch) (hx : x.OK)
include hs hx
theorem w_need (v w : Int) : ap Tryd.prog pol 5 [rch x, I v, I w] = some (.ret (.bool true)) := by
  obtain ⟨R, eR, hR⟩ := c_need' x hx w
  have cw := c_Worst x hx v
  rw [ap_eq _ Tryd.func5 rfl Tryd.ntmps5 Tryd.results5 (by kernel_rfl) rfl (by exact Nat.le_of_ble_eq_true rfl)]
  rcases hR with ⟨a, rfl⟩ | ⟨a, r, hl, hr⟩
  · by_cases hv : VC x v = 0
    · rw [if_pos hv] at cw
      simp (config := { maxSteps := 1000000 }) only [RUN, PATHS, BASE, FA, POL, start_tm, Heap.empty, reduceIte, Nat.reduceLT, Nat.reduceLeDiff, Nat.reduceEqDiff, Nat.reduceAdd, Nat.reduceSub, Nat.reduceMul, Nat.reduceBEq, Int.reduceLT, Int.reduceLE, Int.reduceEq, Int.reduceNeg, Int.reduceAdd, Int.reduceSub, Int.reduceMul, Bool.false_eq_true, Bool.not_true, Bool.not_false, decide_eq_true_eq, and_self, true_and, and_true, reduceCtorEq, ne_eq, not_false_eq_true, not_true_eq_false, decide_true, decide_false, or_false, false_or, NUM, hs, cw, eR, a]
    · rw [if_neg hv] at cw
      simp (config := { maxSteps := 1000000 }) only [RUN, PATHS, BASE, FA, POL, start_tm, Heap.empty, reduceIte, Nat.reduceLT, Nat.reduceLeDiff, Nat.reduceEqDiff, Nat.reduceAdd, Nat.reduceSub, Nat.reduceMul, Nat.reduceBEq, Int.reduceLT, Int.reduceLE, Int.reduceEq, Int.reduceNeg, Int.reduceAdd, Int.reduceSub, Int.reduceMul, Bool.false_eq_true, Bool.not_true, Bool.not_false, decide_eq_true_eq, and_self, true_and, and_true, reduceCtorEq, ne_eq, not_false_eq_true, not_true_eq_false, decide_true, decide_false, or_false, false_or, NUM, hs, cw, eR, a, hv]
  have b0 := hl.lo
  rcases hr with ⟨hr, rfl⟩ | ⟨hr, rfl⟩
  · by_cases hv : VC x v = 0
    · rw [if_pos hv] at cw
      have ii := IsL_iff hl ((VC_0 x v).1 hv).2.1 (by have := ((VC_0 x v).1 hv).2.2; omega)
      by_cases h1 : w ≤ WO (los x) v
      · simp (config := { maxSteps := 1000000 }) only [RUN, PATHS, BASE, FA, POL, start_tm, Heap.empty, reduceIte, Nat.reduceLT, Nat.reduceLeDiff, Nat.reduceEqDiff, Nat.reduceAdd, Nat.reduceSub, Nat.reduceMul, Nat.reduceBEq, Int.reduceLT, Int.reduceLE, Int.reduceEq, Int.reduceNeg, Int.reduceAdd, Int.reduceSub, Int.reduceMul, Bool.false_eq_true, Bool.not_true, Bool.not_false, decide_eq_true_eq, and_self, true_and, and_true, reduceCtorEq, ne_eq, not_false_eq_true, not_true_eq_false, decide_true, decide_false, or_false, false_or, NUM, hs, cw, eR, b0, hr, h1, ii.1 h1]
      · simp (config := { maxSteps := 1000000 }) only [RUN, PATHS, BASE, FA, POL, start_tm, Heap.empty, reduceIte, Nat.reduceLT, Nat.reduceLeDiff, Nat.reduceEqDiff, Nat.reduceAdd, Nat.reduceSub, Nat.reduceMul, Nat.reduceBEq, Int.reduceLT, Int.reduceLE, Int.reduceEq, Int.reduceNeg, Int.reduceAdd, Int.reduceSub, Int.reduceMul, Bool.false_eq_true, Bool.not_true, Bool.not_false, decide_eq_true_eq, and_self, true_and, and_true, reduceCtorEq, ne_eq, not_false_eq_true, not_true_eq_false, decide_true, decide_false, or_false, false_or, NUM, hs, cw, eR, b0, hr, h1, (mt ii.2 h1)]
    · rw [if_neg hv] at cw
      simp (config := { maxSteps := 1000000 }) only [RUN, PATHS, BASE, FA, POL, start_tm, Heap.empty, reduceIte, Nat.reduceLT, Nat.reduceLeDiff, Nat.reduceEqDiff, Nat.reduceAdd, Nat.reduceSub, Nat.reduceMul, Nat.reduceBEq, Int.reduceLT, Int.reduceLE, Int.reduceEq, Int.reduceNeg, Int.reduceAdd, Int.reduceSub, Int.reduceMul, Bool.false_eq_true, Bool.not_true, Bool.not_false, decide_eq_true_eq, and_self, true_and, and_true, reduceCtorEq, ne_eq, not_false_eq_true, not_true_eq_false, decide_true, decide_false, or_false, false_or, NUM, hs, cw, eR, hv]
  · by_cases hv : VC x v = 0
    · rw [if_pos hv] at cw
      have ii := IsL_iff hl ((VC_0 x v).1 hv).2.1 (by have := ((VC_0 x v).1 hv).2.2; omega)
      have h1 : ¬ w ≤ WO (los x) v := fun g => by have := ii.1 g; have := ((VC_0 x v).1 hv).2.2; omega
      simp (config := { maxSteps := 1000000 }) only [RUN, PATHS, BASE, FA, POL, start_tm, Heap.empty, reduceIte, Nat.reduceLT, Nat.reduceLeDiff, Nat.reduceEqDiff, Nat.reduceAdd, Nat.reduceSub, Nat.reduceMul, Nat.reduceBEq, Int.reduceLT, Int.reduceLE, Int.reduceEq, Int.reduceNeg, Int.reduceAdd, Int.reduceSub, Int.reduceMul, Bool.false_eq_true, Bool.not_true, Bool.not_false, decide_eq_true_eq, and_self, true_and, and_true, reduceCtorEq, ne_eq, not_false_eq_true, not_true_eq_false, decide_true, decide_false, or_false, false_or, NUM, hs, cw, eR, (show WO (los x) v < w by omega)]
    · rw [if_neg hv] at cw
      simp (config := { maxSteps := 1000000 }) only [RUN, PATHS, BASE, FA, POL, start_tm, Heap.empty, reduceIte, Nat.reduceLT, Nat.reduceLeDiff, Nat.reduceEqDiff, Nat.reduceAdd, Nat.reduceSub, Nat.reduceMul, Nat.reduceBEq, Int.reduceLT, Int.reduceLE, Int.reduceEq, Int.reduceNeg, Int.reduceAdd, Int.reduceSub, Int.reduceMul, Bool.false_eq_true, Bool.not_true, Bool.not_false, decide_eq_true_eq, and_self, true_and, and_true, reduceCtorEq, ne_eq, not_false_eq_true, not_true_eq_false, decide_true, decide_false, or_false, false_or, NUM, hs, cw, eR, hv]
theorem w_ways (v w : Int) : ap Tryd.prog pol 6 [rch x, I v, I w] = some (.ret (.bool true)) := by
  obtain ⟨R, eR, hR⟩ := c_reach' x hx w
  have cw := c_Worst x hx v
  have cb := c_Best x hx v
  rw [ap_eq _ Tryd.func6 rfl Tryd.ntmps6 Tryd.results6 (by kernel_rfl) rfl (by exact Nat.le_of_ble_eq_true rfl)]
  rcases c_most x hx w with ⟨a', em⟩ | ⟨a', m, hm, em⟩
  · rcases hR with ⟨a, rfl⟩ | ⟨a, r, hl, hr⟩
    rotate_left
    · exact absurd a a'
    by_cases hv : VC x v = 0
    · rw [if_pos hv] at cw cb
      simp (config := { maxSteps := 1000000 }) only [RUN, PATHS, BASE, FA, POL, start_tm, Heap.empty, reduceIte, Nat.reduceLT, Nat.reduceLeDiff, Nat.reduceEqDiff, Nat.reduceAdd, Nat.reduceSub, Nat.reduceMul, Nat.reduceBEq, Int.reduceLT, Int.reduceLE, Int.reduceEq, Int.reduceNeg, Int.reduceAdd, Int.reduceSub, Int.reduceMul, Bool.false_eq_true, Bool.not_true, Bool.not_false, decide_eq_true_eq, and_self, true_and, and_true, reduceCtorEq, ne_eq, not_false_eq_true, not_true_eq_false, decide_true, decide_false, or_false, false_or, NUM, hs, cw, cb, eR, em, a]
    · rw [if_neg hv] at cw cb
      simp (config := { maxSteps := 1000000 }) only [RUN, PATHS, BASE, FA, POL, start_tm, Heap.empty, reduceIte, Nat.reduceLT, Nat.reduceLeDiff, Nat.reduceEqDiff, Nat.reduceAdd, Nat.reduceSub, Nat.reduceMul, Nat.reduceBEq, Int.reduceLT, Int.reduceLE, Int.reduceEq, Int.reduceNeg, Int.reduceAdd, Int.reduceSub, Int.reduceMul, Bool.false_eq_true, Bool.not_true, Bool.not_false, decide_eq_true_eq, and_self, true_and, and_true, reduceCtorEq, ne_eq, not_false_eq_true, not_true_eq_false, decide_true, decide_false, or_false, false_or, NUM, hs, cw, cb, eR, em, a, hv]
  rcases hR with ⟨a, rfl⟩ | ⟨a, r, hl, hr⟩
  · exact absurd a' a
  have b0 := hl.lo
  have m0 := hm.lo
  have m1 := hm.hi
  have m2 : 1 ≤ m := by
    by_cases h : m = 0
    · have := hm.yes 0 (by omega) (by decide)
      simp only [WO, HI, if_true] at this
      have := ((VC_0 x w).1 a').2.1
      omega
    · omega
  by_cases hv : VC x v = 0
  rotate_left
  · rw [if_neg hv] at cw cb
    rcases hr with ⟨hr, rfl⟩ | ⟨hr, rfl⟩
    · simp (config := { maxSteps := 1000000 }) only [RUN, PATHS, BASE, FA, POL, start_tm, Heap.empty, reduceIte, Nat.reduceLT, Nat.reduceLeDiff, Nat.reduceEqDiff, Nat.reduceAdd, Nat.reduceSub, Nat.reduceMul, Nat.reduceBEq, Int.reduceLT, Int.reduceLE, Int.reduceEq, Int.reduceNeg, Int.reduceAdd, Int.reduceSub, Int.reduceMul, Bool.false_eq_true, Bool.not_true, Bool.not_false, decide_eq_true_eq, and_self, true_and, and_true, reduceCtorEq, ne_eq, not_false_eq_true, not_true_eq_false, decide_true, decide_false, or_false, false_or, NUM, hs, cw, cb, eR, em, hv]
    · simp (config := { maxSteps := 1000000 }) only [RUN, PATHS, BASE, FA, POL, start_tm, Heap.empty, reduceIte, Nat.reduceLT, Nat.reduceLeDiff, Nat.reduceEqDiff, Nat.reduceAdd, Nat.reduceSub, Nat.reduceMul, Nat.reduceBEq, Int.reduceLT, Int.reduceLE, Int.reduceEq, Int.reduceNeg, Int.reduceAdd, Int.reduceSub, Int.reduceMul, Bool.false_eq_true, Bool.not_true, Bool.not_false, decide_eq_true_eq, and_self, true_and, and_true, reduceCtorEq, ne_eq, not_false_eq_true, not_true_eq_false, decide_true, decide_false, or_false, false_or, NUM, hs, cw, cb, eR, em, hv]
  rw [if_pos hv] at cw cb
  obtain ⟨_, v0, v1⟩ := (VC_0 x v).1 hv
  have ii := IsL_iff hl v0 (by omega)
  have jj := IsL_iff hm v0 (by omega)
  rcases hr with ⟨hr, rfl⟩ | ⟨hr, rfl⟩
  · by_cases h1 : WO (los x) v ≤ w
    · have h2 : v ≤ m - 1 := by
        by_cases h : m ≤ v
        · have := jj.2 h; omega
        · omega
      by_cases h3 : w ≤ BE (los x) v
      · simp (config := { maxSteps := 1000000 }) only [RUN, PATHS, BASE, FA, POL, start_tm, Heap.empty, reduceIte, Nat.reduceLT, Nat.reduceLeDiff, Nat.reduceEqDiff, Nat.reduceAdd, Nat.reduceSub, Nat.reduceMul, Nat.reduceBEq, Int.reduceLT, Int.reduceLE, Int.reduceEq, Int.reduceNeg, Int.reduceAdd, Int.reduceSub, Int.reduceMul, Bool.false_eq_true, Bool.not_true, Bool.not_false, decide_eq_true_eq, and_self, true_and, and_true, reduceCtorEq, ne_eq, not_false_eq_true, not_true_eq_false, decide_true, decide_false, or_false, false_or, NUM, hs, cw, cb, eR, em, (show ¬ m - 1 < 0 by omega), (show ¬ 1073741824 < m - 1 by omega), (show ¬ r < 0 by omega), (show ¬ 1073741824 < r by omega), h1, h2, h3, ii.1 h3]
      · simp (config := { maxSteps := 1000000 }) only [RUN, PATHS, BASE, FA, POL, start_tm, Heap.empty, reduceIte, Nat.reduceLT, Nat.reduceLeDiff, Nat.reduceEqDiff, Nat.reduceAdd, Nat.reduceSub, Nat.reduceMul, Nat.reduceBEq, Int.reduceLT, Int.reduceLE, Int.reduceEq, Int.reduceNeg, Int.reduceAdd, Int.reduceSub, Int.reduceMul, Bool.false_eq_true, Bool.not_true, Bool.not_false, decide_eq_true_eq, and_self, true_and, and_true, reduceCtorEq, ne_eq, not_false_eq_true, not_true_eq_false, decide_true, decide_false, or_false, false_or, NUM, hs, cw, cb, eR, em, (show ¬ m - 1 < 0 by omega), (show ¬ 1073741824 < m - 1 by omega), (show ¬ r < 0 by omega), (show ¬ 1073741824 < r by omega), h1, h2, h3, (mt ii.2 h3)]
    · have h2 : ¬ v ≤ m - 1 := by have := jj.1 (by omega); omega
      by_cases h3 : w ≤ BE (los x) v
      · simp (config := { maxSteps := 1000000 }) only [RUN, PATHS, BASE, FA, POL, start_tm, Heap.empty, reduceIte, Nat.reduceLT, Nat.reduceLeDiff, Nat.reduceEqDiff, Nat.reduceAdd, Nat.reduceSub, Nat.reduceMul, Nat.reduceBEq, Int.reduceLT, Int.reduceLE, Int.reduceEq, Int.reduceNeg, Int.reduceAdd, Int.reduceSub, Int.reduceMul, Bool.false_eq_true, Bool.not_true, Bool.not_false, decide_eq_true_eq, and_self, true_and, and_true, reduceCtorEq, ne_eq, not_false_eq_true, not_true_eq_false, decide_true, decide_false, or_false, false_or, NUM, hs, cw, cb, eR, em, (show ¬ m - 1 < 0 by omega), (show ¬ 1073741824 < m - 1 by omega), (show ¬ r < 0 by omega), (show ¬ 1073741824 < r by omega), h1, h2, h3, ii.1 h3]
      · simp (config := { maxSteps := 1000000 }) only [RUN, PATHS, BASE, FA, POL, start_tm, Heap.empty, reduceIte, Nat.reduceLT, Nat.reduceLeDiff, Nat.reduceEqDiff, Nat.reduceAdd, Nat.reduceSub, Nat.reduceMul, Nat.reduceBEq, Int.reduceLT, Int.reduceLE, Int.reduceEq, Int.reduceNeg, Int.reduceAdd, Int.reduceSub, Int.reduceMul, Bool.false_eq_true, Bool.not_true, Bool.not_false, decide_eq_true_eq, and_self, true_and, and_true, reduceCtorEq, ne_eq, not_false_eq_true, not_true_eq_false, decide_true, decide_false, or_false, false_or, NUM, hs, cw, cb, eR, em, (show ¬ m - 1 < 0 by omega), (show ¬ 1073741824 < m - 1 by omega), (show ¬ r < 0 by omega), (show ¬ 1073741824 < r by omega), h1, h2, h3, (mt ii.2 h3)]
  · have h3 : ¬ w ≤ BE (los x) v := fun g => by have := ii.1 g; omega
    by_cases h1 : WO (los x) v ≤ w
    · have h2 : v ≤ m - 1 := by
        by_cases h : m ≤ v
        · have := jj.2 h; omega
        · omega
      simp (config := { maxSteps := 1000000 }) only [RUN, PATHS, BASE, FA, POL, start_tm, Heap.empty, reduceIte, Nat.reduceLT, Nat.reduceLeDiff, Nat.reduceEqDiff, Nat.reduceAdd, Nat.reduceSub, Nat.reduceMul, Nat.reduceBEq, Int.reduceLT, Int.reduceLE, Int.reduceEq, Int.reduceNeg, Int.reduceAdd, Int.reduceSub, Int.reduceMul, Bool.false_eq_true, Bool.not_true, Bool.not_false, decide_eq_true_eq, and_self, true_and, and_true, reduceCtorEq, ne_eq, not_false_eq_true, not_true_eq_false, decide_true, decide_false, or_false, false_or, NUM, hs, cw, cb, eR, em, (show ¬ m - 1 < 0 by omega), (show ¬ 1073741824 < m - 1 by omega), h1, h2, h3]
    · have h2 : ¬ v ≤ m - 1 := by have := jj.1 (by omega); omega
      simp (config := { maxSteps := 1000000 }) only [RUN, PATHS, BASE, FA, POL, start_tm, Heap.empty, reduceIte, Nat.reduceLT, Nat.reduceLeDiff, Nat.reduceEqDiff, Nat.reduceAdd, Nat.reduceSub, Nat.reduceMul, Nat.reduceBEq, Int.reduceLT, Int.reduceLE, Int.reduceEq, Int.reduceNeg, Int.reduceAdd, Int.reduceSub, Int.reduceMul, Bool.false_eq_true, Bool.not_true, Bool.not_false, decide_eq_true_eq, and_self, true_and, and_true, reduceCtorEq, ne_eq, not_false_eq_true, not_true_eq_false, decide_true, decide_false, or_false, false_or, NUM, hs, cw, cb, eR, em, (show ¬ m - 1 < 0 by omega), (show ¬ 1073741824 < m - 1 by omega), h1, h2, h3]
theorem w_monotone (a b : Int) (ha : I64 a) (hb : I64 b) : ap Tryd.prog pol 7 [rch x, I a, I b] = some (.ret (.bool true)) := by
  obtain ⟨p, q, ep, eq, hpq⟩ : ∃ p q, min a b = p ∧ max a b = q ∧ p ≤ q := ⟨_, _, rfl, rfl, by omega⟩
  have w1 := c_Worst x hx p
  have w2 := c_Worst x hx q
  have u1 := c_Best x hx p
  have u2 := c_Best x hx q
  have l1 := c_Lost x hx p
  rw [ap_eq _ Tryd.func7 rfl Tryd.ntmps7 Tryd.results7 (by kernel_rfl) rfl (by exact Nat.le_of_ble_eq_true rfl)]
  by_cases hp : VC x p = 0
  rotate_left
  · rw [if_neg hp] at w1 u1 l1
    by_cases hq : VC x q = 0
    · rw [if_pos hq] at w2 u2
      simp (config := { maxSteps := 1000000 }) only [RUN, PATHS, BASE, FA, POL, start_tm, Heap.empty, reduceIte, Nat.reduceLT, Nat.reduceLeDiff, Nat.reduceEqDiff, Nat.reduceAdd, Nat.reduceSub, Nat.reduceMul, Nat.reduceBEq, Int.reduceLT, Int.reduceLE, Int.reduceEq, Int.reduceNeg, Int.reduceAdd, Int.reduceSub, Int.reduceMul, Bool.false_eq_true, Bool.not_true, Bool.not_false, decide_eq_true_eq, and_self, true_and, and_true, reduceCtorEq, ne_eq, not_false_eq_true, not_true_eq_false, decide_true, decide_false, or_false, false_or, NUM, hs, ep, eq, w1, w2, u1, u2, l1, hp]
    · rw [if_neg hq] at w2 u2
      simp (config := { maxSteps := 1000000 }) only [RUN, PATHS, BASE, FA, POL, start_tm, Heap.empty, reduceIte, Nat.reduceLT, Nat.reduceLeDiff, Nat.reduceEqDiff, Nat.reduceAdd, Nat.reduceSub, Nat.reduceMul, Nat.reduceBEq, Int.reduceLT, Int.reduceLE, Int.reduceEq, Int.reduceNeg, Int.reduceAdd, Int.reduceSub, Int.reduceMul, Bool.false_eq_true, Bool.not_true, Bool.not_false, decide_eq_true_eq, and_self, true_and, and_true, reduceCtorEq, ne_eq, not_false_eq_true, not_true_eq_false, decide_true, decide_false, or_false, false_or, NUM, hs, ep, eq, w1, w2, u1, u2, l1, hp, hq]
  rw [if_pos hp] at w1 u1 l1
  by_cases hq : VC x q = 0
  rotate_left
  · rw [if_neg hq] at w2 u2
    simp (config := { maxSteps := 1000000 }) only [RUN, PATHS, BASE, FA, POL, start_tm, Heap.empty, reduceIte, Nat.reduceLT, Nat.reduceLeDiff, Nat.reduceEqDiff, Nat.reduceAdd, Nat.reduceSub, Nat.reduceMul, Nat.reduceBEq, Int.reduceLT, Int.reduceLE, Int.reduceEq, Int.reduceNeg, Int.reduceAdd, Int.reduceSub, Int.reduceMul, Bool.false_eq_true, Bool.not_true, Bool.not_false, decide_eq_true_eq, and_self, true_and, and_true, reduceCtorEq, ne_eq, not_false_eq_true, not_true_eq_false, decide_true, decide_false, or_false, false_or, NUM, hs, ep, eq, w1, w2, u1, u2, l1, hq]
  rw [if_pos hq] at w2 u2
  obtain ⟨g, p0, p1⟩ := (VC_0 x p).1 hp
  obtain ⟨_, q0, q1⟩ := (VC_0 x q).1 hq
  have m1 := WO_mono g.RT p0 hpq
  have m2 := BE_mono g.RT p0 hpq
  have k1 := LO_bd g.RT p0
  have k2 := HI_bd g.RT p0
  have k3 := LO_HI g.RT p0
  have e1 : WO (los x) p = p - HI (los x) p := rfl
  have e2 : BE (los x) p = p - LO (los x) p := rfl
  simp (config := { maxSteps := 1000000 }) only [RUN, PATHS, BASE, FA, POL, start_tm, Heap.empty, reduceIte, Nat.reduceLT, Nat.reduceLeDiff, Nat.reduceEqDiff, Nat.reduceAdd, Nat.reduceSub, Nat.reduceMul, Nat.reduceBEq, Int.reduceLT, Int.reduceLE, Int.reduceEq, Int.reduceNeg, Int.reduceAdd, Int.reduceSub, Int.reduceMul, Bool.false_eq_true, Bool.not_true, Bool.not_false, decide_eq_true_eq, and_self, true_and, and_true, reduceCtorEq, ne_eq, not_false_eq_true, not_true_eq_false, decide_true, decide_false, or_false, false_or, NUM, hs, ep, eq, w1, w2, u1, u2, l1, m1, m2, (show 0 ≤ WO (los x) p by omega), (show WO (los x) p ≤ BE (los x) p by omega), (show BE (los x) p ≤ p by omega), k1.1, k3, k2.2, i64_in (x := p - HI (los x) p) (by unfold I64; omega), i64_in (x := p - LO (los x) p) (by unfold I64; omega), eq_true e1, eq_true e2]
theorem w_together (a b : Int) (ha : I64 a) (hb : I64 b) : ap Tryd.prog pol 8 [rch x, I a, I b] = some (.ret (.bool true)) := by
  have w1 := c_Worst x hx a
  have w2 := c_Worst x hx b
  have w3 := c_Worst x hx (a + b)
  rw [ap_eq _ Tryd.func8 rfl Tryd.ntmps8 Tryd.results8 (by kernel_rfl) rfl (by exact Nat.le_of_ble_eq_true rfl)]
  by_cases hp : VC x a = 0
  rotate_left
  · rw [if_neg hp] at w1
    by_cases hq : VC x b = 0
    · rw [if_pos hq] at w2
      simp (config := { maxSteps := 1000000 }) only [RUN, PATHS, BASE, FA, POL, start_tm, Heap.empty, reduceIte, Nat.reduceLT, Nat.reduceLeDiff, Nat.reduceEqDiff, Nat.reduceAdd, Nat.reduceSub, Nat.reduceMul, Nat.reduceBEq, Int.reduceLT, Int.reduceLE, Int.reduceEq, Int.reduceNeg, Int.reduceAdd, Int.reduceSub, Int.reduceMul, Bool.false_eq_true, Bool.not_true, Bool.not_false, decide_eq_true_eq, and_self, true_and, and_true, reduceCtorEq, ne_eq, not_false_eq_true, not_true_eq_false, decide_true, decide_false, or_false, false_or, NUM, hs, w1, w2, hp]
    · rw [if_neg hq] at w2
      simp (config := { maxSteps := 1000000 }) only [RUN, PATHS, BASE, FA, POL, start_tm, Heap.empty, reduceIte, Nat.reduceLT, Nat.reduceLeDiff, Nat.reduceEqDiff, Nat.reduceAdd, Nat.reduceSub, Nat.reduceMul, Nat.reduceBEq, Int.reduceLT, Int.reduceLE, Int.reduceEq, Int.reduceNeg, Int.reduceAdd, Int.reduceSub, Int.reduceMul, Bool.false_eq_true, Bool.not_true, Bool.not_false, decide_eq_true_eq, and_self, true_and, and_true, reduceCtorEq, ne_eq, not_false_eq_true, not_true_eq_false, decide_true, decide_false, or_false, false_or, NUM, hs, w1, w2, hp, hq]
  rw [if_pos hp] at w1
  by_cases hq : VC x b = 0
  rotate_left
  · rw [if_neg hq] at w2
    simp (config := { maxSteps := 1000000 }) only [RUN, PATHS, BASE, FA, POL, start_tm, Heap.empty, reduceIte, Nat.reduceLT, Nat.reduceLeDiff, Nat.reduceEqDiff, Nat.reduceAdd, Nat.reduceSub, Nat.reduceMul, Nat.reduceBEq, Int.reduceLT, Int.reduceLE, Int.reduceEq, Int.reduceNeg, Int.reduceAdd, Int.reduceSub, Int.reduceMul, Bool.false_eq_true, Bool.not_true, Bool.not_false, decide_eq_true_eq, and_self, true_and, and_true, reduceCtorEq, ne_eq, not_false_eq_true, not_true_eq_false, decide_true, decide_false, or_false, false_or, NUM, hs, w1, w2, hq]
  rw [if_pos hq] at w2
  obtain ⟨g, p0, p1⟩ := (VC_0 x a).1 hp
  obtain ⟨_, q0, q1⟩ := (VC_0 x b).1 hq
  by_cases hab : a + b ≤ 1073741824
  rotate_left
  · simp (config := { maxSteps := 1000000 }) only [RUN, PATHS, BASE, FA, POL, start_tm, Heap.empty, reduceIte, Nat.reduceLT, Nat.reduceLeDiff, Nat.reduceEqDiff, Nat.reduceAdd, Nat.reduceSub, Nat.reduceMul, Nat.reduceBEq, Int.reduceLT, Int.reduceLE, Int.reduceEq, Int.reduceNeg, Int.reduceAdd, Int.reduceSub, Int.reduceMul, Bool.false_eq_true, Bool.not_true, Bool.not_false, decide_eq_true_eq, and_self, true_and, and_true, reduceCtorEq, ne_eq, not_false_eq_true, not_true_eq_false, decide_true, decide_false, or_false, false_or, NUM, hs, w1, w2, i64_in (x := a + b) (by unfold I64; omega), (show 1073741824 < a + b by omega)]
  have hc := (VC_0 x (a + b)).2 ⟨g, by omega, hab⟩
  rw [if_pos hc] at w3
  have m1 := WO_add g.RT p0 q0
  have k1 := HI_bd g.RT p0
  have k2 := HI_bd g.RT q0
  have e1 : WO (los x) a = a - HI (los x) a := rfl
  have e2 : WO (los x) b = b - HI (los x) b := rfl
  simp (config := { maxSteps := 1000000 }) only [RUN, PATHS, BASE, FA, POL, start_tm, Heap.empty, reduceIte, Nat.reduceLT, Nat.reduceLeDiff, Nat.reduceEqDiff, Nat.reduceAdd, Nat.reduceSub, Nat.reduceMul, Nat.reduceBEq, Int.reduceLT, Int.reduceLE, Int.reduceEq, Int.reduceNeg, Int.reduceAdd, Int.reduceSub, Int.reduceMul, Bool.false_eq_true, Bool.not_true, Bool.not_false, decide_eq_true_eq, and_self, true_and, and_true, reduceCtorEq, ne_eq, not_false_eq_true, not_true_eq_false, decide_true, decide_false, or_false, false_or, NUM, hs, w1, w2, w3, i64_in (x := a + b) (by unfold I64; omega), (show ¬ 1073741824 < a + b by omega), i64_in (x := WO (los x) a + WO (los x) b) (by unfold I64; omega), m1]
theorem w_spec (v w : Int) : ap Tryd.prog pol 4 [rch x, I v, I w] = some (.ret (.bool true)) := by
  have l1 := c_Lost x hx v
  have l2 := c_refLost x hx v
  have w1 := c_Worst x hx v
  have w2 := c_refWorst x hx v
  have u1 := c_Best x hx v
  have u2 := c_refBest x hx v
  obtain ⟨R, eR, hR⟩ := c_need' x hx w
  obtain ⟨R', eR', hR'⟩ := c_find' x hx w false
  rw [AB_f] at hR'
  have := NDR_one hR hR'
  subst this
  have n2 := c_refneed x w _ eR' (NDR_sh hR)
  obtain ⟨_, _, _, rfl, ⟨a1, rfl⟩, ⟨a2, rfl⟩, ⟨a3, rfl⟩⟩ := NDR_sh hR
  obtain ⟨S, eS, hS⟩ := c_reach' x hx w
  obtain ⟨S', eS', hS'⟩ := c_find' x hx w true
  rw [AB_t] at hS'
  have := NDR_one hS hS'
  subst this
  have n4 := c_refreach x w _ eS' (NDR_sh hS)
  obtain ⟨_, _, _, rfl, ⟨s1, rfl⟩, ⟨s2, rfl⟩, ⟨s3, rfl⟩⟩ := NDR_sh hS
  obtain ⟨m1, m2, em, em'⟩ : ∃ m1 m2, ap Tryd.prog pol 27 [rch x, I w] = some (.ret (.tup [I m1, I m2])) ∧ ap Tryd.prog pol 28 [rch x, I w] = some (.ret (.tup [I m1, I m2])) := by
    rcases c_most x hx w with ⟨a, e⟩ | ⟨a, r, hl, e⟩ <;> rcases c_refmost x hx w with ⟨b, e'⟩ | ⟨b, r', hl', e'⟩
    · exact ⟨_, _, e, e'⟩
    · exact absurd b a
    · exact absurd a b
    · have := IsL_one hl hl'
      subst this
      exact ⟨_, _, e, e'⟩
  rw [ap_eq _ Tryd.func4 rfl Tryd.ntmps4 Tryd.results4 (by kernel_rfl) rfl (by exact Nat.le_of_ble_eq_true rfl)]
  by_cases hv : VC x v = 0
  · rw [if_pos hv] at l1 l2 w1 w2 u1 u2
    simp (config := { maxSteps := 1000000 }) only [RUN, PATHS, BASE, FA, POL, start_tm, Heap.empty, reduceIte, Nat.reduceLT, Nat.reduceLeDiff, Nat.reduceEqDiff, Nat.reduceAdd, Nat.reduceSub, Nat.reduceMul, Nat.reduceBEq, Int.reduceLT, Int.reduceLE, Int.reduceEq, Int.reduceNeg, Int.reduceAdd, Int.reduceSub, Int.reduceMul, Bool.false_eq_true, Bool.not_true, Bool.not_false, decide_eq_true_eq, and_self, true_and, and_true, reduceCtorEq, ne_eq, not_false_eq_true, not_true_eq_false, decide_true, decide_false, or_false, false_or, NUM, hs, l1, l2, w1, w2, u1, u2, eR, n2, eS, n4, em, em', eq_rng, and_self]
  · rw [if_neg hv] at l1 l2 w1 w2 u1 u2
    simp (config := { maxSteps := 1000000 }) only [RUN, PATHS, BASE, FA, POL, start_tm, Heap.empty, reduceIte, Nat.reduceLT, Nat.reduceLeDiff, Nat.reduceEqDiff, Nat.reduceAdd, Nat.reduceSub, Nat.reduceMul, Nat.reduceBEq, Int.reduceLT, Int.reduceLE, Int.reduceEq, Int.reduceNeg, Int.reduceAdd, Int.reduceSub, Int.reduceMul, Bool.false_eq_true, Bool.not_true, Bool.not_false, decide_eq_true_eq, and_self, true_and, and_true, reduceCtorEq, ne_eq, not_false_eq_true, not_true_eq_false, decide_true, decide_false, or_false, false_or, NUM, hs, l1, l2, w1, w2, u1, u2, eR, n2, eS, n4, em, em', eq_rng, and_self]
end
end Go.Proofs.YthhhahkiflkemaaDoor
