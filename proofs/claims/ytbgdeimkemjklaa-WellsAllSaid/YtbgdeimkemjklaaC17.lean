/-
  What is owed is exact: what the law computes.
-/
import Derived.Test.YtbgdeimkemjklaaC16
set_option linter.unusedSimpArgs false
set_option linter.unusedVariables false
set_option linter.unusedSectionVars false
namespace Go.Proofs.Ytbgdeimkemjklaa
open Go GoV
set_option maxRecDepth 100000

theorem PSUM_end {p k : List Int} (t : Nat) (ht : p.length + k.length ≤ t + 2) : ∀ n, n ≤ p.length → PSUM p k t n = KS p n * KS k k.length
  | 0, _ => by simp [PSUM, KS_zero]
  | n + 1, hn => by
    have e : KS k (t + 1 - n) = KS k k.length := by
      unfold KS
      rw [List.take_of_length_le (by omega), List.take_length]
    rw [PSUM, PSUM_end t ht n (by omega), KS_succ, e, Int.add_mul]
theorem CVs_bd {d : Int} {k p : List Int} (h : BD d k p) (s : Nat) : ∀ n, 0 ≤ CV k p s n ∧ CV k p s n ≤ n * 1125899906842624
  | 0 => by simp [CV]
  | n + 1 => by
    have := CVs_bd h s n
    have := pk_bd h (s - n) n
    rw [Int.mul_comm] at this
    simp only [CV]
    split <;> omega
theorem w_exact (f r d : Int) (k p : List Int) : ap Try.prog pol 5 [well f r d k none, ints p none] = some (.ret (.bool true)) := by
  rw [ap_eq _ Try.func5 rfl Try.ntmps5 Try.results5 (by kernel_rfl) rfl (by exact Nat.le_of_ble_eq_true rfl)]
  by_cases hf : FEW k p
  rotate_left
  · simp (config := { maxSteps := 1000000 }) only [RUN, PATHS, BASE, FA, POL, start_tm, Heap.empty, reduceIte, Nat.reduceLT, Nat.reduceLeDiff, Nat.reduceEqDiff, Nat.reduceAdd, Nat.reduceSub, Nat.reduceMul, Nat.reduceBEq, Int.reduceLT, Int.reduceLE, Int.reduceEq, Int.reduceNeg, Int.reduceAdd, Int.reduceSub, Int.reduceMul, Bool.false_eq_true, Bool.not_true, Bool.not_false, decide_eq_true_eq, and_self, true_and, and_true, reduceCtorEq, ne_eq, not_false_eq_true, not_true_eq_false, decide_true, decide_false, or_false, false_or, INTS, c_sane, c_few, hf]
  have hk : k.length ≤ 1000000 := by unfold FEW at hf; omega
  have hp : p.length ≤ 1000000 := by unfold FEW at hf; omega
  by_cases h0 : CHK f r d k p = 0
  rotate_left
  · simp (config := { maxSteps := 1000000 }) only [RUN, PATHS, BASE, FA, POL, start_tm, Heap.empty, reduceIte, Nat.reduceLT, Nat.reduceLeDiff, Nat.reduceEqDiff, Nat.reduceAdd, Nat.reduceSub, Nat.reduceMul, Nat.reduceBEq, Int.reduceLT, Int.reduceLE, Int.reduceEq, Int.reduceNeg, Int.reduceAdd, Int.reduceSub, Int.reduceMul, Bool.false_eq_true, Bool.not_true, Bool.not_false, decide_eq_true_eq, and_self, true_and, and_true, reduceCtorEq, ne_eq, not_false_eq_true, not_true_eq_false, decide_true, decide_false, or_false, false_or, INTS, NUM, c_sane, c_few, hf, h0, c_owed f r d k p none none hk hp]
  have bd := BD_of h0
  have bd' := bd
  obtain ⟨d1, d2, k0, k1, kn, ks, p1, pl⟩ := bd'
  have hD := DAYS_le bd
  by_cases hp0 : p.length = 0
  · have e0 : DAYS k p = 0 := by simp [DAYS, hp0]
    have e1 : OWE (UNT d k p) = [] := by simp [OWE, UNT, e0]
    simp (config := { maxSteps := 1000000 }) only [RUN, PATHS, BASE, FA, POL, start_tm, Heap.empty, reduceIte, Nat.reduceLT, Nat.reduceLeDiff, Nat.reduceEqDiff, Nat.reduceAdd, Nat.reduceSub, Nat.reduceMul, Nat.reduceBEq, Int.reduceLT, Int.reduceLE, Int.reduceEq, Int.reduceNeg, Int.reduceAdd, Int.reduceSub, Int.reduceMul, Bool.false_eq_true, Bool.not_true, Bool.not_false, decide_eq_true_eq, and_self, true_and, and_true, reduceCtorEq, ne_eq, not_false_eq_true, not_true_eq_false, decide_true, decide_false, or_false, false_or, INTS, NUM, c_sane, c_few, hf, h0, c_owed f r d k p none none hk hp, e1, hp0, (show ¬ (k.length : Int) = 0 by omega), (show ¬ d < 1 by omega), (show ¬ 1048576 < d by omega)]
  have hl : (OWE (UNT d k p)).length = DAYS k p := by rw [OWE_len, UNT_len]
  have hn : DAYS k p = p.length + k.length - 1 := by unfold DAYS; rw [if_neg hp0]
  have hn' : (p.length : Int) + k.length - 1 = (DAYS k p : Int) := by omega
  have cs := c_sums (OWE (UNT d k p)) none (by omega)
  rw [if_pos (OWE_OKL bd), SUMS_OWE, decide_eq_true (OWE_OKL bd)] at cs
  simp (config := { maxSteps := 1000000 }) only [RUN, PATHS, BASE, FA, POL, start_tm, Heap.empty, reduceIte, Nat.reduceLT, Nat.reduceLeDiff, Nat.reduceEqDiff, Nat.reduceAdd, Nat.reduceSub, Nat.reduceMul, Nat.reduceBEq, Int.reduceLT, Int.reduceLE, Int.reduceEq, Int.reduceNeg, Int.reduceAdd, Int.reduceSub, Int.reduceMul, Bool.false_eq_true, Bool.not_true, Bool.not_false, decide_eq_true_eq, and_self, true_and, and_true, reduceCtorEq, ne_eq, not_false_eq_true, not_true_eq_false, decide_true, decide_false, or_false, false_or, INTS, NUM, c_sane, c_few, hf, h0, c_owed f r d k p none none hk hp, cs, hl, hn', (show ¬ (p.length : Int) = 0 by omega), (show ¬ (k.length : Int) = 0 by omega), (show ¬ d < 1 by omega), (show ¬ 1048576 < d by omega), UNT_len, (i64_in (x := (p.length : Int) + k.length) (by unfold I64; omega)), (i64_in (x := (DAYS k p : Int)) (by unfold I64; omega))]
  generalize en : DAYS k p = n at *
  have ul : (UNT d k p).length = n := by rw [UNT_len, en]
  generalize hL : W _ (.loop _) _ = L
  obtain ⟨ex, s, rfl, rfl, g9, g10, g11, g2, g1, gb, gd, gf⟩ := loop_at hL (α := Nat) (fun t => n - t)
    (fun s0 t s => t ≤ n ∧ s.tmps 78 = I t ∧ s.tmps 77 = I n ∧ s.tmps 76 = ints (UNT d k p) none ∧ s.tmps 9 = I (LAST k p t) ∧ s.tmps 10 = I 0 ∧ s.tmps 11 = I 0 ∧ s.tmps 2 = .bptr 0 2 0 0 ∧ s.tmps 1 = ints p none ∧ s.boxes 2 = some (0, [I f, I r, I d, ints k none]) ∧ s.defers = [] ∧ s.fid = 0)
    (fun s0 ex s => ex = .exit 0 ∧ s.tmps 9 = I (LAST k p n) ∧ s.tmps 10 = I 0 ∧ s.tmps 11 = I 0 ∧ s.tmps 2 = .bptr 0 2 0 0 ∧ s.tmps 1 = ints p none ∧ s.boxes 2 = some (0, [I f, I r, I d, ints k none]) ∧ s.defers = [] ∧ s.fid = 0) 0
    (by simp (config := { maxSteps := 1000000 }) only [RUN, PATHS, BASE, FA, POL, start_tm, Heap.empty, reduceIte, Nat.reduceLT, Nat.reduceLeDiff, Nat.reduceEqDiff, Nat.reduceAdd, Nat.reduceSub, Nat.reduceMul, Nat.reduceBEq, Int.reduceLT, Int.reduceLE, Int.reduceEq, Int.reduceNeg, Int.reduceAdd, Int.reduceSub, Int.reduceMul, Bool.false_eq_true, Bool.not_true, Bool.not_false, decide_eq_true_eq, and_self, true_and, and_true, reduceCtorEq, ne_eq, not_false_eq_true, not_true_eq_false, decide_true, decide_false, or_false, false_or]; simp [LAST]) (by
      rintro t s r0 hW ⟨ht, h78, h77, h76, h9, h10, h11, h2, h1, hb, hd, hf⟩
      by_cases hp' : t < n
      · have ug := ints_UNT_get (d := d) (k := k) (p := p) (j := t) (by omega)
        simp (config := { maxSteps := 1000000 }) only [RUN, PATHS, BASE, FA, POL, start_tm, Heap.empty, reduceIte, Nat.reduceLT, Nat.reduceLeDiff, Nat.reduceEqDiff, Nat.reduceAdd, Nat.reduceSub, Nat.reduceMul, Nat.reduceBEq, Int.reduceLT, Int.reduceLE, Int.reduceEq, Int.reduceNeg, Int.reduceAdd, Int.reduceSub, Int.reduceMul, Bool.false_eq_true, Bool.not_true, Bool.not_false, decide_eq_true_eq, and_self, true_and, and_true, reduceCtorEq, ne_eq, not_false_eq_true, not_true_eq_false, decide_true, decide_false, or_false, false_or, INTS, h78, h77, h76, h9, h10, h11, h2, h1, hb, hd, hf, ug, ul, Int.toNat_natCast, (show (t : Int) < n by omega), (show (0 : Int) ≤ t by omega)] at hW
        generalize hL2 : W _ (.loop _) _ = L2 at hW
        obtain ⟨ex, s', rfl, rfl, q78, q77, q76, q13, q9, q10, q11, q2, q1, qb, qd, qf⟩ := loop_at hL2 (α := Nat) (fun j => k.length - j)
          (fun s0 j s => j ≤ k.length ∧ s.tmps 86 = I j ∧ s.tmps 85 = I k.length ∧ s.tmps 84 = ints k none ∧ s.tmps 12 = I t ∧ s.tmps 13 = I ((UNT d k p).getD t 0) ∧ s.tmps 78 = I t ∧ s.tmps 77 = I n ∧ s.tmps 76 = ints (UNT d k p) none ∧ s.tmps 9 = I (LAST k p t + CV k p t j) ∧ s.tmps 10 = I 0 ∧ s.tmps 11 = I 0 ∧ s.tmps 2 = .bptr 0 2 0 0 ∧ s.tmps 1 = ints p none ∧ s.boxes 2 = some (0, [I f, I r, I d, ints k none]) ∧ s.defers = [] ∧ s.fid = 0)
          (fun s0 ex s => ex = .exit 2 ∧ s.tmps 78 = I t ∧ s.tmps 77 = I n ∧ s.tmps 76 = ints (UNT d k p) none ∧ s.tmps 13 = I ((UNT d k p).getD t 0) ∧ s.tmps 9 = I (PSUM p k t p.length) ∧ s.tmps 10 = I 0 ∧ s.tmps 11 = I 0 ∧ s.tmps 2 = .bptr 0 2 0 0 ∧ s.tmps 1 = ints p none ∧ s.boxes 2 = some (0, [I f, I r, I d, ints k none]) ∧ s.defers = [] ∧ s.fid = 0) 0
          (by simp (config := { maxSteps := 1000000 }) only [RUN, PATHS, BASE, FA, POL, start_tm, Heap.empty, reduceIte, Nat.reduceLT, Nat.reduceLeDiff, Nat.reduceEqDiff, Nat.reduceAdd, Nat.reduceSub, Nat.reduceMul, Nat.reduceBEq, Int.reduceLT, Int.reduceLE, Int.reduceEq, Int.reduceNeg, Int.reduceAdd, Int.reduceSub, Int.reduceMul, Bool.false_eq_true, Bool.not_true, Bool.not_false, decide_eq_true_eq, and_self, true_and, and_true, reduceCtorEq, ne_eq, not_false_eq_true, not_true_eq_false, decide_true, decide_false, or_false, false_or, h78, h77, h76, h9, h10, h11, h2, h1, hb, hd, hf, CV]; simp) (by
            rintro j s r1 hW2 ⟨hj, q86, q85, q84, q12, q13, q78, q77, q76, q9, q10, q11, q2, q1, qb, qd, qf⟩
            have lb : 0 ≤ LAST k p t ∧ LAST k p t ≤ p.length * 1125899906842624 := by
              unfold LAST; split
              · omega
              · exact PSUM_bd bd _ _
            have cb := CVs_bd bd t j
            by_cases hk' : j < k.length
            · have f0 : k[j]? = some k[j] := List.getElem?_eq_getElem hk'
              have f1 := ints_get f0
              have fg : k.getD j 0 = k[j] := by rw [List.getD_eq_getElem?_getD, f0]; rfl
              by_cases c1 : j ≤ t
              · have c1' : (t : Int) - j = ((t - j : Nat) : Int) := by omega
                by_cases c2 : t - j < p.length
                · have e0 : p[t - j]? = some p[t - j] := List.getElem?_eq_getElem c2
                  have e1 := ints_get e0
                  have eg : p.getD (t - j) 0 = p[t - j] := by rw [List.getD_eq_getElem?_getD, e0]; rfl
                  have es : CV k p t (j + 1) = CV k p t j + k[j] * p[t - j] := by rw [CV, if_pos c1, fg, eg]
                  have tb := pk_bd bd (t - j) j
                  rw [Int.mul_comm, fg, eg] at tb
                  simp (config := { maxSteps := 1000000 }) only [RUN, PATHS, BASE, FA, POL, start_tm, Heap.empty, reduceIte, Nat.reduceLT, Nat.reduceLeDiff, Nat.reduceEqDiff, Nat.reduceAdd, Nat.reduceSub, Nat.reduceMul, Nat.reduceBEq, Int.reduceLT, Int.reduceLE, Int.reduceEq, Int.reduceNeg, Int.reduceAdd, Int.reduceSub, Int.reduceMul, Bool.false_eq_true, Bool.not_true, Bool.not_false, decide_eq_true_eq, and_self, true_and, and_true, reduceCtorEq, ne_eq, not_false_eq_true, not_true_eq_false, decide_true, decide_false, or_false, false_or, INTS, q86, q85, q84, q12, q13, q78, q77, q76, q9, q10, q11, q2, q1, qb, qd, qf, f1, e1, c1', Int.toNat_natCast, (show (j : Int) < k.length by omega), (show (0 : Int) ≤ j by omega), (show (j : Int) ≤ t by omega), (show ((t - j : Nat) : Int) < p.length by omega), (show (0 : Int) ≤ ((t - j : Nat) : Int) by omega), (i64_in (x := ((t - j : Nat) : Int)) (by unfold I64; omega)), (i64_in (x := (j : Int) + 1) (by unfold I64; omega)), (i64_in (x := k[j] * p[t - j]) (by unfold I64; omega)), (i64_in (x := LAST k p t + CV k p t j + k[j] * p[t - j]) (by unfold I64; omega))] at hW2
                  subst hW2
                  refine rd_next (j + 1) ?_ (show k.length - (j + 1) < k.length - j by omega)
                  simp (config := { maxSteps := 1000000 }) only [RUN, PATHS, BASE, FA, POL, start_tm, Heap.empty, reduceIte, Nat.reduceLT, Nat.reduceLeDiff, Nat.reduceEqDiff, Nat.reduceAdd, Nat.reduceSub, Nat.reduceMul, Nat.reduceBEq, Int.reduceLT, Int.reduceLE, Int.reduceEq, Int.reduceNeg, Int.reduceAdd, Int.reduceSub, Int.reduceMul, Bool.false_eq_true, Bool.not_true, Bool.not_false, decide_eq_true_eq, and_self, true_and, and_true, reduceCtorEq, ne_eq, not_false_eq_true, not_true_eq_false, decide_true, decide_false, or_false, false_or, q85, q84, q12, q13, q78, q77, q76, q10, q11, q2, q1, qb, es]
                  exact ⟨by omega, by congr 1, by congr 1; omega⟩
                · have es : CV k p t (j + 1) = CV k p t j := by
                    rw [CV, if_pos c1, List.getD_eq_getElem?_getD (l := p), List.getElem?_eq_none (by omega)]; simp
                  simp (config := { maxSteps := 1000000 }) only [RUN, PATHS, BASE, FA, POL, start_tm, Heap.empty, reduceIte, Nat.reduceLT, Nat.reduceLeDiff, Nat.reduceEqDiff, Nat.reduceAdd, Nat.reduceSub, Nat.reduceMul, Nat.reduceBEq, Int.reduceLT, Int.reduceLE, Int.reduceEq, Int.reduceNeg, Int.reduceAdd, Int.reduceSub, Int.reduceMul, Bool.false_eq_true, Bool.not_true, Bool.not_false, decide_eq_true_eq, and_self, true_and, and_true, reduceCtorEq, ne_eq, not_false_eq_true, not_true_eq_false, decide_true, decide_false, or_false, false_or, INTS, q86, q85, q84, q12, q13, q78, q77, q76, q9, q10, q11, q2, q1, qb, qd, qf, f1, c1', Int.toNat_natCast, (show (j : Int) < k.length by omega), (show (0 : Int) ≤ j by omega), (show (j : Int) ≤ t by omega), (show ¬ ((t - j : Nat) : Int) < p.length by omega), (i64_in (x := ((t - j : Nat) : Int)) (by unfold I64; omega)), (i64_in (x := (j : Int) + 1) (by unfold I64; omega))] at hW2
                  subst hW2
                  refine rd_next (j + 1) ?_ (show k.length - (j + 1) < k.length - j by omega)
                  simp (config := { maxSteps := 1000000 }) only [RUN, PATHS, BASE, FA, POL, start_tm, Heap.empty, reduceIte, Nat.reduceLT, Nat.reduceLeDiff, Nat.reduceEqDiff, Nat.reduceAdd, Nat.reduceSub, Nat.reduceMul, Nat.reduceBEq, Int.reduceLT, Int.reduceLE, Int.reduceEq, Int.reduceNeg, Int.reduceAdd, Int.reduceSub, Int.reduceMul, Bool.false_eq_true, Bool.not_true, Bool.not_false, decide_eq_true_eq, and_self, true_and, and_true, reduceCtorEq, ne_eq, not_false_eq_true, not_true_eq_false, decide_true, decide_false, or_false, false_or, q85, q84, q12, q13, q78, q77, q76, q9, q10, q11, q2, q1, qb, es]
                  exact ⟨by omega, by congr 1⟩
              · have es : CV k p t (j + 1) = CV k p t j := by rw [CV, if_neg c1]; omega
                simp (config := { maxSteps := 1000000 }) only [RUN, PATHS, BASE, FA, POL, start_tm, Heap.empty, reduceIte, Nat.reduceLT, Nat.reduceLeDiff, Nat.reduceEqDiff, Nat.reduceAdd, Nat.reduceSub, Nat.reduceMul, Nat.reduceBEq, Int.reduceLT, Int.reduceLE, Int.reduceEq, Int.reduceNeg, Int.reduceAdd, Int.reduceSub, Int.reduceMul, Bool.false_eq_true, Bool.not_true, Bool.not_false, decide_eq_true_eq, and_self, true_and, and_true, reduceCtorEq, ne_eq, not_false_eq_true, not_true_eq_false, decide_true, decide_false, or_false, false_or, INTS, q86, q85, q84, q12, q13, q78, q77, q76, q9, q10, q11, q2, q1, qb, qd, qf, f1, Int.toNat_natCast, (show (j : Int) < k.length by omega), (show (0 : Int) ≤ j by omega), (show ¬ (j : Int) ≤ t by omega), (i64_in (x := (j : Int) + 1) (by unfold I64; omega))] at hW2
                subst hW2
                refine rd_next (j + 1) ?_ (show k.length - (j + 1) < k.length - j by omega)
                simp (config := { maxSteps := 1000000 }) only [RUN, PATHS, BASE, FA, POL, start_tm, Heap.empty, reduceIte, Nat.reduceLT, Nat.reduceLeDiff, Nat.reduceEqDiff, Nat.reduceAdd, Nat.reduceSub, Nat.reduceMul, Nat.reduceBEq, Int.reduceLT, Int.reduceLE, Int.reduceEq, Int.reduceNeg, Int.reduceAdd, Int.reduceSub, Int.reduceMul, Bool.false_eq_true, Bool.not_true, Bool.not_false, decide_eq_true_eq, and_self, true_and, and_true, reduceCtorEq, ne_eq, not_false_eq_true, not_true_eq_false, decide_true, decide_false, or_false, false_or, q85, q84, q12, q13, q78, q77, q76, q9, q10, q11, q2, q1, qb, es]
                exact ⟨by omega, by congr 1⟩
            · simp (config := { maxSteps := 1000000 }) only [RUN, PATHS, BASE, FA, POL, start_tm, Heap.empty, reduceIte, Nat.reduceLT, Nat.reduceLeDiff, Nat.reduceEqDiff, Nat.reduceAdd, Nat.reduceSub, Nat.reduceMul, Nat.reduceBEq, Int.reduceLT, Int.reduceLE, Int.reduceEq, Int.reduceNeg, Int.reduceAdd, Int.reduceSub, Int.reduceMul, Bool.false_eq_true, Bool.not_true, Bool.not_false, decide_eq_true_eq, and_self, true_and, and_true, reduceCtorEq, ne_eq, not_false_eq_true, not_true_eq_false, decide_true, decide_false, or_false, false_or, INTS, q86, q85, q84, q12, q13, q78, q77, q76, q9, q10, q11, q2, q1, qb, qd, qf, (show ¬ (j : Int) < k.length by omega)] at hW2
              subst hW2
              have : j = k.length := by omega
              subst this
              have el : LAST k p t + CV k p t k.length = PSUM p k t p.length := by
                rw [← CV_swap, ← LAST_succ]; simp [LAST]
              refine rd_exit ⟨rfl, ?_⟩
              simp (config := { maxSteps := 1000000 }) only [RUN, PATHS, BASE, FA, POL, start_tm, Heap.empty, reduceIte, Nat.reduceLT, Nat.reduceLeDiff, Nat.reduceEqDiff, Nat.reduceAdd, Nat.reduceSub, Nat.reduceMul, Nat.reduceBEq, Int.reduceLT, Int.reduceLE, Int.reduceEq, Int.reduceNeg, Int.reduceAdd, Int.reduceSub, Int.reduceMul, Bool.false_eq_true, Bool.not_true, Bool.not_false, decide_eq_true_eq, and_self, true_and, and_true, reduceCtorEq, ne_eq, not_false_eq_true, not_true_eq_false, decide_true, decide_false, or_false, false_or, q78, q77, q76, q13, q9, q10, q11, q2, q1, qb, el])
        have pb := PSUM_bd bd t p.length
        have ug2 : (UNT d k p).getD t 0 = PSUM p k t p.length / d := UNT_get (by omega)
        have ed : (PSUM p k t p.length).tdiv d = (UNT d k p).getD t 0 := by rw [ug2, Int.tdiv_eq_ediv_of_nonneg pb.1]
        have ub := UNT_bd bd t
        have m1 := Int.mul_ediv_add_emod (PSUM p k t p.length) d
        have m2 := Int.emod_nonneg (PSUM p k t p.length) (show d ≠ 0 by omega)
        have m3 := Int.emod_lt_of_pos (PSUM p k t p.length) (show 0 < d by omega)
        rw [← ug2] at m1
        simp (config := { maxSteps := 1000000 }) only [RUN, PATHS, BASE, FA, POL, start_tm, Heap.empty, reduceIte, Nat.reduceLT, Nat.reduceLeDiff, Nat.reduceEqDiff, Nat.reduceAdd, Nat.reduceSub, Nat.reduceMul, Nat.reduceBEq, Int.reduceLT, Int.reduceLE, Int.reduceEq, Int.reduceNeg, Int.reduceAdd, Int.reduceSub, Int.reduceMul, Bool.false_eq_true, Bool.not_true, Bool.not_false, decide_eq_true_eq, and_self, true_and, and_true, reduceCtorEq, ne_eq, not_false_eq_true, not_true_eq_false, decide_true, decide_false, or_false, false_or, INTS, q78, q77, q76, q13, q9, q10, q11, q2, q1, qb, qd, qf, ed, (show ¬ d = 0 by omega), (i64_in (x := (UNT d k p).getD t 0) (by unfold I64; omega)), (i64_in (x := d * (UNT d k p).getD t 0) (by unfold I64; omega)), (i64_in (x := PSUM p k t p.length - d * (UNT d k p).getD t 0) (by unfold I64; omega)), (show ¬ (UNT d k p).getD t 0 < (UNT d k p).getD t 0 by omega), (show ¬ d ≤ PSUM p k t p.length - d * (UNT d k p).getD t 0 by omega), (i64_in (x := (t : Int) + 1) (by unfold I64; omega))] at hW
        subst hW
        refine rd_next (t + 1) ?_ (show n - (t + 1) < n - t by omega)
        simp (config := { maxSteps := 1000000 }) only [RUN, PATHS, BASE, FA, POL, start_tm, Heap.empty, reduceIte, Nat.reduceLT, Nat.reduceLeDiff, Nat.reduceEqDiff, Nat.reduceAdd, Nat.reduceSub, Nat.reduceMul, Nat.reduceBEq, Int.reduceLT, Int.reduceLE, Int.reduceEq, Int.reduceNeg, Int.reduceAdd, Int.reduceSub, Int.reduceMul, Bool.false_eq_true, Bool.not_true, Bool.not_false, decide_eq_true_eq, and_self, true_and, and_true, reduceCtorEq, ne_eq, not_false_eq_true, not_true_eq_false, decide_true, decide_false, or_false, false_or, q77, q76, q9, q10, q11, q2, q1, qb]
        exact ⟨by omega, by congr 1, by simp [LAST]⟩
      · simp (config := { maxSteps := 1000000 }) only [RUN, PATHS, BASE, FA, POL, start_tm, Heap.empty, reduceIte, Nat.reduceLT, Nat.reduceLeDiff, Nat.reduceEqDiff, Nat.reduceAdd, Nat.reduceSub, Nat.reduceMul, Nat.reduceBEq, Int.reduceLT, Int.reduceLE, Int.reduceEq, Int.reduceNeg, Int.reduceAdd, Int.reduceSub, Int.reduceMul, Bool.false_eq_true, Bool.not_true, Bool.not_false, decide_eq_true_eq, and_self, true_and, and_true, reduceCtorEq, ne_eq, not_false_eq_true, not_true_eq_false, decide_true, decide_false, or_false, false_or, h78, h77, h76, h9, h10, h11, h2, h1, hb, hd, hf, (show ¬ (t : Int) < n by omega)] at hW
        subst hW
        have : t = n := by omega
        subst this
        refine rd_exit ⟨rfl, ?_⟩
        simp (config := { maxSteps := 1000000 }) only [RUN, PATHS, BASE, FA, POL, start_tm, Heap.empty, reduceIte, Nat.reduceLT, Nat.reduceLeDiff, Nat.reduceEqDiff, Nat.reduceAdd, Nat.reduceSub, Nat.reduceMul, Nat.reduceBEq, Int.reduceLT, Int.reduceLE, Int.reduceEq, Int.reduceNeg, Int.reduceAdd, Int.reduceSub, Int.reduceMul, Bool.false_eq_true, Bool.not_true, Bool.not_false, decide_eq_true_eq, and_self, true_and, and_true, reduceCtorEq, ne_eq, not_false_eq_true, not_true_eq_false, decide_true, decide_false, or_false, false_or, h9, h10, h11, h2, h1, hb])
  simp (config := { maxSteps := 1000000 }) only [RUN, PATHS, BASE, FA, POL, start_tm, Heap.empty, reduceIte, Nat.reduceLT, Nat.reduceLeDiff, Nat.reduceEqDiff, Nat.reduceAdd, Nat.reduceSub, Nat.reduceMul, Nat.reduceBEq, Int.reduceLT, Int.reduceLE, Int.reduceEq, Int.reduceNeg, Int.reduceAdd, Int.reduceSub, Int.reduceMul, Bool.false_eq_true, Bool.not_true, Bool.not_false, decide_eq_true_eq, and_self, true_and, and_true, reduceCtorEq, ne_eq, not_false_eq_true, not_true_eq_false, decide_true, decide_false, or_false, false_or, g9, g10, g11, g2, g1, gb, gd, gf]
  clear hL
  generalize hL : W _ (.loop _) _ = L
  obtain ⟨ex, s, rfl, rfl, g10, g9, g11, g1, gd, gf⟩ := loop_at hL (α := Nat) (fun j => k.length - j)
    (fun s0 j s => j ≤ k.length ∧ s.tmps 134 = I j ∧ s.tmps 133 = I k.length ∧ s.tmps 132 = ints k none ∧ s.tmps 10 = I (KS k j) ∧ s.tmps 9 = I (LAST k p n) ∧ s.tmps 11 = I 0 ∧ s.tmps 1 = ints p none ∧ s.defers = [] ∧ s.fid = 0)
    (fun s0 ex s => ex = .exit 4 ∧ s.tmps 10 = I (KS k k.length) ∧ s.tmps 9 = I (LAST k p n) ∧ s.tmps 11 = I 0 ∧ s.tmps 1 = ints p none ∧ s.defers = [] ∧ s.fid = 0) 0
    (by simp (config := { maxSteps := 1000000 }) only [RUN, PATHS, BASE, FA, POL, start_tm, Heap.empty, reduceIte, Nat.reduceLT, Nat.reduceLeDiff, Nat.reduceEqDiff, Nat.reduceAdd, Nat.reduceSub, Nat.reduceMul, Nat.reduceBEq, Int.reduceLT, Int.reduceLE, Int.reduceEq, Int.reduceNeg, Int.reduceAdd, Int.reduceSub, Int.reduceMul, Bool.false_eq_true, Bool.not_true, Bool.not_false, decide_eq_true_eq, and_self, true_and, and_true, reduceCtorEq, ne_eq, not_false_eq_true, not_true_eq_false, decide_true, decide_false, or_false, false_or, KS_zero, g9, g10, g11, g1]; simp) (by
      rintro j s r0 hW ⟨hj, hi, hn, hl, ha, g9, g11, g1, gd, gf⟩
      by_cases hp' : j < k.length
      · have e0 : k[j]? = some k[j] := List.getElem?_eq_getElem hp'
        have e1 := ints_get e0
        have eg : k.getD j 0 = k[j] := by rw [List.getD_eq_getElem?_getD, e0]; rfl
        have es := KS_succ k j
        rw [eg] at es
        have bb := KS_bd bd (j + 1)
        simp (config := { maxSteps := 1000000 }) only [RUN, PATHS, BASE, FA, POL, start_tm, Heap.empty, reduceIte, Nat.reduceLT, Nat.reduceLeDiff, Nat.reduceEqDiff, Nat.reduceAdd, Nat.reduceSub, Nat.reduceMul, Nat.reduceBEq, Int.reduceLT, Int.reduceLE, Int.reduceEq, Int.reduceNeg, Int.reduceAdd, Int.reduceSub, Int.reduceMul, Bool.false_eq_true, Bool.not_true, Bool.not_false, decide_eq_true_eq, and_self, true_and, and_true, reduceCtorEq, ne_eq, not_false_eq_true, not_true_eq_false, decide_true, decide_false, or_false, false_or, INTS, hi, hn, hl, ha, g9, g11, g1, gd, gf, e1, Int.toNat_natCast, (show (j : Int) < k.length by omega), (show (0 : Int) ≤ j by omega), (i64_in (x := (j : Int) + 1) (by unfold I64; omega)), (i64_in (x := KS k j + k[j]) (by unfold I64; omega))] at hW
        subst hW
        refine rd_next (j + 1) ?_ (show k.length - (j + 1) < k.length - j by omega)
        simp (config := { maxSteps := 1000000 }) only [RUN, PATHS, BASE, FA, POL, start_tm, Heap.empty, reduceIte, Nat.reduceLT, Nat.reduceLeDiff, Nat.reduceEqDiff, Nat.reduceAdd, Nat.reduceSub, Nat.reduceMul, Nat.reduceBEq, Int.reduceLT, Int.reduceLE, Int.reduceEq, Int.reduceNeg, Int.reduceAdd, Int.reduceSub, Int.reduceMul, Bool.false_eq_true, Bool.not_true, Bool.not_false, decide_eq_true_eq, and_self, true_and, and_true, reduceCtorEq, ne_eq, not_false_eq_true, not_true_eq_false, decide_true, decide_false, or_false, false_or, hn, hl, g9, g11, g1, es]
        exact ⟨by omega, by congr 1⟩
      · simp (config := { maxSteps := 1000000 }) only [RUN, PATHS, BASE, FA, POL, start_tm, Heap.empty, reduceIte, Nat.reduceLT, Nat.reduceLeDiff, Nat.reduceEqDiff, Nat.reduceAdd, Nat.reduceSub, Nat.reduceMul, Nat.reduceBEq, Int.reduceLT, Int.reduceLE, Int.reduceEq, Int.reduceNeg, Int.reduceAdd, Int.reduceSub, Int.reduceMul, Bool.false_eq_true, Bool.not_true, Bool.not_false, decide_eq_true_eq, and_self, true_and, and_true, reduceCtorEq, ne_eq, not_false_eq_true, not_true_eq_false, decide_true, decide_false, or_false, false_or, hi, hn, hl, ha, g9, g11, g1, gd, gf, (show ¬ (j : Int) < k.length by omega)] at hW
        subst hW
        have : j = k.length := by omega
        subst this
        refine rd_exit ⟨rfl, ?_⟩
        simp (config := { maxSteps := 1000000 }) only [RUN, PATHS, BASE, FA, POL, start_tm, Heap.empty, reduceIte, Nat.reduceLT, Nat.reduceLeDiff, Nat.reduceEqDiff, Nat.reduceAdd, Nat.reduceSub, Nat.reduceMul, Nat.reduceBEq, Int.reduceLT, Int.reduceLE, Int.reduceEq, Int.reduceNeg, Int.reduceAdd, Int.reduceSub, Int.reduceMul, Bool.false_eq_true, Bool.not_true, Bool.not_false, decide_eq_true_eq, and_self, true_and, and_true, reduceCtorEq, ne_eq, not_false_eq_true, not_true_eq_false, decide_true, decide_false, or_false, false_or, ha, g9, g11, g1])
  simp (config := { maxSteps := 1000000 }) only [RUN, PATHS, BASE, FA, POL, start_tm, Heap.empty, reduceIte, Nat.reduceLT, Nat.reduceLeDiff, Nat.reduceEqDiff, Nat.reduceAdd, Nat.reduceSub, Nat.reduceMul, Nat.reduceBEq, Int.reduceLT, Int.reduceLE, Int.reduceEq, Int.reduceNeg, Int.reduceAdd, Int.reduceSub, Int.reduceMul, Bool.false_eq_true, Bool.not_true, Bool.not_false, decide_eq_true_eq, and_self, true_and, and_true, reduceCtorEq, ne_eq, not_false_eq_true, not_true_eq_false, decide_true, decide_false, or_false, false_or, INTS, g9, g10, g11, g1, gd, gf]
  clear hL
  generalize hL : W _ (.loop _) _ = L
  obtain ⟨ex, s, rfl, rfl, g11, g9, g10, gd, gf⟩ := loop_at hL (α := Nat) (fun j => p.length - j)
    (fun s0 j s => j ≤ p.length ∧ s.tmps 144 = I j ∧ s.tmps 143 = I p.length ∧ s.tmps 142 = ints p none ∧ s.tmps 11 = I (KS p j) ∧ s.tmps 9 = I (LAST k p n) ∧ s.tmps 10 = I (KS k k.length) ∧ s.defers = [] ∧ s.fid = 0)
    (fun s0 ex s => ex = .exit 6 ∧ s.tmps 11 = I (KS p p.length) ∧ s.tmps 9 = I (LAST k p n) ∧ s.tmps 10 = I (KS k k.length) ∧ s.defers = [] ∧ s.fid = 0) 0
    (by simp (config := { maxSteps := 1000000 }) only [RUN, PATHS, BASE, FA, POL, start_tm, Heap.empty, reduceIte, Nat.reduceLT, Nat.reduceLeDiff, Nat.reduceEqDiff, Nat.reduceAdd, Nat.reduceSub, Nat.reduceMul, Nat.reduceBEq, Int.reduceLT, Int.reduceLE, Int.reduceEq, Int.reduceNeg, Int.reduceAdd, Int.reduceSub, Int.reduceMul, Bool.false_eq_true, Bool.not_true, Bool.not_false, decide_eq_true_eq, and_self, true_and, and_true, reduceCtorEq, ne_eq, not_false_eq_true, not_true_eq_false, decide_true, decide_false, or_false, false_or, KS_zero, g9, g10, g11]; simp) (by
      rintro j s r0 hW ⟨hj, hi, hn, hl, ha, g9, g10, gd, gf⟩
      by_cases hp' : j < p.length
      · have e0 : p[j]? = some p[j] := List.getElem?_eq_getElem hp'
        have e1 := ints_get e0
        have eg : p.getD j 0 = p[j] := by rw [List.getD_eq_getElem?_getD, e0]; rfl
        have es := KS_succ p j
        rw [eg] at es
        have bb := KS_le p pl (j + 1)
        simp (config := { maxSteps := 1000000 }) only [RUN, PATHS, BASE, FA, POL, start_tm, Heap.empty, reduceIte, Nat.reduceLT, Nat.reduceLeDiff, Nat.reduceEqDiff, Nat.reduceAdd, Nat.reduceSub, Nat.reduceMul, Nat.reduceBEq, Int.reduceLT, Int.reduceLE, Int.reduceEq, Int.reduceNeg, Int.reduceAdd, Int.reduceSub, Int.reduceMul, Bool.false_eq_true, Bool.not_true, Bool.not_false, decide_eq_true_eq, and_self, true_and, and_true, reduceCtorEq, ne_eq, not_false_eq_true, not_true_eq_false, decide_true, decide_false, or_false, false_or, INTS, hi, hn, hl, ha, g9, g10, gd, gf, e1, Int.toNat_natCast, (show (j : Int) < p.length by omega), (show (0 : Int) ≤ j by omega), (i64_in (x := (j : Int) + 1) (by unfold I64; omega)), (i64_in (x := KS p j + p[j]) (by unfold I64; omega))] at hW
        subst hW
        refine rd_next (j + 1) ?_ (show p.length - (j + 1) < p.length - j by omega)
        simp (config := { maxSteps := 1000000 }) only [RUN, PATHS, BASE, FA, POL, start_tm, Heap.empty, reduceIte, Nat.reduceLT, Nat.reduceLeDiff, Nat.reduceEqDiff, Nat.reduceAdd, Nat.reduceSub, Nat.reduceMul, Nat.reduceBEq, Int.reduceLT, Int.reduceLE, Int.reduceEq, Int.reduceNeg, Int.reduceAdd, Int.reduceSub, Int.reduceMul, Bool.false_eq_true, Bool.not_true, Bool.not_false, decide_eq_true_eq, and_self, true_and, and_true, reduceCtorEq, ne_eq, not_false_eq_true, not_true_eq_false, decide_true, decide_false, or_false, false_or, hn, hl, g9, g10, es]
        exact ⟨by omega, by congr 1⟩
      · simp (config := { maxSteps := 1000000 }) only [RUN, PATHS, BASE, FA, POL, start_tm, Heap.empty, reduceIte, Nat.reduceLT, Nat.reduceLeDiff, Nat.reduceEqDiff, Nat.reduceAdd, Nat.reduceSub, Nat.reduceMul, Nat.reduceBEq, Int.reduceLT, Int.reduceLE, Int.reduceEq, Int.reduceNeg, Int.reduceAdd, Int.reduceSub, Int.reduceMul, Bool.false_eq_true, Bool.not_true, Bool.not_false, decide_eq_true_eq, and_self, true_and, and_true, reduceCtorEq, ne_eq, not_false_eq_true, not_true_eq_false, decide_true, decide_false, or_false, false_or, hi, hn, hl, ha, g9, g10, gd, gf, (show ¬ (j : Int) < p.length by omega)] at hW
        subst hW
        have : j = p.length := by omega
        subst this
        refine rd_exit ⟨rfl, ?_⟩
        simp (config := { maxSteps := 1000000 }) only [RUN, PATHS, BASE, FA, POL, start_tm, Heap.empty, reduceIte, Nat.reduceLT, Nat.reduceLeDiff, Nat.reduceEqDiff, Nat.reduceAdd, Nat.reduceSub, Nat.reduceMul, Nat.reduceBEq, Int.reduceLT, Int.reduceLE, Int.reduceEq, Int.reduceNeg, Int.reduceAdd, Int.reduceSub, Int.reduceMul, Bool.false_eq_true, Bool.not_true, Bool.not_false, decide_eq_true_eq, and_self, true_and, and_true, reduceCtorEq, ne_eq, not_false_eq_true, not_true_eq_false, decide_true, decide_false, or_false, false_or, ha, g9, g10])
  have hn2 : n = p.length + k.length - 1 := by rw [← en]; unfold DAYS; rw [if_neg hp0]
  have e9 : LAST k p n = KS k k.length * KS p p.length := by
    unfold LAST
    rw [if_neg (by omega), PSUM_end (p := p) (k := k) (n - 1) (by omega) p.length (Nat.le_refl _), Int.mul_comm]
  have b1 := KS_bd bd k.length
  have b2 := KS_le p pl p.length
  have b3 : 0 ≤ LAST k p n ∧ LAST k p n ≤ p.length * 1125899906842624 := by
    unfold LAST; split
    · omega
    · exact PSUM_bd bd _ _
  rw [e9] at b3 g9
  simp (config := { maxSteps := 1000000 }) only [RUN, PATHS, BASE, FA, POL, start_tm, Heap.empty, reduceIte, Nat.reduceLT, Nat.reduceLeDiff, Nat.reduceEqDiff, Nat.reduceAdd, Nat.reduceSub, Nat.reduceMul, Nat.reduceBEq, Int.reduceLT, Int.reduceLE, Int.reduceEq, Int.reduceNeg, Int.reduceAdd, Int.reduceSub, Int.reduceMul, Bool.false_eq_true, Bool.not_true, Bool.not_false, decide_eq_true_eq, and_self, true_and, and_true, reduceCtorEq, ne_eq, not_false_eq_true, not_true_eq_false, decide_true, decide_false, or_false, false_or, g9, g10, g11, gd, gf, (i64_in (x := KS k k.length * KS p p.length) (by unfold I64; omega))]
end Go.Proofs.Ytbgdeimkemjklaa
