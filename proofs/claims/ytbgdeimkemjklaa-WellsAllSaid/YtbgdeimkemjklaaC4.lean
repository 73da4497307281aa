/-
  What is owed until a day: the plain law and the reference.
-/
import Derived.Test.YtbgdeimkemjklaaC3
set_option linter.unusedSimpArgs false
set_option linter.unusedVariables false
set_option linter.unusedSectionVars false
namespace Go.Proofs.Ytbgdeimkemjklaa
open Go GoV
set_option maxRecDepth 100000

def KS (k : List Int) (m : Nat) : Int := (k.take m).sum
/-- What is missing until day t on account of the first n days of pumping. -/
def PSUM (p k : List Int) (t : Nat) : Nat → Int
  | 0 => 0
  | n + 1 => PSUM p k t n + p.getD n 0 * KS k (t + 1 - n)
/-- What is missing on day s on account of the first n days. -/
def CV (p k : List Int) (s : Nat) : Nat → Int
  | 0 => 0
  | n + 1 => CV p k s n + if n ≤ s then p.getD n 0 * k.getD (s - n) 0 else 0
theorem KS_succ (k : List Int) (m : Nat) : KS k (m + 1) = KS k m + k.getD m 0 := by
  unfold KS
  by_cases h : m < k.length
  · rw [take_sum k m h, List.getD_eq_getElem?_getD, List.getElem?_eq_getElem h]; rfl
  · rw [List.take_of_length_le (by omega), List.take_of_length_le (by omega), List.getD_eq_getElem?_getD, List.getElem?_eq_none (by omega)]; simp
theorem KS_zero (k : List Int) : KS k 0 = 0 := by simp [KS]
theorem PSUM_succ (p k : List Int) (t : Nat) : ∀ n, PSUM p k (t + 1) n = PSUM p k t n + CV p k (t + 1) n
  | 0 => rfl
  | n + 1 => by
    simp only [PSUM, CV, PSUM_succ p k t n]
    by_cases h : n ≤ t + 1
    · rw [if_pos h, show t + 1 + 1 - n = (t + 1 - n) + 1 by omega, KS_succ, Int.mul_add]; omega
    · rw [if_neg h, show t + 1 + 1 - n = 0 by omega, show t + 1 - n = 0 by omega]; omega
theorem PSUM_zero (p k : List Int) : ∀ n, PSUM p k 0 n = CV p k 0 n
  | 0 => rfl
  | n + 1 => by
    simp only [PSUM, CV, PSUM_zero p k n]
    by_cases h : n = 0
    · subst h; rw [if_pos (Nat.le_refl _), show 0 + 1 - 0 = 0 + 1 by omega, KS_succ, KS_zero]; simp
    · rw [if_neg (by omega), show 0 + 1 - n = 0 by omega, KS_zero]; simp
/-- Numbers in their bounds. -/
structure BD (d : Int) (k p : List Int) : Prop where
  d1 : 1 ≤ d
  d2 : d ≤ 1048576
  k0 : 0 < k.length
  k1 : k.length ≤ 64
  kn : ∀ x ∈ k, 0 ≤ x
  ks : k.sum ≤ d
  p1 : p.length ≤ 400
  pl : LIT p
theorem BD_of {f r d : Int} {k p : List Int} (h : CHK f r d k p = 0) : BD d k p := by
  unfold CHK at h
  split at h
  · omega
  · split at h
    · next h1 h2 =>
      obtain ⟨⟨_, _, _, _, a5, a6, a7, a8⟩, h4⟩ := h2
      have := (KOK_iff k d (by omega)).1 a8
      exact ⟨a5, a6, a7, by omega, this.1, this.2, by omega, h4⟩
    · omega
theorem CHK_cases (f r d : Int) (k p : List Int) : CHK f r d k p = 0 ∨ CHK f r d k p = 2 ∨ CHK f r d k p = 420 := by
  unfold CHK; split; · simp
  split <;> simp
section
variable {d : Int} {k p : List Int} (h : BD d k p)
include h
theorem KS_bd (m : Nat) : 0 ≤ KS k m ∧ KS k m ≤ d := by
  have h1 : 0 ≤ (k.take m).sum := sum_nonneg fun x hx => h.kn x (List.mem_of_mem_take hx)
  have h2 : 0 ≤ (k.drop m).sum := sum_nonneg fun x hx => h.kn x (List.mem_of_mem_drop hx)
  have h3 : k.sum = (k.take m).sum + (k.drop m).sum := by
    conv => lhs; rw [← List.take_append_drop m k, List.sum_append]
  have := h.ks
  unfold KS; omega
theorem pd_bd (n : Nat) : 0 ≤ p.getD n 0 ∧ p.getD n 0 ≤ 1073741824 := by
  rw [List.getD_eq_getElem?_getD]
  by_cases hn : n < p.length
  · rw [List.getElem?_eq_getElem hn]; exact h.pl _ (List.getElem_mem hn)
  · rw [List.getElem?_eq_none (by omega)]; simp
theorem kd_bd (n : Nat) : 0 ≤ k.getD n 0 ∧ k.getD n 0 ≤ d := by
  have := KS_bd h (n + 1)
  have := KS_bd h n
  have := KS_succ k n
  rw [List.getD_eq_getElem?_getD] at *
  by_cases hn : n < k.length
  · rw [List.getElem?_eq_getElem hn] at *
    have h1 := h.kn _ (List.getElem_mem hn)
    simp only [Option.getD_some] at *
    omega
  · rw [List.getElem?_eq_none (by omega)] at *
    simp only [Option.getD_none] at *
    have := h.d1
    omega
theorem term_bd (n m : Nat) : 0 ≤ p.getD n 0 * KS k m ∧ p.getD n 0 * KS k m ≤ 1125899906842624 := by
  obtain ⟨a, b⟩ := pd_bd h n
  obtain ⟨c, e⟩ := KS_bd h m
  have := h.d2
  exact ⟨Int.mul_nonneg a c, Int.mul_le_mul b (show KS k m ≤ 1048576 by omega) c (by omega)⟩
theorem PSUM_bd (t : Nat) : ∀ n, 0 ≤ PSUM p k t n ∧ PSUM p k t n ≤ n * 1125899906842624
  | 0 => by simp [PSUM]
  | n + 1 => by
    have := PSUM_bd t n
    have := term_bd h n (t + 1 - n)
    simp only [PSUM]
    omega
end
theorem c_refuntil (f r d : Int) (k p : List Int) (c c' : Option Nat) (h : BD d k p) (t : Nat) (ht : t ≤ 1000000) : ap Try.prog pol 33 [well f r d k c, ints p c', I t] = some (.ret (I (PSUM p k t p.length / d))) := by
  have h' := h
  obtain ⟨d1, d2, k0, k1, kn, ks, p1, pl⟩ := h'
  rw [ap_eq _ Try.func33 rfl Try.ntmps33 Try.results33 (by kernel_rfl) rfl (by exact Nat.le_of_ble_eq_true rfl)]
  simp (config := { maxSteps := 1000000 }) only [RUN, PATHS, BASE, FA, POL, start_tm, Heap.empty, reduceIte, Nat.reduceLT, Nat.reduceLeDiff, Nat.reduceEqDiff, Nat.reduceAdd, Nat.reduceSub, Nat.reduceMul, Nat.reduceBEq, Int.reduceLT, Int.reduceLE, Int.reduceEq, Int.reduceNeg, Int.reduceAdd, Int.reduceSub, Int.reduceMul, Bool.false_eq_true, Bool.not_true, Bool.not_false, decide_eq_true_eq, and_self, true_and, and_true, reduceCtorEq, ne_eq, not_false_eq_true, not_true_eq_false, decide_true, decide_false, or_false, false_or]
  generalize hL : W _ (.loop _) _ = L
  obtain ⟨ex, s, rfl, rfl, h7, h3, hb, hd, hf⟩ := loop_at hL (α := Nat) (fun i => p.length - i)
    (fun s0 i s => i ≤ p.length ∧ s.tmps 8 = I i ∧ s.tmps 7 = I (PSUM p k t i) ∧ s.tmps 3 = .bptr 0 3 0 0 ∧ s.tmps 1 = ints p c' ∧ s.tmps 2 = I t ∧ s.boxes 3 = some (0, [I f, I r, I d, ints k c]) ∧ s.defers = [] ∧ s.fid = 0)
    (fun s0 ex s => ex = .exit 0 ∧ s.tmps 7 = I (PSUM p k t p.length) ∧ s.tmps 3 = .bptr 0 3 0 0 ∧ s.boxes 3 = some (0, [I f, I r, I d, ints k c]) ∧ s.defers = [] ∧ s.fid = 0) 0
    (by simp (config := { maxSteps := 1000000 }) only [RUN, PATHS, BASE, FA, POL, start_tm, Heap.empty, reduceIte, Nat.reduceLT, Nat.reduceLeDiff, Nat.reduceEqDiff, Nat.reduceAdd, Nat.reduceSub, Nat.reduceMul, Nat.reduceBEq, Int.reduceLT, Int.reduceLE, Int.reduceEq, Int.reduceNeg, Int.reduceAdd, Int.reduceSub, Int.reduceMul, Bool.false_eq_true, Bool.not_true, Bool.not_false, decide_eq_true_eq, and_self, true_and, and_true, reduceCtorEq, ne_eq, not_false_eq_true, not_true_eq_false, decide_true, decide_false, or_false, false_or, PSUM]; simp) (by
      rintro i s r0 hW ⟨hi, h8, h7, h3, h1, h2, hb, hd, hf⟩
      by_cases hp : i < p.length
      · simp (config := { maxSteps := 1000000 }) only [RUN, PATHS, BASE, FA, POL, start_tm, Heap.empty, reduceIte, Nat.reduceLT, Nat.reduceLeDiff, Nat.reduceEqDiff, Nat.reduceAdd, Nat.reduceSub, Nat.reduceMul, Nat.reduceBEq, Int.reduceLT, Int.reduceLE, Int.reduceEq, Int.reduceNeg, Int.reduceAdd, Int.reduceSub, Int.reduceMul, Bool.false_eq_true, Bool.not_true, Bool.not_false, decide_eq_true_eq, and_self, true_and, and_true, reduceCtorEq, ne_eq, not_false_eq_true, not_true_eq_false, decide_true, decide_false, or_false, false_or, INTS, h8, h7, h3, h1, h2, hb, hd, hf, (show (i : Int) < p.length by omega)] at hW
        generalize hL2 : W _ (.loop _) _ = L2 at hW
        have e0 : p[i]? = some p[i] := List.getElem?_eq_getElem hp
        have e1 := ints_get e0
        have eg : p.getD i 0 = p[i] := by rw [List.getD_eq_getElem?_getD, e0]; rfl
        obtain ⟨ex, s', rfl, rfl, g7, g8, g3, g1, g2, gb, gd, gf⟩ := loop_at hL2 (α := Nat) (fun j => k.length - j)
          (fun s0 j s => j ≤ k.length ∧ s.tmps 9 = I j ∧ s.tmps 8 = I i ∧ s.tmps 7 = I (PSUM p k t i + p.getD i 0 * KS k (min j (t + 1 - i))) ∧ s.tmps 3 = .bptr 0 3 0 0 ∧ s.tmps 1 = ints p c' ∧ s.tmps 2 = I t ∧ s.boxes 3 = some (0, [I f, I r, I d, ints k c]) ∧ s.defers = [] ∧ s.fid = 0)
          (fun s0 ex s => ex = .exit 2 ∧ s.tmps 7 = I (PSUM p k t (i + 1)) ∧ s.tmps 8 = I i ∧ s.tmps 3 = .bptr 0 3 0 0 ∧ s.tmps 1 = ints p c' ∧ s.tmps 2 = I t ∧ s.boxes 3 = some (0, [I f, I r, I d, ints k c]) ∧ s.defers = [] ∧ s.fid = 0) 0
          (by simp (config := { maxSteps := 1000000 }) only [RUN, PATHS, BASE, FA, POL, start_tm, Heap.empty, reduceIte, Nat.reduceLT, Nat.reduceLeDiff, Nat.reduceEqDiff, Nat.reduceAdd, Nat.reduceSub, Nat.reduceMul, Nat.reduceBEq, Int.reduceLT, Int.reduceLE, Int.reduceEq, Int.reduceNeg, Int.reduceAdd, Int.reduceSub, Int.reduceMul, Bool.false_eq_true, Bool.not_true, Bool.not_false, decide_eq_true_eq, and_self, true_and, and_true, reduceCtorEq, ne_eq, not_false_eq_true, not_true_eq_false, decide_true, decide_false, or_false, false_or, h8, h7, h3, h1, h2, hb, hd, hf]; rw [Nat.zero_min, KS_zero]; simp) (by
            rintro j s r1 hW2 ⟨hj, q9, q8, q7, q3, q1, q2, qb, qd, qf⟩
            have b1 := PSUM_bd h t i
            have b2 := term_bd h i (min j (t + 1 - i))
            by_cases hk : j < k.length
            · have f0 : k[j]? = some k[j] := List.getElem?_eq_getElem hk
              have f1 := ints_get f0
              have fg : k.getD j 0 = k[j] := by rw [List.getD_eq_getElem?_getD, f0]; rfl
              by_cases hle : i + j ≤ t
              · have b3 := term_bd h i (j + 1)
                have em1 : min j (t + 1 - i) = j := by omega
                have em2 : min (j + 1) (t + 1 - i) = j + 1 := by omega
                rw [em1] at q7 b2
                have es : p.getD i 0 * KS k (j + 1) = p.getD i 0 * KS k j + p[i] * k[j] := by rw [KS_succ, fg, Int.mul_add, eg]
                simp (config := { maxSteps := 1000000 }) only [RUN, PATHS, BASE, FA, POL, start_tm, Heap.empty, reduceIte, Nat.reduceLT, Nat.reduceLeDiff, Nat.reduceEqDiff, Nat.reduceAdd, Nat.reduceSub, Nat.reduceMul, Nat.reduceBEq, Int.reduceLT, Int.reduceLE, Int.reduceEq, Int.reduceNeg, Int.reduceAdd, Int.reduceSub, Int.reduceMul, Bool.false_eq_true, Bool.not_true, Bool.not_false, decide_eq_true_eq, and_self, true_and, and_true, reduceCtorEq, ne_eq, not_false_eq_true, not_true_eq_false, decide_true, decide_false, or_false, false_or, INTS, q9, q8, q7, q3, q1, q2, qb, qd, qf, e1, f1, Int.toNat_natCast, (show (i : Int) < p.length by omega), (show (0 : Int) ≤ i by omega), (show (j : Int) < k.length by omega), (show (0 : Int) ≤ j by omega), (show (i : Int) + j ≤ t by omega), (i64_in (x := (i : Int) + j) (by unfold I64; omega)), (i64_in (x := (j : Int) + 1) (by unfold I64; omega)),
                  (i64_in (x := p[i] * k[j]) (by unfold I64; omega)), (i64_in (x := PSUM p k t i + p.getD i 0 * KS k j + p[i] * k[j]) (by unfold I64; omega))] at hW2
                subst hW2
                refine rd_next (j + 1) ?_ (show k.length - (j + 1) < k.length - j by omega)
                simp (config := { maxSteps := 1000000 }) only [RUN, PATHS, BASE, FA, POL, start_tm, Heap.empty, reduceIte, Nat.reduceLT, Nat.reduceLeDiff, Nat.reduceEqDiff, Nat.reduceAdd, Nat.reduceSub, Nat.reduceMul, Nat.reduceBEq, Int.reduceLT, Int.reduceLE, Int.reduceEq, Int.reduceNeg, Int.reduceAdd, Int.reduceSub, Int.reduceMul, Bool.false_eq_true, Bool.not_true, Bool.not_false, decide_eq_true_eq, and_self, true_and, and_true, reduceCtorEq, ne_eq, not_false_eq_true, not_true_eq_false, decide_true, decide_false, or_false, false_or, q8, q3, q1, q2, qb]
                rw [em2, es]
                refine ⟨by omega, by simp, by congr 1; omega⟩
              · have em : min (j + 1) (t + 1 - i) = min j (t + 1 - i) := by omega
                simp (config := { maxSteps := 1000000 }) only [RUN, PATHS, BASE, FA, POL, start_tm, Heap.empty, reduceIte, Nat.reduceLT, Nat.reduceLeDiff, Nat.reduceEqDiff, Nat.reduceAdd, Nat.reduceSub, Nat.reduceMul, Nat.reduceBEq, Int.reduceLT, Int.reduceLE, Int.reduceEq, Int.reduceNeg, Int.reduceAdd, Int.reduceSub, Int.reduceMul, Bool.false_eq_true, Bool.not_true, Bool.not_false, decide_eq_true_eq, and_self, true_and, and_true, reduceCtorEq, ne_eq, not_false_eq_true, not_true_eq_false, decide_true, decide_false, or_false, false_or, INTS, q9, q8, q7, q3, q1, q2, qb, qd, qf, e1, f1, Int.toNat_natCast, (show (j : Int) < k.length by omega), (show (0 : Int) ≤ j by omega), (show ¬ (i : Int) + j ≤ t by omega), (i64_in (x := (i : Int) + j) (by unfold I64; omega)), (i64_in (x := (j : Int) + 1) (by unfold I64; omega))] at hW2
                subst hW2
                refine rd_next (j + 1) ?_ (show k.length - (j + 1) < k.length - j by omega)
                simp (config := { maxSteps := 1000000 }) only [RUN, PATHS, BASE, FA, POL, start_tm, Heap.empty, reduceIte, Nat.reduceLT, Nat.reduceLeDiff, Nat.reduceEqDiff, Nat.reduceAdd, Nat.reduceSub, Nat.reduceMul, Nat.reduceBEq, Int.reduceLT, Int.reduceLE, Int.reduceEq, Int.reduceNeg, Int.reduceAdd, Int.reduceSub, Int.reduceMul, Bool.false_eq_true, Bool.not_true, Bool.not_false, decide_eq_true_eq, and_self, true_and, and_true, reduceCtorEq, ne_eq, not_false_eq_true, not_true_eq_false, decide_true, decide_false, or_false, false_or, q8, q7, q3, q1, q2, qb, em]
                exact ⟨by omega, by simp⟩
            · simp (config := { maxSteps := 1000000 }) only [RUN, PATHS, BASE, FA, POL, start_tm, Heap.empty, reduceIte, Nat.reduceLT, Nat.reduceLeDiff, Nat.reduceEqDiff, Nat.reduceAdd, Nat.reduceSub, Nat.reduceMul, Nat.reduceBEq, Int.reduceLT, Int.reduceLE, Int.reduceEq, Int.reduceNeg, Int.reduceAdd, Int.reduceSub, Int.reduceMul, Bool.false_eq_true, Bool.not_true, Bool.not_false, decide_eq_true_eq, and_self, true_and, and_true, reduceCtorEq, ne_eq, not_false_eq_true, not_true_eq_false, decide_true, decide_false, or_false, false_or, INTS, q9, q8, q7, q3, q1, q2, qb, qd, qf, (show ¬ (j : Int) < k.length by omega)] at hW2
              subst hW2
              refine rd_exit ⟨rfl, ?_⟩
              have ek : KS k (min j (t + 1 - i)) = KS k (t + 1 - i) := by
                unfold KS
                by_cases hh : j ≤ t + 1 - i
                · rw [Nat.min_eq_left hh, List.take_of_length_le (by omega), List.take_of_length_le (by omega)]
                · rw [Nat.min_eq_right (by omega)]
              simp (config := { maxSteps := 1000000 }) only [RUN, PATHS, BASE, FA, POL, start_tm, Heap.empty, reduceIte, Nat.reduceLT, Nat.reduceLeDiff, Nat.reduceEqDiff, Nat.reduceAdd, Nat.reduceSub, Nat.reduceMul, Nat.reduceBEq, Int.reduceLT, Int.reduceLE, Int.reduceEq, Int.reduceNeg, Int.reduceAdd, Int.reduceSub, Int.reduceMul, Bool.false_eq_true, Bool.not_true, Bool.not_false, decide_eq_true_eq, and_self, true_and, and_true, reduceCtorEq, ne_eq, not_false_eq_true, not_true_eq_false, decide_true, decide_false, or_false, false_or, q8, q7, q3, q1, q2, qb]
              simp only [PSUM, ek])
        simp (config := { maxSteps := 1000000 }) only [RUN, PATHS, BASE, FA, POL, start_tm, Heap.empty, reduceIte, Nat.reduceLT, Nat.reduceLeDiff, Nat.reduceEqDiff, Nat.reduceAdd, Nat.reduceSub, Nat.reduceMul, Nat.reduceBEq, Int.reduceLT, Int.reduceLE, Int.reduceEq, Int.reduceNeg, Int.reduceAdd, Int.reduceSub, Int.reduceMul, Bool.false_eq_true, Bool.not_true, Bool.not_false, decide_eq_true_eq, and_self, true_and, and_true, reduceCtorEq, ne_eq, not_false_eq_true, not_true_eq_false, decide_true, decide_false, or_false, false_or, g7, g8, g3, g1, g2, gb, gd, gf, (i64_in (x := (i : Int) + 1) (by unfold I64; omega))] at hW
        subst hW
        refine rd_next (i + 1) ?_ (show p.length - (i + 1) < p.length - i by omega)
        simp (config := { maxSteps := 1000000 }) only [RUN, PATHS, BASE, FA, POL, start_tm, Heap.empty, reduceIte, Nat.reduceLT, Nat.reduceLeDiff, Nat.reduceEqDiff, Nat.reduceAdd, Nat.reduceSub, Nat.reduceMul, Nat.reduceBEq, Int.reduceLT, Int.reduceLE, Int.reduceEq, Int.reduceNeg, Int.reduceAdd, Int.reduceSub, Int.reduceMul, Bool.false_eq_true, Bool.not_true, Bool.not_false, decide_eq_true_eq, and_self, true_and, and_true, reduceCtorEq, ne_eq, not_false_eq_true, not_true_eq_false, decide_true, decide_false, or_false, false_or, g7, g3, g1, g2, gb]
        exact ⟨by omega, by simp⟩
      · simp (config := { maxSteps := 1000000 }) only [RUN, PATHS, BASE, FA, POL, start_tm, Heap.empty, reduceIte, Nat.reduceLT, Nat.reduceLeDiff, Nat.reduceEqDiff, Nat.reduceAdd, Nat.reduceSub, Nat.reduceMul, Nat.reduceBEq, Int.reduceLT, Int.reduceLE, Int.reduceEq, Int.reduceNeg, Int.reduceAdd, Int.reduceSub, Int.reduceMul, Bool.false_eq_true, Bool.not_true, Bool.not_false, decide_eq_true_eq, and_self, true_and, and_true, reduceCtorEq, ne_eq, not_false_eq_true, not_true_eq_false, decide_true, decide_false, or_false, false_or, INTS, h8, h7, h3, h1, h2, hb, hd, hf, (show ¬ (i : Int) < p.length by omega)] at hW
        subst hW
        have : i = p.length := by omega
        subst this
        refine rd_exit ⟨rfl, ?_⟩
        simp (config := { maxSteps := 1000000 }) only [RUN, PATHS, BASE, FA, POL, start_tm, Heap.empty, reduceIte, Nat.reduceLT, Nat.reduceLeDiff, Nat.reduceEqDiff, Nat.reduceAdd, Nat.reduceSub, Nat.reduceMul, Nat.reduceBEq, Int.reduceLT, Int.reduceLE, Int.reduceEq, Int.reduceNeg, Int.reduceAdd, Int.reduceSub, Int.reduceMul, Bool.false_eq_true, Bool.not_true, Bool.not_false, decide_eq_true_eq, and_self, true_and, and_true, reduceCtorEq, ne_eq, not_false_eq_true, not_true_eq_false, decide_true, decide_false, or_false, false_or, h7, h3, hb])
  have b := PSUM_bd h t p.length
  have b2 := Int.ediv_nonneg b.1 (show 0 ≤ d by omega)
  have b3 := Int.ediv_le_self d b.1
  simp (config := { maxSteps := 1000000 }) only [RUN, PATHS, BASE, FA, POL, start_tm, Heap.empty, reduceIte, Nat.reduceLT, Nat.reduceLeDiff, Nat.reduceEqDiff, Nat.reduceAdd, Nat.reduceSub, Nat.reduceMul, Nat.reduceBEq, Int.reduceLT, Int.reduceLE, Int.reduceEq, Int.reduceNeg, Int.reduceAdd, Int.reduceSub, Int.reduceMul, Bool.false_eq_true, Bool.not_true, Bool.not_false, decide_eq_true_eq, and_self, true_and, and_true, reduceCtorEq, ne_eq, not_false_eq_true, not_true_eq_false, decide_true, decide_false, or_false, false_or, h7, h3, hb, hd, hf, (show ¬ d = 0 by omega)]
  rw [Int.tdiv_eq_ediv_of_nonneg b.1, i64_in (by unfold I64; omega)]
end Go.Proofs.Ytbgdeimkemjklaa
