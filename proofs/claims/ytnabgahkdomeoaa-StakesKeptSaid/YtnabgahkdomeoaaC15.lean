/-
  How long a number is in binary.
-/
import Derived.Test.YtnabgahkdomeoaaC14
set_option linter.unusedSimpArgs false
set_option linter.unusedVariables false
set_option linter.unusedSectionVars false
namespace Go.Proofs.Ytnabgahkdomeoaa
open Go GoV
set_option maxRecDepth 100000

def LEN (n : Nat) : Nat := if n = 0 then 0 else n.log2 + 1
theorem LEN_ok {n : Nat} (h : 0 < n) : n < 2 ^ LEN n ∧ 2 ^ LEN n ≤ 2 * n := by
  unfold LEN; rw [if_neg (by omega)]
  have h1 := Nat.log2_self_le (n := n) (by omega)
  have h2 := Nat.lt_log2_self (n := n)
  exact ⟨h2, by rw [Nat.pow_succ]; omega⟩
theorem tab_ok (T : ByteArray) (h : ((List.range 256).all fun n => (T[n]?.map UInt8.toNat) == some (LEN n)) = true) (x : Int) (hx : 0 ≤ x ∧ x < 256) : ∃ b : UInt8, T[x.toNat]? = some b ∧ b.toNat = LEN x.toNat := by
  have := List.all_eq_true.1 h x.toNat (by simp; omega)
  simp only [beq_iff_eq, Option.map_eq_some_iff] at this
  exact this
theorem u8_in {x : Int} (h : 0 ≤ x ∧ x < 256) : IntKind.u8.wrap x = x := by
  simp [IntKind.wrap, IntKind.bits, IntKind.signed]; omega
theorem shr_eq (x : Int) (k : Nat) (hk : k ≤ 64) : x.fdiv (2 ^ min k IntKind.u64.bits) = x / 2 ^ k := by
  rw [show min k IntKind.u64.bits = k by simp [IntKind.bits]; omega, Int.fdiv_eq_ediv_of_nonneg _ (by exact Int.pow_nonneg (by decide))]
theorem LEN_up {x y : Nat} {k j : Nat} (e : y = x / 2 ^ j) (h : 0 < y ∧ y < 2 ^ k ∧ 2 ^ k ≤ 2 * y) : 0 < x ∧ x < 2 ^ (k + j) ∧ 2 ^ (k + j) ≤ 2 * x := by
  subst e
  have hp : 0 < 2 ^ j := Nat.pow_pos (by decide)
  obtain ⟨h0, h1, h2⟩ := h
  have a1 : x < 2 ^ k * 2 ^ j := (Nat.div_lt_iff_lt_mul hp).1 h1
  have a2 := Nat.div_mul_le_self x (2 ^ j)
  have a3 : 2 ^ k * 2 ^ j ≤ 2 * (x / 2 ^ j) * 2 ^ j := Nat.mul_le_mul_right _ h2
  rw [Nat.mul_assoc] at a3
  rw [Nat.pow_add]
  refine ⟨?_, a1, by omega⟩
  rcases Nat.eq_zero_or_pos x with rfl | h
  · simp at h0
  · exact h
theorem c_len64 (n : Nat) (hx : 0 < n ∧ n < 18446744073709551616) : ∃ k : Nat, ap Try.prog pol 56 [U n] = some (.ret (I k)) ∧ n < 2 ^ k ∧ 2 ^ k ≤ 2 * n := by
  suffices h : ∃ k : Nat, ap Try.prog pol 56 [U n] = some (.ret (I k)) ∧ 0 < n ∧ n < 2 ^ k ∧ 2 ^ k ≤ 2 * n by
    obtain ⟨k, h1, h2, h3⟩ := h
    exact ⟨k, h1, h3⟩
  have up32 : ∀ {y k : Nat}, y = n / 4294967296 → 0 < y ∧ y < 2 ^ k ∧ 2 ^ k ≤ 2 * y → 0 < n ∧ n < 2 ^ (k + 32) ∧ 2 ^ (k + 32) ≤ 2 * n := fun e h => LEN_up (j := 32) e h
  have up16 : ∀ {x y k : Nat}, y = x / 65536 → 0 < y ∧ y < 2 ^ k ∧ 2 ^ k ≤ 2 * y → 0 < x ∧ x < 2 ^ (k + 16) ∧ 2 ^ (k + 16) ≤ 2 * x := fun e h => LEN_up (j := 16) e h
  have up8 : ∀ {x y k : Nat}, y = x / 256 → 0 < y ∧ y < 2 ^ k ∧ 2 ^ k ≤ 2 * y → 0 < x ∧ x < 2 ^ (k + 8) ∧ 2 ^ (k + 8) ≤ 2 * x := fun e h => LEN_up (j := 8) e h
  rw [ap_eq _ Try.func56 rfl Try.ntmps56 Try.results56 (by kernel_rfl) rfl (by exact Nat.le_of_ble_eq_true rfl)]
  by_cases h1 : 4294967296 ≤ n
  · obtain ⟨x1, e1⟩ : ∃ x1, x1 = n / 4294967296 := ⟨_, rfl⟩
    have s1 : (n : Int).fdiv (2 ^ min 32 IntKind.u64.bits) = x1 := by rw [shr_eq _ _ (by decide)]; omega
    by_cases h2 : 65536 ≤ x1
    · obtain ⟨x2, e2⟩ : ∃ x2, x2 = x1 / 65536 := ⟨_, rfl⟩
      have s2 : (x1 : Int).fdiv (2 ^ min 16 IntKind.u64.bits) = x2 := by rw [shr_eq _ _ (by decide)]; omega
      by_cases h3 : 256 ≤ x2
      · obtain ⟨x3, e3⟩ : ∃ x3, x3 = x2 / 256 := ⟨_, rfl⟩
        have s3 : (x2 : Int).fdiv (2 ^ min 8 IntKind.u64.bits) = x3 := by rw [shr_eq _ _ (by decide)]; omega
        simp (config := { maxSteps := 1000000 }) only [RUN, PATHS, BASE, FA, POL, start_tm, Heap.empty, reduceIte, Nat.reduceLT, Nat.reduceLeDiff, Nat.reduceEqDiff, Nat.reduceAdd, Nat.reduceSub, Nat.reduceMul, Nat.reduceBEq, Int.reduceLT, Int.reduceLE, Int.reduceEq, Int.reduceNeg, Int.reduceAdd, Int.reduceSub, Int.reduceMul, Bool.false_eq_true, Bool.not_true, Bool.not_false, decide_eq_true_eq, and_self, true_and, and_true, reduceCtorEq, ne_eq, not_false_eq_true, not_true_eq_false, decide_true, decide_false, or_false, false_or, NUM, (show (4294967296 : Int) ≤ n by omega), s1, (show (65536 : Int) ≤ x1 by omega), s2, (show (256 : Int) ≤ x2 by omega), s3, (show (32 : Int).toNat = 32 from rfl), (show (16 : Int).toNat = 16 from rfl), (show (8 : Int).toNat = 8 from rfl), u8_in (x := (x3 : Int)) (by omega), Int.toNat_natCast, (show (0 : Int) ≤ x3 by omega), i64_in (x := (32 : Int) + 16) (by unfold I64; omega), i64_in (x := (48 : Int)) (by unfold I64; omega), i64_in (x := (16 : Int)) (by unfold I64; omega), i64_in (x := (8 : Int)) (by unfold I64; omega), i64_in (x := (40 : Int)) (by unfold I64; omega), i64_in (x := (24 : Int)) (by unfold I64; omega), i64_in (x := (56 : Int)) (by unfold I64; omega), i64_in (x := (0 : Int)) (by unfold I64; omega)]
        generalize hT : ByteArray.mk _ = T
        obtain ⟨b, eb, hb⟩ := tab_ok T (by rw [← hT]; kernel_rfl) x3 (by omega)
        rw [Int.toNat_natCast] at eb hb
        have l8 : LEN x3 ≤ 8 := by
          have := b.toNat_lt
          rcases Nat.eq_zero_or_pos x3 with h | h
          · rw [h]; decide
          · have := LEN_ok h
            rcases Nat.lt_or_ge 8 (LEN x3) with h' | h'
            · have : 2 ^ 9 ≤ 2 ^ LEN x3 := Nat.pow_le_pow_right (by decide) h'
              omega
            · exact h'
        simp (config := { maxSteps := 1000000 }) only [RUN, PATHS, BASE, FA, POL, start_tm, Heap.empty, reduceIte, Nat.reduceLT, Nat.reduceLeDiff, Nat.reduceEqDiff, Nat.reduceAdd, Nat.reduceSub, Nat.reduceMul, Nat.reduceBEq, Int.reduceLT, Int.reduceLE, Int.reduceEq, Int.reduceNeg, Int.reduceAdd, Int.reduceSub, Int.reduceMul, Bool.false_eq_true, Bool.not_true, Bool.not_false, decide_eq_true_eq, and_self, true_and, and_true, reduceCtorEq, ne_eq, not_false_eq_true, not_true_eq_false, decide_true, decide_false, or_false, false_or, NUM, (show (4294967296 : Int) ≤ n by omega), s1, (show (65536 : Int) ≤ x1 by omega), s2, (show (256 : Int) ≤ x2 by omega), s3, (show (32 : Int).toNat = 32 from rfl), (show (16 : Int).toNat = 16 from rfl), (show (8 : Int).toNat = 8 from rfl), u8_in (x := (x3 : Int)) (by omega), Int.toNat_natCast, (show (0 : Int) ≤ x3 by omega), i64_in (x := (32 : Int) + 16) (by unfold I64; omega), i64_in (x := (48 : Int)) (by unfold I64; omega), i64_in (x := (16 : Int)) (by unfold I64; omega), i64_in (x := (8 : Int)) (by unfold I64; omega), i64_in (x := (40 : Int)) (by unfold I64; omega), i64_in (x := (24 : Int)) (by unfold I64; omega), i64_in (x := (56 : Int)) (by unfold I64; omega), i64_in (x := (0 : Int)) (by unfold I64; omega), eb, hb, i64_in (x := ((LEN x3 : Nat) : Int)) (by unfold I64; omega), i64_in (x := (56 : Int) + LEN x3) (by unfold I64; omega), Int.zero_add]
        exact ⟨LEN x3 + 8 + 16 + 32, by first | rfl | (congr 3; omega), up32 e1 (up16 e2 (up8 e3 ⟨by omega, LEN_ok (by omega)⟩))⟩
      · skip
        simp (config := { maxSteps := 1000000 }) only [RUN, PATHS, BASE, FA, POL, start_tm, Heap.empty, reduceIte, Nat.reduceLT, Nat.reduceLeDiff, Nat.reduceEqDiff, Nat.reduceAdd, Nat.reduceSub, Nat.reduceMul, Nat.reduceBEq, Int.reduceLT, Int.reduceLE, Int.reduceEq, Int.reduceNeg, Int.reduceAdd, Int.reduceSub, Int.reduceMul, Bool.false_eq_true, Bool.not_true, Bool.not_false, decide_eq_true_eq, and_self, true_and, and_true, reduceCtorEq, ne_eq, not_false_eq_true, not_true_eq_false, decide_true, decide_false, or_false, false_or, NUM, (show (4294967296 : Int) ≤ n by omega), s1, (show (65536 : Int) ≤ x1 by omega), s2, (show ¬ (256 : Int) ≤ x2 by omega), (show (32 : Int).toNat = 32 from rfl), (show (16 : Int).toNat = 16 from rfl), (show (8 : Int).toNat = 8 from rfl), u8_in (x := (x2 : Int)) (by omega), Int.toNat_natCast, (show (0 : Int) ≤ x2 by omega), i64_in (x := (32 : Int) + 16) (by unfold I64; omega), i64_in (x := (48 : Int)) (by unfold I64; omega), i64_in (x := (16 : Int)) (by unfold I64; omega), i64_in (x := (8 : Int)) (by unfold I64; omega), i64_in (x := (40 : Int)) (by unfold I64; omega), i64_in (x := (24 : Int)) (by unfold I64; omega), i64_in (x := (56 : Int)) (by unfold I64; omega), i64_in (x := (0 : Int)) (by unfold I64; omega)]
        generalize hT : ByteArray.mk _ = T
        obtain ⟨b, eb, hb⟩ := tab_ok T (by rw [← hT]; kernel_rfl) x2 (by omega)
        rw [Int.toNat_natCast] at eb hb
        have l8 : LEN x2 ≤ 8 := by
          have := b.toNat_lt
          rcases Nat.eq_zero_or_pos x2 with h | h
          · rw [h]; decide
          · have := LEN_ok h
            rcases Nat.lt_or_ge 8 (LEN x2) with h' | h'
            · have : 2 ^ 9 ≤ 2 ^ LEN x2 := Nat.pow_le_pow_right (by decide) h'
              omega
            · exact h'
        simp (config := { maxSteps := 1000000 }) only [RUN, PATHS, BASE, FA, POL, start_tm, Heap.empty, reduceIte, Nat.reduceLT, Nat.reduceLeDiff, Nat.reduceEqDiff, Nat.reduceAdd, Nat.reduceSub, Nat.reduceMul, Nat.reduceBEq, Int.reduceLT, Int.reduceLE, Int.reduceEq, Int.reduceNeg, Int.reduceAdd, Int.reduceSub, Int.reduceMul, Bool.false_eq_true, Bool.not_true, Bool.not_false, decide_eq_true_eq, and_self, true_and, and_true, reduceCtorEq, ne_eq, not_false_eq_true, not_true_eq_false, decide_true, decide_false, or_false, false_or, NUM, (show (4294967296 : Int) ≤ n by omega), s1, (show (65536 : Int) ≤ x1 by omega), s2, (show ¬ (256 : Int) ≤ x2 by omega), (show (32 : Int).toNat = 32 from rfl), (show (16 : Int).toNat = 16 from rfl), (show (8 : Int).toNat = 8 from rfl), u8_in (x := (x2 : Int)) (by omega), Int.toNat_natCast, (show (0 : Int) ≤ x2 by omega), i64_in (x := (32 : Int) + 16) (by unfold I64; omega), i64_in (x := (48 : Int)) (by unfold I64; omega), i64_in (x := (16 : Int)) (by unfold I64; omega), i64_in (x := (8 : Int)) (by unfold I64; omega), i64_in (x := (40 : Int)) (by unfold I64; omega), i64_in (x := (24 : Int)) (by unfold I64; omega), i64_in (x := (56 : Int)) (by unfold I64; omega), i64_in (x := (0 : Int)) (by unfold I64; omega), eb, hb, i64_in (x := ((LEN x2 : Nat) : Int)) (by unfold I64; omega), i64_in (x := (48 : Int) + LEN x2) (by unfold I64; omega), Int.zero_add]
        exact ⟨LEN x2 + 16 + 32, by first | rfl | (congr 3; omega), up32 e1 (up16 e2 (⟨by omega, LEN_ok (by omega)⟩))⟩
    · skip
      by_cases h3 : 256 ≤ x1
      · obtain ⟨x3, e3⟩ : ∃ x3, x3 = x1 / 256 := ⟨_, rfl⟩
        have s3 : (x1 : Int).fdiv (2 ^ min 8 IntKind.u64.bits) = x3 := by rw [shr_eq _ _ (by decide)]; omega
        simp (config := { maxSteps := 1000000 }) only [RUN, PATHS, BASE, FA, POL, start_tm, Heap.empty, reduceIte, Nat.reduceLT, Nat.reduceLeDiff, Nat.reduceEqDiff, Nat.reduceAdd, Nat.reduceSub, Nat.reduceMul, Nat.reduceBEq, Int.reduceLT, Int.reduceLE, Int.reduceEq, Int.reduceNeg, Int.reduceAdd, Int.reduceSub, Int.reduceMul, Bool.false_eq_true, Bool.not_true, Bool.not_false, decide_eq_true_eq, and_self, true_and, and_true, reduceCtorEq, ne_eq, not_false_eq_true, not_true_eq_false, decide_true, decide_false, or_false, false_or, NUM, (show (4294967296 : Int) ≤ n by omega), s1, (show ¬ (65536 : Int) ≤ x1 by omega), (show (256 : Int) ≤ x1 by omega), s3, (show (32 : Int).toNat = 32 from rfl), (show (16 : Int).toNat = 16 from rfl), (show (8 : Int).toNat = 8 from rfl), u8_in (x := (x3 : Int)) (by omega), Int.toNat_natCast, (show (0 : Int) ≤ x3 by omega), i64_in (x := (32 : Int) + 16) (by unfold I64; omega), i64_in (x := (48 : Int)) (by unfold I64; omega), i64_in (x := (16 : Int)) (by unfold I64; omega), i64_in (x := (8 : Int)) (by unfold I64; omega), i64_in (x := (40 : Int)) (by unfold I64; omega), i64_in (x := (24 : Int)) (by unfold I64; omega), i64_in (x := (56 : Int)) (by unfold I64; omega), i64_in (x := (0 : Int)) (by unfold I64; omega)]
        generalize hT : ByteArray.mk _ = T
        obtain ⟨b, eb, hb⟩ := tab_ok T (by rw [← hT]; kernel_rfl) x3 (by omega)
        rw [Int.toNat_natCast] at eb hb
        have l8 : LEN x3 ≤ 8 := by
          have := b.toNat_lt
          rcases Nat.eq_zero_or_pos x3 with h | h
          · rw [h]; decide
          · have := LEN_ok h
            rcases Nat.lt_or_ge 8 (LEN x3) with h' | h'
            · have : 2 ^ 9 ≤ 2 ^ LEN x3 := Nat.pow_le_pow_right (by decide) h'
              omega
            · exact h'
        simp (config := { maxSteps := 1000000 }) only [RUN, PATHS, BASE, FA, POL, start_tm, Heap.empty, reduceIte, Nat.reduceLT, Nat.reduceLeDiff, Nat.reduceEqDiff, Nat.reduceAdd, Nat.reduceSub, Nat.reduceMul, Nat.reduceBEq, Int.reduceLT, Int.reduceLE, Int.reduceEq, Int.reduceNeg, Int.reduceAdd, Int.reduceSub, Int.reduceMul, Bool.false_eq_true, Bool.not_true, Bool.not_false, decide_eq_true_eq, and_self, true_and, and_true, reduceCtorEq, ne_eq, not_false_eq_true, not_true_eq_false, decide_true, decide_false, or_false, false_or, NUM, (show (4294967296 : Int) ≤ n by omega), s1, (show ¬ (65536 : Int) ≤ x1 by omega), (show (256 : Int) ≤ x1 by omega), s3, (show (32 : Int).toNat = 32 from rfl), (show (16 : Int).toNat = 16 from rfl), (show (8 : Int).toNat = 8 from rfl), u8_in (x := (x3 : Int)) (by omega), Int.toNat_natCast, (show (0 : Int) ≤ x3 by omega), i64_in (x := (32 : Int) + 16) (by unfold I64; omega), i64_in (x := (48 : Int)) (by unfold I64; omega), i64_in (x := (16 : Int)) (by unfold I64; omega), i64_in (x := (8 : Int)) (by unfold I64; omega), i64_in (x := (40 : Int)) (by unfold I64; omega), i64_in (x := (24 : Int)) (by unfold I64; omega), i64_in (x := (56 : Int)) (by unfold I64; omega), i64_in (x := (0 : Int)) (by unfold I64; omega), eb, hb, i64_in (x := ((LEN x3 : Nat) : Int)) (by unfold I64; omega), i64_in (x := (40 : Int) + LEN x3) (by unfold I64; omega), Int.zero_add]
        exact ⟨LEN x3 + 8 + 32, by first | rfl | (congr 3; omega), up32 e1 (up8 e3 ⟨by omega, LEN_ok (by omega)⟩)⟩
      · skip
        simp (config := { maxSteps := 1000000 }) only [RUN, PATHS, BASE, FA, POL, start_tm, Heap.empty, reduceIte, Nat.reduceLT, Nat.reduceLeDiff, Nat.reduceEqDiff, Nat.reduceAdd, Nat.reduceSub, Nat.reduceMul, Nat.reduceBEq, Int.reduceLT, Int.reduceLE, Int.reduceEq, Int.reduceNeg, Int.reduceAdd, Int.reduceSub, Int.reduceMul, Bool.false_eq_true, Bool.not_true, Bool.not_false, decide_eq_true_eq, and_self, true_and, and_true, reduceCtorEq, ne_eq, not_false_eq_true, not_true_eq_false, decide_true, decide_false, or_false, false_or, NUM, (show (4294967296 : Int) ≤ n by omega), s1, (show ¬ (65536 : Int) ≤ x1 by omega), (show ¬ (256 : Int) ≤ x1 by omega), (show (32 : Int).toNat = 32 from rfl), (show (16 : Int).toNat = 16 from rfl), (show (8 : Int).toNat = 8 from rfl), u8_in (x := (x1 : Int)) (by omega), Int.toNat_natCast, (show (0 : Int) ≤ x1 by omega), i64_in (x := (32 : Int) + 16) (by unfold I64; omega), i64_in (x := (48 : Int)) (by unfold I64; omega), i64_in (x := (16 : Int)) (by unfold I64; omega), i64_in (x := (8 : Int)) (by unfold I64; omega), i64_in (x := (40 : Int)) (by unfold I64; omega), i64_in (x := (24 : Int)) (by unfold I64; omega), i64_in (x := (56 : Int)) (by unfold I64; omega), i64_in (x := (0 : Int)) (by unfold I64; omega)]
        generalize hT : ByteArray.mk _ = T
        obtain ⟨b, eb, hb⟩ := tab_ok T (by rw [← hT]; kernel_rfl) x1 (by omega)
        rw [Int.toNat_natCast] at eb hb
        have l8 : LEN x1 ≤ 8 := by
          have := b.toNat_lt
          rcases Nat.eq_zero_or_pos x1 with h | h
          · rw [h]; decide
          · have := LEN_ok h
            rcases Nat.lt_or_ge 8 (LEN x1) with h' | h'
            · have : 2 ^ 9 ≤ 2 ^ LEN x1 := Nat.pow_le_pow_right (by decide) h'
              omega
            · exact h'
        simp (config := { maxSteps := 1000000 }) only [RUN, PATHS, BASE, FA, POL, start_tm, Heap.empty, reduceIte, Nat.reduceLT, Nat.reduceLeDiff, Nat.reduceEqDiff, Nat.reduceAdd, Nat.reduceSub, Nat.reduceMul, Nat.reduceBEq, Int.reduceLT, Int.reduceLE, Int.reduceEq, Int.reduceNeg, Int.reduceAdd, Int.reduceSub, Int.reduceMul, Bool.false_eq_true, Bool.not_true, Bool.not_false, decide_eq_true_eq, and_self, true_and, and_true, reduceCtorEq, ne_eq, not_false_eq_true, not_true_eq_false, decide_true, decide_false, or_false, false_or, NUM, (show (4294967296 : Int) ≤ n by omega), s1, (show ¬ (65536 : Int) ≤ x1 by omega), (show ¬ (256 : Int) ≤ x1 by omega), (show (32 : Int).toNat = 32 from rfl), (show (16 : Int).toNat = 16 from rfl), (show (8 : Int).toNat = 8 from rfl), u8_in (x := (x1 : Int)) (by omega), Int.toNat_natCast, (show (0 : Int) ≤ x1 by omega), i64_in (x := (32 : Int) + 16) (by unfold I64; omega), i64_in (x := (48 : Int)) (by unfold I64; omega), i64_in (x := (16 : Int)) (by unfold I64; omega), i64_in (x := (8 : Int)) (by unfold I64; omega), i64_in (x := (40 : Int)) (by unfold I64; omega), i64_in (x := (24 : Int)) (by unfold I64; omega), i64_in (x := (56 : Int)) (by unfold I64; omega), i64_in (x := (0 : Int)) (by unfold I64; omega), eb, hb, i64_in (x := ((LEN x1 : Nat) : Int)) (by unfold I64; omega), i64_in (x := (32 : Int) + LEN x1) (by unfold I64; omega), Int.zero_add]
        exact ⟨LEN x1 + 32, by first | rfl | (congr 3; omega), up32 e1 (⟨by omega, LEN_ok (by omega)⟩)⟩
  · skip
    by_cases h2 : 65536 ≤ n
    · obtain ⟨x2, e2⟩ : ∃ x2, x2 = n / 65536 := ⟨_, rfl⟩
      have s2 : (n : Int).fdiv (2 ^ min 16 IntKind.u64.bits) = x2 := by rw [shr_eq _ _ (by decide)]; omega
      by_cases h3 : 256 ≤ x2
      · obtain ⟨x3, e3⟩ : ∃ x3, x3 = x2 / 256 := ⟨_, rfl⟩
        have s3 : (x2 : Int).fdiv (2 ^ min 8 IntKind.u64.bits) = x3 := by rw [shr_eq _ _ (by decide)]; omega
        simp (config := { maxSteps := 1000000 }) only [RUN, PATHS, BASE, FA, POL, start_tm, Heap.empty, reduceIte, Nat.reduceLT, Nat.reduceLeDiff, Nat.reduceEqDiff, Nat.reduceAdd, Nat.reduceSub, Nat.reduceMul, Nat.reduceBEq, Int.reduceLT, Int.reduceLE, Int.reduceEq, Int.reduceNeg, Int.reduceAdd, Int.reduceSub, Int.reduceMul, Bool.false_eq_true, Bool.not_true, Bool.not_false, decide_eq_true_eq, and_self, true_and, and_true, reduceCtorEq, ne_eq, not_false_eq_true, not_true_eq_false, decide_true, decide_false, or_false, false_or, NUM, (show ¬ (4294967296 : Int) ≤ n by omega), (show (65536 : Int) ≤ n by omega), s2, (show (256 : Int) ≤ x2 by omega), s3, (show (32 : Int).toNat = 32 from rfl), (show (16 : Int).toNat = 16 from rfl), (show (8 : Int).toNat = 8 from rfl), u8_in (x := (x3 : Int)) (by omega), Int.toNat_natCast, (show (0 : Int) ≤ x3 by omega), i64_in (x := (32 : Int) + 16) (by unfold I64; omega), i64_in (x := (48 : Int)) (by unfold I64; omega), i64_in (x := (16 : Int)) (by unfold I64; omega), i64_in (x := (8 : Int)) (by unfold I64; omega), i64_in (x := (40 : Int)) (by unfold I64; omega), i64_in (x := (24 : Int)) (by unfold I64; omega), i64_in (x := (56 : Int)) (by unfold I64; omega), i64_in (x := (0 : Int)) (by unfold I64; omega)]
        generalize hT : ByteArray.mk _ = T
        obtain ⟨b, eb, hb⟩ := tab_ok T (by rw [← hT]; kernel_rfl) x3 (by omega)
        rw [Int.toNat_natCast] at eb hb
        have l8 : LEN x3 ≤ 8 := by
          have := b.toNat_lt
          rcases Nat.eq_zero_or_pos x3 with h | h
          · rw [h]; decide
          · have := LEN_ok h
            rcases Nat.lt_or_ge 8 (LEN x3) with h' | h'
            · have : 2 ^ 9 ≤ 2 ^ LEN x3 := Nat.pow_le_pow_right (by decide) h'
              omega
            · exact h'
        simp (config := { maxSteps := 1000000 }) only [RUN, PATHS, BASE, FA, POL, start_tm, Heap.empty, reduceIte, Nat.reduceLT, Nat.reduceLeDiff, Nat.reduceEqDiff, Nat.reduceAdd, Nat.reduceSub, Nat.reduceMul, Nat.reduceBEq, Int.reduceLT, Int.reduceLE, Int.reduceEq, Int.reduceNeg, Int.reduceAdd, Int.reduceSub, Int.reduceMul, Bool.false_eq_true, Bool.not_true, Bool.not_false, decide_eq_true_eq, and_self, true_and, and_true, reduceCtorEq, ne_eq, not_false_eq_true, not_true_eq_false, decide_true, decide_false, or_false, false_or, NUM, (show ¬ (4294967296 : Int) ≤ n by omega), (show (65536 : Int) ≤ n by omega), s2, (show (256 : Int) ≤ x2 by omega), s3, (show (32 : Int).toNat = 32 from rfl), (show (16 : Int).toNat = 16 from rfl), (show (8 : Int).toNat = 8 from rfl), u8_in (x := (x3 : Int)) (by omega), Int.toNat_natCast, (show (0 : Int) ≤ x3 by omega), i64_in (x := (32 : Int) + 16) (by unfold I64; omega), i64_in (x := (48 : Int)) (by unfold I64; omega), i64_in (x := (16 : Int)) (by unfold I64; omega), i64_in (x := (8 : Int)) (by unfold I64; omega), i64_in (x := (40 : Int)) (by unfold I64; omega), i64_in (x := (24 : Int)) (by unfold I64; omega), i64_in (x := (56 : Int)) (by unfold I64; omega), i64_in (x := (0 : Int)) (by unfold I64; omega), eb, hb, i64_in (x := ((LEN x3 : Nat) : Int)) (by unfold I64; omega), i64_in (x := (24 : Int) + LEN x3) (by unfold I64; omega), Int.zero_add]
        exact ⟨LEN x3 + 8 + 16, by first | rfl | (congr 3; omega), up16 e2 (up8 e3 ⟨by omega, LEN_ok (by omega)⟩)⟩
      · skip
        simp (config := { maxSteps := 1000000 }) only [RUN, PATHS, BASE, FA, POL, start_tm, Heap.empty, reduceIte, Nat.reduceLT, Nat.reduceLeDiff, Nat.reduceEqDiff, Nat.reduceAdd, Nat.reduceSub, Nat.reduceMul, Nat.reduceBEq, Int.reduceLT, Int.reduceLE, Int.reduceEq, Int.reduceNeg, Int.reduceAdd, Int.reduceSub, Int.reduceMul, Bool.false_eq_true, Bool.not_true, Bool.not_false, decide_eq_true_eq, and_self, true_and, and_true, reduceCtorEq, ne_eq, not_false_eq_true, not_true_eq_false, decide_true, decide_false, or_false, false_or, NUM, (show ¬ (4294967296 : Int) ≤ n by omega), (show (65536 : Int) ≤ n by omega), s2, (show ¬ (256 : Int) ≤ x2 by omega), (show (32 : Int).toNat = 32 from rfl), (show (16 : Int).toNat = 16 from rfl), (show (8 : Int).toNat = 8 from rfl), u8_in (x := (x2 : Int)) (by omega), Int.toNat_natCast, (show (0 : Int) ≤ x2 by omega), i64_in (x := (32 : Int) + 16) (by unfold I64; omega), i64_in (x := (48 : Int)) (by unfold I64; omega), i64_in (x := (16 : Int)) (by unfold I64; omega), i64_in (x := (8 : Int)) (by unfold I64; omega), i64_in (x := (40 : Int)) (by unfold I64; omega), i64_in (x := (24 : Int)) (by unfold I64; omega), i64_in (x := (56 : Int)) (by unfold I64; omega), i64_in (x := (0 : Int)) (by unfold I64; omega)]
        generalize hT : ByteArray.mk _ = T
        obtain ⟨b, eb, hb⟩ := tab_ok T (by rw [← hT]; kernel_rfl) x2 (by omega)
        rw [Int.toNat_natCast] at eb hb
        have l8 : LEN x2 ≤ 8 := by
          have := b.toNat_lt
          rcases Nat.eq_zero_or_pos x2 with h | h
          · rw [h]; decide
          · have := LEN_ok h
            rcases Nat.lt_or_ge 8 (LEN x2) with h' | h'
            · have : 2 ^ 9 ≤ 2 ^ LEN x2 := Nat.pow_le_pow_right (by decide) h'
              omega
            · exact h'
        simp (config := { maxSteps := 1000000 }) only [RUN, PATHS, BASE, FA, POL, start_tm, Heap.empty, reduceIte, Nat.reduceLT, Nat.reduceLeDiff, Nat.reduceEqDiff, Nat.reduceAdd, Nat.reduceSub, Nat.reduceMul, Nat.reduceBEq, Int.reduceLT, Int.reduceLE, Int.reduceEq, Int.reduceNeg, Int.reduceAdd, Int.reduceSub, Int.reduceMul, Bool.false_eq_true, Bool.not_true, Bool.not_false, decide_eq_true_eq, and_self, true_and, and_true, reduceCtorEq, ne_eq, not_false_eq_true, not_true_eq_false, decide_true, decide_false, or_false, false_or, NUM, (show ¬ (4294967296 : Int) ≤ n by omega), (show (65536 : Int) ≤ n by omega), s2, (show ¬ (256 : Int) ≤ x2 by omega), (show (32 : Int).toNat = 32 from rfl), (show (16 : Int).toNat = 16 from rfl), (show (8 : Int).toNat = 8 from rfl), u8_in (x := (x2 : Int)) (by omega), Int.toNat_natCast, (show (0 : Int) ≤ x2 by omega), i64_in (x := (32 : Int) + 16) (by unfold I64; omega), i64_in (x := (48 : Int)) (by unfold I64; omega), i64_in (x := (16 : Int)) (by unfold I64; omega), i64_in (x := (8 : Int)) (by unfold I64; omega), i64_in (x := (40 : Int)) (by unfold I64; omega), i64_in (x := (24 : Int)) (by unfold I64; omega), i64_in (x := (56 : Int)) (by unfold I64; omega), i64_in (x := (0 : Int)) (by unfold I64; omega), eb, hb, i64_in (x := ((LEN x2 : Nat) : Int)) (by unfold I64; omega), i64_in (x := (16 : Int) + LEN x2) (by unfold I64; omega), Int.zero_add]
        exact ⟨LEN x2 + 16, by first | rfl | (congr 3; omega), up16 e2 (⟨by omega, LEN_ok (by omega)⟩)⟩
    · skip
      by_cases h3 : 256 ≤ n
      · obtain ⟨x3, e3⟩ : ∃ x3, x3 = n / 256 := ⟨_, rfl⟩
        have s3 : (n : Int).fdiv (2 ^ min 8 IntKind.u64.bits) = x3 := by rw [shr_eq _ _ (by decide)]; omega
        simp (config := { maxSteps := 1000000 }) only [RUN, PATHS, BASE, FA, POL, start_tm, Heap.empty, reduceIte, Nat.reduceLT, Nat.reduceLeDiff, Nat.reduceEqDiff, Nat.reduceAdd, Nat.reduceSub, Nat.reduceMul, Nat.reduceBEq, Int.reduceLT, Int.reduceLE, Int.reduceEq, Int.reduceNeg, Int.reduceAdd, Int.reduceSub, Int.reduceMul, Bool.false_eq_true, Bool.not_true, Bool.not_false, decide_eq_true_eq, and_self, true_and, and_true, reduceCtorEq, ne_eq, not_false_eq_true, not_true_eq_false, decide_true, decide_false, or_false, false_or, NUM, (show ¬ (4294967296 : Int) ≤ n by omega), (show ¬ (65536 : Int) ≤ n by omega), (show (256 : Int) ≤ n by omega), s3, (show (32 : Int).toNat = 32 from rfl), (show (16 : Int).toNat = 16 from rfl), (show (8 : Int).toNat = 8 from rfl), u8_in (x := (x3 : Int)) (by omega), Int.toNat_natCast, (show (0 : Int) ≤ x3 by omega), i64_in (x := (32 : Int) + 16) (by unfold I64; omega), i64_in (x := (48 : Int)) (by unfold I64; omega), i64_in (x := (16 : Int)) (by unfold I64; omega), i64_in (x := (8 : Int)) (by unfold I64; omega), i64_in (x := (40 : Int)) (by unfold I64; omega), i64_in (x := (24 : Int)) (by unfold I64; omega), i64_in (x := (56 : Int)) (by unfold I64; omega), i64_in (x := (0 : Int)) (by unfold I64; omega)]
        generalize hT : ByteArray.mk _ = T
        obtain ⟨b, eb, hb⟩ := tab_ok T (by rw [← hT]; kernel_rfl) x3 (by omega)
        rw [Int.toNat_natCast] at eb hb
        have l8 : LEN x3 ≤ 8 := by
          have := b.toNat_lt
          rcases Nat.eq_zero_or_pos x3 with h | h
          · rw [h]; decide
          · have := LEN_ok h
            rcases Nat.lt_or_ge 8 (LEN x3) with h' | h'
            · have : 2 ^ 9 ≤ 2 ^ LEN x3 := Nat.pow_le_pow_right (by decide) h'
              omega
            · exact h'
        simp (config := { maxSteps := 1000000 }) only [RUN, PATHS, BASE, FA, POL, start_tm, Heap.empty, reduceIte, Nat.reduceLT, Nat.reduceLeDiff, Nat.reduceEqDiff, Nat.reduceAdd, Nat.reduceSub, Nat.reduceMul, Nat.reduceBEq, Int.reduceLT, Int.reduceLE, Int.reduceEq, Int.reduceNeg, Int.reduceAdd, Int.reduceSub, Int.reduceMul, Bool.false_eq_true, Bool.not_true, Bool.not_false, decide_eq_true_eq, and_self, true_and, and_true, reduceCtorEq, ne_eq, not_false_eq_true, not_true_eq_false, decide_true, decide_false, or_false, false_or, NUM, (show ¬ (4294967296 : Int) ≤ n by omega), (show ¬ (65536 : Int) ≤ n by omega), (show (256 : Int) ≤ n by omega), s3, (show (32 : Int).toNat = 32 from rfl), (show (16 : Int).toNat = 16 from rfl), (show (8 : Int).toNat = 8 from rfl), u8_in (x := (x3 : Int)) (by omega), Int.toNat_natCast, (show (0 : Int) ≤ x3 by omega), i64_in (x := (32 : Int) + 16) (by unfold I64; omega), i64_in (x := (48 : Int)) (by unfold I64; omega), i64_in (x := (16 : Int)) (by unfold I64; omega), i64_in (x := (8 : Int)) (by unfold I64; omega), i64_in (x := (40 : Int)) (by unfold I64; omega), i64_in (x := (24 : Int)) (by unfold I64; omega), i64_in (x := (56 : Int)) (by unfold I64; omega), i64_in (x := (0 : Int)) (by unfold I64; omega), eb, hb, i64_in (x := ((LEN x3 : Nat) : Int)) (by unfold I64; omega), i64_in (x := (8 : Int) + LEN x3) (by unfold I64; omega), Int.zero_add]
        exact ⟨LEN x3 + 8, by first | rfl | (congr 3; omega), up8 e3 ⟨by omega, LEN_ok (by omega)⟩⟩
      · skip
        simp (config := { maxSteps := 1000000 }) only [RUN, PATHS, BASE, FA, POL, start_tm, Heap.empty, reduceIte, Nat.reduceLT, Nat.reduceLeDiff, Nat.reduceEqDiff, Nat.reduceAdd, Nat.reduceSub, Nat.reduceMul, Nat.reduceBEq, Int.reduceLT, Int.reduceLE, Int.reduceEq, Int.reduceNeg, Int.reduceAdd, Int.reduceSub, Int.reduceMul, Bool.false_eq_true, Bool.not_true, Bool.not_false, decide_eq_true_eq, and_self, true_and, and_true, reduceCtorEq, ne_eq, not_false_eq_true, not_true_eq_false, decide_true, decide_false, or_false, false_or, NUM, (show ¬ (4294967296 : Int) ≤ n by omega), (show ¬ (65536 : Int) ≤ n by omega), (show ¬ (256 : Int) ≤ n by omega), (show (32 : Int).toNat = 32 from rfl), (show (16 : Int).toNat = 16 from rfl), (show (8 : Int).toNat = 8 from rfl), u8_in (x := (n : Int)) (by omega), Int.toNat_natCast, (show (0 : Int) ≤ n by omega), i64_in (x := (32 : Int) + 16) (by unfold I64; omega), i64_in (x := (48 : Int)) (by unfold I64; omega), i64_in (x := (16 : Int)) (by unfold I64; omega), i64_in (x := (8 : Int)) (by unfold I64; omega), i64_in (x := (40 : Int)) (by unfold I64; omega), i64_in (x := (24 : Int)) (by unfold I64; omega), i64_in (x := (56 : Int)) (by unfold I64; omega), i64_in (x := (0 : Int)) (by unfold I64; omega)]
        generalize hT : ByteArray.mk _ = T
        obtain ⟨b, eb, hb⟩ := tab_ok T (by rw [← hT]; kernel_rfl) n (by omega)
        rw [Int.toNat_natCast] at eb hb
        have l8 : LEN n ≤ 8 := by
          have := b.toNat_lt
          rcases Nat.eq_zero_or_pos n with h | h
          · rw [h]; decide
          · have := LEN_ok h
            rcases Nat.lt_or_ge 8 (LEN n) with h' | h'
            · have : 2 ^ 9 ≤ 2 ^ LEN n := Nat.pow_le_pow_right (by decide) h'
              omega
            · exact h'
        simp (config := { maxSteps := 1000000 }) only [RUN, PATHS, BASE, FA, POL, start_tm, Heap.empty, reduceIte, Nat.reduceLT, Nat.reduceLeDiff, Nat.reduceEqDiff, Nat.reduceAdd, Nat.reduceSub, Nat.reduceMul, Nat.reduceBEq, Int.reduceLT, Int.reduceLE, Int.reduceEq, Int.reduceNeg, Int.reduceAdd, Int.reduceSub, Int.reduceMul, Bool.false_eq_true, Bool.not_true, Bool.not_false, decide_eq_true_eq, and_self, true_and, and_true, reduceCtorEq, ne_eq, not_false_eq_true, not_true_eq_false, decide_true, decide_false, or_false, false_or, NUM, (show ¬ (4294967296 : Int) ≤ n by omega), (show ¬ (65536 : Int) ≤ n by omega), (show ¬ (256 : Int) ≤ n by omega), (show (32 : Int).toNat = 32 from rfl), (show (16 : Int).toNat = 16 from rfl), (show (8 : Int).toNat = 8 from rfl), u8_in (x := (n : Int)) (by omega), Int.toNat_natCast, (show (0 : Int) ≤ n by omega), i64_in (x := (32 : Int) + 16) (by unfold I64; omega), i64_in (x := (48 : Int)) (by unfold I64; omega), i64_in (x := (16 : Int)) (by unfold I64; omega), i64_in (x := (8 : Int)) (by unfold I64; omega), i64_in (x := (40 : Int)) (by unfold I64; omega), i64_in (x := (24 : Int)) (by unfold I64; omega), i64_in (x := (56 : Int)) (by unfold I64; omega), i64_in (x := (0 : Int)) (by unfold I64; omega), eb, hb, i64_in (x := ((LEN n : Nat) : Int)) (by unfold I64; omega), i64_in (x := (0 : Int) + LEN n) (by unfold I64; omega), Int.zero_add]
        exact ⟨LEN n, by first | rfl | (congr 3; omega), ⟨by omega, LEN_ok (by omega)⟩⟩
end Go.Proofs.Ytnabgahkdomeoaa

