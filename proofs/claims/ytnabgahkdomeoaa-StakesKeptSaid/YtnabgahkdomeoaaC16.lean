/-
  Products and quotients of 128 bits.
-/
import Derived.Test.YtnabgahkdomeoaaC15
import Derived.Test.YtnabgahkdomeoaaL2
set_option linter.unusedSimpArgs false
set_option linter.unusedVariables false
set_option linter.unusedSectionVars false
namespace Go.Proofs.Ytnabgahkdomeoaa
open Go GoV
set_option maxRecDepth 100000

theorem and_mask (n : Nat) (h : n < 18446744073709551616) : IntKind.u64.wrap ((BitVec.ofInt IntKind.u64.bits (n : Int) &&& BitVec.ofInt IntKind.u64.bits 4294967295).toNat : Nat) = ((n % 4294967296 : Nat) : Int) := by
  have e : (BitVec.ofInt IntKind.u64.bits (n : Int) &&& BitVec.ofInt IntKind.u64.bits 4294967295).toNat = n % 4294967296 := by
    rw [BitVec.toNat_and]
    have e1 : (BitVec.ofInt IntKind.u64.bits (n : Int)).toNat = n := by
      rw [BitVec.toNat_ofInt]; simp [IntKind.bits]; omega
    have e2 : (BitVec.ofInt IntKind.u64.bits 4294967295).toNat = 2 ^ 32 - 1 := by decide
    rw [e1, e2, Nat.and_two_pow_sub_one_eq_mod]
  rw [e, u64_in]
  unfold U64; omega
theorem or_add (a b s : Nat) (hb : b < 2 ^ s) (h : 2 ^ s * a + b < 18446744073709551616) : IntKind.u64.wrap ((BitVec.ofInt IntKind.u64.bits ((2 ^ s * a : Nat) : Int) ||| BitVec.ofInt IntKind.u64.bits (b : Int)).toNat : Nat) = ((2 ^ s * a + b : Nat) : Int) := by
  have e : (BitVec.ofInt IntKind.u64.bits ((2 ^ s * a : Nat) : Int) ||| BitVec.ofInt IntKind.u64.bits (b : Int)).toNat = 2 ^ s * a + b := by
    rw [BitVec.toNat_or]
    have e1 : ∀ n : Nat, n < 18446744073709551616 → (BitVec.ofInt IntKind.u64.bits (n : Int)).toNat = n := fun n hn => by
      rw [BitVec.toNat_ofInt]; simp [IntKind.bits]; omega
    rw [e1 _ (by omega), e1 _ (by omega), Nat.two_pow_add_eq_or_of_lt hb]
  rw [e, u64_in]
  unfold U64; omega
theorem shr_n (n : Nat) (k : Nat) (hk : k ≤ 64) : (n : Int).fdiv (2 ^ min k IntKind.u64.bits) = ((n / 2 ^ k : Nat) : Int) := by
  rw [shr_eq _ _ hk, Int.natCast_ediv, Int.natCast_pow]; rfl
theorem u64_n {n : Nat} (h : n < 18446744073709551616) : IntKind.u64.wrap (n : Int) = n := u64_in (by unfold U64; omega)
theorem c_mul64 (x y : Nat) (hx : x < 18446744073709551616) (hy : y < 4294967296) : ap Try.prog pol 21 [U x, U y] = some (.ret (.tup [U ((x * y / 18446744073709551616 : Nat) : Int), U ((x * y % 18446744073709551616 : Nat) : Int)])) := by
  obtain ⟨x0, e0⟩ : ∃ x0, x0 = x % 4294967296 := ⟨_, rfl⟩
  obtain ⟨x1, e1⟩ : ∃ x1, x1 = x / 4294967296 := ⟨_, rfl⟩
  have m1 := and_mask x hx
  have m2 := and_mask y (by omega)
  have s1 := shr_n x 32 (by decide)
  have s2 := shr_n y 32 (by decide)
  rw [← e0] at m1
  rw [show x / 2 ^ 32 = x1 from e1.symm] at s1
  rw [show y % 4294967296 = y by omega] at m2
  rw [show y / 2 ^ 32 = 0 by omega] at s2
  have b0 : x0 * y < 18446744073709551616 := by
    have := Nat.mul_le_mul (show x0 ≤ 4294967295 by omega) (show y ≤ 4294967295 by omega)
    omega
  have b1 : x1 * y ≤ 4294967295 * 4294967295 := Nat.mul_le_mul (show x1 ≤ 4294967295 by omega) (show y ≤ 4294967295 by omega)
  have mh := mul_halves (x := x) (y := y) hy
  rw [← e0, ← e1] at mh
  have w0 := shr_n (x0 * y) 32 (by decide)
  obtain ⟨p, hp⟩ : ∃ p, p = x0 * y := ⟨_, rfl⟩
  obtain ⟨q, hq⟩ : ∃ q, q = x1 * y := ⟨_, rfl⟩
  rw [← hp] at w0 b0 mh
  rw [← hq] at b1 mh
  obtain ⟨t, ht⟩ : ∃ t, t = q + p / 4294967296 := ⟨_, rfl⟩
  have mt := and_mask t (by omega)
  have st := shr_n t 32 (by decide)
  have sz := shr_n (t % 4294967296) 32 (by decide)
  rw [show t % 4294967296 / 2 ^ 32 = 0 by omega] at sz
  rw [ap_eq _ Try.func21 rfl Try.ntmps21 Try.results21 (by kernel_rfl) rfl (by exact Nat.le_of_ble_eq_true rfl)]
  simp (config := { maxSteps := 1000000 }) only [RUN, PATHS, BASE, FA, POL, start_tm, Heap.empty, reduceIte, Nat.reduceLT, Nat.reduceLeDiff, Nat.reduceEqDiff, Nat.reduceAdd, Nat.reduceSub, Nat.reduceMul, Nat.reduceBEq, Int.reduceLT, Int.reduceLE, Int.reduceEq, Int.reduceNeg, Int.reduceAdd, Int.reduceSub, Int.reduceMul, Bool.false_eq_true, Bool.not_true, Bool.not_false, decide_eq_true_eq, and_self, true_and, and_true, reduceCtorEq, ne_eq, not_false_eq_true, not_true_eq_false, decide_true, decide_false, or_false, false_or, NUM, m1, m2, s1, s2, (show (32 : Int).toNat = 32 from rfl), (show (x0 : Int) * y = (p : Int) by rw [hp]; simp), (show (x1 : Int) * y = (q : Int) by rw [hq]; simp), u64_n b0, u64_n (n := q) (by omega), w0, (show (q : Int) + ((p / 2 ^ 32 : Nat) : Int) = (t : Int) by rw [ht]; rfl), u64_n (n := t) (by omega), mt, st, sz, Int.natCast_zero, Int.mul_zero, Int.add_zero, Int.zero_add, (show IntKind.u64.wrap 0 = 0 from rfl), u64_n (n := t % 4294967296) (by omega), u64_n (n := t / 2 ^ 32) (by omega), (show (x : Int) * y = ((x * y : Nat) : Int) by simp)]
  rw [wrap_u64, ← mh, ht]
  rfl
theorem c_lz (y : Nat) (h : 0 < y ∧ y < 18446744073709551616) : ∃ s : Nat, ap Try.prog pol 41 [U y] = some (.ret (I s)) ∧ s ≤ 63 ∧ y * 2 ^ s < 18446744073709551616 ∧ 9223372036854775808 ≤ y * 2 ^ s := by
  obtain ⟨k, ck, k1, k2⟩ := c_len64 y h
  have hk : k ≤ 64 := by
    rcases Nat.lt_or_ge 64 k with h' | h'
    · have : 2 ^ 65 ≤ 2 ^ k := Nat.pow_le_pow_right (by decide) h'
      omega
    · exact h'
  have hk0 : 1 ≤ k := by
    rcases Nat.eq_zero_or_pos k with rfl | h'
    · omega
    · exact h'
  have e : 2 ^ k * 2 ^ (64 - k) = 18446744073709551616 := by rw [← Nat.pow_add, show k + (64 - k) = 64 by omega]
  have a1 := Nat.mul_lt_mul_of_pos_right k1 (Nat.pow_pos (n := 64 - k) (show 0 < 2 by decide))
  have a2 := Nat.mul_le_mul_right (2 ^ (64 - k)) k2
  rw [Nat.mul_assoc] at a2
  refine ⟨64 - k, ?_, by omega, by omega, by omega⟩
  rw [ap_eq _ Try.func41 rfl Try.ntmps41 Try.results41 (by kernel_rfl) rfl (by exact Nat.le_of_ble_eq_true rfl)]
  simp (config := { maxSteps := 1000000 }) only [RUN, PATHS, BASE, FA, POL, start_tm, Heap.empty, reduceIte, Nat.reduceLT, Nat.reduceLeDiff, Nat.reduceEqDiff, Nat.reduceAdd, Nat.reduceSub, Nat.reduceMul, Nat.reduceBEq, Int.reduceLT, Int.reduceLE, Int.reduceEq, Int.reduceNeg, Int.reduceAdd, Int.reduceSub, Int.reduceMul, Bool.false_eq_true, Bool.not_true, Bool.not_false, decide_eq_true_eq, and_self, true_and, and_true, reduceCtorEq, ne_eq, not_false_eq_true, not_true_eq_false, decide_true, decide_false, or_false, false_or, NUM, ck, i64_in (x := ((64 - k : Nat) : Int)) (by unfold I64; omega), (show (64 : Int) - k = ((64 - k : Nat) : Int) by omega)]
end Go.Proofs.Ytnabgahkdomeoaa
