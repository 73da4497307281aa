/-
  Long division by halves of words, in natural numbers.
-/
import Derived.Test.YtnabgahkdomeoaaFa
set_option linter.unusedSimpArgs false
set_option linter.unusedVariables false
set_option linter.unusedSectionVars false
namespace Go.Proofs.Ytnabgahkdomeoaa
open Go GoV
set_option maxRecDepth 100000

/-- A step of the search for a digit. -/
theorem kd_less {q rh un un1 y1 y0 v : Nat} (hv : v = y1 * 4294967296 + y0) (h0 : y0 < 4294967296) (hu : un < v) (h1 : un1 < 4294967296) (he : q * y1 + rh = un)
    (hc : 4294967296 ≤ q ∨ 4294967296 * rh + un1 < q * y0) (hq : (un * 4294967296 + un1) / v ≤ q) : 1 ≤ q ∧ (un * 4294967296 + un1) / v ≤ q - 1 := by
  have hlt : (un * 4294967296 + un1) / v < q := by
    have hv0 : 0 < v := by omega
    rcases hc with hc | hc
    · refine Nat.lt_of_lt_of_le ((Nat.div_lt_iff_lt_mul hv0).2 ?_) hc
      have : un + 1 ≤ v := hu
      have := Nat.mul_le_mul_right 4294967296 this
      rw [Nat.add_mul] at this
      rw [Nat.mul_comm 4294967296 v]; omega
    · refine (Nat.div_lt_iff_lt_mul hv0).2 ?_
      have e : q * v = q * y1 * 4294967296 + q * y0 := by rw [hv, Nat.mul_add, Nat.mul_assoc]
      rw [e, ← he, Nat.add_mul]
      omega
  exact ⟨Nat.lt_of_le_of_lt (Nat.zero_le _) hlt, Nat.le_sub_one_of_lt hlt⟩
theorem kd_over {q rh un un1 y1 y0 v : Nat} (hv : v = y1 * 4294967296 + y0) (h0 : y0 < 4294967296) (hu : un < v) (he : q * y1 + rh = un)
    (hr : 4294967296 ≤ rh) (hq : (un * 4294967296 + un1) / v ≤ q) : q = (un * 4294967296 + un1) / v := by
  refine Nat.le_antisymm ?_ hq
  have hv0 : 0 < v := by omega
  rw [Nat.le_div_iff_mul_le hv0]
  have ql : q < 4294967296 := by
    rcases Nat.lt_or_ge q 4294967296 with h | h
    · exact h
    · have := Nat.mul_le_mul_right y1 h
      omega
  have e : q * v = q * y1 * 4294967296 + q * y0 := by rw [hv, Nat.mul_add, Nat.mul_assoc]
  have b : q * y0 ≤ 4294967296 * 4294967296 := Nat.mul_le_mul (by omega) (by omega)
  rw [e, ← he, Nat.add_mul]
  omega
theorem kd_done {q rh un un1 y1 y0 v : Nat} (hv : v = y1 * 4294967296 + y0) (hu : un < v) (he : q * y1 + rh = un)
    (hc : q * y0 ≤ 4294967296 * rh + un1) (hq : (un * 4294967296 + un1) / v ≤ q) : q = (un * 4294967296 + un1) / v := by
  refine Nat.le_antisymm ?_ hq
  have hv0 : 0 < v := by omega
  rw [Nat.le_div_iff_mul_le hv0]
  have e : q * v = q * y1 * 4294967296 + q * y0 := by rw [hv, Nat.mul_add, Nat.mul_assoc]
  rw [e, ← he, Nat.add_mul]
  omega
theorem kd_first {un un1 y1 y0 v : Nat} (hv : v = y1 * 4294967296 + y0) (hy : 0 < y1) (h1 : un1 < 4294967296) : (un * 4294967296 + un1) / v ≤ un / y1 := by
  have e : un / y1 = (un * 4294967296 + un1) / (y1 * 4294967296) := by
    rw [Nat.mul_comm y1, ← Nat.div_div_eq_div_mul]
    congr 1; omega
  rw [e]
  exact Nat.div_le_div_left (by omega) (Nat.mul_pos hy (by decide))
theorem kd_lt {un un1 v : Nat} (hu : un < v) (h1 : un1 < 4294967296) : (un * 4294967296 + un1) / v < 4294967296 := by
  have hv0 : 0 < v := by omega
  refine (Nat.div_lt_iff_lt_mul hv0).2 ?_
  have : un + 1 ≤ v := hu
  have := Nat.mul_le_mul_right 4294967296 this
  rw [Nat.add_mul] at this
  rw [Nat.mul_comm 4294967296 v]; omega
/-- Both digits together. -/
theorem kd_two {N y s v A q1 r1 q0 r0 u0 : Nat} (hv : v = y * 2 ^ s) (hy : 0 < y) (hN : N * 2 ^ s = A * 4294967296 + u0) (e1 : v * q1 + r1 = A) (e2 : v * q0 + r0 = r1 * 4294967296 + u0) (l2 : r0 < v) :
    q1 * 4294967296 + q0 = N / y ∧ r0 / 2 ^ s = N % y := by
  have hp : 0 < 2 ^ s := Nat.pow_pos (by decide)
  have hv0 : 0 < v := by rw [hv]; exact Nat.mul_pos hy hp
  have key : N * 2 ^ s = v * (q1 * 4294967296 + q0) + r0 := by
    rw [hN, ← e1, Nat.add_mul, Nat.mul_add, ← Nat.mul_assoc]
    omega
  have d1 : N * 2 ^ s / v = q1 * 4294967296 + q0 := by
    rw [key, Nat.mul_add_div hv0, Nat.div_eq_of_lt l2, Nat.add_zero]
  have d2 : N * 2 ^ s % v = r0 := by
    rw [key, Nat.mul_add_mod, Nat.mod_eq_of_lt l2]
  rw [hv] at d1 d2
  rw [Nat.mul_div_mul_right _ _ hp] at d1
  rw [Nat.mul_mod_mul_right] at d2
  exact ⟨d1.symm, by rw [← d2, Nat.mul_div_cancel _ hp]⟩
/-- The number before the division, moved up. -/
theorem kd_up {hi lo y s k : Nat} (hs : s + k = 64) (hh : hi < y) (hl : lo < 18446744073709551616) (hy : y * 2 ^ s < 18446744073709551616) :
    (hi * 18446744073709551616 + lo) * 2 ^ s = (hi * 2 ^ s + lo / 2 ^ k) * 18446744073709551616 + lo * 2 ^ s % 18446744073709551616 ∧ hi * 2 ^ s + lo / 2 ^ k < y * 2 ^ s ∧ lo / 2 ^ k < 2 ^ s := by
  have hp : 0 < 2 ^ s := Nat.pow_pos (by decide)
  have hk : 0 < 2 ^ k := Nat.pow_pos (by decide)
  have e : 18446744073709551616 = 2 ^ s * 2 ^ k := by rw [← Nat.pow_add, hs]
  have c : lo / 2 ^ k < 2 ^ s := (Nat.div_lt_iff_lt_mul hk).2 (by omega)
  have a : lo * 2 ^ s / 18446744073709551616 = lo / 2 ^ k := by
    rw [e, Nat.mul_comm (2 ^ s), Nat.mul_div_mul_right _ _ hp]
  have b := Nat.div_add_mod (lo * 2 ^ s) 18446744073709551616
  rw [a] at b
  refine ⟨?_, ?_, c⟩
  · rw [Nat.add_mul, Nat.add_mul, ← b, Nat.mul_right_comm]
    omega
  · have : hi + 1 ≤ y := hh
    have := Nat.mul_le_mul_right (2 ^ s) this
    rw [Nat.add_mul] at this
    omega
theorem mul_halves {x y : Nat} (hy : y < 4294967296) : (x / 4294967296 * y + x % 4294967296 * y / 4294967296) / 4294967296 = x * y / 18446744073709551616 := by
  have e := Nat.div_add_mod x 4294967296
  have h : x * y = x / 4294967296 * y * 4294967296 + x % 4294967296 * y := by
    conv => lhs; rw [← e]
    rw [Nat.add_mul, Nat.mul_assoc, Nat.mul_comm 4294967296 (_ * y)]
  rw [h, show (18446744073709551616 : Nat) = 4294967296 * 4294967296 by decide, ← Nat.div_div_eq_div_mul]
  congr 1
  generalize x / 4294967296 * y = a
  generalize x % 4294967296 * y = b
  omega
end Go.Proofs.Ytnabgahkdomeoaa
