/-
  The simplest number between two: the plain law, and what the functions come to.
-/
import Derived.Test.YtcdmoilcpkapiaaC3
set_option linter.unusedSimpArgs false
set_option linter.unusedVariables false
set_option linter.unusedSectionVars false
namespace Go.Proofs.Ytcdmoilcpkapiaa
open Go GoV
set_option maxRecDepth 100000

def SIMP : Nat → Int → Int → Int → Int → Int × Int
  | 0, n, d, _, _ => (n / d + 1, 1)
  | f + 1, n, d, m, k => if k = 0 ∨ (n / d + 1) * k < m then (n / d + 1, 1) else
    let r := SIMP f k (m - n / d * k) d (n - n / d * d)
    (n / d * r.1 + r.2, r.1)
structure COND (n d m k : Int) : Prop where
  n0 : 0 ≤ n
  d0 : 0 < d
  m0 : 0 < m
  k0 : 0 ≤ k
  lt : n * k < m * d
  n1 : n ≤ 1073741824
  d1 : d ≤ 1073741824
  m1 : m ≤ 1073741824
  k1 : k ≤ 1073741824
theorem simp_step {n d m k q : Int} (h : COND n d m k) (hq : q = n / d) (hk : k ≠ 0) (hm : ¬ (q + 1) * k < m) :
    COND k (m - q * k) d (n - q * d) ∧ m - q * k ≤ k ∧ n - q * d < d ∧ 0 ≤ q ∧ q ≤ n := by
  obtain ⟨n0, d0, m0, k0, lt, n1, d1, m1, k1⟩ := h
  have q0 : 0 ≤ q := hq ▸ Int.ediv_nonneg n0 (by omega)
  have qn : q ≤ n := hq ▸ Int.ediv_le_self _ n0
  have e1 : q * d ≤ n := hq ▸ Int.ediv_mul_le _ (by omega)
  have e2 : n < (q + 1) * d := hq ▸ Int.lt_ediv_add_one_mul_self _ d0
  rw [Int.add_mul, Int.one_mul] at e2 hm
  have e3 : q * k < m := by
    have h1 : q * d * k ≤ n * k := Int.mul_le_mul_of_nonneg_right e1 k0
    have h2 : q * k * d < m * d := by
      have : q * k * d = q * d * k := by ac_rfl
      omega
    exact Int.lt_of_mul_lt_mul_right h2 (by omega)
  have qd0 : 0 ≤ q * d := Int.mul_nonneg q0 (by omega)
  have qk0 : 0 ≤ q * k := Int.mul_nonneg q0 k0
  refine ⟨⟨k0, by omega, d0, by omega, ?_, k1, by omega, d1, by omega⟩, by omega, by omega, q0, qn⟩
  rw [Int.mul_sub, Int.mul_sub]
  have a1 : k * (q * d) = d * (q * k) := by ac_rfl
  have a2 : k * n = n * k := Int.mul_comm _ _
  have a3 : d * m = m * d := Int.mul_comm _ _
  omega
/-- It lies between; whatever lies between has no lesser numerator and no lesser denominator. -/
theorem SIMP_law : ∀ (f : Nat) (n d m k : Int), COND n d m k → d + k ≤ f → ∀ r, r = SIMP f n d m k →
    0 < r.1 ∧ 0 < r.2 ∧ n * r.2 < r.1 * d ∧ r.1 * k < m * r.2 ∧ Nat.gcd r.1.natAbs r.2.natAbs = 1 ∧ ∀ p s : Int, 0 < s → n * s < p * d → p * k < m * s → r.1 ≤ p ∧ r.2 ≤ s
  | 0, n, d, m, k, h, hf, _, _ => by have := h.d0; have := h.k0; omega
  | f + 1, n, d, m, k, h, hf, r, hr => by
    have hh := h
    obtain ⟨n0, d0, m0, k0, lt, n1, d1, m1, k1⟩ := hh
    have q0 : 0 ≤ n / d := Int.ediv_nonneg n0 (by omega)
    have e1 : n / d * d ≤ n := Int.ediv_mul_le _ (by omega)
    have e2 : n < (n / d + 1) * d := Int.lt_ediv_add_one_mul_self _ d0
    unfold SIMP at hr
    generalize hq : n / d = q at *
    split at hr
    · next hc =>
      subst hr
      simp only []
      refine ⟨by omega, by omega, by omega, ?_, by simp, ?_⟩
      · rcases hc with rfl | hc
        · simp; omega
        · omega
      · intro p s hs h1 h2
        refine ⟨?_, by omega⟩
        have : q * s < p := by
          have h3 : q * d * s ≤ n * s := Int.mul_le_mul_of_nonneg_right e1 (by omega)
          have h4 : q * s * d < p * d := by
            have : q * s * d = q * d * s := by ac_rfl
            omega
          exact Int.lt_of_mul_lt_mul_right h4 (by omega)
        have : q ≤ q * s := by
          have := Int.mul_le_mul_of_nonneg_left (show 1 ≤ s by omega) q0
          omega
        omega
    · next hc =>
      rw [not_or] at hc
      obtain ⟨st, s1, s2, _, _⟩ := simp_step h hq.symm hc.1 hc.2
      have ih := SIMP_law f k (m - q * k) d (n - q * d) st (by omega) _ rfl
      generalize SIMP f k (m - q * k) d (n - q * d) = t at hr ih
      obtain ⟨x, y⟩ := t
      simp only at hr ih
      subst hr
      obtain ⟨x0, y0, b1, b2, g, mn⟩ := ih
      simp only []
      have qx : 0 ≤ q * x := Int.mul_nonneg q0 (by omega)
      rw [Int.mul_sub] at b1
      rw [Int.mul_sub] at b2
      have z1 : (q * x + y) * k = q * x * k + y * k := Int.add_mul _ _ _
      have z2 : (q * x + y) * d = q * x * d + y * d := Int.add_mul _ _ _
      have z3 : x * (q * k) = q * x * k := by ac_rfl
      have z4 : x * (q * d) = q * x * d := by ac_rfl
      have z5 : q * k * x = q * x * k := by ac_rfl
      have z6 : q * d * x = q * x * d := by ac_rfl
      have z7 : k * y = y * k := Int.mul_comm _ _
      have z8 : d * y = y * d := Int.mul_comm _ _
      have z9 : n * x = x * n := Int.mul_comm _ _
      have z10 : m * x = x * m := Int.mul_comm _ _
      refine ⟨by omega, x0, ?_, ?_, ?_, ?_⟩
      · omega
      · omega
      · rw [show (q * x + y).natAbs = y.natAbs + q.natAbs * x.natAbs by rw [← Int.natAbs_mul]; omega]
        rw [Nat.gcd_comm, Nat.gcd_add_mul_right_right]
        exact g
      · intro p s hs h1 h2
        have w1 : q * s < p := by
          have h3 : q * d * s ≤ n * s := Int.mul_le_mul_of_nonneg_right e1 (by omega)
          have h4 : q * s * d < p * d := by
            have : q * s * d = q * d * s := by ac_rfl
            omega
          exact Int.lt_of_mul_lt_mul_right h4 (by omega)
        have hmn := mn s (p - q * s) (by omega) (by
          rw [Int.mul_sub, Int.mul_sub]
          have : k * (q * s) = s * (q * k) := by ac_rfl
          have : k * p = p * k := Int.mul_comm _ _
          have : s * m = m * s := Int.mul_comm _ _
          omega) (by
          rw [Int.mul_sub, Int.mul_sub]
          have : s * (q * d) = d * (q * s) := by ac_rfl
          have : s * n = n * s := Int.mul_comm _ _
          have : d * p = p * d := Int.mul_comm _ _
          omega)
        have : q * x ≤ q * s := Int.mul_le_mul_of_nonneg_left hmn.1 q0
        omega
theorem SIMP_bd {f : Nat} {n d m k : Int} (h : COND n d m k) (hf : d + k ≤ f) : (SIMP f n d m k).1 ≤ n + m ∧ (SIMP f n d m k).2 ≤ d + k := by
  obtain ⟨_, _, _, _, _, mn⟩ := SIMP_law f n d m k h hf _ rfl
  have := h.lt
  have := h.d0
  have := h.k0
  refine mn (n + m) (d + k) (by omega) ?_ ?_
  · rw [Int.mul_add, Int.add_mul]; omega
  · rw [Int.mul_add, Int.add_mul]; omega
end Go.Proofs.Ytcdmoilcpkapiaa
