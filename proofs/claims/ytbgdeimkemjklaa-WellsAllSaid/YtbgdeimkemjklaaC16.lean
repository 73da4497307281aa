/-
  The plain law of what is missing: bounds, sums, order of the factors.
-/
import Derived.Test.YtbgdeimkemjklaaC15
set_option linter.unusedSimpArgs false
set_option linter.unusedVariables false
set_option linter.unusedSectionVars false
namespace Go.Proofs.Ytbgdeimkemjklaa
open Go GoV
set_option maxRecDepth 100000

section
variable {d : Int} {k p : List Int} (h : BD d k p)
include h
theorem CV_fine (s : Nat) : ∀ n, CV p k s n ≤ 1073741824 * (KS k (s + 1) - KS k (s + 1 - n))
  | 0 => by simp [CV]
  | n + 1 => by
    have ih := CV_fine s n
    simp only [CV]
    by_cases hn : n ≤ s
    · rw [if_pos hn]
      have e : KS k (s + 1 - n) = KS k (s + 1 - (n + 1)) + k.getD (s - n) 0 := by
        rw [show s + 1 - n = (s - n) + 1 by omega, KS_succ, show s + 1 - (n + 1) = s - n by omega]
      obtain ⟨a, b⟩ := pd_bd h n
      obtain ⟨c, _⟩ := kd_bd h (s - n)
      have := Int.mul_le_mul_of_nonneg_right b c
      rw [e] at ih
      omega
    · rw [if_neg hn, show s + 1 - (n + 1) = s + 1 - n by omega]
      omega
theorem CV_d (s n : Nat) : CV p k s n ≤ 1073741824 * d := by
  have a := CV_fine h s n
  have b := KS_bd h (s + 1)
  have c := KS_bd h (s + 1 - n)
  omega
/-- What is owed on a day. -/
theorem OWEf_bd (i : Nat) (hi : i < DAYS k p) : 0 ≤ OWEf (UNT d k p) i ∧ OWEf (UNT d k p) i ≤ 1073741824 := by
  have hd := h.d1
  unfold OWEf PRV
  rw [UNT_get hi]
  have cb := CV_bd h i p.length
  have cd := CV_d h i p.length
  have pb := PSUM_bd h i p.length
  by_cases h0 : i = 0
  · subst h0
    rw [if_pos rfl, PSUM_zero]
    have := Int.ediv_nonneg cb.1 (show 0 ≤ d by omega)
    have : CV p k 0 p.length / d ≤ 1073741824 * d / d := Int.ediv_le_ediv (by omega) cd
    rw [Int.mul_ediv_cancel _ (by omega)] at this
    omega
  · rw [if_neg h0, UNT_get (by omega)]
    obtain ⟨j, rfl⟩ : ∃ j, i = j + 1 := ⟨i - 1, by omega⟩
    rw [Nat.add_sub_cancel, PSUM_succ]
    have a1 : PSUM p k j p.length / d ≤ (PSUM p k j p.length + CV p k (j + 1) p.length) / d := Int.ediv_le_ediv (by omega) (by omega)
    have a2 : (PSUM p k j p.length + CV p k (j + 1) p.length) / d ≤ (PSUM p k j p.length + 1073741824 * d) / d := Int.ediv_le_ediv (by omega) (by omega)
    rw [Int.add_mul_ediv_right _ _ (by omega)] at a2
    omega
theorem OWE_OKL : OKL (OWE (UNT d k p)) := by
  intro x hx
  unfold OWE at hx
  rw [List.mem_map] at hx
  obtain ⟨i, hi, rfl⟩ := hx
  rw [List.mem_range, UNT_len] at hi
  have := OWEf_bd h i hi
  omega
end
theorem OWE_get (u : List Int) {i : Nat} (hi : i < u.length) : (OWE u).getD i 0 = OWEf u i := by
  simp [OWE, List.getD_eq_getElem?_getD, hi]
theorem KS_OWE (u : List Int) : ∀ i, i ≤ u.length → KS (OWE u) i = PRV u i
  | 0, _ => by simp [KS_zero, PRV]
  | i + 1, hi => by
    rw [KS_succ, KS_OWE u i (by omega), OWE_get u (by omega), PRV_succ]
    unfold OWEf; omega
theorem SUMS_OWE (u : List Int) : SUMS (OWE u) = u := by
  apply List.ext_getElem
  · simp [SUMS, OWE]
  · intro i h1 h2
    simp only [SUMS, List.getElem_map, List.getElem_range]
    rw [KS_OWE u (i + 1) (by omega), PRV_succ, List.getD_eq_getElem?_getD, List.getElem?_eq_getElem h2]; rfl
/-- The sum of f up to n. -/
def SG (f : Nat → Int) : Nat → Int
  | 0 => 0
  | n + 1 => SG f n + f n
theorem SG_congr {f g : Nat → Int} : ∀ n, (∀ i < n, f i = g i) → SG f n = SG g n
  | 0, _ => rfl
  | n + 1, h => by simp only [SG]; rw [SG_congr n fun i hi => h i (by omega), h n (by omega)]
theorem SG_front (f : Nat → Int) : ∀ n, SG f (n + 1) = f 0 + SG (fun i => f (i + 1)) n
  | 0 => by simp [SG]
  | n + 1 => by
    have := SG_front f n
    simp only [SG] at this ⊢
    omega
theorem SG_rev (f : Nat → Int) : ∀ n, SG f n = SG (fun i => f (n - 1 - i)) n
  | 0 => rfl
  | n + 1 => by
    rw [SG_front (fun i => f (n + 1 - 1 - i)) n]
    simp only [SG]
    rw [SG_rev f n, SG_congr (f := fun i => f (n + 1 - 1 - (i + 1))) (g := fun i => f (n - 1 - i)) n (fun i hi => by congr 1; omega)]
    simp only [Nat.add_sub_cancel, Nat.sub_zero]
    omega
theorem CV_SG (p k : List Int) (s : Nat) : ∀ n, CV p k s n = SG (fun i => if i ≤ s then p.getD i 0 * k.getD (s - i) 0 else 0) n
  | 0 => rfl
  | n + 1 => by simp only [CV, SG, CV_SG p k s n]
theorem CV_long (p k : List Int) (s : Nat) : ∀ n, CV p k s (s + 1 + n) = CV p k s (s + 1)
  | 0 => rfl
  | n + 1 => by
    rw [← Nat.add_assoc]
    rw [CV, if_neg (by omega), CV_long p k s n]; omega
theorem CV_past (p k : List Int) (s : Nat) : ∀ n, CV p k s (p.length + n) = CV p k s p.length
  | 0 => rfl
  | n + 1 => by
    rw [← Nat.add_assoc]
    rw [CV, CV_past p k s n, List.getD_eq_getElem?_getD, List.getElem?_eq_none (by omega)]; simp
theorem CV_full (p k : List Int) (s : Nat) : CV p k s p.length = CV p k s (s + 1) := by
  rw [← CV_past p k s (s + 1), ← CV_long p k s p.length, Nat.add_comm]
theorem CV_swap (p k : List Int) (s : Nat) : CV p k s p.length = CV k p s k.length := by
  rw [CV_full, CV_full, CV_SG, CV_SG, SG_rev]
  apply SG_congr
  intro i hi
  rw [if_pos (by omega), if_pos (by omega), show s + 1 - 1 - i = s - i by omega, show s - (s - i) = i by omega, Int.mul_comm]
end Go.Proofs.Ytbgdeimkemjklaa
