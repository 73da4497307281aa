/-
  Losses on the way, in plain numbers.
-/
import Derived.Test.YthhhahkiflkemaaDoorFa
set_option linter.unusedSimpArgs false
set_option linter.unusedVariables false
set_option linter.unusedSectionVars false
namespace Go.Proofs.YthhhahkiflkemaaDoor
open Go GoV
set_option maxRecDepth 100000

/-- Division, rounded up. -/
def UPD (x d : Int) : Int := (x + d - 1) / d
theorem UPD_neg {x d : Int} (hd : 1 ≤ d) : -((-x) / d) = UPD x d := by
  unfold UPD
  have h1 := Int.mul_ediv_add_emod (-x) d
  have a1 := Int.emod_nonneg (-x) (show d ≠ 0 by omega)
  have a2 := Int.emod_lt_of_pos (-x) (show 0 < d by omega)
  generalize (-x) / d = q at *
  generalize (-x) % d = m at *
  have e : x + d - 1 = (d - 1 - m) + d * (-q) := by rw [Int.mul_neg]; omega
  have z : (d - 1 - m) / d = 0 := Int.ediv_eq_zero_of_lt (by omega) (by omega)
  rw [e, Int.add_mul_ediv_left _ _ (by omega), z]; omega
theorem UPD_le {x d B : Int} (hd : 1 ≤ d) (h : x ≤ B * d) : UPD x d ≤ B := by
  unfold UPD
  have : (x + d - 1) / d < B + 1 := Int.ediv_lt_of_lt_mul (by omega) (by rw [Int.add_mul]; omega)
  omega
theorem UPD_nonneg {x d : Int} (hd : 1 ≤ d) (h : 0 ≤ x) : 0 ≤ UPD x d := Int.ediv_nonneg (by omega) (by omega)
theorem UPD_mono {x y d : Int} (hd : 1 ≤ d) (h : x ≤ y) : UPD x d ≤ UPD y d := Int.ediv_le_ediv (by omega) (by omega)
theorem UPD_step {x y d k : Int} (hd : 1 ≤ d) (h : y ≤ x + d * k) : UPD y d ≤ UPD x d + k := by
  unfold UPD
  have : (y + d - 1) / d ≤ (x + d - 1 + d * k) / d := Int.ediv_le_ediv (by omega) (by omega)
  rw [Int.add_mul_ediv_left _ _ (by omega)] at this
  omega
theorem DIV_step {x y d k : Int} (hd : 1 ≤ d) (h : y ≤ x + d * k) : y / d ≤ x / d + k := by
  have : y / d ≤ (x + d * k) / d := Int.ediv_le_ediv (by omega) h
  rw [Int.add_mul_ediv_left _ _ (by omega)] at this
  exact this
theorem UPD_add {x y d : Int} (hd : 1 ≤ d) : UPD (x + y) d ≤ UPD x d + UPD y d := by
  rw [← UPD_neg hd, ← UPD_neg hd, ← UPD_neg hd]
  have : (-x) / d + (-y) / d ≤ (-x + -y) / d := by
    have h1 := Int.mul_ediv_add_emod (-x) d
    have h2 := Int.mul_ediv_add_emod (-y) d
    have a1 := Int.emod_nonneg (-x) (show d ≠ 0 by omega)
    have b1 := Int.emod_nonneg (-y) (show d ≠ 0 by omega)
    refine (Int.le_ediv_iff_mul_le (by omega)).2 ?_
    rw [Int.mul_comm, Int.mul_add]; omega
  rw [show -(x + y) = -x + -y by omega]
  omega
/-- The losses of a reach: from e0 to e1 litres and from n0 / d0 to n1 / d1. -/
structure Los where
  (e0 e1 n0 d0 n1 d1 : Int)
structure Los.RT (r : Los) : Prop where
  (ea : 0 ≤ r.e0) (eb : r.e0 ≤ r.e1) (ec : r.e1 ≤ 1073741824) (na : 0 ≤ r.n0) (nb : r.n0 ≤ r.d0) (nc : 0 ≤ r.n1) (nd : r.n1 ≤ r.d1) (da : 1 ≤ r.d0) (db : 1 ≤ r.d1) (dc : r.d0 ≤ 1073741824) (dd : r.d1 ≤ 1073741824) (cr : r.n0 * r.d1 ≤ r.n1 * r.d0)
def LO (r : Los) (v : Int) : Int := if v = 0 then 0 else min v (r.e0 + r.n0 * v / r.d0)
def HI (r : Los) (v : Int) : Int := if v = 0 then 0 else min v (r.e1 + UPD (r.n1 * v) r.d1)
def WO (r : Los) (v : Int) : Int := v - HI r v
def BE (r : Los) (v : Int) : Int := v - LO r v
section
variable {r : Los} (h : r.RT)
include h
theorem LO_bd {v : Int} (hv : 0 ≤ v) : 0 ≤ LO r v ∧ LO r v ≤ v := by
  have := Int.ediv_nonneg (Int.mul_nonneg h.na hv) (show (0 : Int) ≤ r.d0 by have := h.da; omega)
  have := h.ea
  unfold LO; split <;> omega
theorem HI_bd {v : Int} (hv : 0 ≤ v) : 0 ≤ HI r v ∧ HI r v ≤ v := by
  have := UPD_nonneg h.db (Int.mul_nonneg h.nc hv)
  have := h.ea
  have := h.eb
  unfold HI; split <;> omega
theorem lo_part {v : Int} (hv : 0 ≤ v) : 0 ≤ r.n0 * v / r.d0 ∧ r.n0 * v / r.d0 ≤ v := by
  have h0 := h.da
  refine ⟨Int.ediv_nonneg (Int.mul_nonneg h.na hv) (by omega), ?_⟩
  have := Int.mul_le_mul_of_nonneg_right h.nb hv
  have := DIV_step (x := 0) (y := r.n0 * v) (d := r.d0) (k := v) h0 (by omega)
  simpa using this
theorem hi_part {v : Int} (hv : 0 ≤ v) : 0 ≤ UPD (r.n1 * v) r.d1 ∧ UPD (r.n1 * v) r.d1 ≤ v := by
  have h0 := h.db
  refine ⟨UPD_nonneg h0 (Int.mul_nonneg h.nc hv), UPD_le h0 ?_⟩
  have := Int.mul_le_mul_of_nonneg_right h.nd hv
  rw [Int.mul_comm v]; omega
theorem lo_hi {v : Int} (hv : 0 ≤ v) : r.n0 * v / r.d0 ≤ UPD (r.n1 * v) r.d1 := by
  have h0 := h.da
  have h1 := h.db
  refine (Int.le_ediv_iff_mul_le (by omega)).2 ?_
  have q := Int.mul_ediv_add_emod (r.n0 * v) r.d0
  have q1 := Int.emod_nonneg (r.n0 * v) (show r.d0 ≠ 0 by omega)
  generalize r.n0 * v / r.d0 = a at *
  -- a * d1 * d0 ≤ n0 * v * d1 ≤ n1 * v * d0
  have s1 : r.d0 * a ≤ r.n0 * v := by omega
  have s2 : r.d0 * a * r.d1 ≤ r.n0 * v * r.d1 := Int.mul_le_mul_of_nonneg_right s1 (by omega)
  have s3 : r.n0 * r.d1 * v ≤ r.n1 * r.d0 * v := Int.mul_le_mul_of_nonneg_right h.cr hv
  have s4 : r.d0 * (a * r.d1) ≤ r.d0 * (r.n1 * v) := by
    calc r.d0 * (a * r.d1) = r.d0 * a * r.d1 := by rw [Int.mul_assoc]
      _ ≤ r.n0 * v * r.d1 := s2
      _ = r.n0 * r.d1 * v := by rw [Int.mul_right_comm]
      _ ≤ r.n1 * r.d0 * v := s3
      _ = r.d0 * (r.n1 * v) := by rw [Int.mul_comm r.n1, Int.mul_assoc]
  have s5 := Int.le_of_mul_le_mul_left s4 (by omega)
  omega
theorem LO_HI {v : Int} (hv : 0 ≤ v) : LO r v ≤ HI r v := by
  have := lo_hi h hv
  have := h.eb
  unfold LO HI; split <;> omega
theorem WO_mono {a b : Int} (ha : 0 ≤ a) (hab : a ≤ b) : WO r a ≤ WO r b := by
  have s : r.n1 * b ≤ r.n1 * a + r.d1 * (b - a) := by
    have := Int.mul_le_mul_of_nonneg_right h.nd (show 0 ≤ b - a by omega)
    rw [Int.mul_sub] at this
    omega
  have := UPD_step h.db s
  have := HI_bd h ha
  have := HI_bd h (show 0 ≤ b by omega)
  have := h.ea
  have := h.eb
  unfold WO HI at *
  by_cases h1 : a = 0
  · simp only [h1, if_true] at *; omega
  · rw [if_neg h1] at *; rw [if_neg (show ¬ b = 0 by omega)] at *; omega
theorem BE_mono {a b : Int} (ha : 0 ≤ a) (hab : a ≤ b) : BE r a ≤ BE r b := by
  have s : r.n0 * b ≤ r.n0 * a + r.d0 * (b - a) := by
    have := Int.mul_le_mul_of_nonneg_right h.nb (show 0 ≤ b - a by omega)
    rw [Int.mul_sub] at this
    omega
  have := DIV_step h.da s
  have := LO_bd h ha
  have := LO_bd h (show 0 ≤ b by omega)
  have := h.ea
  unfold BE LO at *
  by_cases h1 : a = 0
  · simp only [h1, if_true] at *; omega
  · rw [if_neg h1] at *; rw [if_neg (show ¬ b = 0 by omega)] at *; omega
theorem WO_add {a b : Int} (ha : 0 ≤ a) (hb : 0 ≤ b) : WO r a + WO r b ≤ WO r (a + b) := by
  have m1 := WO_mono h ha (show a ≤ a + b by omega)
  have m2 := WO_mono h hb (show b ≤ a + b by omega)
  have s := UPD_add (x := r.n1 * a) (y := r.n1 * b) h.db
  rw [← Int.mul_add] at s
  have p1 := HI_bd h ha
  have p2 := HI_bd h hb
  have p3 := HI_bd h (show 0 ≤ a + b by omega)
  have := h.ea
  have := h.eb
  unfold WO HI at *
  by_cases h1 : a = 0
  · subst h1; simp only [Int.zero_add, if_true] at *; omega
  · by_cases h2 : b = 0
    · subst h2; simp only [Int.add_zero, if_true] at *; omega
    · rw [if_neg h1, if_neg h2] at *; rw [if_neg (show ¬ a + b = 0 by omega)] at *; omega
end
/-- The least number from 0 to n at which p holds, or n. -/
structure IsL (p : Int → Prop) (n r : Int) : Prop where
  (lo : 0 ≤ r) (hi : r ≤ n) (no : ∀ i, 0 ≤ i → i < r → ¬ p i) (yes : ∀ i, r ≤ i → i < n → p i)
theorem IsL_one {p : Int → Prop} {n r s : Int} (h : IsL p n r) (h' : IsL p n s) : r = s := by
  have a := h.lo; have b := h.hi; have c := h'.lo; have d := h'.hi
  by_cases h1 : r < s
  · exact absurd (h.yes r (Int.le_refl _) (by omega)) (h'.no r a h1)
  · by_cases h2 : s < r
    · exact absurd (h'.yes s (Int.le_refl _) (by omega)) (h.no s c h2)
    · omega
end Go.Proofs.YthhhahkiflkemaaDoor
