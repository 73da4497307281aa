/-
  Valid ratios are the rational numbers of bounded size.
-/
import Derived.Test.YtcdmoilcpkapiaaC8
set_option linter.unusedSimpArgs false
set_option linter.unusedVariables false
set_option linter.unusedSectionVars false
namespace Go.Proofs.Ytcdmoilcpkapiaa
open Go GoV
set_option maxRecDepth 100000

/-- The ratio of a rational number, where it is representable. -/
def RM (q : Rat) : Int × Int × Int := if 1073741824 < max (q.num.natAbs : Int) q.den then (0, 0, 2) else (q.num, q.den, 0)
abbrev rv (q : Rat) : PV := rat q.num q.den
theorem ediv_abs {n g : Int} (hg : 0 < g) (h : g ∣ n) : (n.natAbs : Int) / g = ((n / g).natAbs : Int) := by
  obtain ⟨m, rfl⟩ := h
  rw [Int.mul_ediv_cancel_left _ (by omega), Int.natAbs_mul]
  rw [Int.natCast_mul, show ((g.natAbs : Nat) : Int) = g by omega, Int.mul_ediv_cancel_left _ (by omega)]
theorem MK_rat {n d : Int} (hd : d ≠ 0) : MK n d = RM (Rat.divInt n d) := by
  have hg : (0 : Int) < (Nat.gcd n.natAbs d.natAbs : Nat) := by
    have := Nat.gcd_pos_of_pos_right (m := n.natAbs) (n := d.natAbs) (by omega)
    omega
  have e0 : d.gcd n = Nat.gcd n.natAbs d.natAbs := by unfold Int.gcd; rw [Nat.gcd_comm]
  have d1 : ((Nat.gcd n.natAbs d.natAbs : Nat) : Int) ∣ n := by rw [← e0]; exact Int.gcd_dvd_right ..
  have d2 : ((Nat.gcd n.natAbs d.natAbs : Nat) : Int) ∣ d := by rw [← e0]; exact Int.gcd_dvd_left ..
  have en : (Rat.divInt n d).num = d.sign * (n / (Nat.gcd n.natAbs d.natAbs : Nat)) := by
    rw [Rat.num_divInt, e0, Int.mul_ediv_assoc _ d1]
  have ed : ((Rat.divInt n d).den : Int) = (d.natAbs : Int) / (Nat.gcd n.natAbs d.natAbs : Nat) := by
    rw [Rat.den_divInt, if_neg hd, e0]; simp
  unfold MK RM
  rw [if_neg hd, en, ed]
  simp only [mag_nat]
  rw [ediv_abs hg d1]
  generalize hx : n / (Nat.gcd n.natAbs d.natAbs : Nat) = x
  have hn : n = (Nat.gcd n.natAbs d.natAbs : Nat) * x := by rw [← hx, Int.mul_ediv_cancel' d1]
  have hs : (n < 0 ↔ x < 0) := by
    constructor
    · intro h
      by_cases hx0 : 0 ≤ x
      · have := Int.mul_nonneg (show (0 : Int) ≤ (Nat.gcd n.natAbs d.natAbs : Nat) by omega) hx0
        omega
      · omega
    · intro h
      have := Int.mul_neg_of_pos_of_neg hg h
      omega
  rcases (show d < 0 ∨ 0 < d by omega) with h | h
  · rw [Int.sign_eq_neg_one_of_neg h]
    simp only [Int.neg_mul, Int.one_mul, Int.natAbs_neg, h, decide_true]
    split
    · rfl
    · congr 1
      by_cases hn0 : n < 0
      · have := hs.1 hn0
        simp [hn0]; omega
      · have : ¬ x < 0 := fun hh => hn0 (hs.2 hh)
        simp [hn0]; omega
  · rw [Int.sign_eq_one_of_pos h]
    simp only [Int.one_mul, show ¬ d < 0 by omega, decide_false]
    split
    · rfl
    · congr 1
      by_cases hn0 : n < 0
      · have := hs.1 hn0
        simp [hn0]; omega
      · have : ¬ x < 0 := fun hh => hn0 (hs.2 hh)
        simp [hn0]; omega
/-- Representable. -/
def RP (q : Rat) : Prop := (q.num.natAbs : Int) ≤ 1073741824 ∧ (q.den : Int) ≤ 1073741824
theorem RP_valid {q : Rat} (h : RP q) : VALID q.num q.den := by
  have := q.den_pos
  have hr := q.reduced
  unfold RP at h
  exact ⟨by omega, by omega, by omega, by omega, by simpa using hr⟩
theorem RP_i64 {q : Rat} (h : RP q) : I64 q.num ∧ I64 q.den := VALID_I64 (RP_valid h)
theorem RM_ok {q : Rat} (h : RP q) : RM q = (q.num, (q.den : Int), 0) := by
  unfold RP at h; unfold RM; rw [if_neg (by omega)]
theorem RM_no {q : Rat} (h : ¬ RP q) : RM q = (0, 0, 2) := by
  unfold RP at h; unfold RM; rw [if_pos (by omega)]
/-- A fraction's parts bound its number's. -/
theorem frac_bd {n d : Int} (hd : 0 < d) : ((Rat.divInt n d).num.natAbs : Int) ≤ n.natAbs ∧ ((Rat.divInt n d).den : Int) ≤ d := by
  have e0 : d.gcd n = Nat.gcd n.natAbs d.natAbs := by unfold Int.gcd; rw [Nat.gcd_comm]
  have hg := Nat.gcd_pos_of_pos_right (m := n.natAbs) (n := d.natAbs) (by omega)
  constructor
  · rw [Rat.num_divInt, e0, Int.sign_eq_one_of_pos hd, Int.one_mul]
    rw [← ediv_abs (by omega) (by rw [← e0]; exact Int.gcd_dvd_right ..)]
    exact Int.ediv_le_self _ (by omega)
  · rw [Rat.den_divInt, if_neg (by omega), e0]
    have := Nat.div_le_self d.natAbs (Nat.gcd n.natAbs d.natAbs)
    omega
theorem rat_self (q : Rat) : q = Rat.divInt q.num q.den := (Rat.num_divInt_den q).symm
theorem add_frac (p q : Rat) : p + q = Rat.divInt (p.num * q.den + q.num * p.den) (p.den * q.den) := by
  have h1 := p.den_pos
  have h2 := q.den_pos
  conv => lhs; rw [rat_self p, rat_self q]
  rw [Rat.divInt_add_divInt _ _ (by omega) (by omega)]
theorem sub_frac (p q : Rat) : p - q = Rat.divInt (p.num * q.den - q.num * p.den) (p.den * q.den) := by
  have h1 := p.den_pos
  have h2 := q.den_pos
  conv => lhs; rw [rat_self p, rat_self q]
  rw [Rat.divInt_sub_divInt _ _ (by omega) (by omega)]
theorem mul_frac (p q : Rat) : p * q = Rat.divInt (p.num * q.num) (p.den * q.den) := by
  conv => lhs; rw [rat_self p, rat_self q]
  rw [Rat.divInt_mul_divInt]
theorem div_frac (p q : Rat) : p / q = Rat.divInt (p.num * q.den) (p.den * q.num) := by
  conv => lhs; rw [rat_self p, rat_self q]
  rw [Rat.div_def, Rat.inv_divInt, Rat.divInt_mul_divInt]
theorem dens {p q : Rat} : (p.den : Int) * q.den ≠ 0 := by
  have h1 := p.den_pos
  have h2 := q.den_pos
  exact Int.mul_ne_zero (by omega) (by omega)
section
variable {p q : Rat} (hp : RP p) (hq : RP q)
include hp hq
theorem OPR_add : OPR p.num p.den q.num q.den (w64 (w64 (p.num * q.den) + w64 (q.num * p.den))) (w64 (p.den * q.den)) = RM (p + q) := by
  have h : VALID p.num p.den ∧ VALID q.num q.den := ⟨RP_valid hp, RP_valid hq⟩
  obtain ⟨p1, p2, p3, p4⟩ := wrap_prod h
  unfold OPR
  have b1 := mul_bd (a := p.num) (n := q.den) (M := 1073741824) (N := 1073741824) ⟨h.1.2.2.1, h.1.2.2.2.1⟩ ⟨by have := h.2.1; omega, h.2.2.1⟩
  have b2 := mul_bd (a := q.num) (n := p.den) (M := 1073741824) (N := 1073741824) ⟨h.2.2.2.1, h.2.2.2.2.1⟩ ⟨by have := h.1.1; omega, h.1.2.1⟩
  rw [if_pos h, p1, p2, p3]
  have e : w64 (p.num * q.den + q.num * p.den) = p.num * q.den + q.num * p.den := i64_in (by unfold I64; omega)
  rw [e, MK_rat dens, ← add_frac]
theorem OPR_sub : OPR p.num p.den q.num q.den (w64 (w64 (p.num * q.den) - w64 (q.num * p.den))) (w64 (p.den * q.den)) = RM (p - q) := by
  have h : VALID p.num p.den ∧ VALID q.num q.den := ⟨RP_valid hp, RP_valid hq⟩
  obtain ⟨p1, p2, p3, p4⟩ := wrap_prod h
  unfold OPR
  have b1 := mul_bd (a := p.num) (n := q.den) (M := 1073741824) (N := 1073741824) ⟨h.1.2.2.1, h.1.2.2.2.1⟩ ⟨by have := h.2.1; omega, h.2.2.1⟩
  have b2 := mul_bd (a := q.num) (n := p.den) (M := 1073741824) (N := 1073741824) ⟨h.2.2.2.1, h.2.2.2.2.1⟩ ⟨by have := h.1.1; omega, h.1.2.1⟩
  rw [if_pos h, p1, p2, p3]
  have e : w64 (p.num * q.den - q.num * p.den) = p.num * q.den - q.num * p.den := i64_in (by unfold I64; omega)
  rw [e, MK_rat dens, ← sub_frac]
theorem OPR_mul : OPR p.num p.den q.num q.den (w64 (p.num * q.num)) (w64 (p.den * q.den)) = RM (p * q) := by
  have h : VALID p.num p.den ∧ VALID q.num q.den := ⟨RP_valid hp, RP_valid hq⟩
  obtain ⟨p1, p2, p3, p4⟩ := wrap_prod h
  unfold OPR
  rw [if_pos h, p3, p4, MK_rat dens, ← mul_frac]
theorem OPR_div (h0 : q ≠ 0) : OPR p.num p.den q.num q.den (w64 (p.num * q.den)) (w64 (p.den * q.num)) = RM (p / q) := by
  have h : VALID p.num p.den ∧ VALID q.num q.den := ⟨RP_valid hp, RP_valid hq⟩
  obtain ⟨p1, p2, p3, p4⟩ := wrap_prod h
  rw [Int.mul_comm] at p2
  unfold OPR
  have hn : q.num ≠ 0 := fun h => h0 (Rat.num_eq_zero.1 h)
  have := p.den_pos
  rw [if_pos h, p1, p2, MK_rat (Int.mul_ne_zero (by omega) hn), ← div_frac]
theorem r_add : ap Try.prog pol 25 [rv p, rv q] = some (.ret (ratE (RM (p + q)))) := by
  rw [c_add _ _ _ _ (RP_i64 hp).1 (RP_i64 hp).2 (RP_i64 hq).1 (RP_i64 hq).2, OPR_add hp hq]
theorem r_sub : ap Try.prog pol 28 [rv p, rv q] = some (.ret (ratE (RM (p - q)))) := by
  rw [c_sub _ _ _ _ (RP_i64 hp).1 (RP_i64 hp).2 (RP_i64 hq).1 (RP_i64 hq).2, OPR_sub hp hq]
theorem r_mul : ap Try.prog pol 26 [rv p, rv q] = some (.ret (ratE (RM (p * q)))) := by
  rw [c_mul _ _ _ _ (RP_i64 hp).1 (RP_i64 hp).2 (RP_i64 hq).1 (RP_i64 hq).2, OPR_mul hp hq]
theorem r_div (h0 : q ≠ 0) : ap Try.prog pol 31 [rv p, rv q] = some (.ret (ratE (RM (p / q)))) := by
  rw [c_divi _ _ _ _ (RP_i64 hp).1 (RP_i64 hp).2 (RP_i64 hq).1 (RP_i64 hq).2, OPR_div hp hq h0]
theorem r_div0 (h0 : q = 0) : ap Try.prog pol 31 [rv p, rv q] = some (.ret (ratE (0, 0, 120))) := by
  rw [c_divi _ _ _ _ (RP_i64 hp).1 (RP_i64 hp).2 (RP_i64 hq).1 (RP_i64 hq).2]
  have h : VALID p.num p.den ∧ VALID q.num q.den := ⟨RP_valid hp, RP_valid hq⟩
  unfold OPR
  rw [if_pos h, h0]
  simp only [Rat.num_ofNat, Int.mul_zero]
  rfl
def CQ (p q : Rat) : Int := if p < q then -1 else if q < p then 1 else 0
theorem r_cmp : ap Try.prog pol 22 [rv p, rv q] = some (.ret (.tup [I (CQ p q), I 0])) := by
  rw [c_cmp _ _ _ _ (RP_i64 hp).1 (RP_i64 hp).2 (RP_i64 hq).1 (RP_i64 hq).2, CMPR_val ⟨RP_valid hp, RP_valid hq⟩]
  unfold CMP CQ
  simp only [Rat.lt_iff]
end
end Go.Proofs.Ytcdmoilcpkapiaa
