/-
  Sums, products and the order of small ratios: the statements' own roads.
-/
import Derived.Test.YtcdmoilcpkapiaaC9
set_option linter.unusedSimpArgs false
set_option linter.unusedVariables false
set_option linter.unusedSectionVars false
namespace Go.Proofs.Ytcdmoilcpkapiaa
open Go GoV
set_option maxRecDepth 100000

def SM (q : Rat) (N D : Int) : Prop := (q.num.natAbs : Int) ≤ N ∧ (q.den : Int) ≤ D
theorem SM_rp {q : Rat} {N D : Int} (h : SM q N D) (hN : N ≤ 1073741824 := by decide) (hD : D ≤ 1073741824 := by decide) : RP q := by
  unfold SM at h; unfold RP; omega
theorem abs_mul_le {a b A B : Int} (ha : (a.natAbs : Int) ≤ A) (hb : (b.natAbs : Int) ≤ B) : ((a * b).natAbs : Int) ≤ A * B := by
  rw [Int.natAbs_mul, Int.natCast_mul]
  exact Int.mul_le_mul ha hb (by omega) (by omega)
theorem SM_add {p q : Rat} {N D N' D' : Int} (h : SM p N D) (h' : SM q N' D') : SM (p + q) (N * D' + N' * D) (D * D') := by
  have p1 := p.den_pos
  have q1 := q.den_pos
  obtain ⟨a1, a2⟩ := h
  obtain ⟨b1, b2⟩ := h'
  have hd : (0 : Int) < p.den * q.den := Int.mul_pos (by omega) (by omega)
  have e := frac_bd (n := p.num * q.den + q.num * p.den) hd
  rw [← add_frac] at e
  have x1 := abs_mul_le (b := (q.den : Int)) (B := D') a1 (by omega)
  have x2 := abs_mul_le (b := (p.den : Int)) (B := D) b1 (by omega)
  have x3 : (p.den : Int) * q.den ≤ D * D' := Int.mul_le_mul a2 b2 (by omega) (by omega)
  exact ⟨by omega, by omega⟩
theorem SM_mul {p q : Rat} {N D N' D' : Int} (h : SM p N D) (h' : SM q N' D') : SM (p * q) (N * N') (D * D') := by
  have p1 := p.den_pos
  have q1 := q.den_pos
  obtain ⟨a1, a2⟩ := h
  obtain ⟨b1, b2⟩ := h'
  have hd : (0 : Int) < p.den * q.den := Int.mul_pos (by omega) (by omega)
  have e := frac_bd (n := p.num * q.num) hd
  rw [← mul_frac] at e
  have x1 := abs_mul_le a1 b1
  have x3 : (p.den : Int) * q.den ≤ D * D' := Int.mul_le_mul a2 b2 (by omega) (by omega)
  exact ⟨by omega, by omega⟩
def FQ (n d : Int) : Rat := Rat.divInt (n.tmod 512) (1 + d.tmod 1024)
section
variable {n d : Int} (hn : -32768 ≤ n ∧ n ≤ 32767) (hd : 0 ≤ d ∧ d ≤ 65535)
include hd
theorem FQ_sm : SM (FQ n d) 511 1024 := by
  have b1 := Int.lt_tmod_of_pos n (b := 512) (by omega)
  have b2 := Int.tmod_lt_of_pos n (b := 512) (by omega)
  have b3 := Int.tmod_nonneg 1024 hd.1
  have b4 := Int.tmod_lt_of_pos d (b := 1024) (by omega)
  have e := frac_bd (n := n.tmod 512) (d := 1 + d.tmod 1024) (by omega)
  exact ⟨by unfold FQ; omega, by unfold FQ; omega⟩
include hn
theorem r_few : ap Try.prog pol 24 [.int .i16 n, .int .u16 d] = some (.ret (.tup [rv (FQ n d), .bool true])) := by
  have b3 := Int.tmod_nonneg 1024 hd.1
  rw [c_few n d hn hd, MK_rat (by omega)]
  rw [show Rat.divInt (n.tmod 512) (1 + d.tmod 1024) = FQ n d from rfl, RM_ok (SM_rp (FQ_sm hd))]
  rfl
end
theorem cross {n d : Int} (hd : 0 < d) : (Rat.divInt n d).num * d = n * (Rat.divInt n d).den := by
  have h := Rat.num_divInt_den (Rat.divInt n d)
  have := (Rat.divInt n d).den_pos
  exact (Rat.divInt_eq_divInt_iff (by omega) (by omega)).1 h
theorem divInt_lt {n d m f : Int} (hd : 0 < d) (hf : 0 < f) : Rat.divInt n d < Rat.divInt m f ↔ n * f < m * d := by
  rw [Rat.lt_iff]
  have c1 := cross (n := n) hd
  have c2 := cross (n := m) hf
  have p1 := (Rat.divInt n d).den_pos
  have p2 := (Rat.divInt m f).den_pos
  generalize Rat.divInt n d = q at *
  generalize Rat.divInt m f = r at *
  have h1 : (0 : Int) < d * f := Int.mul_pos hd hf
  have h2 : (0 : Int) < q.den * r.den := Int.mul_pos (by omega) (by omega)
  have e1 : q.num * r.den * (d * f) = n * f * (q.den * r.den) := by
    calc q.num * r.den * (d * f) = (q.num * d) * (f * r.den) := by ac_rfl
      _ = (n * q.den) * (f * r.den) := by rw [c1]
      _ = n * f * (q.den * r.den) := by ac_rfl
  have e2 : r.num * q.den * (d * f) = m * d * (q.den * r.den) := by
    calc r.num * q.den * (d * f) = (r.num * f) * (d * q.den) := by ac_rfl
      _ = (m * r.den) * (d * q.den) := by rw [c2]
      _ = m * d * (q.den * r.den) := by ac_rfl
  constructor
  · intro h
    have := Int.mul_lt_mul_of_pos_right h h1
    rw [e1, e2] at this
    exact Int.lt_of_mul_lt_mul_right this (by omega)
  · intro h
    have := Int.mul_lt_mul_of_pos_right h h2
    rw [← e1, ← e2] at this
    exact Int.lt_of_mul_lt_mul_right this (by omega)
theorem CQ_neg (p q : Rat) : CQ q p = -CQ p q := by
  unfold CQ
  by_cases h1 : p < q
  · have h2 : ¬ q < p := Rat.not_lt.2 (Rat.le_of_lt h1)
    simp [h1, h2]
  · by_cases h2 : q < p
    · simp [h1, h2]
    · simp [h1, h2]
theorem CQ_zero (p q : Rat) : CQ p q = 0 ↔ p = q := by
  unfold CQ
  by_cases h1 : p < q
  · simp [h1]; rintro rfl; exact Rat.lt_irrefl h1
  · by_cases h2 : q < p
    · simp [h1, h2]; rintro rfl; exact Rat.lt_irrefl h2
    · simp [h1, h2]
      exact Rat.le_antisymm (Rat.not_lt.1 h2) (Rat.not_lt.1 h1)
theorem CQ_le (p q : Rat) : CQ p q ≤ 0 ↔ p ≤ q := by
  unfold CQ
  by_cases h1 : p < q
  · simp [h1, Rat.le_of_lt h1]
  · by_cases h2 : q < p
    · simp [h1, h2]
      exact Rat.not_le.2 h2
    · simp [h1, h2]
      exact Rat.not_lt.1 h2
theorem CQ_cases (p q : Rat) : (CQ p q = -1 ∧ p < q) ∨ (CQ p q = 1 ∧ q < p) ∨ (CQ p q = 0 ∧ p = q) := by
  unfold CQ
  by_cases h1 : p < q
  · simp [h1]
  · by_cases h2 : q < p
    · simp [h1, h2]
    · simp [h1, h2]
      exact Rat.le_antisymm (Rat.not_lt.1 h2) (Rat.not_lt.1 h1)
theorem eq_parts (p q : Rat) : (p.num = q.num ∧ (p.den : Int) = q.den) ↔ p = q := by
  constructor
  · rintro ⟨h1, h2⟩; exact Rat.ext h1 (by omega)
  · rintro rfl; exact ⟨rfl, rfl⟩
set_option maxHeartbeats 4000000 in
theorem w_order (n m k d f g : Int) (hn : -32768 ≤ n ∧ n ≤ 32767) (hm : -32768 ≤ m ∧ m ≤ 32767) (hk : -32768 ≤ k ∧ k ≤ 32767) (hd : 0 ≤ d ∧ d ≤ 65535) (hf : 0 ≤ f ∧ f ≤ 65535) (hg : 0 ≤ g ∧ g ≤ 65535) :
    ap Try.prog pol 7 [.int .i16 n, .int .i16 m, .int .i16 k, .int .u16 d, .int .u16 f, .int .u16 g] = some (.ret (.bool true)) := by
  have sa := FQ_sm (n := n) hd
  have sb := FQ_sm (n := m) hf
  have sc := FQ_sm (n := k) hg
  have fa := r_few hn hd
  have fb := r_few hm hf
  have fc := r_few hk hg
  have b1 := Int.lt_tmod_of_pos n (b := 512) (by omega)
  have b2 := Int.tmod_lt_of_pos n (b := 512) (by omega)
  have b3 := Int.lt_tmod_of_pos m (b := 512) (by omega)
  have b4 := Int.tmod_lt_of_pos m (b := 512) (by omega)
  have b5 := Int.tmod_nonneg 1024 hd.1
  have b6 := Int.tmod_lt_of_pos d (b := 1024) (by omega)
  have b7 := Int.tmod_nonneg 1024 hf.1
  have b8 := Int.tmod_lt_of_pos f (b := 1024) (by omega)
  have lt1 : n.tmod 512 * (1 + f.tmod 1024) < m.tmod 512 * (1 + d.tmod 1024) ↔ FQ n d < FQ m f := (divInt_lt (by omega) (by omega)).symm
  have lt2 : m.tmod 512 * (1 + d.tmod 1024) < n.tmod 512 * (1 + f.tmod 1024) ↔ FQ m f < FQ n d := (divInt_lt (by omega) (by omega)).symm
  have m1 := mul_bd (a := n.tmod 512) (n := 1 + f.tmod 1024) (M := 512) (N := 1024) ⟨by omega, by omega⟩ ⟨by omega, by omega⟩
  have m2 := mul_bd (a := m.tmod 512) (n := 1 + d.tmod 1024) (M := 512) (N := 1024) ⟨by omega, by omega⟩ ⟨by omega, by omega⟩
  generalize FQ n d = a at *
  generalize FQ m f = b at *
  generalize FQ k g = c at *
  have ha : RP a := SM_rp sa
  have hb : RP b := SM_rp sb
  have hc : RP c := SM_rp sc
  have hac : RP (a + c) := SM_rp (SM_add sa sc)
  have hbc : RP (b + c) := SM_rp (SM_add sb sc)
  have hmac : RP (a * c) := SM_rp (SM_mul sa sc)
  have hmbc : RP (b * c) := SM_rp (SM_mul sb sc)
  have q1 : CQ (a + c) (b + c) = CQ a b := by unfold CQ; simp only [Rat.add_lt_add_right]
  have q2 : 0 < c.num → CQ (a * c) (b * c) = CQ a b := by
    intro h
    have h0 : 0 < c := by
      rw [Rat.lt_iff]; simpa using h
    unfold CQ; simp only [Rat.mul_lt_mul_right h0]
  have q3 := CQ_neg a b
  have q5 : CQ a b ≤ 0 → CQ b c ≤ 0 → ¬ 0 < CQ a c := fun h1 h2 => by
    have := (CQ_le a c).2 (Rat.le_trans ((CQ_le a b).1 h1) ((CQ_le b c).1 h2))
    omega
  have w1 : IntKind.i64.wrap n = n := i64_in (by unfold I64; omega)
  have w2 : IntKind.i64.wrap m = m := i64_in (by unfold I64; omega)
  have w3 : IntKind.i64.wrap d = d := i64_in (by unfold I64; omega)
  have w4 : IntKind.i64.wrap f = f := i64_in (by unfold I64; omega)
  have w5 : IntKind.i64.wrap (1 + f.tmod 1024) = 1 + f.tmod 1024 := i64_in (by unfold I64; omega)
  have w6 : IntKind.i64.wrap (1 + d.tmod 1024) = 1 + d.tmod 1024 := i64_in (by unfold I64; omega)
  have w7 : IntKind.i64.wrap (n.tmod 512 * (1 + f.tmod 1024)) = n.tmod 512 * (1 + f.tmod 1024) := i64_in (by unfold I64; omega)
  have w8 : IntKind.i64.wrap (m.tmod 512 * (1 + d.tmod 1024)) = m.tmod 512 * (1 + d.tmod 1024) := i64_in (by unfold I64; omega)
  have i1 : IntKind.i64.wrap 1 = 1 := by decide
  have i2 : IntKind.i64.wrap (-1) = -1 := by decide
  have i3 : IntKind.i64.wrap 0 = 0 := by decide
  rcases CQ_cases a b with ⟨e, h⟩ | ⟨e, h⟩ | ⟨e, h⟩
  · have h1 : ¬ a = b := fun hh => by subst hh; exact Rat.lt_irrefl h
    have h2 : ¬ b < a := Rat.not_lt.2 (Rat.le_of_lt h)
    have q7 := q5 (by omega)
    have tail : (if c.num ≤ 0 then some (CR.ret (PV.bool true)) else some (CR.ret (PV.bool (decide (CQ (a * c) (b * c) = -1))))) = some (CR.ret (PV.bool true)) := by
      split
      · rfl
      · next h4 => rw [q2 (by omega), e]; rfl
    rw [ap_eq _ Try.func7 rfl Try.ntmps7 Try.results7 (by kernel_rfl) rfl (by exact Nat.le_of_ble_eq_true rfl)]
    simp (config := { maxSteps := 1000000 }) only [RUN, PATHS, BASE, FA, POL, start_tm, Heap.empty, reduceIte, Nat.reduceLT, Nat.reduceLeDiff, Nat.reduceEqDiff, Nat.reduceAdd, Nat.reduceSub, Nat.reduceMul, Nat.reduceBEq, Int.reduceLT, Int.reduceLE, Int.reduceEq, Int.reduceNeg, Int.reduceAdd, Int.reduceSub, Int.reduceMul, Bool.false_eq_true, Bool.not_true, Bool.not_false, decide_eq_true_eq, and_self, true_and, and_true, reduceCtorEq, ne_eq, not_false_eq_true, not_true_eq_false, decide_true, decide_false, or_false, false_or, c_sane, fa, fb, fc, r_cmp ha hb, r_cmp hb ha, r_cmp hb hc, r_cmp ha hc, c_alls, eq_rat, eq_parts, r_add ha hc, r_add hb hc, RM_ok hac, RM_ok hbc, r_cmp hac hbc, q1, q3, r_mul ha hc, r_mul hb hc, RM_ok hmac, RM_ok hmbc, r_cmp hmac hmbc,
      w1, w2, w3, w4, w5, w6, w7, w8, lt1, lt2, e, h, h1, h2, i1, i2, i3, Int.neg_neg]
    split
    · next h3 => rw [if_neg (q7 h3)]; exact tail
    · exact tail
  · have h1 : ¬ a = b := fun hh => by subst hh; exact Rat.lt_irrefl h
    have h2 : ¬ a < b := Rat.not_lt.2 (Rat.le_of_lt h)
    have tail : (if c.num ≤ 0 then some (CR.ret (PV.bool true)) else some (CR.ret (PV.bool (decide (CQ (a * c) (b * c) = 1))))) = some (CR.ret (PV.bool true)) := by
      split
      · rfl
      · next h4 => rw [q2 (by omega), e]; rfl
    rw [ap_eq _ Try.func7 rfl Try.ntmps7 Try.results7 (by kernel_rfl) rfl (by exact Nat.le_of_ble_eq_true rfl)]
    simp (config := { maxSteps := 1000000 }) only [RUN, PATHS, BASE, FA, POL, start_tm, Heap.empty, reduceIte, Nat.reduceLT, Nat.reduceLeDiff, Nat.reduceEqDiff, Nat.reduceAdd, Nat.reduceSub, Nat.reduceMul, Nat.reduceBEq, Int.reduceLT, Int.reduceLE, Int.reduceEq, Int.reduceNeg, Int.reduceAdd, Int.reduceSub, Int.reduceMul, Bool.false_eq_true, Bool.not_true, Bool.not_false, decide_eq_true_eq, and_self, true_and, and_true, reduceCtorEq, ne_eq, not_false_eq_true, not_true_eq_false, decide_true, decide_false, or_false, false_or, c_sane, fa, fb, fc, r_cmp ha hb, r_cmp hb ha, r_cmp hb hc, r_cmp ha hc, c_alls, eq_rat, eq_parts, r_add ha hc, r_add hb hc, RM_ok hac, RM_ok hbc, r_cmp hac hbc, q1, q3, r_mul ha hc, r_mul hb hc, RM_ok hmac, RM_ok hmbc, r_cmp hmac hmbc,
      w1, w2, w3, w4, w5, w6, w7, w8, lt1, lt2, e, h, h1, h2, i1, i2, i3, Int.neg_neg]
    exact tail
  · have h1 : ¬ a < b := fun hh => by subst h; exact Rat.lt_irrefl hh
    have h2 : ¬ b < a := fun hh => by subst h; exact Rat.lt_irrefl hh
    have q7 := q5 (by omega)
    have tail : (if c.num ≤ 0 then some (CR.ret (PV.bool true)) else some (CR.ret (PV.bool (decide (CQ (a * c) (b * c) = 0))))) = some (CR.ret (PV.bool true)) := by
      split
      · rfl
      · next h4 => rw [q2 (by omega), e]; rfl
    rw [ap_eq _ Try.func7 rfl Try.ntmps7 Try.results7 (by kernel_rfl) rfl (by exact Nat.le_of_ble_eq_true rfl)]
    simp (config := { maxSteps := 1000000 }) only [RUN, PATHS, BASE, FA, POL, start_tm, Heap.empty, reduceIte, Nat.reduceLT, Nat.reduceLeDiff, Nat.reduceEqDiff, Nat.reduceAdd, Nat.reduceSub, Nat.reduceMul, Nat.reduceBEq, Int.reduceLT, Int.reduceLE, Int.reduceEq, Int.reduceNeg, Int.reduceAdd, Int.reduceSub, Int.reduceMul, Bool.false_eq_true, Bool.not_true, Bool.not_false, decide_eq_true_eq, and_self, true_and, and_true, reduceCtorEq, ne_eq, not_false_eq_true, not_true_eq_false, decide_true, decide_false, or_false, false_or, c_sane, fa, fb, fc, r_cmp ha hb, r_cmp hb ha, r_cmp hb hc, r_cmp ha hc, c_alls, eq_rat, eq_parts, r_add ha hc, r_add hb hc, RM_ok hac, RM_ok hbc, r_cmp hac hbc, q1, q3, r_mul ha hc, r_mul hb hc, RM_ok hmac, RM_ok hmbc, r_cmp hmac hmbc,
      w1, w2, w3, w4, w5, w6, w7, w8, lt1, lt2, e, (show (a = b) = True from eq_true h), h1, h2, i1, i2, i3, Int.neg_neg]
    split
    · next h3 => rw [if_neg (q7 h3)]; exact tail
    · exact tail
end Go.Proofs.Ytcdmoilcpkapiaa
