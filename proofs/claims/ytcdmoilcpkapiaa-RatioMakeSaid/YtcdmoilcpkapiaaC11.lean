/-
  Sums and products; Make and Times: the statements' own roads.
-/
import Derived.Test.YtcdmoilcpkapiaaC10
set_option linter.unusedSimpArgs false
set_option linter.unusedVariables false
set_option linter.unusedSectionVars false
namespace Go.Proofs.Ytcdmoilcpkapiaa
open Go GoV
set_option maxRecDepth 100000

set_option maxHeartbeats 4000000 in
theorem w_field (n m k d f g : Int) (hn : -32768 ≤ n ∧ n ≤ 32767) (hm : -32768 ≤ m ∧ m ≤ 32767) (hk : -32768 ≤ k ∧ k ≤ 32767) (hd : 0 ≤ d ∧ d ≤ 65535) (hf : 0 ≤ f ∧ f ≤ 65535) (hg : 0 ≤ g ∧ g ≤ 65535) :
    ap Try.prog pol 9 [.int .i16 n, .int .i16 m, .int .i16 k, .int .u16 d, .int .u16 f, .int .u16 g] = some (.ret (.bool true)) := by
  have sa := FQ_sm (n := n) hd
  have sb := FQ_sm (n := m) hf
  have sc := FQ_sm (n := k) hg
  have fa := r_few hn hd
  have fb := r_few hm hf
  have fc := r_few hk hg
  generalize FQ n d = a at *
  generalize FQ m f = b at *
  generalize FQ k g = c at *
  have ha : RP a := SM_rp sa
  have hb : RP b := SM_rp sb
  have hc : RP c := SM_rp sc
  have hab : RP (a + b) := SM_rp (SM_add sa sb)
  have hbc : RP (b + c) := SM_rp (SM_add sb sc)
  have hp : RP (a * b) := SM_rp (SM_mul sa sb)
  have hr : RP (b * c) := SM_rp (SM_mul sb sc)
  have hac : RP (a * c) := SM_rp (SM_mul sa sc)
  have hpc : RP (a * b * c) := SM_rp (SM_mul (SM_mul sa sb) sc)
  have habc : RP (a * (b + c)) := SM_rp (SM_mul sa (SM_add sb sc))
  have f1 := r_add ha hb
  have f2 := r_add hb ha
  rw [Rat.add_comm b a] at f2
  have f3 := r_mul ha hb
  have f4 := r_mul hb ha
  rw [Rat.mul_comm b a] at f4
  have f5 := r_sub hab hb
  rw [Rat.add_sub_cancel] at f5
  have f6 := r_add hb hc
  have f7 := r_add hab hc
  have f8 := r_add ha hbc
  rw [← Rat.add_assoc] at f8
  have f9 := r_mul hp hc
  have f10 := r_mul hb hc
  have f11 := r_mul ha hr
  rw [← Rat.mul_assoc] at f11
  have f12 := r_mul ha hbc
  have f13 := r_mul ha hac
  have f14 := r_add hp hac
  rw [← Rat.mul_add] at f14
  have f15 := r_mul ha hc
  have f16 := fun h0 => r_div0 (p := a) ha hb h0
  have f17 : b ≠ 0 → ap Try.prog pol 31 [rv (a * b), rv b] = some (.ret (ratE (RM a))) := fun h0 => by
    rw [r_div hp hb h0, Rat.mul_div_cancel h0]
  have h3 : RM (a + b + c) = ((a + b + c).num, ((a + b + c).den : Int), 0) ∨ RM (a + b + c) = (0, 0, 2) := by
    by_cases h : RP (a + b + c)
    · exact .inl (RM_ok h)
    · exact .inr (RM_no h)
  by_cases h0 : b = 0
  · have n0 : b.num = 0 := Rat.num_eq_zero.2 h0
    have f16 := f16 h0
    rcases h3 with h3 | h3
    · rw [ap_eq _ Try.func9 rfl Try.ntmps9 Try.results9 (by kernel_rfl) rfl (by exact Nat.le_of_ble_eq_true rfl)]
      simp (config := { maxSteps := 1000000 }) only [RUN, PATHS, BASE, FA, POL, start_tm, Heap.empty, reduceIte, Nat.reduceLT, Nat.reduceLeDiff, Nat.reduceEqDiff, Nat.reduceAdd, Nat.reduceSub, Nat.reduceMul, Nat.reduceBEq, Int.reduceLT, Int.reduceLE, Int.reduceEq, Int.reduceNeg, Int.reduceAdd, Int.reduceSub, Int.reduceMul, Bool.false_eq_true, Bool.not_true, Bool.not_false, decide_eq_true_eq, and_self, true_and, and_true, reduceCtorEq, ne_eq, not_false_eq_true, not_true_eq_false, decide_true, decide_false, or_false, false_or, c_sane, fa, fb, fc, f1, f2, f3, f4, f5, f6, f7, f8, f9, f10, f11, f12, f14, f15, f16, eq_true n0, h3, RM_ok hab, RM_ok hp, RM_ok ha, RM_ok hbc, RM_ok hpc, RM_ok hr, RM_ok habc, RM_ok hac, c_alls, eq_rat, eq_parts]
    · rw [ap_eq _ Try.func9 rfl Try.ntmps9 Try.results9 (by kernel_rfl) rfl (by exact Nat.le_of_ble_eq_true rfl)]
      simp (config := { maxSteps := 1000000 }) only [RUN, PATHS, BASE, FA, POL, start_tm, Heap.empty, reduceIte, Nat.reduceLT, Nat.reduceLeDiff, Nat.reduceEqDiff, Nat.reduceAdd, Nat.reduceSub, Nat.reduceMul, Nat.reduceBEq, Int.reduceLT, Int.reduceLE, Int.reduceEq, Int.reduceNeg, Int.reduceAdd, Int.reduceSub, Int.reduceMul, Bool.false_eq_true, Bool.not_true, Bool.not_false, decide_eq_true_eq, and_self, true_and, and_true, reduceCtorEq, ne_eq, not_false_eq_true, not_true_eq_false, decide_true, decide_false, or_false, false_or, c_sane, fa, fb, fc, f1, f2, f3, f4, f5, f6, f7, f8, f9, f10, f11, f12, f14, f15, f16, eq_true n0, h3, RM_ok hab, RM_ok hp, RM_ok ha, RM_ok hbc, RM_ok hpc, RM_ok hr, RM_ok habc, RM_ok hac, c_alls, eq_rat, eq_parts]
  · have n0 : ¬ b.num = 0 := fun h => h0 (Rat.num_eq_zero.1 h)
    have f17 := f17 h0
    rcases h3 with h3 | h3
    · rw [ap_eq _ Try.func9 rfl Try.ntmps9 Try.results9 (by kernel_rfl) rfl (by exact Nat.le_of_ble_eq_true rfl)]
      simp (config := { maxSteps := 1000000 }) only [RUN, PATHS, BASE, FA, POL, start_tm, Heap.empty, reduceIte, Nat.reduceLT, Nat.reduceLeDiff, Nat.reduceEqDiff, Nat.reduceAdd, Nat.reduceSub, Nat.reduceMul, Nat.reduceBEq, Int.reduceLT, Int.reduceLE, Int.reduceEq, Int.reduceNeg, Int.reduceAdd, Int.reduceSub, Int.reduceMul, Bool.false_eq_true, Bool.not_true, Bool.not_false, decide_eq_true_eq, and_self, true_and, and_true, reduceCtorEq, ne_eq, not_false_eq_true, not_true_eq_false, decide_true, decide_false, or_false, false_or, c_sane, fa, fb, fc, f1, f2, f3, f4, f5, f6, f7, f8, f9, f10, f11, f12, f14, f15, f17, n0, h3, RM_ok hab, RM_ok hp, RM_ok ha, RM_ok hbc, RM_ok hpc, RM_ok hr, RM_ok habc, RM_ok hac, c_alls, eq_rat, eq_parts]
    · rw [ap_eq _ Try.func9 rfl Try.ntmps9 Try.results9 (by kernel_rfl) rfl (by exact Nat.le_of_ble_eq_true rfl)]
      simp (config := { maxSteps := 1000000 }) only [RUN, PATHS, BASE, FA, POL, start_tm, Heap.empty, reduceIte, Nat.reduceLT, Nat.reduceLeDiff, Nat.reduceEqDiff, Nat.reduceAdd, Nat.reduceSub, Nat.reduceMul, Nat.reduceBEq, Int.reduceLT, Int.reduceLE, Int.reduceEq, Int.reduceNeg, Int.reduceAdd, Int.reduceSub, Int.reduceMul, Bool.false_eq_true, Bool.not_true, Bool.not_false, decide_eq_true_eq, and_self, true_and, and_true, reduceCtorEq, ne_eq, not_false_eq_true, not_true_eq_false, decide_true, decide_false, or_false, false_or, c_sane, fa, fb, fc, f1, f2, f3, f4, f5, f6, f7, f8, f9, f10, f11, f12, f14, f15, f17, n0, h3, RM_ok hab, RM_ok hp, RM_ok ha, RM_ok hbc, RM_ok hpc, RM_ok hr, RM_ok habc, RM_ok hac, c_alls, eq_rat, eq_parts]

/-! ### Make, Times -/
theorem neg_floor {X D : Int} (hD : 1 ≤ D) : (X % D = 0 ∧ (-X) / D = -(X / D)) ∨ (X % D ≠ 0 ∧ (-X) / D = -(X / D) - 1) := by
  have e := Int.mul_ediv_add_emod X D
  have b1 := Int.emod_nonneg X (b := D) (by omega)
  have b2 := Int.emod_lt_of_pos X (b := D) (by omega)
  by_cases h : X % D = 0
  · left
    refine ⟨h, ?_⟩
    have e2 : -X = 0 + D * (-(X / D)) := by rw [Int.mul_neg]; omega
    rw [e2, Int.add_mul_ediv_left _ _ (by omega)]; simp
  · right
    refine ⟨h, ?_⟩
    have e2 : -X = (D - X % D) + D * (-(X / D) - 1) := by rw [Int.mul_sub, Int.mul_neg]; omega
    rw [e2, Int.add_mul_ediv_left _ _ (by omega), Int.ediv_eq_zero_of_lt (by omega) (by omega)]; omega
theorem tmod_zero {X D : Int} (hD : 1 ≤ D) : X.tmod D = 0 ↔ X % D = 0 := by
  constructor
  · intro h; exact Int.emod_eq_zero_of_dvd (Int.dvd_of_tmod_eq_zero h)
  · intro h; exact Int.tmod_eq_zero_of_dvd (Int.dvd_of_emod_eq_zero h)
theorem MK_scale {n d k : Int} (hd : d ≠ 0) (hk : k ≠ 0) : MK (n * k) (d * k) = MK n d := by
  rw [MK_rat (Int.mul_ne_zero hd hk), MK_rat hd, Rat.divInt_mul_right hk]
set_option maxHeartbeats 4000000 in
theorem w_make (n d k m : Int) (hn : -2147483648 ≤ n ∧ n ≤ 2147483647) (hd : -2147483648 ≤ d ∧ d ≤ 2147483647) (hk : -32768 ≤ k ∧ k ≤ 32767) (hm : -2147483648 ≤ m ∧ m ≤ 2147483647) :
    ap Try.prog pol 6 [.int .i32 n, .int .i32 d, .int .i16 k, .int .i32 m] = some (.ret (.bool true)) := by
  have in1 : I64 n := by unfold I64; omega
  have in2 : I64 d := by unfold I64; omega
  have w1 := i64_in in1
  have w2 := i64_in in2
  have w3 : IntKind.i64.wrap k = k := i64_in (by unfold I64; omega)
  have w4 : IntKind.i64.wrap m = m := i64_in (by unfold I64; omega)
  have c0 := c_make n 0 in1 (by unfold I64; omega)
  have m0 : MK n 0 = (0, 0, 120) := rfl
  rw [m0] at c0
  by_cases h1 : d = 0
  · rw [ap_eq _ Try.func6 rfl Try.ntmps6 Try.results6 (by kernel_rfl) rfl (by exact Nat.le_of_ble_eq_true rfl)]
    simp (config := { maxSteps := 1000000 }) only [RUN, PATHS, BASE, FA, POL, start_tm, Heap.empty, reduceIte, Nat.reduceLT, Nat.reduceLeDiff, Nat.reduceEqDiff, Nat.reduceAdd, Nat.reduceSub, Nat.reduceMul, Nat.reduceBEq, Int.reduceLT, Int.reduceLE, Int.reduceEq, Int.reduceNeg, Int.reduceAdd, Int.reduceSub, Int.reduceMul, Bool.false_eq_true, Bool.not_true, Bool.not_false, decide_eq_true_eq, and_self, true_and, and_true, reduceCtorEq, ne_eq, not_false_eq_true, not_true_eq_false, decide_true, decide_false, or_false, false_or, c_sane, h1, w1, c0]
  by_cases h2 : k = 0
  · rw [ap_eq _ Try.func6 rfl Try.ntmps6 Try.results6 (by kernel_rfl) rfl (by exact Nat.le_of_ble_eq_true rfl)]
    simp (config := { maxSteps := 1000000 }) only [RUN, PATHS, BASE, FA, POL, start_tm, Heap.empty, reduceIte, Nat.reduceLT, Nat.reduceLeDiff, Nat.reduceEqDiff, Nat.reduceAdd, Nat.reduceSub, Nat.reduceMul, Nat.reduceBEq, Int.reduceLT, Int.reduceLE, Int.reduceEq, Int.reduceNeg, Int.reduceAdd, Int.reduceSub, Int.reduceMul, Bool.false_eq_true, Bool.not_true, Bool.not_false, decide_eq_true_eq, and_self, true_and, and_true, reduceCtorEq, ne_eq, not_false_eq_true, not_true_eq_false, decide_true, decide_false, or_false, false_or, c_sane, h1, h2, w1, c0]
  have b1 := mul_bd (a := n) (n := k) (M := 2147483648) (N := 32768) ⟨by omega, by omega⟩ ⟨by omega, by omega⟩
  have b2 := mul_bd (a := d) (n := k) (M := 2147483648) (N := 32768) ⟨by omega, by omega⟩ ⟨by omega, by omega⟩
  have w5 : IntKind.i64.wrap (n * k) = n * k := i64_in (by unfold I64; omega)
  have w6 : IntKind.i64.wrap (d * k) = d * k := i64_in (by unfold I64; omega)
  have c1 := c_make n d in1 in2
  have c2 := c_make (n * k) (d * k) (by unfold I64; omega) (by unfold I64; omega)
  rw [MK_scale h1 h2] at c2
  rw [MK_rat h1] at c1 c2
  by_cases hr : RP (Rat.divInt n d)
  · rw [RM_ok hr] at c1 c2
    have hv := RP_valid hr
    have cr : (Rat.divInt n d).num * d = n * (Rat.divInt n d).den := by
      have h := Rat.num_divInt_den (Rat.divInt n d)
      have := (Rat.divInt n d).den_pos
      exact (Rat.divInt_eq_divInt_iff (by omega) h1).1 h
    generalize (Rat.divInt n d).num = x at *
    generalize ((Rat.divInt n d).den : Int) = y at *
    obtain ⟨v1, v2, v3, v4, v5⟩ := hv
    have hv : VALID x y := ⟨v1, v2, v3, v4, v5⟩
    have cc := c_check x y (VALID_I64 hv).1 (VALID_I64 hv).2
    rw [if_pos hv] at cc
    have q1 := Int.lt_tmod_of_pos m (b := 1073741824) (by omega)
    have q2 := Int.tmod_lt_of_pos m (b := 1073741824) (by omega)
    have t1 := c_times x y (m.tmod 1073741824) (VALID_I64 hv).1 (VALID_I64 hv).2 (by unfold I64; omega)
    have t2 := c_times x y (-(m.tmod 1073741824)) (VALID_I64 hv).1 (VALID_I64 hv).2 (by unfold I64; omega)
    have w7 : IntKind.i64.wrap (0 - m.tmod 1073741824) = -(m.tmod 1073741824) := by rw [i64_in (by unfold I64; omega)]; omega
    have b3 := mul_bd (a := x) (n := d) (M := 1073741824) (N := 2147483648) ⟨by omega, by omega⟩ ⟨by omega, by omega⟩
    have b4 := mul_bd (a := n) (n := y) (M := 2147483648) (N := 1073741824) ⟨by omega, by omega⟩ ⟨by omega, by omega⟩
    have b5 := mul_bd (a := x) (n := m.tmod 1073741824) (M := 1073741824) (N := 1073741824) ⟨by omega, by omega⟩ ⟨by omega, by omega⟩
    have w8 : IntKind.i64.wrap (x * d) = x * d := i64_in (by unfold I64; omega)
    have w9 : IntKind.i64.wrap (n * y) = n * y := i64_in (by unfold I64; omega)
    have w10 : IntKind.i64.wrap (x * m.tmod 1073741824) = x * m.tmod 1073741824 := i64_in (by unfold I64; omega)
    unfold TIMES at t1 t2
    rw [if_pos hv, if_neg (by omega)] at t1 t2
    have z1 : -x * m.tmod 1073741824 = -(x * m.tmod 1073741824) := Int.neg_mul _ _
    have z2 : x * -m.tmod 1073741824 = -(x * m.tmod 1073741824) := Int.mul_neg _ _
    have z3 : -x * -m.tmod 1073741824 = x * m.tmod 1073741824 := Int.neg_mul_neg _ _
    rw [z1] at t1
    rw [z2, z3] at t2
    generalize hX : x * m.tmod 1073741824 = X at *
    have e := Int.mul_ediv_add_emod X y
    have e1 := Int.emod_nonneg X (b := y) (by omega)
    have e2 := Int.emod_lt_of_pos X (b := y) (by omega)
    have e3 := neg_floor (X := X) v1
    have e4 := ediv_bd v1 (by omega : (0 : Int) ≤ 1152921504606846976) (show -1152921504606846976 ≤ X ∧ X ≤ 1152921504606846976 by omega)
    have tz := tmod_zero (X := X) v1
    generalize X / y = q at *
    have b6 := mul_bd (a := q) (n := y) (M := 1152921504606846976) (N := 1073741824) ⟨by omega, by omega⟩ ⟨by omega, by omega⟩
    rw [ap_eq _ Try.func6 rfl Try.ntmps6 Try.results6 (by kernel_rfl) rfl (by exact Nat.le_of_ble_eq_true rfl)]
    simp (config := { maxSteps := 1000000 }) only [RUN, PATHS, BASE, FA, POL, start_tm, Heap.empty, reduceIte, Nat.reduceLT, Nat.reduceLeDiff, Nat.reduceEqDiff, Nat.reduceAdd, Nat.reduceSub, Nat.reduceMul, Nat.reduceBEq, Int.reduceLT, Int.reduceLE, Int.reduceEq, Int.reduceNeg, Int.reduceAdd, Int.reduceSub, Int.reduceMul, Bool.false_eq_true, Bool.not_true, Bool.not_false, decide_eq_true_eq, and_self, true_and, and_true, reduceCtorEq, ne_eq, not_false_eq_true, not_true_eq_false, decide_true, decide_false, or_false, false_or, c_sane, h1, h2, w1, w2, w3, w4, w5, w6, w7, w8, w9, w10, c1, c2, cc, t1, t2, c_alls, eq_rat, (show ¬ y < 1 by omega), eq_true cr, hX]
    clear c0 c1 c2 cc t1 t2
    generalize -X / y = r at *
    have yq : q * y = X - X % y := by have := Int.mul_comm y q; omega
    have yq1 : (q + 1) * y = X - X % y + y := by rw [Int.add_mul, Int.one_mul]; omega
    have yr : -r * y = (if X % y = 0 then X else X - X % y + y) ∧ (-r - 1) * y = (if X % y = 0 then X else X - X % y + y) - y := by
      rw [Int.sub_mul, Int.one_mul]
      rcases e3 with ⟨e5, e6⟩ | ⟨e5, e6⟩
      · rw [if_pos e5, e6, Int.neg_neg, yq]; omega
      · rw [if_neg e5, e6, Int.neg_sub, show (1 : Int) - -q = q + 1 by omega, yq1]; omega
    have hb : r = -q ∨ r = -q - 1 := by omega
    have dd : decide (-r = q) = decide (X.tmod y = 0) := by
      congr 1
      apply propext
      rw [tz]
      omega
    rw [if_neg (by rw [i64_in (by unfold I64; omega)]; omega), if_neg (by rw [i64_in (by unfold I64; omega)]; omega), if_neg (by rw [i64_in (by unfold I64; omega)]; omega), if_neg (by rw [i64_in (by unfold I64; omega)]; omega), if_neg (by omega),
      if_neg (fun h => h dd)]
    rw [i64_in (x := q + 1) (by unfold I64; omega), i64_in (x := -r - 1) (by unfold I64; omega), yr.1, yr.2, yq, yq1]
    rw [i64_in (x := X - X % y) (by unfold I64; omega), i64_in (x := X - X % y + y) (by unfold I64; omega)]
    by_cases h0 : X % y = 0
    · simp only [h0, if_true, Int.sub_zero]
      rw [i64_in (x := X) (by unfold I64; omega), i64_in (x := X - y) (by unfold I64; omega), if_pos (by omega), if_pos (by omega), if_pos (by omega), decide_eq_true (by omega)]
    · simp only [h0, if_false]
      rw [i64_in (x := X - X % y + y) (by unfold I64; omega), i64_in (x := X - X % y + y - y) (by unfold I64; omega), if_pos (by omega), if_pos (by omega), if_pos (by omega), decide_eq_true (by omega)]
  · rw [RM_no hr] at c1 c2
    rw [ap_eq _ Try.func6 rfl Try.ntmps6 Try.results6 (by kernel_rfl) rfl (by exact Nat.le_of_ble_eq_true rfl)]
    simp (config := { maxSteps := 1000000 }) only [RUN, PATHS, BASE, FA, POL, start_tm, Heap.empty, reduceIte, Nat.reduceLT, Nat.reduceLeDiff, Nat.reduceEqDiff, Nat.reduceAdd, Nat.reduceSub, Nat.reduceMul, Nat.reduceBEq, Int.reduceLT, Int.reduceLE, Int.reduceEq, Int.reduceNeg, Int.reduceAdd, Int.reduceSub, Int.reduceMul, Bool.false_eq_true, Bool.not_true, Bool.not_false, decide_eq_true_eq, and_self, true_and, and_true, reduceCtorEq, ne_eq, not_false_eq_true, not_true_eq_false, decide_true, decide_false, or_false, false_or, c_sane, h1, h2, w1, w2, w3, w5, w6, c1, c2, eq_rat]
end Go.Proofs.Ytcdmoilcpkapiaa
