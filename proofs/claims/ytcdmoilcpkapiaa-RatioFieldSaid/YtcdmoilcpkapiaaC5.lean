/-
  Between, and the small functions of the statements.
-/
import Derived.Test.YtcdmoilcpkapiaaC4
set_option linter.unusedSimpArgs false
set_option linter.unusedVariables false
set_option linter.unusedSectionVars false
namespace Go.Proofs.Ytcdmoilcpkapiaa
open Go GoV
set_option maxRecDepth 100000

theorem simp_wraps {n d m k : Int} (h : COND n d m k) : w64 (n.tdiv d) = n / d ∧ w64 (n / d + 1) = n / d + 1 ∧ w64 ((n / d + 1) * k) = (n / d + 1) * k ∧ w64 (n / d * k) = n / d * k ∧ w64 (n / d * d) = n / d * d ∧
    w64 (m - n / d * k) = m - n / d * k ∧ w64 (n - n / d * d) = n - n / d * d := by
  obtain ⟨n0, d0, m0, k0, lt, n1, d1, m1, k1⟩ := h
  have q0 : 0 ≤ n / d := Int.ediv_nonneg n0 (by omega)
  have qn : n / d ≤ n := Int.ediv_le_self _ n0
  have b1 := mul_bd (a := n / d + 1) (n := k) (M := 1073741825) (N := 1073741824) ⟨by omega, by omega⟩ ⟨by omega, by omega⟩
  have b2 := mul_bd (a := n / d) (n := k) (M := 1073741825) (N := 1073741824) ⟨by omega, by omega⟩ ⟨by omega, by omega⟩
  have b3 := mul_bd (a := n / d) (n := d) (M := 1073741825) (N := 1073741824) ⟨by omega, by omega⟩ ⟨by omega, by omega⟩
  refine ⟨?_, i64_in (by unfold I64; omega), i64_in (by unfold I64; omega), i64_in (by unfold I64; omega), i64_in (by unfold I64; omega), i64_in (by unfold I64; omega), i64_in (by unfold I64; omega)⟩
  rw [Int.tdiv_eq_ediv_of_nonneg n0]
  exact i64_in (by unfold I64; omega)
theorem simp_res {f : Nat} {n d m k : Int} (h : COND n d m k) (hf : d + k ≤ (f + 1 : Nat)) (hc : ¬ (k = 0 ∨ (n / d + 1) * k < m)) :
    w64 (n / d * (SIMP f k (m - n / d * k) d (n - n / d * d)).1) = n / d * (SIMP f k (m - n / d * k) d (n - n / d * d)).1 ∧
    w64 (n / d * (SIMP f k (m - n / d * k) d (n - n / d * d)).1 + (SIMP f k (m - n / d * k) d (n - n / d * d)).2) = n / d * (SIMP f k (m - n / d * k) d (n - n / d * d)).1 + (SIMP f k (m - n / d * k) d (n - n / d * d)).2 := by
  have hc' := not_or.1 hc
  obtain ⟨st, s1, s2, q0, qn⟩ := simp_step h rfl hc'.1 hc'.2
  have b := SIMP_bd h hf
  have l := SIMP_law f _ _ _ _ st (by omega) _ rfl
  unfold SIMP at b
  rw [if_neg hc] at b
  simp only at b
  have n1 := h.n1
  have m1 := h.m1
  have qx : 0 ≤ n / d * (SIMP f k (m - n / d * k) d (n - n / d * d)).1 := Int.mul_nonneg q0 (by omega)
  exact ⟨i64_in (by unfold I64; omega), i64_in (by unfold I64; omega)⟩
/-- How many frames it takes. -/
def SIMPD : Nat → Int → Int → Int → Int → Nat
  | 0, _, _, _, _ => 1
  | f + 1, n, d, m, k => if k = 0 ∨ (n / d + 1) * k < m then 1 else 1 + SIMPD f k (m - n / d * k) d (n - n / d * d)
theorem c_simp : ∀ (f : Nat) (n d m k : Int) (id : Nat) (H : Heap), COND n d m k → d + k ≤ f → H.rows id = some (.gro 1 [.fn 38 [.ptr id 1 0 0]] 0) →
    callF G Try.prog pol 38 [I n, I d, I m, I k, .ptr id 1 0 0] H = some (.ret (.tup [I (SIMP f n d m k).1, I (SIMP f n d m k).2]), ⟨H.rows, H.next + SIMPD f n d m k⟩)
  | 0, n, d, m, k, id, H, h, hf, hr => by have := h.d0; have := h.k0; omega
  | f + 1, n, d, m, k, id, H, h, hf, hr => by
    have hd := h.d0
    obtain ⟨w1, w2, w3, w4, w5, w6, w7⟩ := simp_wraps h
    unfold SIMP SIMPD
    by_cases hk : k = 0
    · rw [callF_eq _ _ Try.func38 rfl Try.ntmps38 Try.results38 (by kernel_rfl) rfl (by exact Nat.le_of_ble_eq_true rfl)]
      simp (config := { maxSteps := 1000000 }) only [RUN, PATHS, BASE, FA, POL, start_tm, Heap.empty, reduceIte, Nat.reduceLT, Nat.reduceLeDiff, Nat.reduceEqDiff, Nat.reduceAdd, Nat.reduceSub, Nat.reduceMul, Nat.reduceBEq, Int.reduceLT, Int.reduceLE, Int.reduceEq, Int.reduceNeg, Int.reduceAdd, Int.reduceSub, Int.reduceMul, Bool.false_eq_true, Bool.not_true, Bool.not_false, decide_eq_true_eq, and_self, true_and, and_true, reduceCtorEq, ne_eq, not_false_eq_true, not_true_eq_false, decide_true, decide_false, or_false, false_or, w1, w2, hk, (show ¬ d = 0 by omega), true_or]
    · by_cases hm : (n / d + 1) * k < m
      · rw [callF_eq _ _ Try.func38 rfl Try.ntmps38 Try.results38 (by kernel_rfl) rfl (by exact Nat.le_of_ble_eq_true rfl)]
        simp (config := { maxSteps := 1000000 }) only [RUN, PATHS, BASE, FA, POL, start_tm, Heap.empty, reduceIte, Nat.reduceLT, Nat.reduceLeDiff, Nat.reduceEqDiff, Nat.reduceAdd, Nat.reduceSub, Nat.reduceMul, Nat.reduceBEq, Int.reduceLT, Int.reduceLE, Int.reduceEq, Int.reduceNeg, Int.reduceAdd, Int.reduceSub, Int.reduceMul, Bool.false_eq_true, Bool.not_true, Bool.not_false, decide_eq_true_eq, and_self, true_and, and_true, reduceCtorEq, ne_eq, not_false_eq_true, not_true_eq_false, decide_true, decide_false, or_false, false_or, w1, w2, w3, hk, hm, (show ¬ d = 0 by omega)]
      · obtain ⟨st, s1, s2, q0, qn⟩ := simp_step h rfl hk hm
        have ih := c_simp f k (m - n / d * k) d (n - n / d * d) id ⟨H.rows, H.next + 1⟩ st (by omega) hr
        obtain ⟨r1, r2⟩ := simp_res h hf (by rw [not_or]; exact ⟨hk, hm⟩)
        rw [callF_eq _ _ Try.func38 rfl Try.ntmps38 Try.results38 (by kernel_rfl) rfl (by exact Nat.le_of_ble_eq_true rfl)]
        simp (config := { maxSteps := 1000000 }) only [RUN, PATHS, BASE, FA, POL, start_tm, Heap.empty, reduceIte, Nat.reduceLT, Nat.reduceLeDiff, Nat.reduceEqDiff, Nat.reduceAdd, Nat.reduceSub, Nat.reduceMul, Nat.reduceBEq, Int.reduceLT, Int.reduceLE, Int.reduceEq, Int.reduceNeg, Int.reduceAdd, Int.reduceSub, Int.reduceMul, Bool.false_eq_true, Bool.not_true, Bool.not_false, decide_eq_true_eq, and_self, true_and, and_true, reduceCtorEq, ne_eq, not_false_eq_true, not_true_eq_false, decide_true, decide_false, or_false, false_or, w1, w2, w3, w4, w5, w6, w7, hk, hm, (show ¬ d = 0 by omega), hr, ih, r1, r2, Nat.add_assoc]
abbrev frac (n d : Int) : PV := .agg [.int .i64 n, .int .i64 d]
theorem c_refsimp : ∀ (f : Nat) (n d m k : Int), COND n d m k → d + k ≤ f → ap Try.prog pol 39 [frac n d, frac m k] = some (.ret (frac (SIMP f n d m k).1 (SIMP f n d m k).2))
  | 0, n, d, m, k, h, hf => by have := h.d0; have := h.k0; omega
  | f + 1, n, d, m, k, h, hf => by
    have hd := h.d0
    obtain ⟨w1, w2, w3, w4, w5, w6, w7⟩ := simp_wraps h
    unfold SIMP
    by_cases hk : k = 0
    · rw [ap_eq _ Try.func39 rfl Try.ntmps39 Try.results39 (by kernel_rfl) rfl (by exact Nat.le_of_ble_eq_true rfl)]
      simp (config := { maxSteps := 1000000 }) only [RUN, PATHS, BASE, FA, POL, start_tm, Heap.empty, reduceIte, Nat.reduceLT, Nat.reduceLeDiff, Nat.reduceEqDiff, Nat.reduceAdd, Nat.reduceSub, Nat.reduceMul, Nat.reduceBEq, Int.reduceLT, Int.reduceLE, Int.reduceEq, Int.reduceNeg, Int.reduceAdd, Int.reduceSub, Int.reduceMul, Bool.false_eq_true, Bool.not_true, Bool.not_false, decide_eq_true_eq, and_self, true_and, and_true, reduceCtorEq, ne_eq, not_false_eq_true, not_true_eq_false, decide_true, decide_false, or_false, false_or, w1, w2, hk, (show ¬ d = 0 by omega), true_or]
    · by_cases hm : (n / d + 1) * k < m
      · rw [ap_eq _ Try.func39 rfl Try.ntmps39 Try.results39 (by kernel_rfl) rfl (by exact Nat.le_of_ble_eq_true rfl)]
        simp (config := { maxSteps := 1000000 }) only [RUN, PATHS, BASE, FA, POL, start_tm, Heap.empty, reduceIte, Nat.reduceLT, Nat.reduceLeDiff, Nat.reduceEqDiff, Nat.reduceAdd, Nat.reduceSub, Nat.reduceMul, Nat.reduceBEq, Int.reduceLT, Int.reduceLE, Int.reduceEq, Int.reduceNeg, Int.reduceAdd, Int.reduceSub, Int.reduceMul, Bool.false_eq_true, Bool.not_true, Bool.not_false, decide_eq_true_eq, and_self, true_and, and_true, reduceCtorEq, ne_eq, not_false_eq_true, not_true_eq_false, decide_true, decide_false, or_false, false_or, w1, w2, w3, hk, hm, (show ¬ d = 0 by omega)]
      · obtain ⟨st, s1, s2, q0, qn⟩ := simp_step h rfl hk hm
        have ih := c_refsimp f k (m - n / d * k) d (n - n / d * d) st (by omega)
        obtain ⟨r1, r2⟩ := simp_res h hf (by rw [not_or]; exact ⟨hk, hm⟩)
        rw [ap_eq _ Try.func39 rfl Try.ntmps39 Try.results39 (by kernel_rfl) rfl (by exact Nat.le_of_ble_eq_true rfl)]
        simp (config := { maxSteps := 1000000 }) only [RUN, PATHS, BASE, FA, POL, start_tm, Heap.empty, reduceIte, Nat.reduceLT, Nat.reduceLeDiff, Nat.reduceEqDiff, Nat.reduceAdd, Nat.reduceSub, Nat.reduceMul, Nat.reduceBEq, Int.reduceLT, Int.reduceLE, Int.reduceEq, Int.reduceNeg, Int.reduceAdd, Int.reduceSub, Int.reduceMul, Bool.false_eq_true, Bool.not_true, Bool.not_false, decide_eq_true_eq, and_self, true_and, and_true, reduceCtorEq, ne_eq, not_false_eq_true, not_true_eq_false, decide_true, decide_false, or_false, false_or, w1, w2, w3, w4, w5, w6, w7, hk, hm, (show ¬ d = 0 by omega), ih, r1, r2]
/-- The simplest number between two, where both are valid and in order. -/
def SMP (a b c d : Int) : Int × Int := if a < 0 ∧ 0 < c then (0, 1) else if a < 0 then (-(SIMP (d + b).toNat (-c) d (-a) b).1, (SIMP (d + b).toNat (-c) d (-a) b).2) else SIMP (b + d).toNat a b c d
def BTW (a b c d : Int) : Int × Int × Int := if VALID a b ∧ VALID c d then (if a * d < c * b then MK (SMP a b c d).1 (SMP a b c d).2 else (0, 0, 1)) else (0, 0, 120)
theorem MK01 : MK 0 1 = (0, 1, 0) := by decide
theorem wrap_prod {a b c d : Int} (h : VALID a b ∧ VALID c d) : w64 (a * d) = a * d ∧ w64 (c * b) = c * b ∧ w64 (b * d) = b * d ∧ w64 (a * c) = a * c := by
  obtain ⟨⟨a1, a2, a3, a4, _⟩, ⟨b1, b2, b3, b4, _⟩⟩ := h
  have m1 := mul_bd (a := a) (n := d) (M := 1073741824) (N := 1073741824) ⟨by omega, by omega⟩ ⟨by omega, by omega⟩
  have m2 := mul_bd (a := c) (n := b) (M := 1073741824) (N := 1073741824) ⟨by omega, by omega⟩ ⟨by omega, by omega⟩
  have m3 := mul_bd (a := b) (n := d) (M := 1073741824) (N := 1073741824) ⟨by omega, by omega⟩ ⟨by omega, by omega⟩
  have m4 := mul_bd (a := a) (n := c) (M := 1073741824) (N := 1073741824) ⟨by omega, by omega⟩ ⟨by omega, by omega⟩
  exact ⟨i64_in (by unfold I64; omega), i64_in (by unfold I64; omega), i64_in (by unfold I64; omega), i64_in (by unfold I64; omega)⟩
/-- The three cases. -/
theorem btw_cond {a b c d : Int} (h : VALID a b ∧ VALID c d) (hlt : a * d < c * b) : (¬ a < 0 → COND a b c d) ∧ (a < 0 → ¬ 0 < c → COND (-c) d (-a) b) := by
  obtain ⟨⟨a1, a2, a3, a4, _⟩, ⟨b1, b2, b3, b4, _⟩⟩ := h
  refine ⟨fun h0 => ⟨by omega, by omega, ?_, by omega, hlt, by omega, by omega, by omega, by omega⟩, fun h0 h1 => ⟨by omega, by omega, by omega, by omega, ?_, by omega, by omega, by omega, by omega⟩⟩
  · have : 0 ≤ a * d := Int.mul_nonneg (by omega) (by omega)
    have h3 : 0 * b < c * b := by omega
    exact Int.lt_of_mul_lt_mul_right h3 (by omega)
  · rw [Int.neg_mul, Int.neg_mul]; omega
theorem c_btw (a b c d : Int) (ha : I64 a) (hb : I64 b) (hc : I64 c) (hd : I64 d) : ap Try.prog pol 17 [rat a b, rat c d] = some (.ret (ratE (BTW a b c d))) := by
  unfold BTW
  by_cases h : VALID a b ∧ VALID c d
  · obtain ⟨p1, p2, _, _⟩ := wrap_prod h
    have e : CMPR a b c d = (CMP (a * d) (c * b), 0) := by unfold CMPR; rw [if_pos h, p1, p2]
    by_cases hlt : a * d < c * b
    · have e2 : CMPR a b c d = (-1, 0) := by rw [e]; unfold CMP; rw [if_pos hlt]
      obtain ⟨k1, k2⟩ := btw_cond h hlt
      have hh := h
      obtain ⟨⟨a1, a2, a3, a4, _⟩, ⟨b1, b2, b3, b4, _⟩⟩ := hh
      unfold SMP
      by_cases h1 : a < 0
      · by_cases h2 : 0 < c
        · rw [ap_eq _ Try.func17 rfl Try.ntmps17 Try.results17 (by kernel_rfl) rfl (by exact Nat.le_of_ble_eq_true rfl)]
          simp (config := { maxSteps := 1000000 }) only [RUN, PATHS, BASE, FA, POL, start_tm, Heap.empty, reduceIte, Nat.reduceLT, Nat.reduceLeDiff, Nat.reduceEqDiff, Nat.reduceAdd, Nat.reduceSub, Nat.reduceMul, Nat.reduceBEq, Int.reduceLT, Int.reduceLE, Int.reduceEq, Int.reduceNeg, Int.reduceAdd, Int.reduceSub, Int.reduceMul, Bool.false_eq_true, Bool.not_true, Bool.not_false, decide_eq_true_eq, and_self, true_and, and_true, reduceCtorEq, ne_eq, not_false_eq_true, not_true_eq_false, decide_true, decide_false, or_false, false_or, c_cmp a b c d ha hb hc hd, e2, (show ¬ (0 : Int) ≤ -1 by omega), h1, h2, h, hlt, MK01]
        · have kk := k2 h1 h2
          have wc : IntKind.i64.wrap (0 - c) = -c := by rw [i64_in (by unfold I64; omega)]; omega
          have wa : IntKind.i64.wrap (0 - a) = -a := by rw [i64_in (by unfold I64; omega)]; omega
          have bd := SIMP_bd kk (f := (d + b).toNat) (by omega)
          have lw := SIMP_law (d + b).toNat _ _ _ _ kk (by omega) _ rfl
          have hs := fun id H => c_simp (d + b).toNat (-c) d (-a) b id H kk (by omega)
          generalize SIMP (d + b).toNat (-c) d (-a) b = r at *
          have wx : IntKind.i64.wrap (0 - r.1) = -r.1 := by rw [i64_in (by unfold I64; omega)]; omega
          rw [ap_eq _ Try.func17 rfl Try.ntmps17 Try.results17 (by kernel_rfl) rfl (by exact Nat.le_of_ble_eq_true rfl)]
          simp (config := { maxSteps := 1000000 }) only [RUN, PATHS, BASE, FA, POL, start_tm, Heap.empty, reduceIte, Nat.reduceLT, Nat.reduceLeDiff, Nat.reduceEqDiff, Nat.reduceAdd, Nat.reduceSub, Nat.reduceMul, Nat.reduceBEq, Int.reduceLT, Int.reduceLE, Int.reduceEq, Int.reduceNeg, Int.reduceAdd, Int.reduceSub, Int.reduceMul, Bool.false_eq_true, Bool.not_true, Bool.not_false, decide_eq_true_eq, and_self, true_and, and_true, reduceCtorEq, ne_eq, not_false_eq_true, not_true_eq_false, decide_true, decide_false, or_false, false_or, c_cmp a b c d ha hb hc hd, e2, (show ¬ (0 : Int) ≤ -1 by omega), h1, h2, h, hlt, wa, wc, hs, wx, c_make (-r.1) r.2 (by unfold I64; omega) (by unfold I64; omega)]
      · have kk := k1 h1
        have bd := SIMP_bd kk (f := (b + d).toNat) (by omega)
        have lw := SIMP_law (b + d).toNat _ _ _ _ kk (by omega) _ rfl
        have hs := fun id H => c_simp (b + d).toNat a b c d id H kk (by omega)
        generalize SIMP (b + d).toNat a b c d = r at *
        rw [ap_eq _ Try.func17 rfl Try.ntmps17 Try.results17 (by kernel_rfl) rfl (by exact Nat.le_of_ble_eq_true rfl)]
        simp (config := { maxSteps := 1000000 }) only [RUN, PATHS, BASE, FA, POL, start_tm, Heap.empty, reduceIte, Nat.reduceLT, Nat.reduceLeDiff, Nat.reduceEqDiff, Nat.reduceAdd, Nat.reduceSub, Nat.reduceMul, Nat.reduceBEq, Int.reduceLT, Int.reduceLE, Int.reduceEq, Int.reduceNeg, Int.reduceAdd, Int.reduceSub, Int.reduceMul, Bool.false_eq_true, Bool.not_true, Bool.not_false, decide_eq_true_eq, and_self, true_and, and_true, reduceCtorEq, ne_eq, not_false_eq_true, not_true_eq_false, decide_true, decide_false, or_false, false_or, c_cmp a b c d ha hb hc hd, e2, (show ¬ (0 : Int) ≤ -1 by omega), h1, h, hlt, hs, c_make r.1 r.2 (by unfold I64; omega) (by unfold I64; omega), false_and]
    · have e2 : (CMPR a b c d).2 = 0 ∧ 0 ≤ (CMPR a b c d).1 := by rw [e]; unfold CMP; rw [if_neg hlt]; refine ⟨rfl, ?_⟩; show (0 : Int) ≤ if _ then _ else _; split <;> omega
      rw [ap_eq _ Try.func17 rfl Try.ntmps17 Try.results17 (by kernel_rfl) rfl (by exact Nat.le_of_ble_eq_true rfl)]
      simp (config := { maxSteps := 1000000 }) only [RUN, PATHS, BASE, FA, POL, start_tm, Heap.empty, reduceIte, Nat.reduceLT, Nat.reduceLeDiff, Nat.reduceEqDiff, Nat.reduceAdd, Nat.reduceSub, Nat.reduceMul, Nat.reduceBEq, Int.reduceLT, Int.reduceLE, Int.reduceEq, Int.reduceNeg, Int.reduceAdd, Int.reduceSub, Int.reduceMul, Bool.false_eq_true, Bool.not_true, Bool.not_false, decide_eq_true_eq, and_self, true_and, and_true, reduceCtorEq, ne_eq, not_false_eq_true, not_true_eq_false, decide_true, decide_false, or_false, false_or, c_cmp a b c d ha hb hc hd, e2.1, e2.2, h, hlt]
  · have e : CMPR a b c d = (0, 120) := by unfold CMPR; rw [if_neg h]
    rw [ap_eq _ Try.func17 rfl Try.ntmps17 Try.results17 (by kernel_rfl) rfl (by exact Nat.le_of_ble_eq_true rfl)]
    simp (config := { maxSteps := 1000000 }) only [RUN, PATHS, BASE, FA, POL, start_tm, Heap.empty, reduceIte, Nat.reduceLT, Nat.reduceLeDiff, Nat.reduceEqDiff, Nat.reduceAdd, Nat.reduceSub, Nat.reduceMul, Nat.reduceBEq, Int.reduceLT, Int.reduceLE, Int.reduceEq, Int.reduceNeg, Int.reduceAdd, Int.reduceSub, Int.reduceMul, Bool.false_eq_true, Bool.not_true, Bool.not_false, decide_eq_true_eq, and_self, true_and, and_true, reduceCtorEq, ne_eq, not_false_eq_true, not_true_eq_false, decide_true, decide_false, or_false, false_or, c_cmp a b c d ha hb hc hd, e, (show ¬ (120 : Int) = 0 by omega), h]
theorem c_refbtw (a b c d : Int) (ha : I64 a) (hb : I64 b) (hc : I64 c) (hd : I64 d) : ap Try.prog pol 18 [rat a b, rat c d] = some (.ret (ratE (BTW a b c d))) := by
  unfold BTW
  by_cases h : VALID a b ∧ VALID c d
  · obtain ⟨p1, p2, _, _⟩ := wrap_prod h
    have lss := c_less a b c d ha hb hc hd
    rw [p1, p2] at lss
    by_cases hlt : a * d < c * b
    · obtain ⟨k1, k2⟩ := btw_cond h hlt
      have hh := h
      obtain ⟨⟨a1, a2, a3, a4, _⟩, ⟨b1, b2, b3, b4, _⟩⟩ := hh
      unfold SMP
      by_cases h1 : a < 0
      · by_cases h2 : 0 < c
        · rw [ap_eq _ Try.func18 rfl Try.ntmps18 Try.results18 (by kernel_rfl) rfl (by exact Nat.le_of_ble_eq_true rfl)]
          simp (config := { maxSteps := 1000000 }) only [RUN, PATHS, BASE, FA, POL, start_tm, Heap.empty, reduceIte, Nat.reduceLT, Nat.reduceLeDiff, Nat.reduceEqDiff, Nat.reduceAdd, Nat.reduceSub, Nat.reduceMul, Nat.reduceBEq, Int.reduceLT, Int.reduceLE, Int.reduceEq, Int.reduceNeg, Int.reduceAdd, Int.reduceSub, Int.reduceMul, Bool.false_eq_true, Bool.not_true, Bool.not_false, decide_eq_true_eq, and_self, true_and, and_true, reduceCtorEq, ne_eq, not_false_eq_true, not_true_eq_false, decide_true, decide_false, or_false, false_or, c_both a b c d ha hb hc hd, lss, h1, h2, h, hlt, MK01]
        · have kk := k2 h1 h2
          have wc : IntKind.i64.wrap (0 - c) = -c := by rw [i64_in (by unfold I64; omega)]; omega
          have wa : IntKind.i64.wrap (0 - a) = -a := by rw [i64_in (by unfold I64; omega)]; omega
          have bd := SIMP_bd kk (f := (d + b).toNat) (by omega)
          have lw := SIMP_law (d + b).toNat _ _ _ _ kk (by omega) _ rfl
          have hs := c_refsimp (d + b).toNat (-c) d (-a) b kk (by omega)
          generalize SIMP (d + b).toNat (-c) d (-a) b = r at *
          have wx : IntKind.i64.wrap (0 - r.1) = -r.1 := by rw [i64_in (by unfold I64; omega)]; omega
          rw [ap_eq _ Try.func18 rfl Try.ntmps18 Try.results18 (by kernel_rfl) rfl (by exact Nat.le_of_ble_eq_true rfl)]
          simp (config := { maxSteps := 1000000 }) only [RUN, PATHS, BASE, FA, POL, start_tm, Heap.empty, reduceIte, Nat.reduceLT, Nat.reduceLeDiff, Nat.reduceEqDiff, Nat.reduceAdd, Nat.reduceSub, Nat.reduceMul, Nat.reduceBEq, Int.reduceLT, Int.reduceLE, Int.reduceEq, Int.reduceNeg, Int.reduceAdd, Int.reduceSub, Int.reduceMul, Bool.false_eq_true, Bool.not_true, Bool.not_false, decide_eq_true_eq, and_self, true_and, and_true, reduceCtorEq, ne_eq, not_false_eq_true, not_true_eq_false, decide_true, decide_false, or_false, false_or, c_both a b c d ha hb hc hd, lss, h1, h2, h, hlt, wa, wc, hs, wx, c_refmake (-r.1) r.2 (by unfold I64; omega) (by unfold I64; omega)]
      · have kk := k1 h1
        have bd := SIMP_bd kk (f := (b + d).toNat) (by omega)
        have lw := SIMP_law (b + d).toNat _ _ _ _ kk (by omega) _ rfl
        have hs := c_refsimp (b + d).toNat a b c d kk (by omega)
        generalize SIMP (b + d).toNat a b c d = r at *
        rw [ap_eq _ Try.func18 rfl Try.ntmps18 Try.results18 (by kernel_rfl) rfl (by exact Nat.le_of_ble_eq_true rfl)]
        simp (config := { maxSteps := 1000000 }) only [RUN, PATHS, BASE, FA, POL, start_tm, Heap.empty, reduceIte, Nat.reduceLT, Nat.reduceLeDiff, Nat.reduceEqDiff, Nat.reduceAdd, Nat.reduceSub, Nat.reduceMul, Nat.reduceBEq, Int.reduceLT, Int.reduceLE, Int.reduceEq, Int.reduceNeg, Int.reduceAdd, Int.reduceSub, Int.reduceMul, Bool.false_eq_true, Bool.not_true, Bool.not_false, decide_eq_true_eq, and_self, true_and, and_true, reduceCtorEq, ne_eq, not_false_eq_true, not_true_eq_false, decide_true, decide_false, or_false, false_or, c_both a b c d ha hb hc hd, lss, h1, h, hlt, hs, c_refmake r.1 r.2 (by unfold I64; omega) (by unfold I64; omega), false_and]
    · rw [ap_eq _ Try.func18 rfl Try.ntmps18 Try.results18 (by kernel_rfl) rfl (by exact Nat.le_of_ble_eq_true rfl)]
      simp (config := { maxSteps := 1000000 }) only [RUN, PATHS, BASE, FA, POL, start_tm, Heap.empty, reduceIte, Nat.reduceLT, Nat.reduceLeDiff, Nat.reduceEqDiff, Nat.reduceAdd, Nat.reduceSub, Nat.reduceMul, Nat.reduceBEq, Int.reduceLT, Int.reduceLE, Int.reduceEq, Int.reduceNeg, Int.reduceAdd, Int.reduceSub, Int.reduceMul, Bool.false_eq_true, Bool.not_true, Bool.not_false, decide_eq_true_eq, and_self, true_and, and_true, reduceCtorEq, ne_eq, not_false_eq_true, not_true_eq_false, decide_true, decide_false, or_false, false_or, c_both a b c d ha hb hc hd, lss, h, hlt]
  · rw [ap_eq _ Try.func18 rfl Try.ntmps18 Try.results18 (by kernel_rfl) rfl (by exact Nat.le_of_ble_eq_true rfl)]
    simp (config := { maxSteps := 1000000 }) only [RUN, PATHS, BASE, FA, POL, start_tm, Heap.empty, reduceIte, Nat.reduceLT, Nat.reduceLeDiff, Nat.reduceEqDiff, Nat.reduceAdd, Nat.reduceSub, Nat.reduceMul, Nat.reduceBEq, Int.reduceLT, Int.reduceLE, Int.reduceEq, Int.reduceNeg, Int.reduceAdd, Int.reduceSub, Int.reduceMul, Bool.false_eq_true, Bool.not_true, Bool.not_false, decide_eq_true_eq, and_self, true_and, and_true, reduceCtorEq, ne_eq, not_false_eq_true, not_true_eq_false, decide_true, decide_false, or_false, false_or, c_both a b c d ha hb hc hd, h]
end Go.Proofs.Ytcdmoilcpkapiaa
