/-
  The simplest number: the statement's own road.
-/
import Derived.Test.YtcdmoilcpkapiaaC7
set_option linter.unusedSimpArgs false
set_option linter.unusedVariables false
set_option linter.unusedSectionVars false
namespace Go.Proofs.Ytcdmoilcpkapiaa
open Go GoV
set_option maxRecDepth 100000

theorem MK_red {x y : Int} (hy : 0 < y) (hg : Nat.gcd x.natAbs y.natAbs = 1) : MK x y = if 1073741824 < max (x.natAbs : Int) y then (0, 0, 2) else (x, y, 0) := by
  unfold MK
  rw [if_neg (by omega), hg]
  simp only [mag_nat, Int.natCast_one, Int.ediv_one]
  rw [show ((y.natAbs : Nat) : Int) = y by omega]
  split
  · rfl
  · by_cases h : x < 0
    · simp [h, show ¬ y < 0 by omega]; omega
    · simp [h, show ¬ y < 0 by omega]; omega
theorem SMP_law {a b c d : Int} (h : VALID a b ∧ VALID c d) (hlt : a * d < c * b) {x y : Int} (hx : x = (SMP a b c d).1) (hy : y = (SMP a b c d).2) :
    0 < y ∧ Nat.gcd x.natAbs y.natAbs = 1 ∧ a * y < x * b ∧ x * d < c * y ∧ ∀ p s : Int, 0 < s → a * s < p * b → p * d < c * s → y ≤ s ∧ x.natAbs ≤ p.natAbs ∧ (s = y → p = x ∨ x.natAbs < p.natAbs) := by
  obtain ⟨k1, k2⟩ := btw_cond h hlt
  have hh := h
  obtain ⟨⟨a1, a2, a3, a4, _⟩, ⟨b1, b2, b3, b4, _⟩⟩ := hh
  unfold SMP at hx hy
  split at hx
  · next hc =>
    rw [if_pos hc] at hy
    simp only at hx hy
    subst hx; subst hy
    refine ⟨by omega, by simp, by omega, by omega, ?_⟩
    intro p s hs _ _
    refine ⟨by omega, by simp, ?_⟩
    intro _
    by_cases hp : p = 0
    · exact .inl hp
    · right; simp; omega
  · next hc =>
    rw [if_neg hc] at hy
    split at hx
    · next h1 =>
      rw [if_pos h1] at hy
      have kk := k2 h1 (by omega)
      obtain ⟨l1, l2, l3, l4, l5, l6⟩ := SIMP_law (d + b).toNat _ _ _ _ kk (by omega) _ rfl
      generalize SIMP (d + b).toNat (-c) d (-a) b = r at *
      obtain ⟨u, v⟩ := r
      simp only at hx hy l1 l2 l3 l4 l5 l6
      subst hx; subst hy
      rw [Int.neg_mul] at l3 l4
      refine ⟨l2, by rw [Int.natAbs_neg]; exact l5, by rw [Int.neg_mul]; omega, by rw [Int.neg_mul]; omega, ?_⟩
      intro p s hs g1 g2
      have m := l6 (-p) s hs (by rw [Int.neg_mul, Int.neg_mul]; omega) (by rw [Int.neg_mul, Int.neg_mul]; omega)
      exact ⟨m.2, by omega, by omega⟩
    · next h1 =>
      rw [if_neg h1] at hy
      have kk := k1 h1
      obtain ⟨l1, l2, l3, l4, l5, l6⟩ := SIMP_law (b + d).toNat _ _ _ _ kk (by omega) _ rfl
      rw [← hx, ← hy] at *
      refine ⟨l2, l5, l3, l4, ?_⟩
      intro p s hs g1 g2
      have m := l6 p s hs g1 g2
      exact ⟨m.2, by omega, by omega⟩
theorem CMPR_val {a b c d : Int} (h : VALID a b ∧ VALID c d) : CMPR a b c d = (CMP (a * d) (c * b), 0) := by
  obtain ⟨p1, p2, _, _⟩ := wrap_prod h
  unfold CMPR; rw [if_pos h, p1, p2]
theorem c_alls (cap : Option Nat) : ap Try.prog pol 23 [.vs 1 [I 0, I 0] cap] = some (.ret (.bool true)) ∧ ap Try.prog pol 23 [.vs 1 [I 0, I 0, I 0] cap] = some (.ret (.bool true)) ∧
    ap Try.prog pol 23 [.vs 1 [I 0, I 0, I 0, I 0] cap] = some (.ret (.bool true)) ∧ ap Try.prog pol 23 [.vs 1 [I 0, I 0, I 0, I 0, I 0, I 0, I 0, I 0, I 0] cap] = some (.ret (.bool true)) :=
  ⟨c_all0 _ _ (by decide) (by simp), c_all0 _ _ (by decide) (by simp), c_all0 _ _ (by decide) (by simp), c_all0 _ _ (by decide) (by simp)⟩
theorem VALID_I64 {a b : Int} (h : VALID a b) : I64 a ∧ I64 b := by
  obtain ⟨h1, h2, h3, h4, _⟩ := h
  unfold I64; omega
set_option maxHeartbeats 4000000 in
theorem w_simplest (a b c d p s : Int) (ha : I64 a) (hb : I64 b) (hc : I64 c) (hd : I64 d) (hp : I64 p) (hs : I64 s) : ap Try.prog pol 5 [rat a b, rat c d, rat p s] = some (.ret (.bool true)) := by
  by_cases h : VALID a b ∧ VALID c d
  · by_cases hv : VALID p s
    · have lss := c_less a b c d ha hb hc hd
      obtain ⟨p1, p2, _, _⟩ := wrap_prod h
      rw [p1, p2] at lss
      by_cases hlt : a * d < c * b
      · have e1 : CMPR a b p s = (CMP (a * s) (p * b), 0) := CMPR_val ⟨h.1, hv⟩
        have e2 : CMPR p s c d = (CMP (p * d) (c * s), 0) := CMPR_val ⟨hv, h.2⟩
        obtain ⟨l1, l2, l3, l4, l5⟩ := SMP_law h hlt rfl rfl
        have eB : BTW a b c d = MK (SMP a b c d).1 (SMP a b c d).2 := by unfold BTW; rw [if_pos h, if_pos hlt]
        generalize (SMP a b c d).1 = x at *
        generalize (SMP a b c d).2 = y at *
        have l6 := l5 p s hv.1
        rw [MK_red l1 l2] at eB
        have hn1 := hv.2
        have t1 : CMP (a * s) (p * b) = -1 ↔ a * s < p * b := by unfold CMP; split <;> simp [*]; split <;> simp
        have t2 : CMP (p * d) (c * s) = -1 ↔ p * d < c * s := by unfold CMP; split <;> simp [*]; split <;> simp
        by_cases hbig : 1073741824 < max (x.natAbs : Int) y
        · rw [if_pos hbig] at eB
          have nb : ¬ (a * s < p * b ∧ p * d < c * s) := by
            rintro ⟨g1, g2⟩
            have := l6 g1 g2
            obtain ⟨v1, v2, v3, v4, _⟩ := hv
            omega
          rw [ap_eq _ Try.func5 rfl Try.ntmps5 Try.results5 (by kernel_rfl) rfl (by exact Nat.le_of_ble_eq_true rfl)]
          simp (config := { maxSteps := 1000000 }) only [RUN, PATHS, BASE, FA, POL, start_tm, Heap.empty, reduceIte, Nat.reduceLT, Nat.reduceLeDiff, Nat.reduceEqDiff, Nat.reduceAdd, Nat.reduceSub, Nat.reduceMul, Nat.reduceBEq, Int.reduceLT, Int.reduceLE, Int.reduceEq, Int.reduceNeg, Int.reduceAdd, Int.reduceSub, Int.reduceMul, Bool.false_eq_true, Bool.not_true, Bool.not_false, decide_eq_true_eq, and_self, true_and, and_true, reduceCtorEq, ne_eq, not_false_eq_true, not_true_eq_false, decide_true, decide_false, or_false, false_or, c_sane, c_both a b c d ha hb hc hd, h, c_valid p s hp hs, hv, lss, hlt, c_btw a b c d ha hb hc hd, eB, c_cmp a b p s ha hb hp hs, e1, c_cmp p s c d hp hs hc hd, e2, c_alls, t1, t2, eq_rat]
          split
          · next g1 =>
            have g3 : ¬ p * d < c * s := fun g2 => nb ⟨g1, g2⟩
            rw [decide_eq_true g3]
          · rfl
        · rw [if_neg hbig] at eB
          have hvr : VALID x y := ⟨by omega, by omega, by omega, by omega, l2⟩
          have ⟨hx, hy⟩ := VALID_I64 hvr
          have e3 : CMPR a b x y = (-1, 0) := by rw [CMPR_val ⟨h.1, hvr⟩]; unfold CMP; rw [if_pos l3]
          have e4 : CMPR x y c d = (-1, 0) := by rw [CMPR_val ⟨hvr, h.2⟩]; unfold CMP; rw [if_pos l4]
          rw [ap_eq _ Try.func5 rfl Try.ntmps5 Try.results5 (by kernel_rfl) rfl (by exact Nat.le_of_ble_eq_true rfl)]
          simp (config := { maxSteps := 1000000 }) only [RUN, PATHS, BASE, FA, POL, start_tm, Heap.empty, reduceIte, Nat.reduceLT, Nat.reduceLeDiff, Nat.reduceEqDiff, Nat.reduceAdd, Nat.reduceSub, Nat.reduceMul, Nat.reduceBEq, Int.reduceLT, Int.reduceLE, Int.reduceEq, Int.reduceNeg, Int.reduceAdd, Int.reduceSub, Int.reduceMul, Bool.false_eq_true, Bool.not_true, Bool.not_false, decide_eq_true_eq, and_self, true_and, and_true, reduceCtorEq, ne_eq, not_false_eq_true, not_true_eq_false, decide_true, decide_false, or_false, false_or, c_sane, c_both a b c d ha hb hc hd, h, c_valid p s hp hs, hv, lss, hlt, c_btw a b c d ha hb hc hd, eB, c_cmp a b p s ha hb hp hs, e1, c_cmp p s c d hp hs hc hd, e2, c_alls, t1, t2, eq_rat, c_cmp a b x y ha hb hx hy, e3, c_cmp x y c d hx hy hc hd, e4]
          split
          · next g1 =>
            split
            · rfl
            · next g2 =>
              obtain ⟨m1, m2, m3⟩ := l6 g1 (by simpa using g2)
              split
              · rfl
              · next g3 =>
                split
                · rfl
                · next g4 =>
                  have g5 : s = y := by omega
                  rw [if_pos g5]
                  obtain ⟨v1, v2, v3, v4, _⟩ := hv
                  obtain ⟨u1, u2, u3, u4, _⟩ := hvr
                  have m4 : x.natAbs < p.natAbs := (m3 g5).resolve_left fun e => g3 ⟨e, g5⟩
                  rw [i64_in (x := 0 - x) (by unfold I64; omega), i64_in (x := 0 - p) (by unfold I64; omega)]
                  rw [decide_eq_true (by omega)]
          · rfl
      · rw [ap_eq _ Try.func5 rfl Try.ntmps5 Try.results5 (by kernel_rfl) rfl (by exact Nat.le_of_ble_eq_true rfl)]
        simp (config := { maxSteps := 1000000 }) only [RUN, PATHS, BASE, FA, POL, start_tm, Heap.empty, reduceIte, Nat.reduceLT, Nat.reduceLeDiff, Nat.reduceEqDiff, Nat.reduceAdd, Nat.reduceSub, Nat.reduceMul, Nat.reduceBEq, Int.reduceLT, Int.reduceLE, Int.reduceEq, Int.reduceNeg, Int.reduceAdd, Int.reduceSub, Int.reduceMul, Bool.false_eq_true, Bool.not_true, Bool.not_false, decide_eq_true_eq, and_self, true_and, and_true, reduceCtorEq, ne_eq, not_false_eq_true, not_true_eq_false, decide_true, decide_false, or_false, false_or, c_sane, c_both a b c d ha hb hc hd, h, c_valid p s hp hs, hv, lss, hlt]
    · rw [ap_eq _ Try.func5 rfl Try.ntmps5 Try.results5 (by kernel_rfl) rfl (by exact Nat.le_of_ble_eq_true rfl)]
      simp (config := { maxSteps := 1000000 }) only [RUN, PATHS, BASE, FA, POL, start_tm, Heap.empty, reduceIte, Nat.reduceLT, Nat.reduceLeDiff, Nat.reduceEqDiff, Nat.reduceAdd, Nat.reduceSub, Nat.reduceMul, Nat.reduceBEq, Int.reduceLT, Int.reduceLE, Int.reduceEq, Int.reduceNeg, Int.reduceAdd, Int.reduceSub, Int.reduceMul, Bool.false_eq_true, Bool.not_true, Bool.not_false, decide_eq_true_eq, and_self, true_and, and_true, reduceCtorEq, ne_eq, not_false_eq_true, not_true_eq_false, decide_true, decide_false, or_false, false_or, c_sane, c_both a b c d ha hb hc hd, h, c_valid p s hp hs, hv]
  · rw [ap_eq _ Try.func5 rfl Try.ntmps5 Try.results5 (by kernel_rfl) rfl (by exact Nat.le_of_ble_eq_true rfl)]
    simp (config := { maxSteps := 1000000 }) only [RUN, PATHS, BASE, FA, POL, start_tm, Heap.empty, reduceIte, Nat.reduceLT, Nat.reduceLeDiff, Nat.reduceEqDiff, Nat.reduceAdd, Nat.reduceSub, Nat.reduceMul, Nat.reduceBEq, Int.reduceLT, Int.reduceLE, Int.reduceEq, Int.reduceNeg, Int.reduceAdd, Int.reduceSub, Int.reduceMul, Bool.false_eq_true, Bool.not_true, Bool.not_false, decide_eq_true_eq, and_self, true_and, and_true, reduceCtorEq, ne_eq, not_false_eq_true, not_true_eq_false, decide_true, decide_false, or_false, false_or, c_sane, c_both a b c d ha hb hc hd, h]
end Go.Proofs.Ytcdmoilcpkapiaa
