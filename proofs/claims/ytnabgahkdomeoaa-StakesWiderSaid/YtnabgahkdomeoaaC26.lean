/-
  The reference's Settle.
-/
import Derived.Test.YtnabgahkdomeoaaC25
set_option linter.unusedSimpArgs false
set_option linter.unusedVariables false
set_option linter.unusedSectionVars false
namespace Go.Proofs.Ytnabgahkdomeoaa
open Go GoV
set_option maxRecDepth 100000

theorem c_rSettle1 (l : List Stk) (ps : List Pst) (w : List Int) (c c' d : Option Nat) (h : CHK l ps ≠ 0) : ap Try.prog pol 20 [.vs 4 (l.map stk) c, .vs 3 (ps.map pst) c', .vs 1 (w.map I) d] = some (.ret (.tup [.nils, .nils, I 0, I (CHK l ps)])) := by
  have ck := c_refchk l ps c c'
  rw [ap_eq _ Try.func20 rfl Try.ntmps20 Try.results20 (by kernel_rfl) rfl (by exact Nat.le_of_ble_eq_true rfl)]
  simp (config := { maxSteps := 1000000 }) only [RUN, PATHS, BASE, FA, POL, start_tm, Heap.empty, reduceIte, Nat.reduceLT, Nat.reduceLeDiff, Nat.reduceEqDiff, Nat.reduceAdd, Nat.reduceSub, Nat.reduceMul, Nat.reduceBEq, Int.reduceLT, Int.reduceLE, Int.reduceEq, Int.reduceNeg, Int.reduceAdd, Int.reduceSub, Int.reduceMul, Bool.false_eq_true, Bool.not_true, Bool.not_false, decide_eq_true_eq, and_self, true_and, and_true, reduceCtorEq, ne_eq, not_false_eq_true, not_true_eq_false, decide_true, decide_false, or_false, false_or, NUM, SST, SPS, ck, h]
theorem c_rSettle2 (l : List Stk) (ps : List Pst) (w : List Int) (c c' d : Option Nat) (h : CHK l ps = 0) (h2 : CKW 0 w ≠ 0) : ap Try.prog pol 20 [.vs 4 (l.map stk) c, .vs 3 (ps.map pst) c', .vs 1 (w.map I) d] = some (.ret (.tup [.nils, .nils, I 0, I (CKW 0 w)])) := by
  have ck := c_refchk l ps c c'
  have cr := c_rshare 0 w d
  rw [ap_eq _ Try.func20 rfl Try.ntmps20 Try.results20 (by kernel_rfl) rfl (by exact Nat.le_of_ble_eq_true rfl)]
  simp (config := { maxSteps := 1000000 }) only [RUN, PATHS, BASE, FA, POL, start_tm, Heap.empty, reduceIte, Nat.reduceLT, Nat.reduceLeDiff, Nat.reduceEqDiff, Nat.reduceAdd, Nat.reduceSub, Nat.reduceMul, Nat.reduceBEq, Int.reduceLT, Int.reduceLE, Int.reduceEq, Int.reduceNeg, Int.reduceAdd, Int.reduceSub, Int.reduceMul, Bool.false_eq_true, Bool.not_true, Bool.not_false, decide_eq_true_eq, and_self, true_and, and_true, reduceCtorEq, ne_eq, not_false_eq_true, not_true_eq_false, decide_true, decide_false, or_false, false_or, NUM, SST, SPS, SIN, ck, h, cr, h2]
/-- What is paid so far. -/
def PD (v : List Int) (t : PV) (s : St) : Prop := (v = [] ∧ t = .vs 1 [] (some 0) ∧ s.H.next = 1) ∨ (0 < v.length ∧ t = .gsl 1 1 v.length 0 v.length ∧ s.H.rows 1 = some (.gro 1 (v.map I) 0))
theorem c_rSettle3 (l : List Stk) (ps : List Pst) (w : List Int) (c c' d : Option Nat) (h : CHK l ps = 0) (h2 : CKW 0 w = 0) : ∃ cp, ap Try.prog pol 20 [.vs 4 (l.map stk) c, .vs 3 (ps.map pst) c', .vs 1 (w.map I) d] =
    some (.ret (.tup [.vs 1 ((PAID l ps).map I) cp, .vs 1 ((OUTS (SUMI (PAID l ps)) w).map I) none, I (REST (SUMI (PAID l ps)) w), I 0])) := by
  have ck := c_refchk l ps c c'
  have cr := c_rshare 0 w d
  obtain ⟨⟨hl, hg⟩, ⟨hp, ok⟩, hi⟩ := CHK_0 h
  rw [ap_eq _ Try.func20 rfl Try.ntmps20 Try.results20 (by kernel_rfl) rfl (by exact Nat.le_of_ble_eq_true rfl)]
  simp (config := { maxSteps := 1000000 }) only [RUN, PATHS, BASE, FA, POL, start_tm, Heap.empty, reduceIte, Nat.reduceLT, Nat.reduceLeDiff, Nat.reduceEqDiff, Nat.reduceAdd, Nat.reduceSub, Nat.reduceMul, Nat.reduceBEq, Int.reduceLT, Int.reduceLE, Int.reduceEq, Int.reduceNeg, Int.reduceAdd, Int.reduceSub, Int.reduceMul, Bool.false_eq_true, Bool.not_true, Bool.not_false, decide_eq_true_eq, and_self, true_and, and_true, reduceCtorEq, ne_eq, not_false_eq_true, not_true_eq_false, decide_true, decide_false, or_false, false_or, NUM, SST, SPS, SIN, ck, h, cr, h2]
  generalize hL : W _ (.loop _) _ = L
  obtain ⟨ex, s, rfl, rfl, hpd, h2', hd, hf⟩ := loop_at hL (α := Nat) (fun j => l.length - j)
    (fun s0 j s => j ≤ l.length ∧ s.tmps 12 = I j ∧ PD (PAID (l.take j) ps) (s.tmps 11) s ∧ s.tmps 0 = .vs 4 (l.map stk) c ∧ s.tmps 1 = .vs 3 (ps.map pst) c' ∧ s.tmps 2 = .vs 1 (w.map I) d ∧ s.defers = [] ∧ s.fid = 0)
    (fun s0 ex s => ex = .exit 0 ∧ PD (PAID l ps) (s.tmps 11) s ∧ s.tmps 2 = .vs 1 (w.map I) d ∧ s.defers = [] ∧ s.fid = 0) 0
    (by simp (config := { maxSteps := 1000000 }) only [RUN, PATHS, BASE, FA, POL, start_tm, Heap.empty, reduceIte, Nat.reduceLT, Nat.reduceLeDiff, Nat.reduceEqDiff, Nat.reduceAdd, Nat.reduceSub, Nat.reduceMul, Nat.reduceBEq, Int.reduceLT, Int.reduceLE, Int.reduceEq, Int.reduceNeg, Int.reduceAdd, Int.reduceSub, Int.reduceMul, Bool.false_eq_true, Bool.not_true, Bool.not_false, decide_eq_true_eq, and_self, true_and, and_true, reduceCtorEq, ne_eq, not_false_eq_true, not_true_eq_false, decide_true, decide_false, or_false, false_or, List.take_zero]
        exact ⟨Nat.zero_le _, rfl, .inl ⟨rfl, rfl, rfl⟩⟩) (by
      rintro j s r0 hW ⟨hj, h12, hpd, h0, h1, h2', hd, hf⟩
      by_cases hpl : j < l.length
      · have e0 : l[j]? = some l[j] := List.getElem?_eq_getElem hpl
        have e1 := map_get (f := stk) e0
        have ox := GOOD_in hg e0
        have pt := PAID_take (ps := ps) e0
        have lp : (PAID (l.take j) ps).length = j := by simp [PAID]; omega
        generalize l[j] = x at *
        have cf := c_refforfeit x ox ps c' hi ok hp
        rcases hpd with ⟨z1, z2, z3⟩ | ⟨z1, z2, z3⟩
        · have j0 : j = 0 := by rw [z1] at lp; simpa using lp.symm
          simp (config := { maxSteps := 1000000 }) only [RUN, PATHS, BASE, FA, POL, start_tm, Heap.empty, reduceIte, Nat.reduceLT, Nat.reduceLeDiff, Nat.reduceEqDiff, Nat.reduceAdd, Nat.reduceSub, Nat.reduceMul, Nat.reduceBEq, Int.reduceLT, Int.reduceLE, Int.reduceEq, Int.reduceNeg, Int.reduceAdd, Int.reduceSub, Int.reduceMul, Bool.false_eq_true, Bool.not_true, Bool.not_false, decide_eq_true_eq, and_self, true_and, and_true, reduceCtorEq, ne_eq, not_false_eq_true, not_true_eq_false, decide_true, decide_false, or_false, false_or, or_self, NUM, SST, SPS, SRG, SIN, h12, z2, z3, h0, h1, h2', hd, hf, e1, cf, List.length_map, Int.toNat_natCast, Nat.zero_le, (show (j : Int) < l.length by omega), (show (0 : Int) ≤ j by omega), i64_in (x := (j : Int) + 1) (by unfold I64; omega)] at hW
          subst hW
          refine rd_next (j + 1) ?_ (show l.length - (j + 1) < l.length - j by omega)
          simp (config := { maxSteps := 1000000 }) only [RUN, PATHS, BASE, FA, POL, start_tm, Heap.empty, reduceIte, Nat.reduceLT, Nat.reduceLeDiff, Nat.reduceEqDiff, Nat.reduceAdd, Nat.reduceSub, Nat.reduceMul, Nat.reduceBEq, Int.reduceLT, Int.reduceLE, Int.reduceEq, Int.reduceNeg, Int.reduceAdd, Int.reduceSub, Int.reduceMul, Bool.false_eq_true, Bool.not_true, Bool.not_false, decide_eq_true_eq, and_self, true_and, and_true, reduceCtorEq, ne_eq, not_false_eq_true, not_true_eq_false, decide_true, decide_false, or_false, false_or, h0, h1, h2', pt, z1, List.nil_append]
          refine ⟨by omega, by simp, .inr ⟨by simp, rfl, ?_⟩⟩
          simp (config := { maxSteps := 1000000 }) only [RUN, PATHS, BASE, FA, POL, start_tm, Heap.empty, reduceIte, Nat.reduceLT, Nat.reduceLeDiff, Nat.reduceEqDiff, Nat.reduceAdd, Nat.reduceSub, Nat.reduceMul, Nat.reduceBEq, Int.reduceLT, Int.reduceLE, Int.reduceEq, Int.reduceNeg, Int.reduceAdd, Int.reduceSub, Int.reduceMul, Bool.false_eq_true, Bool.not_true, Bool.not_false, decide_eq_true_eq, and_self, true_and, and_true, reduceCtorEq, ne_eq, not_false_eq_true, not_true_eq_false, decide_true, decide_false, or_false, false_or, z3]
        · rw [lp] at z1 z2
          simp (config := { maxSteps := 1000000 }) only [RUN, PATHS, BASE, FA, POL, start_tm, Heap.empty, reduceIte, Nat.reduceLT, Nat.reduceLeDiff, Nat.reduceEqDiff, Nat.reduceAdd, Nat.reduceSub, Nat.reduceMul, Nat.reduceBEq, Int.reduceLT, Int.reduceLE, Int.reduceEq, Int.reduceNeg, Int.reduceAdd, Int.reduceSub, Int.reduceMul, Bool.false_eq_true, Bool.not_true, Bool.not_false, decide_eq_true_eq, and_self, true_and, and_true, reduceCtorEq, ne_eq, not_false_eq_true, not_true_eq_false, decide_true, decide_false, or_false, false_or, NUM, SST, SPS, SRG, SIN, h12, z2, z3, lp, h0, h1, h2', hd, hf, e1, cf, List.length_map, Int.toNat_natCast, Nat.zero_le, (show (j : Int) < l.length by omega), (show (0 : Int) ≤ j by omega), i64_in (x := (j : Int) + 1) (by unfold I64; omega), (show j + 1 ≤ 67108864 by omega)] at hW
          subst hW
          refine rd_next (j + 1) ?_ (show l.length - (j + 1) < l.length - j by omega)
          simp (config := { maxSteps := 1000000 }) only [RUN, PATHS, BASE, FA, POL, start_tm, Heap.empty, reduceIte, Nat.reduceLT, Nat.reduceLeDiff, Nat.reduceEqDiff, Nat.reduceAdd, Nat.reduceSub, Nat.reduceMul, Nat.reduceBEq, Int.reduceLT, Int.reduceLE, Int.reduceEq, Int.reduceNeg, Int.reduceAdd, Int.reduceSub, Int.reduceMul, Bool.false_eq_true, Bool.not_true, Bool.not_false, decide_eq_true_eq, and_self, true_and, and_true, reduceCtorEq, ne_eq, not_false_eq_true, not_true_eq_false, decide_true, decide_false, or_false, false_or, h0, h1, h2', pt]
          refine ⟨by omega, by simp, .inr ⟨by simp, by simp [lp], ?_⟩⟩
          simp (config := { maxSteps := 1000000 }) only [RUN, PATHS, BASE, FA, POL, start_tm, Heap.empty, reduceIte, Nat.reduceLT, Nat.reduceLeDiff, Nat.reduceEqDiff, Nat.reduceAdd, Nat.reduceSub, Nat.reduceMul, Nat.reduceBEq, Int.reduceLT, Int.reduceLE, Int.reduceEq, Int.reduceNeg, Int.reduceAdd, Int.reduceSub, Int.reduceMul, Bool.false_eq_true, Bool.not_true, Bool.not_false, decide_eq_true_eq, and_self, true_and, and_true, reduceCtorEq, ne_eq, not_false_eq_true, not_true_eq_false, decide_true, decide_false, or_false, false_or, List.map_append]
      · simp (config := { maxSteps := 1000000 }) only [RUN, PATHS, BASE, FA, POL, start_tm, Heap.empty, reduceIte, Nat.reduceLT, Nat.reduceLeDiff, Nat.reduceEqDiff, Nat.reduceAdd, Nat.reduceSub, Nat.reduceMul, Nat.reduceBEq, Int.reduceLT, Int.reduceLE, Int.reduceEq, Int.reduceNeg, Int.reduceAdd, Int.reduceSub, Int.reduceMul, Bool.false_eq_true, Bool.not_true, Bool.not_false, decide_eq_true_eq, and_self, true_and, and_true, reduceCtorEq, ne_eq, not_false_eq_true, not_true_eq_false, decide_true, decide_false, or_false, false_or, List.length_map, h12, h0, hd, hf, (show ¬ (j : Int) < l.length by omega)] at hW
        subst hW
        have : j = l.length := by omega
        subst this
        rw [List.take_length] at hpd
        refine rd_exit ⟨rfl, ?_⟩
        simp (config := { maxSteps := 1000000 }) only [RUN, PATHS, BASE, FA, POL, start_tm, Heap.empty, reduceIte, Nat.reduceLT, Nat.reduceLeDiff, Nat.reduceEqDiff, Nat.reduceAdd, Nat.reduceSub, Nat.reduceMul, Nat.reduceBEq, Int.reduceLT, Int.reduceLE, Int.reduceEq, Int.reduceNeg, Int.reduceAdd, Int.reduceSub, Int.reduceMul, Bool.false_eq_true, Bool.not_true, Bool.not_false, decide_eq_true_eq, and_self, true_and, and_true, reduceCtorEq, ne_eq, not_false_eq_true, not_true_eq_false, decide_true, decide_false, or_false, false_or, h2']
        exact hpd)
  have bt : ∀ j, I64 (SUMI ((PAID l ps).take j)) := fun j => by
    have e : (PAID l ps).take j = PAID (l.take j) ps := by simp [PAID]
    have := PAID_sum hg ok j
    rw [e]; unfold I64; omega
  have b0 := PAID_sum hg ok l.length
  rw [List.take_length] at b0
  have cw := CKW_T h2 (T := SUMI (PAID l ps)) (by omega)
  have cs := c_rShare (SUMI (PAID l ps)) w d
  rw [SHV_ok cw] at cs
  have lp : (PAID l ps).length = l.length := by simp [PAID]
  rcases hpd with ⟨z1, z2, z3⟩ | ⟨z1, z2, z3⟩
  · have sm := c_sumV (PAID l ps) (some 0) bt (by omega) s.H
    rw [z1] at sm cs ⊢
    rw [List.map_nil] at sm
    refine ⟨some 0, ?_⟩
    simp (config := { maxSteps := 1000000 }) only [RUN, PATHS, BASE, FA, POL, start_tm, Heap.empty, reduceIte, Nat.reduceLT, Nat.reduceLeDiff, Nat.reduceEqDiff, Nat.reduceAdd, Nat.reduceSub, Nat.reduceMul, Nat.reduceBEq, Int.reduceLT, Int.reduceLE, Int.reduceEq, Int.reduceNeg, Int.reduceAdd, Int.reduceSub, Int.reduceMul, Bool.false_eq_true, Bool.not_true, Bool.not_false, decide_eq_true_eq, and_self, true_and, and_true, reduceCtorEq, ne_eq, not_false_eq_true, not_true_eq_false, decide_true, decide_false, or_false, false_or, NUM, SIN, z2, h2', hd, hf, sm, cs]
  · have sm := c_sumG (PAID l ps) 1 bt (by omega) s.H z3
    refine ⟨none, ?_⟩
    rw [lp] at z2 sm
    simp (config := { maxSteps := 1000000 }) only [RUN, PATHS, BASE, FA, POL, start_tm, Heap.empty, reduceIte, Nat.reduceLT, Nat.reduceLeDiff, Nat.reduceEqDiff, Nat.reduceAdd, Nat.reduceSub, Nat.reduceMul, Nat.reduceBEq, Int.reduceLT, Int.reduceLE, Int.reduceEq, Int.reduceNeg, Int.reduceAdd, Int.reduceSub, Int.reduceMul, Bool.false_eq_true, Bool.not_true, Bool.not_false, decide_eq_true_eq, and_self, true_and, and_true, reduceCtorEq, ne_eq, not_false_eq_true, not_true_eq_false, decide_true, decide_false, or_false, false_or, NUM, SIN, z2, z3, h2', hd, hf, sm, cs, lp, List.length_map, Nat.zero_add, Nat.le_refl]
    rw [List.take_of_length_le (by rw [List.length_map, lp]; exact Nat.le_refl _), SIN.2.2.1]
end Go.Proofs.Ytnabgahkdomeoaa
