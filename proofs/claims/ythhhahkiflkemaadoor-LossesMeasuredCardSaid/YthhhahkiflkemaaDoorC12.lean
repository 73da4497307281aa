/-
  The laws' own examples.
-/
import Derived.Test.YthhhahkiflkemaaDoorC11
set_option linter.unusedSimpArgs false
set_option linter.unusedVariables false
set_option linter.unusedSectionVars false
namespace Go.Proofs.YthhhahkiflkemaaDoor
open Go GoV
set_option maxRecDepth 100000

theorem c_half : ap Tryd.prog pol 31 [] = some (.ret (rat 1 2)) := by
  rw [ap_eq _ Tryd.func31 rfl Tryd.ntmps31 Tryd.results31 (by kernel_rfl) rfl (by exact Nat.le_of_ble_eq_true rfl)]
  simp (config := { maxSteps := 1000000 }) only [RUN, PATHS, BASE, FA, POL, start_tm, Heap.empty, reduceIte, Nat.reduceLT, Nat.reduceLeDiff, Nat.reduceEqDiff, Nat.reduceAdd, Nat.reduceSub, Nat.reduceMul, Nat.reduceBEq, Int.reduceLT, Int.reduceLE, Int.reduceEq, Int.reduceNeg, Int.reduceAdd, Int.reduceSub, Int.reduceMul, Bool.false_eq_true, Bool.not_true, Bool.not_false, decide_eq_true_eq, and_self, true_and, and_true, reduceCtorEq, ne_eq, not_false_eq_true, not_true_eq_false, decide_true, decide_false, or_false, false_or, NUM]
def DIT : Rch := ⟨.empty, 0, 0, 0, 0, 0, 1, 2, 0, 1, 1, 10⟩
theorem c_ditch : ap Tryd.prog pol 32 [] = some (.ret (.agg [.str .empty, I 0, I 0, I 0, I 0, I 0, I 1, I 2, I 0, I 1, I 1, I 10])) := by
  rw [ap_eq _ Tryd.func32 rfl Tryd.ntmps32 Tryd.results32 (by kernel_rfl) rfl (by exact Nat.le_of_ble_eq_true rfl)]
  simp (config := { maxSteps := 1000000 }) only [RUN, PATHS, BASE, FA, POL, start_tm, Heap.empty, reduceIte, Nat.reduceLT, Nat.reduceLeDiff, Nat.reduceEqDiff, Nat.reduceAdd, Nat.reduceSub, Nat.reduceMul, Nat.reduceBEq, Int.reduceLT, Int.reduceLE, Int.reduceEq, Int.reduceNeg, Int.reduceAdd, Int.reduceSub, Int.reduceMul, Bool.false_eq_true, Bool.not_true, Bool.not_false, decide_eq_true_eq, and_self, true_and, and_true, reduceCtorEq, ne_eq, not_false_eq_true, not_true_eq_false, decide_true, decide_false, or_false, false_or, NUM]
def ONE : Rch := ⟨.empty, 0, 0, 0, 0, 0, 0, 0, 1, 1, 1, 1⟩
theorem DIT_OK : DIT.OK := by unfold Rch.OK I64 DIT; simp
theorem ONE_OK : ONE.OK := by unfold Rch.OK I64 ONE; simp
def S0 : Srv := ⟨100, 1, 1, 2, 1, 1, [⟨24, 48⟩], [⟨1048576, 2, 256, 4096⟩]⟩
theorem S0_OK : S0.OK := by unfold Srv.OK I64 S0; simp
theorem eq_seep (a b c d a' b' c' d' : Int) (xo yo : Operand) : binPV Tryd.prog .eql 24 xo yo (.agg [I a, I b, I c, I d]) (.agg [I a', I b', I c', I d']) = some (.bool (decide (a = a' ∧ b = b' ∧ c = c' ∧ d = d'))) ∧ binPV Tryd.prog .neq 24 xo yo (.agg [I a, I b, I c, I d]) (.agg [I a', I b', I c', I d']) = some (.bool (decide (¬ (a = a' ∧ b = b' ∧ c = c' ∧ d = d')))) := by
  refine bin_agg (by kernel_rfl) (fun n => ?_) xo yo
  have g2 : Tryd.prog.stoodInHeld 24 = false := by kernel_rfl
  have g3 : Tryd.prog.stoodInHeld 23 = false := by kernel_rfl
  simp only [eqPV, Tryd.underlying24, Tryd.underlying23, g3, eqAs, eqFs, partPV, FA, List.range', Option.bind_some, Bool.false_eq_true, if_false, List.drop, List.take, Nat.zero_mul, Nat.zero_add, Nat.one_mul, List.getElem?_cons_zero, List.getElem?_cons_succ, if_true, String.reduceEq]
  by_cases h1 : a = a' <;> by_cases h2 : b = b' <;> by_cases h3 : c = c' <;> by_cases h4 : d = d' <;> simp [h1, h2, h3, h4]
theorem z_check : ap Tryd.prog pol 33 [.agg [I 0, I 0, I 0, I 0, I 0, I 0, .nils, .nils], I 1] = some (.ret (I 210)) := by
  have cs := c_shares 0 0 0 0 (by unfold I64; decide) (by unfold I64; decide) (by unfold I64; decide) (by unfold I64; decide)
  rw [decide_eq_false (by unfold SHS SH VALID; omega)] at cs
  rw [ap_eq _ Tryd.func33 rfl Tryd.ntmps33 Tryd.results33 (by kernel_rfl) rfl (by exact Nat.le_of_ble_eq_true rfl)]
  simp (config := { maxSteps := 1000000 }) only [RUN, PATHS, BASE, FA, POL, start_tm, Heap.empty, reduceIte, Nat.reduceLT, Nat.reduceLeDiff, Nat.reduceEqDiff, Nat.reduceAdd, Nat.reduceSub, Nat.reduceMul, Nat.reduceBEq, Int.reduceLT, Int.reduceLE, Int.reduceEq, Int.reduceNeg, Int.reduceAdd, Int.reduceSub, Int.reduceMul, Bool.false_eq_true, Bool.not_true, Bool.not_false, decide_eq_true_eq, and_self, true_and, and_true, reduceCtorEq, ne_eq, not_false_eq_true, not_true_eq_false, decide_true, decide_false, or_false, false_or, NUM, WW_loop, c_in, cs]
theorem z_evap : ap Tryd.prog pol 13 [.agg [I 0, I 0, I 0, I 0, I 0, I 0, .nils, .nils], I 1] = some (.ret (.tup [rng 0 0, I 210])) := by
  rw [ap_eq _ Tryd.func13 rfl Tryd.ntmps13 Tryd.results13 (by kernel_rfl) rfl (by exact Nat.le_of_ble_eq_true rfl)]
  simp (config := { maxSteps := 1000000 }) only [RUN, PATHS, BASE, FA, POL, start_tm, Heap.empty, reduceIte, Nat.reduceLT, Nat.reduceLeDiff, Nat.reduceEqDiff, Nat.reduceAdd, Nat.reduceSub, Nat.reduceMul, Nat.reduceBEq, Int.reduceLT, Int.reduceLE, Int.reduceEq, Int.reduceNeg, Int.reduceAdd, Int.reduceSub, Int.reduceMul, Bool.false_eq_true, Bool.not_true, Bool.not_false, decide_eq_true_eq, and_self, true_and, and_true, reduceCtorEq, ne_eq, not_false_eq_true, not_true_eq_false, decide_true, decide_false, or_false, false_or, NUM, z_check]
theorem s_evap : ap Tryd.prog pol 13 [.agg [I 100, I 1, I 1, I 2, I 1, I 1, .vs 2 [.agg [I 24, I 48]] (some 1), .vs 4 [.agg [I 1048576, I 2, I 256, I 4096]] (some 1)], I 1] = some (.ret (.tup [rng 5 20, I 0])) := (c_evap S0 S0_OK _ _ 1).trans (by kernel_rfl)
theorem s_seep : ap Tryd.prog pol 15 [.agg [I 100, I 1, I 1, I 2, I 1, I 1, .vs 2 [.agg [I 24, I 48]] (some 1), .vs 4 [.agg [I 1048576, I 2, I 256, I 4096]] (some 1)], I 1] = some (.ret (.tup [.agg [I 1, I 8192, I 1, I 2048], I 0])) := (c_seep S0 S0_OK _ _ 1).trans (by kernel_rfl)
theorem s_seep0 : ap Tryd.prog pol 15 [.agg [I 100, I 1, I 1, I 2, I 1, I 1, .vs 2 [.agg [I 24, I 48]] (some 1), .vs 4 [.agg [I 1048576, I 2, I 256, I 4096]] (some 1)], I 0] = some (.ret (.tup [.agg [I 0, I 0, I 0, I 0], I 1])) := (c_seep S0 S0_OK _ _ 0).trans (by kernel_rfl)
theorem s_lost : ap Tryd.prog pol 17 [.agg [.str .empty, I 0, I 0, I 0, I 0, I 0, I 1, I 2, I 0, I 1, I 1, I 10], I 15] = some (.ret (.tup [rng 1 4, I 0])) := (c_Lost DIT DIT_OK 15).trans (by kernel_rfl)
theorem s_worst : ap Tryd.prog pol 19 [.agg [.str .empty, I 0, I 0, I 0, I 0, I 0, I 1, I 2, I 0, I 1, I 1, I 10], I 15] = some (.ret (.tup [I 11, I 0])) := (c_Worst DIT DIT_OK 15).trans (by kernel_rfl)
theorem s_best : ap Tryd.prog pol 21 [.agg [.str .empty, I 0, I 0, I 0, I 0, I 0, I 1, I 2, I 0, I 1, I 1, I 10], I 15] = some (.ret (.tup [I 14, I 0])) := (c_Best DIT DIT_OK 15).trans (by kernel_rfl)
theorem s_worst1 : ap Tryd.prog pol 19 [.agg [.str .empty, I 0, I 0, I 0, I 0, I 0, I 1, I 2, I 0, I 1, I 1, I 10], I (-1)] = some (.ret (.tup [I 0, I 1])) := (c_Worst DIT DIT_OK (-1)).trans (by kernel_rfl)
theorem IsL_at {p : Int → Prop} {n r k : Int} (h : IsL p n r) (h0 : 1 ≤ k) (h1 : k < n) (hk : p k) (hj : ¬ p (k - 1)) : r = k := by
  have a := h.lo
  by_cases h2 : r < k
  · exact absurd (h.yes (k - 1) (by omega) (by omega)) hj
  · by_cases h3 : k < r
    · exact absurd hk (h.no k (by omega) h3)
    · omega
theorem s_need : ap Tryd.prog pol 23 [.agg [.str .empty, I 0, I 0, I 0, I 0, I 0, I 1, I 2, I 0, I 1, I 1, I 10], I 11] = some (.ret (.tup [I 15, .bool true, I 0])) := by
  obtain ⟨R, e, hR⟩ := c_need' DIT DIT_OK 11
  rcases hR with ⟨a, _⟩ | ⟨a, r, hl, hr⟩
  · exact absurd (show VC DIT 11 = 0 by kernel_rfl) a
  · have : r = 15 := IsL_at hl (by decide) (by decide) (by rw [show WO (los DIT) 15 = 11 by kernel_rfl]; decide) (by rw [show WO (los DIT) (15 - 1) = 10 by kernel_rfl]; decide)
    subst this
    rcases hr with ⟨_, rfl⟩ | ⟨h, _⟩
    · exact e
    · omega
theorem s_reach : ap Tryd.prog pol 25 [.agg [.str .empty, I 0, I 0, I 0, I 0, I 0, I 1, I 2, I 0, I 1, I 1, I 10], I 11] = some (.ret (.tup [I 12, .bool true, I 0])) := by
  obtain ⟨R, e, hR⟩ := c_reach' DIT DIT_OK 11
  rcases hR with ⟨a, _⟩ | ⟨a, r, hl, hr⟩
  · exact absurd (show VC DIT 11 = 0 by kernel_rfl) a
  · have : r = 12 := IsL_at hl (by decide) (by decide) (by rw [show BE (los DIT) 12 = 11 by kernel_rfl]; decide) (by rw [show BE (los DIT) (12 - 1) = 10 by kernel_rfl]; decide)
    subst this
    rcases hr with ⟨_, rfl⟩ | ⟨h, _⟩
    · exact e
    · omega
theorem s_most : ap Tryd.prog pol 27 [.agg [.str .empty, I 0, I 0, I 0, I 0, I 0, I 1, I 2, I 0, I 1, I 1, I 10], I 11] = some (.ret (.tup [I 15, I 0])) := by
  rcases c_most DIT DIT_OK 11 with ⟨a, _⟩ | ⟨a, r, hl, e⟩
  · exact absurd (show VC DIT 11 = 0 by kernel_rfl) a
  · have : r = 16 := IsL_at hl (by decide) (by decide) (by rw [show WO (los DIT) 16 = 12 by kernel_rfl]; decide) (by rw [show WO (los DIT) (16 - 1) = 11 by kernel_rfl]; decide)
    subst this
    exact e
theorem s_none : ap Tryd.prog pol 23 [.agg [.str .empty, I 0, I 0, I 0, I 0, I 0, I 0, I 0, I 1, I 1, I 1, I 1], I 1] = some (.ret (.tup [I 0, .bool false, I 0])) := by
  obtain ⟨R, e, hR⟩ := c_need' ONE ONE_OK 1
  rcases hR with ⟨a, _⟩ | ⟨a, r, hl, hr⟩
  · exact absurd (show VC ONE 1 = 0 by kernel_rfl) a
  · rcases hr with ⟨h, _⟩ | ⟨h, rfl⟩
    · exfalso
      have h0 := hl.lo
      have := hl.yes r (Int.le_refl _) (by omega)
      simp only [WO, HI, los, ONE, UPD] at this
      split at this <;> simp at this <;> omega
    · exact e
theorem c_sane : ap Tryd.prog pol 11 [] = some (.ret (.bool true)) := by
  rw [ap_eq _ Tryd.func11 rfl Tryd.ntmps11 Tryd.results11 (by kernel_rfl) rfl (by exact Nat.le_of_ble_eq_true rfl)]
  simp (config := { maxSteps := 1000000 }) only [RUN, PATHS, BASE, FA, POL, start_tm, Heap.empty, reduceIte, Nat.reduceLT, Nat.reduceLeDiff, Nat.reduceEqDiff, Nat.reduceAdd, Nat.reduceSub, Nat.reduceMul, Nat.reduceBEq, Int.reduceLT, Int.reduceLE, Int.reduceEq, Int.reduceNeg, Int.reduceAdd, Int.reduceSub, Int.reduceMul, Bool.false_eq_true, Bool.not_true, Bool.not_false, decide_eq_true_eq, and_self, true_and, and_true, reduceCtorEq, ne_eq, not_false_eq_true, not_true_eq_false, decide_true, decide_false, or_false, false_or, NUM, SRG, SPND, c_half, c_ditch, s_evap, s_seep, s_seep0, z_evap, s_lost, s_worst, s_best, s_worst1, s_need, s_reach, s_most, s_none, eq_rng, eq_seep, and_self]
end Go.Proofs.YthhhahkiflkemaaDoor
