/-
  The laws that compare with the specification: what they compute.
-/
import Derived.Test.YtaggpjlkapnonaaC23
set_option linter.unusedSimpArgs false
set_option linter.unusedVariables false
set_option linter.unusedSectionVars false
namespace Go.Proofs.Ytaggpjlkapnonaa
open Go GoV
set_option maxRecDepth 100000

theorem c_few19 (D : Dis) (ws : List Wel) : ∃ b, ap Try.prog pol 26 [dv D ws] = some (.ret (.bool b)) ∧ (b = true → D.ds.length ≤ 300) := by
  rw [ap_eq _ Try.func26 rfl Try.ntmps26 Try.results26 (by kernel_rfl) rfl (by exact Nat.le_of_ble_eq_true rfl)]
  simp (config := { maxSteps := 1000000 }) only [RUN, PATHS, BASE, FA, POL, start_tm, Heap.empty, reduceIte, Nat.reduceLT, Nat.reduceLeDiff, Nat.reduceEqDiff, Nat.reduceAdd, Nat.reduceSub, Nat.reduceMul, Nat.reduceBEq, Int.reduceLT, Int.reduceLE, Int.reduceEq, Int.reduceNeg, Int.reduceAdd, Int.reduceSub, Int.reduceMul, Bool.false_eq_true, Bool.not_true, Bool.not_false, decide_eq_true_eq, and_self, true_and, and_true, reduceCtorEq, ne_eq, not_false_eq_true, not_true_eq_false, decide_true, decide_false, or_false, false_or, NUM, List.length_map, b_and]
  exact ⟨_, rfl, fun h => by have := of_decide_eq_true h; omega⟩
theorem c_few (D : Dis) (ws : List Wel) (l : List Don) : ∃ b, ap Try.prog pol 11 [dv D ws, .vs 4 (l.map don) none] = some (.ret (.bool b)) ∧ (b = true → l.length ≤ 1000 ∧ D.ds.length ≤ 300) := by
  obtain ⟨b0, e0, h0⟩ := c_few19 D ws
  rw [ap_eq _ Try.func11 rfl Try.ntmps11 Try.results11 (by kernel_rfl) rfl (by exact Nat.le_of_ble_eq_true rfl)]
  cases b0 with
  | false =>
    simp (config := { maxSteps := 1000000 }) only [RUN, PATHS, BASE, FA, POL, start_tm, Heap.empty, reduceIte, Nat.reduceLT, Nat.reduceLeDiff, Nat.reduceEqDiff, Nat.reduceAdd, Nat.reduceSub, Nat.reduceMul, Nat.reduceBEq, Int.reduceLT, Int.reduceLE, Int.reduceEq, Int.reduceNeg, Int.reduceAdd, Int.reduceSub, Int.reduceMul, Bool.false_eq_true, Bool.not_true, Bool.not_false, decide_eq_true_eq, and_self, true_and, and_true, reduceCtorEq, ne_eq, not_false_eq_true, not_true_eq_false, decide_true, decide_false, or_false, false_or, NUM, SRCH, SFRM, SCRP, SRGT, SDTY, SWEL, SDON, SCLM, e0]
    exact ⟨_, rfl, by simp⟩
  | true =>
  have h0 := h0 rfl
  by_cases a1 : (100 : Int) < l.length
  · by_cases a2 : (l.length : Int) ≤ 512
    · simp (config := { maxSteps := 1000000 }) only [RUN, PATHS, BASE, FA, POL, start_tm, Heap.empty, reduceIte, Nat.reduceLT, Nat.reduceLeDiff, Nat.reduceEqDiff, Nat.reduceAdd, Nat.reduceSub, Nat.reduceMul, Nat.reduceBEq, Int.reduceLT, Int.reduceLE, Int.reduceEq, Int.reduceNeg, Int.reduceAdd, Int.reduceSub, Int.reduceMul, Bool.false_eq_true, Bool.not_true, Bool.not_false, decide_eq_true_eq, and_self, true_and, and_true, reduceCtorEq, ne_eq, not_false_eq_true, not_true_eq_false, decide_true, decide_false, or_false, false_or, NUM, SRCH, SFRM, SCRP, SRGT, SDTY, SWEL, SDON, SCLM, e0, List.length_map, a1, a2]
      exact ⟨_, rfl, by simp⟩
    · by_cases a3 : (1000 : Int) < l.length
      · simp (config := { maxSteps := 1000000 }) only [RUN, PATHS, BASE, FA, POL, start_tm, Heap.empty, reduceIte, Nat.reduceLT, Nat.reduceLeDiff, Nat.reduceEqDiff, Nat.reduceAdd, Nat.reduceSub, Nat.reduceMul, Nat.reduceBEq, Int.reduceLT, Int.reduceLE, Int.reduceEq, Int.reduceNeg, Int.reduceAdd, Int.reduceSub, Int.reduceMul, Bool.false_eq_true, Bool.not_true, Bool.not_false, decide_eq_true_eq, and_self, true_and, and_true, reduceCtorEq, ne_eq, not_false_eq_true, not_true_eq_false, decide_true, decide_false, or_false, false_or, NUM, SRCH, SFRM, SCRP, SRGT, SDTY, SWEL, SDON, SCLM, e0, List.length_map, a1, a2, a3]
        exact ⟨_, rfl, by simp⟩
      · by_cases a4 : (D.ds.length : Int) ≤ 20 <;> by_cases a5 : (256 : Int) < D.ds.length <;> by_cases a6 : D.hours ≤ 200
        all_goals
          simp (config := { maxSteps := 1000000 }) only [RUN, PATHS, BASE, FA, POL, start_tm, Heap.empty, reduceIte, Nat.reduceLT, Nat.reduceLeDiff, Nat.reduceEqDiff, Nat.reduceAdd, Nat.reduceSub, Nat.reduceMul, Nat.reduceBEq, Int.reduceLT, Int.reduceLE, Int.reduceEq, Int.reduceNeg, Int.reduceAdd, Int.reduceSub, Int.reduceMul, Bool.false_eq_true, Bool.not_true, Bool.not_false, decide_eq_true_eq, and_self, true_and, and_true, reduceCtorEq, ne_eq, not_false_eq_true, not_true_eq_false, decide_true, decide_false, or_false, false_or, NUM, SRCH, SFRM, SCRP, SRGT, SDTY, SWEL, SDON, SCLM, e0, List.length_map, a1, a2, a3, a4, a5, a6]
          exact ⟨_, rfl, fun _ => ⟨by omega, h0⟩⟩
  · by_cases a4 : (D.ds.length : Int) ≤ 20 <;> by_cases a5 : (256 : Int) < D.ds.length <;> by_cases a6 : D.hours ≤ 200
    all_goals
      simp (config := { maxSteps := 1000000 }) only [RUN, PATHS, BASE, FA, POL, start_tm, Heap.empty, reduceIte, Nat.reduceLT, Nat.reduceLeDiff, Nat.reduceEqDiff, Nat.reduceAdd, Nat.reduceSub, Nat.reduceMul, Nat.reduceBEq, Int.reduceLT, Int.reduceLE, Int.reduceEq, Int.reduceNeg, Int.reduceAdd, Int.reduceSub, Int.reduceMul, Bool.false_eq_true, Bool.not_true, Bool.not_false, decide_eq_true_eq, and_self, true_and, and_true, reduceCtorEq, ne_eq, not_false_eq_true, not_true_eq_false, decide_true, decide_false, or_false, false_or, NUM, SRCH, SFRM, SCRP, SRGT, SDTY, SWEL, SDON, SCLM, e0, List.length_map, a1, a4, a5, a6]
      exact ⟨_, rfl, fun _ => ⟨by omega, h0⟩⟩
theorem c_fewc (D : Dis) (ws : List Wel) (l : List Clm) : ∃ b, ap Try.prog pol 17 [dv D ws, .vs 5 (l.map clm) none] = some (.ret (.bool b)) ∧ (b = true → l.length ≤ 5000) := by
  obtain ⟨b0, e0, h0⟩ := c_few19 D ws
  rw [ap_eq _ Try.func17 rfl Try.ntmps17 Try.results17 (by kernel_rfl) rfl (by exact Nat.le_of_ble_eq_true rfl)]
  cases b0 with
  | false =>
    simp (config := { maxSteps := 1000000 }) only [RUN, PATHS, BASE, FA, POL, start_tm, Heap.empty, reduceIte, Nat.reduceLT, Nat.reduceLeDiff, Nat.reduceEqDiff, Nat.reduceAdd, Nat.reduceSub, Nat.reduceMul, Nat.reduceBEq, Int.reduceLT, Int.reduceLE, Int.reduceEq, Int.reduceNeg, Int.reduceAdd, Int.reduceSub, Int.reduceMul, Bool.false_eq_true, Bool.not_true, Bool.not_false, decide_eq_true_eq, and_self, true_and, and_true, reduceCtorEq, ne_eq, not_false_eq_true, not_true_eq_false, decide_true, decide_false, or_false, false_or, NUM, SRCH, SFRM, SCRP, SRGT, SDTY, SWEL, SDON, SCLM, e0]
    exact ⟨_, rfl, by simp⟩
  | true =>
  by_cases a1 : (l.length : Int) ≤ 300
  · simp (config := { maxSteps := 1000000 }) only [RUN, PATHS, BASE, FA, POL, start_tm, Heap.empty, reduceIte, Nat.reduceLT, Nat.reduceLeDiff, Nat.reduceEqDiff, Nat.reduceAdd, Nat.reduceSub, Nat.reduceMul, Nat.reduceBEq, Int.reduceLT, Int.reduceLE, Int.reduceEq, Int.reduceNeg, Int.reduceAdd, Int.reduceSub, Int.reduceMul, Bool.false_eq_true, Bool.not_true, Bool.not_false, decide_eq_true_eq, and_self, true_and, and_true, reduceCtorEq, ne_eq, not_false_eq_true, not_true_eq_false, decide_true, decide_false, or_false, false_or, NUM, SRCH, SFRM, SCRP, SRGT, SDTY, SWEL, SDON, SCLM, e0, List.length_map, a1]
    exact ⟨_, rfl, fun _ => by omega⟩
  · by_cases a2 : (4096 : Int) < l.length
    · simp (config := { maxSteps := 1000000 }) only [RUN, PATHS, BASE, FA, POL, start_tm, Heap.empty, reduceIte, Nat.reduceLT, Nat.reduceLeDiff, Nat.reduceEqDiff, Nat.reduceAdd, Nat.reduceSub, Nat.reduceMul, Nat.reduceBEq, Int.reduceLT, Int.reduceLE, Int.reduceEq, Int.reduceNeg, Int.reduceAdd, Int.reduceSub, Int.reduceMul, Bool.false_eq_true, Bool.not_true, Bool.not_false, decide_eq_true_eq, and_self, true_and, and_true, reduceCtorEq, ne_eq, not_false_eq_true, not_true_eq_false, decide_true, decide_false, or_false, false_or, NUM, SRCH, SFRM, SCRP, SRGT, SDTY, SWEL, SDON, SCLM, e0, List.length_map, a1, a2]
      exact ⟨_, rfl, fun h => by simp at h; omega⟩
    · simp (config := { maxSteps := 1000000 }) only [RUN, PATHS, BASE, FA, POL, start_tm, Heap.empty, reduceIte, Nat.reduceLT, Nat.reduceLeDiff, Nat.reduceEqDiff, Nat.reduceAdd, Nat.reduceSub, Nat.reduceMul, Nat.reduceBEq, Int.reduceLT, Int.reduceLE, Int.reduceEq, Int.reduceNeg, Int.reduceAdd, Int.reduceSub, Int.reduceMul, Bool.false_eq_true, Bool.not_true, Bool.not_false, decide_eq_true_eq, and_self, true_and, and_true, reduceCtorEq, ne_eq, not_false_eq_true, not_true_eq_false, decide_true, decide_false, or_false, false_or, NUM, SRCH, SFRM, SCRP, SRGT, SDTY, SWEL, SDON, SCLM, e0, List.length_map, a1, a2]
      exact ⟨_, rfl, by simp⟩
theorem LATE_cases (D : Dis) (l : List Don) (h kn : Int) : (DC D l = 0 ∧ (0 ≤ h ∧ h ≤ D.hours - 1) ∧ (0 ≤ kn ∧ kn ≤ 1048576) ∧ LATE D l h kn = (some (LTK D l h kn D.ds.length), 0)) ∨ (∃ e, e ≠ 0 ∧ LATE D l h kn = (none, e)) := by
  unfold LATE
  by_cases hd : DC D l = 0
  · rw [if_pos hd]
    by_cases hc : (0 ≤ h ∧ h ≤ D.hours - 1) ∧ (0 ≤ kn ∧ kn ≤ 1048576)
    · rw [if_pos hc]; exact .inl ⟨hd, hc.1, hc.2, rfl⟩
    · rw [if_neg hc]; exact .inr ⟨1, by decide, rfl⟩
  · rw [if_neg hd]; exact .inr ⟨_, hd, rfl⟩
theorem ACT_cases (D : Dis) (l : List Don) (cl : List Clm) (kn : Int) : (DC D l = 0 ∧ CC D cl = 0 ∧ (0 ≤ kn ∧ kn ≤ 1048576) ∧ ACT D l cl kn = (some (KEPT D l kn D.ds.length cl), 0)) ∨ (∃ e, e ≠ 0 ∧ ACT D l cl kn = (none, e)) := by
  unfold ACT
  by_cases hd : DC D l = 0
  · rw [if_pos hd]
    by_cases hc : CC D cl = 0
    · rw [if_pos hc]
      by_cases hk : 0 ≤ kn ∧ kn ≤ 1048576
      · rw [if_pos hk]; exact .inl ⟨hd, hc, hk, rfl⟩
      · rw [if_neg hk]; exact .inr ⟨1, by decide, rfl⟩
    · rw [if_neg hc]; exact .inr ⟨_, hc, rfl⟩
  · rw [if_neg hd]; exact .inr ⟨_, hd, rfl⟩
theorem FINE_cases (D : Dis) (l : List Don) (f kn rate : Int) : (DC D l = 0 ∧ (0 ≤ f ∧ f ≤ (D.fs.length : Int) - 1) ∧ (0 ≤ kn ∧ kn ≤ 1048576) ∧ (0 ≤ rate ∧ rate ≤ 1048576) ∧ FINE D l f kn rate = (rate * FH D l f kn D.ds.length, 0)) ∨ (∃ e, e ≠ 0 ∧ FINE D l f kn rate = (0, e)) := by
  unfold FINE
  by_cases hd : DC D l = 0
  · rw [if_pos hd]
    by_cases hc : (0 ≤ f ∧ f ≤ (D.fs.length : Int) - 1) ∧ (0 ≤ kn ∧ kn ≤ 1048576) ∧ (0 ≤ rate ∧ rate ≤ 1048576)
    · rw [if_pos hc]; exact .inl ⟨hd, hc.1, hc.2.1, hc.2.2, rfl⟩
    · rw [if_neg hc]; exact .inr ⟨1, by decide, rfl⟩
  · rw [if_neg hd]; exact .inr ⟨_, hd, rfl⟩
theorem LTK_le {D : Dis} {l : List Don} (hd : DC D l = 0) (h kn : Int) : (LTK D l h kn D.ds.length).length ≤ 256 := by
  have := (XC_0 (DC_0 hd).1).1.2.2.2.2
  have := LTK_len D l h kn D.ds.length
  omega
theorem CC_0 {D : Dis} {cl : List Clm} (h : CC D cl = 0) : XC D = 0 ∧ cl.length ≤ 4096 ∧ COK D cl := by
  unfold CC at h
  split at h
  · next h1 =>
    split at h
    · omega
    · split at h
      · exact ⟨h1, by omega, by assumption⟩
      · omega
  · next h1 => exact absurd h h1
theorem KEPT_le {D : Dis} {cl : List Clm} (hc : CC D cl = 0) (l : List Don) (kn : Int) (J : Nat) : (KEPT D l kn J cl).length ≤ 4096 :=
  Nat.le_trans (List.length_filter_le _ _) (CC_0 hc).2.1
section
variable (D : Dis) (ws : List Wel) (hr : ∀ x ∈ D.rs, x.OK) (l : List Don)
include hr
theorem d_late (h kn : Int) : ap Try.prog pol 12 [dv D ws, .vs 4 (l.map don) none, I h, I kn] = some (.ret (.tup [ov (LATE D l h kn).1, I (LATE D l h kn).2])) := c_late D hr q0 _ (WG_ws ws) l none h kn
theorem d_active (cl : List Clm) (kn : Int) : ap Try.prog pol 18 [dv D ws, .vs 4 (l.map don) none, .vs 5 (cl.map clm) none, I kn] = some (.ret (.tup [ovc (ACT D l cl kn).1, I (ACT D l cl kn).2])) := c_act D hr q0 _ (WG_ws ws) l none cl none kn
theorem d_fine (f kn rate : Int) : ap Try.prog pol 20 [dv D ws, .vs 4 (l.map don) none, I f, I kn, I rate] = some (.ret (.tup [I (FINE D l f kn rate).1, I (FINE D l f kn rate).2])) := c_fine D hr q0 _ (WG_ws ws) l none f kn rate
theorem d_check : ap Try.prog pol 14 [dv D ws, .vs 4 (l.map don) none] = some (.ret (I (DC D l))) := c_dcheck D hr q0 _ l none
theorem d_ccheck (cl : List Clm) : ap Try.prog pol 23 [dv D ws, .vs 5 (cl.map clm) none] = some (.ret (I (CC D cl))) := c_ccheck D hr q0 _ cl none
theorem w_spec (h kn : Int) : ap Try.prog pol 3 [dv D ws, .vs 4 (l.map don) none, I h, I kn] = some (.ret (.bool true)) := by
  obtain ⟨b, eb, hb⟩ := c_few D ws l
  have c1 := d_late D ws hr l h kn
  have c2 := c_rlate D ws hr l h kn
  have c3 := d_check D ws hr l
  have c4 := c_ref30check D ws hr l
  rw [ap_eq _ Try.func3 rfl Try.ntmps3 Try.results3 (by kernel_rfl) rfl (by exact Nat.le_of_ble_eq_true rfl)]
  cases b with
  | false => simp (config := { maxSteps := 1000000 }) only [RUN, PATHS, BASE, FA, POL, start_tm, Heap.empty, reduceIte, Nat.reduceLT, Nat.reduceLeDiff, Nat.reduceEqDiff, Nat.reduceAdd, Nat.reduceSub, Nat.reduceMul, Nat.reduceBEq, Int.reduceLT, Int.reduceLE, Int.reduceEq, Int.reduceNeg, Int.reduceAdd, Int.reduceSub, Int.reduceMul, Bool.false_eq_true, Bool.not_true, Bool.not_false, decide_eq_true_eq, and_self, true_and, and_true, reduceCtorEq, ne_eq, not_false_eq_true, not_true_eq_false, decide_true, decide_false, or_false, false_or, NUM, SRCH, SFRM, SCRP, SRGT, SDTY, SWEL, SDON, SCLM, c_sane, eb]
  | true =>
  rcases LATE_cases D l h kn with ⟨hd, _, _, hL⟩ | ⟨e, he, hL⟩
  · have so := c_same (LTK D l h kn D.ds.length) (LTK D l h kn D.ds.length) none none (by have := LTK_le hd h kn; omega) (by have := LTK_le hd h kn; omega)
    rw [decide_eq_true rfl] at so
    rw [hL] at c1 c2
    simp only [ov] at c1 c2
    simp (config := { maxSteps := 1000000 }) only [RUN, PATHS, BASE, FA, POL, start_tm, Heap.empty, reduceIte, Nat.reduceLT, Nat.reduceLeDiff, Nat.reduceEqDiff, Nat.reduceAdd, Nat.reduceSub, Nat.reduceMul, Nat.reduceBEq, Int.reduceLT, Int.reduceLE, Int.reduceEq, Int.reduceNeg, Int.reduceAdd, Int.reduceSub, Int.reduceMul, Bool.false_eq_true, Bool.not_true, Bool.not_false, decide_eq_true_eq, and_self, true_and, and_true, reduceCtorEq, ne_eq, not_false_eq_true, not_true_eq_false, decide_true, decide_false, or_false, false_or, NUM, SRCH, SFRM, SCRP, SRGT, SDTY, SWEL, SDON, SCLM, INTS, c_sane, eb, c1, c2, c3, c4, so]
  · rw [hL] at c1 c2
    simp only [ov] at c1 c2
    simp (config := { maxSteps := 1000000 }) only [RUN, PATHS, BASE, FA, POL, start_tm, Heap.empty, reduceIte, Nat.reduceLT, Nat.reduceLeDiff, Nat.reduceEqDiff, Nat.reduceAdd, Nat.reduceSub, Nat.reduceMul, Nat.reduceBEq, Int.reduceLT, Int.reduceLE, Int.reduceEq, Int.reduceNeg, Int.reduceAdd, Int.reduceSub, Int.reduceMul, Bool.false_eq_true, Bool.not_true, Bool.not_false, decide_eq_true_eq, and_self, true_and, and_true, reduceCtorEq, ne_eq, not_false_eq_true, not_true_eq_false, decide_true, decide_false, or_false, false_or, NUM, SRCH, SFRM, SCRP, SRGT, SDTY, SWEL, SDON, SCLM, INTS, c_sane, eb, c1, c2, c3, c4, c_samenil]
theorem w_active (cl : List Clm) (f kn rate : Int) : ap Try.prog pol 4 [dv D ws, .vs 4 (l.map don) none, .vs 5 (cl.map clm) none, I f, I kn, I rate] = some (.ret (.bool true)) := by
  obtain ⟨b, eb, hb⟩ := c_few D ws l
  obtain ⟨b', eb', hb'⟩ := c_fewc D ws cl
  have c1 := d_active D ws hr l cl kn
  have c2 := c_ractive D ws hr l cl kn
  have c3 := d_fine D ws hr l f kn rate
  have c4 := c_rfine D ws hr l f kn rate
  rw [ap_eq _ Try.func4 rfl Try.ntmps4 Try.results4 (by kernel_rfl) rfl (by exact Nat.le_of_ble_eq_true rfl)]
  cases b with
  | false => simp (config := { maxSteps := 1000000 }) only [RUN, PATHS, BASE, FA, POL, start_tm, Heap.empty, reduceIte, Nat.reduceLT, Nat.reduceLeDiff, Nat.reduceEqDiff, Nat.reduceAdd, Nat.reduceSub, Nat.reduceMul, Nat.reduceBEq, Int.reduceLT, Int.reduceLE, Int.reduceEq, Int.reduceNeg, Int.reduceAdd, Int.reduceSub, Int.reduceMul, Bool.false_eq_true, Bool.not_true, Bool.not_false, decide_eq_true_eq, and_self, true_and, and_true, reduceCtorEq, ne_eq, not_false_eq_true, not_true_eq_false, decide_true, decide_false, or_false, false_or, NUM, SRCH, SFRM, SCRP, SRGT, SDTY, SWEL, SDON, SCLM, c_sane, eb]
  | true =>
  cases b' with
  | false => simp (config := { maxSteps := 1000000 }) only [RUN, PATHS, BASE, FA, POL, start_tm, Heap.empty, reduceIte, Nat.reduceLT, Nat.reduceLeDiff, Nat.reduceEqDiff, Nat.reduceAdd, Nat.reduceSub, Nat.reduceMul, Nat.reduceBEq, Int.reduceLT, Int.reduceLE, Int.reduceEq, Int.reduceNeg, Int.reduceAdd, Int.reduceSub, Int.reduceMul, Bool.false_eq_true, Bool.not_true, Bool.not_false, decide_eq_true_eq, and_self, true_and, and_true, reduceCtorEq, ne_eq, not_false_eq_true, not_true_eq_false, decide_true, decide_false, or_false, false_or, NUM, SRCH, SFRM, SCRP, SRGT, SDTY, SWEL, SDON, SCLM, c_sane, eb, eb']
  | true =>
  rcases ACT_cases D l cl kn with ⟨hd, hc, _, hA⟩ | ⟨e, he, hA⟩
  · have so := c_samec (KEPT D l kn D.ds.length cl) none none (by have := KEPT_le hc l kn D.ds.length; omega)
    rw [hA] at c1 c2
    simp only [ovc] at c1 c2
    simp (config := { maxSteps := 1000000 }) only [RUN, PATHS, BASE, FA, POL, start_tm, Heap.empty, reduceIte, Nat.reduceLT, Nat.reduceLeDiff, Nat.reduceEqDiff, Nat.reduceAdd, Nat.reduceSub, Nat.reduceMul, Nat.reduceBEq, Int.reduceLT, Int.reduceLE, Int.reduceEq, Int.reduceNeg, Int.reduceAdd, Int.reduceSub, Int.reduceMul, Bool.false_eq_true, Bool.not_true, Bool.not_false, decide_eq_true_eq, and_self, true_and, and_true, reduceCtorEq, ne_eq, not_false_eq_true, not_true_eq_false, decide_true, decide_false, or_false, false_or, NUM, SRCH, SFRM, SCRP, SRGT, SDTY, SWEL, SDON, SCLM, INTS, c_sane, eb, eb', c1, c2, c3, c4, so]
  · rw [hA] at c1 c2
    simp only [ovc] at c1 c2
    simp (config := { maxSteps := 1000000 }) only [RUN, PATHS, BASE, FA, POL, start_tm, Heap.empty, reduceIte, Nat.reduceLT, Nat.reduceLeDiff, Nat.reduceEqDiff, Nat.reduceAdd, Nat.reduceSub, Nat.reduceMul, Nat.reduceBEq, Int.reduceLT, Int.reduceLE, Int.reduceEq, Int.reduceNeg, Int.reduceAdd, Int.reduceSub, Int.reduceMul, Bool.false_eq_true, Bool.not_true, Bool.not_false, decide_eq_true_eq, and_self, true_and, and_true, reduceCtorEq, ne_eq, not_false_eq_true, not_true_eq_false, decide_true, decide_false, or_false, false_or, NUM, SRCH, SFRM, SCRP, SRGT, SDTY, SWEL, SDON, SCLM, INTS, c_sane, eb, eb', c1, c2, c3, c4, c_samecnil]
end
theorem pw_of {α : Type} {R : α → α → Prop} (tr : ∀ a b c, R a b → R b c → R a c) : ∀ (l : List α), (∀ i x y, l[i]? = some x → l[i + 1]? = some y → R x y) → l.Pairwise R
  | [], _ => .nil
  | [a], _ => by simp
  | a :: b :: l, h => by
    have ih := pw_of tr (b :: l) (fun i x y hx hy => h (i + 1) x y hx hy)
    have hab := h 0 a b rfl rfl
    rw [List.pairwise_cons]
    refine ⟨fun c hc => ?_, ih⟩
    rcases List.mem_cons.1 hc with rfl | hc
    · exact hab
    · exact tr a b c hab ((List.pairwise_cons.1 ih).1 c hc)
theorem of_pw {α : Type} {R : α → α → Prop} {l : List α} (h : l.Pairwise R) {i : Nat} {x y : α} (hx : l[i]? = some x) (hy : l[i + 1]? = some y) : R x y := by
  obtain ⟨h1, rfl⟩ := List.getElem?_eq_some_iff.1 hx
  obtain ⟨h2, rfl⟩ := List.getElem?_eq_some_iff.1 hy
  exact List.pairwise_iff_getElem.1 h i (i + 1) h1 h2 (by omega)
theorem DOK_iff (nd : Int) (l : List Don) : DOK nd l ↔ (∀ x ∈ l, DK nd (-1) x) ∧ l.Pairwise (fun a b => a.no < b.no) := by
  constructor
  · intro h
    refine ⟨fun x hx => ?_, pw_of (fun a b c h1 h2 => by omega) l fun i x y hx hy => ?_⟩
    · obtain ⟨i, ei⟩ := List.mem_iff_getElem?.1 hx
      have := h i x ei
      unfold DK at *
      omega
    · have : DK nd (PN l (i + 1)) y := h (i + 1) y hy
      rw [PN_succ hx] at this
      exact this.1.2.1
  · rintro ⟨h1, h2⟩ i x hx
    have k := h1 x (List.mem_of_getElem? hx)
    cases i with
    | zero => exact k
    | succ i =>
      have hlt := (List.getElem?_eq_some_iff.1 hx).1
      have e0 : l[i]? = some (l[i]'(by omega)) := List.getElem?_eq_getElem _
      show DK nd (PN l (i + 1)) x
      rw [PN_succ e0]
      have : (l[i]'(by omega)).no < x.no := of_pw h2 e0 hx
      unfold DK at *
      omega
theorem DC_filter {D : Dis} {l : List Don} (h : DC D l = 0) (p : Don → Bool) : DC D (l.filter p) = 0 := by
  obtain ⟨hX, hl, hok⟩ := DC_0 h
  have := List.length_filter_le p l
  unfold DC
  rw [if_pos hX, if_neg (by omega), if_pos]
  rw [DOK_iff] at *
  exact ⟨fun x hx => hok.1 x (List.mem_filter.1 hx).1, hok.2.filter p⟩
theorem BEF_trans (a b c : Clm) (h1 : BEF a b) (h2 : BEF b c) : BEF a c := by
  unfold BEF at *
  omega
theorem COK_iff (D : Dis) (l : List Clm) : COK D l ↔ (∀ x ∈ l, CK D none x) ∧ l.Pairwise BEF := by
  constructor
  · intro h
    refine ⟨fun x hx => ?_, pw_of BEF_trans l fun i x y hx hy => ?_⟩
    · obtain ⟨i, ei⟩ := List.mem_iff_getElem?.1 hx
      exact (CK_iff.1 (h i x ei)).1
    · exact (CK_iff.1 (h (i + 1) y hy)).2 x (by rw [PRE_pos (by omega) hx])
  · rintro ⟨h1, h2⟩ i x hx
    refine CK_iff.2 ⟨h1 x (List.mem_of_getElem? hx), fun y hy => ?_⟩
    cases i with
    | zero => cases hy
    | succ i => exact of_pw h2 (by unfold PRE at hy; rw [if_neg (by omega)] at hy; exact hy) hx
theorem CC_filter {D : Dis} {l : List Clm} (h : CC D l = 0) (p : Clm → Bool) : CC D (l.filter p) = 0 := by
  obtain ⟨hX, hl, hok⟩ := CC_0 h
  have := List.length_filter_le p l
  unfold CC
  rw [if_pos hX, if_neg (by omega), if_pos]
  rw [COK_iff] at *
  exact ⟨fun x hx => hok.1 x (List.mem_filter.1 hx).1, hok.2.filter p⟩
end Go.Proofs.Ytaggpjlkapnonaa
