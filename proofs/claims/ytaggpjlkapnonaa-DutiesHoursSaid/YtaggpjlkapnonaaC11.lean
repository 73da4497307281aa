/-
  Claims: their order, and what Check comes to.
-/
import Derived.Test.YtaggpjlkapnonaaC10
set_option linter.unusedSimpArgs false
set_option linter.unusedVariables false
set_option linter.unusedSectionVars false
namespace Go.Proofs.Ytaggpjlkapnonaa
open Go GoV
set_option maxRecDepth 100000

theorem c_ref30check (D : Dis) (ws : List Wel) (hr : ∀ x ∈ D.rs, x.OK) (l : List Don) : ap Try.prog pol 15 [dv D ws, .vs 4 (l.map don) none] = some (.ret (I (DC D l))) := by
  obtain ⟨e, he, hc⟩ := c_ref19check D ws hr
  have hx : e = XC D := by
    unfold XC
    rcases hc with ⟨h1, rfl⟩ | ⟨h1, h2, rfl⟩ | ⟨h1, h2, rfl⟩
    · rw [if_neg h1]
    · rw [if_pos h1, if_pos h2]
    · rw [if_pos h1, if_neg h2]
  subst hx
  rw [ap_eq _ Try.func15 rfl Try.ntmps15 Try.results15 (by kernel_rfl) rfl (by exact Nat.le_of_ble_eq_true rfl)]
  by_cases hX : XC D = 0
  rotate_left
  · have ed : DC D l = XC D := by unfold DC; rw [if_neg hX]
    rw [ed]
    simp (config := { maxSteps := 1000000 }) only [RUN, PATHS, BASE, FA, POL, start_tm, Heap.empty, reduceIte, Nat.reduceLT, Nat.reduceLeDiff, Nat.reduceEqDiff, Nat.reduceAdd, Nat.reduceSub, Nat.reduceMul, Nat.reduceBEq, Int.reduceLT, Int.reduceLE, Int.reduceEq, Int.reduceNeg, Int.reduceAdd, Int.reduceSub, Int.reduceMul, Bool.false_eq_true, Bool.not_true, Bool.not_false, decide_eq_true_eq, and_self, true_and, and_true, reduceCtorEq, ne_eq, not_false_eq_true, not_true_eq_false, decide_true, decide_false, or_false, false_or, NUM, SRCH, SFRM, SCRP, SRGT, SDTY, SWEL, SDON, he, hX]
  obtain ⟨hL, hK⟩ := XC_0 hX
  by_cases hl : 512 < l.length
  · have ed : DC D l = 2 := by unfold DC; rw [if_pos hX, if_pos hl]
    rw [ed]
    simp (config := { maxSteps := 1000000 }) only [RUN, PATHS, BASE, FA, POL, start_tm, Heap.empty, reduceIte, Nat.reduceLT, Nat.reduceLeDiff, Nat.reduceEqDiff, Nat.reduceAdd, Nat.reduceSub, Nat.reduceMul, Nat.reduceBEq, Int.reduceLT, Int.reduceLE, Int.reduceEq, Int.reduceNeg, Int.reduceAdd, Int.reduceSub, Int.reduceMul, Bool.false_eq_true, Bool.not_true, Bool.not_false, decide_eq_true_eq, and_self, true_and, and_true, reduceCtorEq, ne_eq, not_false_eq_true, not_true_eq_false, decide_true, decide_false, or_false, false_or, NUM, SRCH, SFRM, SCRP, SRGT, SDTY, SWEL, SDON, he, hX, List.length_map, (show (512 : Int) < l.length by omega)]
  have ed : DC D l = if DOK D.ds.length l then 0 else 300 := by unfold DC; rw [if_pos hX, if_neg hl]
  have ld := hL.2.2.2.2
  rw [ed]
  have cv := c_refvalid30 D ws l (by omega) (by omega)
  by_cases hd : DOK D.ds.length l
  · rw [if_pos hd]
    rw [decide_eq_true hd] at cv
    simp (config := { maxSteps := 1000000 }) only [RUN, PATHS, BASE, FA, POL, start_tm, Heap.empty, reduceIte, Nat.reduceLT, Nat.reduceLeDiff, Nat.reduceEqDiff, Nat.reduceAdd, Nat.reduceSub, Nat.reduceMul, Nat.reduceBEq, Int.reduceLT, Int.reduceLE, Int.reduceEq, Int.reduceNeg, Int.reduceAdd, Int.reduceSub, Int.reduceMul, Bool.false_eq_true, Bool.not_true, Bool.not_false, decide_eq_true_eq, and_self, true_and, and_true, reduceCtorEq, ne_eq, not_false_eq_true, not_true_eq_false, decide_true, decide_false, or_false, false_or, NUM, SRCH, SFRM, SCRP, SRGT, SDTY, SWEL, SDON, he, hX, cv, List.length_map, (show ¬ (512 : Int) < l.length by omega)]
  · rw [if_neg hd]
    rw [decide_eq_false hd] at cv
    simp (config := { maxSteps := 1000000 }) only [RUN, PATHS, BASE, FA, POL, start_tm, Heap.empty, reduceIte, Nat.reduceLT, Nat.reduceLeDiff, Nat.reduceEqDiff, Nat.reduceAdd, Nat.reduceSub, Nat.reduceMul, Nat.reduceBEq, Int.reduceLT, Int.reduceLE, Int.reduceEq, Int.reduceNeg, Int.reduceAdd, Int.reduceSub, Int.reduceMul, Bool.false_eq_true, Bool.not_true, Bool.not_false, decide_eq_true_eq, and_self, true_and, and_true, reduceCtorEq, ne_eq, not_false_eq_true, not_true_eq_false, decide_true, decide_false, or_false, false_or, NUM, SRCH, SFRM, SCRP, SRGT, SDTY, SWEL, SDON, he, hX, cv, List.length_map, (show ¬ (512 : Int) < l.length by omega)]
structure Clm where
  (r f h li ra : Int)
abbrev clm (x : Clm) : PV := .agg [I x.r, I x.f, I x.h, I x.li, I x.ra]
theorem SCLM : (∀ l : List Clm, strip0L (l.map clm) = l.map clm) ∧ (∀ l : List Clm, (l.map clm).map strip0 = l.map clm) ∧ (∀ H (l : List Clm), (l.map clm).map (strip1 H) = l.map clm) ∧ (∀ H (l : List Clm), (l.map clm).map (strip2 H) = l.map clm) ∧ (∀ H (l : List Clm), strip1L H (l.map clm) = l.map clm) ∧ (∀ H (l : List Clm), strip2L H (l.map clm) = l.map clm) := STR clm (fun _ => rfl) (fun _ _ => rfl) (fun _ _ => rfl)
/-- One claim comes before another. -/
def BEF (a b : Clm) : Prop := a.h < b.h ∨ (a.h = b.h ∧ (a.ra < b.ra ∨ (a.ra = b.ra ∧ (a.r < b.r ∨ (a.r = b.r ∧ a.f < b.f)))))
instance (a b : Clm) : Decidable (BEF a b) := by unfold BEF; infer_instance
def FST (a b c d : Int) : Int := if a ≠ 0 then a else if b ≠ 0 then b else if c ≠ 0 then c else d
theorem c_first (a b c d : Int) : ap Try.prog pol 49 [.vs 1 [I a, I b, I c, I d] (some 4)] = some (.ret (I (FST a b c d))) := by
  rw [ap_eq _ Try.func49 rfl Try.ntmps49 Try.results49 (by kernel_rfl) rfl (by exact Nat.le_of_ble_eq_true rfl)]
  unfold FST
  by_cases h1 : a = 0
  · by_cases h2 : b = 0
    · by_cases h3 : c = 0
      · by_cases h4 : d = 0
        · simp (config := { maxSteps := 1000000 }) only [RUN, PATHS, BASE, FA, POL, start_tm, Heap.empty, reduceIte, Nat.reduceLT, Nat.reduceLeDiff, Nat.reduceEqDiff, Nat.reduceAdd, Nat.reduceSub, Nat.reduceMul, Nat.reduceBEq, Int.reduceLT, Int.reduceLE, Int.reduceEq, Int.reduceNeg, Int.reduceAdd, Int.reduceSub, Int.reduceMul, Bool.false_eq_true, Bool.not_true, Bool.not_false, decide_eq_true_eq, and_self, true_and, and_true, reduceCtorEq, ne_eq, not_false_eq_true, not_true_eq_false, decide_true, decide_false, or_false, false_or, WW_loop, NUM, h1, h2, h3, h4]
        · simp (config := { maxSteps := 1000000 }) only [RUN, PATHS, BASE, FA, POL, start_tm, Heap.empty, reduceIte, Nat.reduceLT, Nat.reduceLeDiff, Nat.reduceEqDiff, Nat.reduceAdd, Nat.reduceSub, Nat.reduceMul, Nat.reduceBEq, Int.reduceLT, Int.reduceLE, Int.reduceEq, Int.reduceNeg, Int.reduceAdd, Int.reduceSub, Int.reduceMul, Bool.false_eq_true, Bool.not_true, Bool.not_false, decide_eq_true_eq, and_self, true_and, and_true, reduceCtorEq, ne_eq, not_false_eq_true, not_true_eq_false, decide_true, decide_false, or_false, false_or, WW_loop, NUM, h1, h2, h3, h4]
      · simp (config := { maxSteps := 1000000 }) only [RUN, PATHS, BASE, FA, POL, start_tm, Heap.empty, reduceIte, Nat.reduceLT, Nat.reduceLeDiff, Nat.reduceEqDiff, Nat.reduceAdd, Nat.reduceSub, Nat.reduceMul, Nat.reduceBEq, Int.reduceLT, Int.reduceLE, Int.reduceEq, Int.reduceNeg, Int.reduceAdd, Int.reduceSub, Int.reduceMul, Bool.false_eq_true, Bool.not_true, Bool.not_false, decide_eq_true_eq, and_self, true_and, and_true, reduceCtorEq, ne_eq, not_false_eq_true, not_true_eq_false, decide_true, decide_false, or_false, false_or, WW_loop, NUM, h1, h2, h3]
    · simp (config := { maxSteps := 1000000 }) only [RUN, PATHS, BASE, FA, POL, start_tm, Heap.empty, reduceIte, Nat.reduceLT, Nat.reduceLeDiff, Nat.reduceEqDiff, Nat.reduceAdd, Nat.reduceSub, Nat.reduceMul, Nat.reduceBEq, Int.reduceLT, Int.reduceLE, Int.reduceEq, Int.reduceNeg, Int.reduceAdd, Int.reduceSub, Int.reduceMul, Bool.false_eq_true, Bool.not_true, Bool.not_false, decide_eq_true_eq, and_self, true_and, and_true, reduceCtorEq, ne_eq, not_false_eq_true, not_true_eq_false, decide_true, decide_false, or_false, false_or, WW_loop, NUM, h1, h2]
  · simp (config := { maxSteps := 1000000 }) only [RUN, PATHS, BASE, FA, POL, start_tm, Heap.empty, reduceIte, Nat.reduceLT, Nat.reduceLeDiff, Nat.reduceEqDiff, Nat.reduceAdd, Nat.reduceSub, Nat.reduceMul, Nat.reduceBEq, Int.reduceLT, Int.reduceLE, Int.reduceEq, Int.reduceNeg, Int.reduceAdd, Int.reduceSub, Int.reduceMul, Bool.false_eq_true, Bool.not_true, Bool.not_false, decide_eq_true_eq, and_self, true_and, and_true, reduceCtorEq, ne_eq, not_false_eq_true, not_true_eq_false, decide_true, decide_false, or_false, false_or, WW_loop, NUM, h1]
def ORD (a b : Clm) : Int := FST (CMP a.h b.h) (CMP a.ra b.ra) (CMP a.r b.r) (CMP a.f b.f)
theorem c_order (a b : Clm) : ap Try.prog pol 38 [clm a, clm b] = some (.ret (I (ORD a b))) := by
  rw [ap_eq _ Try.func38 rfl Try.ntmps38 Try.results38 (by kernel_rfl) rfl (by exact Nat.le_of_ble_eq_true rfl)]
  simp (config := { maxSteps := 1000000 }) only [RUN, PATHS, BASE, FA, POL, start_tm, Heap.empty, reduceIte, Nat.reduceLT, Nat.reduceLeDiff, Nat.reduceEqDiff, Nat.reduceAdd, Nat.reduceSub, Nat.reduceMul, Nat.reduceBEq, Int.reduceLT, Int.reduceLE, Int.reduceEq, Int.reduceNeg, Int.reduceAdd, Int.reduceSub, Int.reduceMul, Bool.false_eq_true, Bool.not_true, Bool.not_false, decide_eq_true_eq, and_self, true_and, and_true, reduceCtorEq, ne_eq, not_false_eq_true, not_true_eq_false, decide_true, decide_false, or_false, false_or, NUM, c_compare, c_first]
  rfl
theorem ORD_iff (a b : Clm) : 0 ≤ ORD a b ↔ ¬ BEF a b := by
  have k : ∀ x y : Int, (CMP x y = -1 ∧ x < y) ∨ (CMP x y = 1 ∧ y < x) ∨ (CMP x y = 0 ∧ x = y) := by
    intro x y; unfold CMP; split
    · exact .inl ⟨rfl, by assumption⟩
    · split
      · exact .inr (.inl ⟨rfl, by assumption⟩)
      · exact .inr (.inr ⟨rfl, by omega⟩)
  unfold ORD FST BEF
  rcases k a.h b.h with ⟨e1, l1⟩ | ⟨e1, l1⟩ | ⟨e1, l1⟩ <;> rw [e1]
  · simp; omega
  · simp; omega
  rcases k a.ra b.ra with ⟨e2, l2⟩ | ⟨e2, l2⟩ | ⟨e2, l2⟩ <;> rw [e2]
  · simp; omega
  · simp; omega
  rcases k a.r b.r with ⟨e3, l3⟩ | ⟨e3, l3⟩ | ⟨e3, l3⟩ <;> rw [e3]
  · simp; omega
  · simp; omega
  rcases k a.f b.f with ⟨e4, l4⟩ | ⟨e4, l4⟩ | ⟨e4, l4⟩ <;> rw [e4] <;> simp <;> omega
theorem c_before (a b : Clm) : ap Try.prog pol 48 [clm a, clm b] = some (.ret (.bool (decide (BEF a b)))) := by
  rw [ap_eq _ Try.func48 rfl Try.ntmps48 Try.results48 (by kernel_rfl) rfl (by exact Nat.le_of_ble_eq_true rfl)]
  unfold BEF
  by_cases h1 : a.h = b.h
  · by_cases h2 : a.ra = b.ra
    · by_cases h3 : a.r = b.r
      · simp (config := { maxSteps := 1000000 }) only [RUN, PATHS, BASE, FA, POL, start_tm, Heap.empty, reduceIte, Nat.reduceLT, Nat.reduceLeDiff, Nat.reduceEqDiff, Nat.reduceAdd, Nat.reduceSub, Nat.reduceMul, Nat.reduceBEq, Int.reduceLT, Int.reduceLE, Int.reduceEq, Int.reduceNeg, Int.reduceAdd, Int.reduceSub, Int.reduceMul, Bool.false_eq_true, Bool.not_true, Bool.not_false, decide_eq_true_eq, and_self, true_and, and_true, reduceCtorEq, ne_eq, not_false_eq_true, not_true_eq_false, decide_true, decide_false, or_false, false_or, NUM, h1, h2, h3]
        simp
      · simp (config := { maxSteps := 1000000 }) only [RUN, PATHS, BASE, FA, POL, start_tm, Heap.empty, reduceIte, Nat.reduceLT, Nat.reduceLeDiff, Nat.reduceEqDiff, Nat.reduceAdd, Nat.reduceSub, Nat.reduceMul, Nat.reduceBEq, Int.reduceLT, Int.reduceLE, Int.reduceEq, Int.reduceNeg, Int.reduceAdd, Int.reduceSub, Int.reduceMul, Bool.false_eq_true, Bool.not_true, Bool.not_false, decide_eq_true_eq, and_self, true_and, and_true, reduceCtorEq, ne_eq, not_false_eq_true, not_true_eq_false, decide_true, decide_false, or_false, false_or, NUM, h1, h2, h3]
        simp
    · simp (config := { maxSteps := 1000000 }) only [RUN, PATHS, BASE, FA, POL, start_tm, Heap.empty, reduceIte, Nat.reduceLT, Nat.reduceLeDiff, Nat.reduceEqDiff, Nat.reduceAdd, Nat.reduceSub, Nat.reduceMul, Nat.reduceBEq, Int.reduceLT, Int.reduceLE, Int.reduceEq, Int.reduceNeg, Int.reduceAdd, Int.reduceSub, Int.reduceMul, Bool.false_eq_true, Bool.not_true, Bool.not_false, decide_eq_true_eq, and_self, true_and, and_true, reduceCtorEq, ne_eq, not_false_eq_true, not_true_eq_false, decide_true, decide_false, or_false, false_or, NUM, h1, h2]
      simp
  · simp (config := { maxSteps := 1000000 }) only [RUN, PATHS, BASE, FA, POL, start_tm, Heap.empty, reduceIte, Nat.reduceLT, Nat.reduceLeDiff, Nat.reduceEqDiff, Nat.reduceAdd, Nat.reduceSub, Nat.reduceMul, Nat.reduceBEq, Int.reduceLT, Int.reduceLE, Int.reduceEq, Int.reduceNeg, Int.reduceAdd, Int.reduceSub, Int.reduceMul, Bool.false_eq_true, Bool.not_true, Bool.not_false, decide_eq_true_eq, and_self, true_and, and_true, reduceCtorEq, ne_eq, not_false_eq_true, not_true_eq_false, decide_true, decide_false, or_false, false_or, NUM, h1]
    simp
def PRE (l : List Clm) (j : Nat) : Option Clm := if j = 0 then none else l[j - 1]?
/-- A claim that is right. -/
def CK (D : Dis) (p : Option Clm) (x : Clm) : Prop := (0 ≤ x.r ∧ x.r < D.gs.length) ∧ (0 ≤ x.f ∧ x.f < D.fs.length) ∧ (0 ≤ x.h ∧ x.h < D.hours) ∧ (1 ≤ x.li ∧ x.li ≤ 1073741824) ∧
  (∀ g, D.gs[x.r.toNat]? = some g → g.kd = 1 ∧ g.a = x.ra) ∧ (∀ y, p = some y → BEF y x)
def COK (D : Dis) (l : List Clm) : Prop := ALLI (fun i x => CK D (PRE l i) x) l
noncomputable instance (D : Dis) (l : List Clm) : Decidable (COK D l) := Classical.propDecidable _
noncomputable def CC (D : Dis) (l : List Clm) : Int := if XC D = 0 then (if 4096 < l.length then 2 else if COK D l then 0 else 260) else XC D
end Go.Proofs.Ytaggpjlkapnonaa
