/-
  The chapter's examples: sane.
-/
import Derived.Test.YtaggpjlkapnonaaC22
set_option linter.unusedSimpArgs false
set_option linter.unusedVariables false
set_option linter.unusedSectionVars false
namespace Go.Proofs.Ytaggpjlkapnonaa
open Go GoV
set_option maxRecDepth 100000

def EXD : Dis := ⟨.empty, 16, 100, 50, [⟨.empty, -1, 1, 20, 50, 0, 0, 0, 0, 1, 0, 1⟩], [⟨.empty, 0, 10, 0⟩], [⟨.empty, 3⟩], [⟨.empty, 1, 0, 0, 0, 5, 0, 15, 1, 1⟩], [⟨.empty, 0, 0, 10⟩]⟩
abbrev EXV : PV := .agg [.str .empty, I 16, I 100, I 50, .vs 12 [.agg [.str .empty, I (-1), I 1, I 20, I 50, I 0, I 0, I 0, I 0, I 1, I 0, I 1]] (some 1), .vs 4 [.agg [.str .empty, I 0, I 10, I 0]] (some 1), .vs 2 [.agg [.str .empty, I 3]] (some 1), .vs 10 [.agg [.str .empty, I 1, I 0, I 0, I 0, I 5, I 0, I 15, I 1, I 1]] (some 1), .vs 4 [.agg [.str .empty, I 0, I 0, I 10]] (some 1), .nils]
abbrev q1 : Cp := ⟨some 1, some 1, some 1, some 1, some 1⟩
theorem c_example : ap Try.prog pol 25 [] = some (.ret EXV) := by
  rw [ap_eq _ Try.func25 rfl Try.ntmps25 Try.results25 (by kernel_rfl) rfl (by exact Nat.le_of_ble_eq_true rfl)]
  simp (config := { maxSteps := 1000000 }) only [RUN, PATHS, BASE, FA, POL, start_tm, Heap.empty, reduceIte, Nat.reduceLT, Nat.reduceLeDiff, Nat.reduceEqDiff, Nat.reduceAdd, Nat.reduceSub, Nat.reduceMul, Nat.reduceBEq, Int.reduceLT, Int.reduceLE, Int.reduceEq, Int.reduceNeg, Int.reduceAdd, Int.reduceSub, Int.reduceMul, Bool.false_eq_true, Bool.not_true, Bool.not_false, decide_eq_true_eq, and_self, true_and, and_true, reduceCtorEq, ne_eq, not_false_eq_true, not_true_eq_false, decide_true, decide_false, or_false, false_or, NUM]
theorem ALLI_one {α : Type} {P : Nat → α → Prop} {x : α} (h : P 0 x) : ALLI P [x] := by
  intro i y e
  match i with
  | 0 => simp at e; subst e; exact h
  | i + 1 => simp at e
theorem EX_ok : ∀ x ∈ EXD.rs, x.OK := by
  intro x hx
  simp only [EXD, List.mem_singleton] at hx
  subst hx
  unfold Rch.OK I64
  simp
theorem EX_X : XC EXD = 0 := by
  unfold XC
  rw [if_pos (by decide), if_pos]
  refine ⟨by decide, by decide, by decide, ALLI_one (by decide), ALLI_one (by decide), ALLI_one (by decide), ALLI_one (by decide), ALLI_one (by decide)⟩
def ENT : List Don := [⟨1, 0, 12, 14⟩]
theorem EX_D : DC EXD ENT = 0 := by
  unfold DC
  rw [if_pos EX_X, if_neg (by decide), if_pos]
  exact ALLI_one (by decide)
theorem EX_D3 : DC EXD [⟨0, 0, 3, 0⟩] = 300 := by
  unfold DC
  rw [if_pos EX_X, if_neg (by decide), if_neg]
  intro h
  exact absurd (h 0 _ rfl) (by decide)
theorem EX_e : ENDP EXD ENT 20 0 = 12 := rfl
theorem EX_e13 : ENDP EXD ENT 13 0 = 16 := rfl
theorem EX_ov (h kn : Int) : OVP EXD ENT h kn 0 ↔ 10 ≤ h ∧ h ≤ ENDP EXD ENT kn 0 - 1 := OVP_iff (x := ⟨.empty, 0, 0, 10⟩) rfl
theorem EX_L (h kn : Int) : LTK EXD ENT h kn EXD.ds.length = if OVP EXD ENT h kn 0 then [0] else [] := by
  show LTK EXD ENT h kn (0 + 1) = _
  rw [LTK_succ]
  rfl
theorem EX_late (h kn : Int) (h1 : 0 ≤ h ∧ h ≤ 15) (h2 : 0 ≤ kn ∧ kn ≤ 1048576) : LATE EXD ENT h kn = (some (if 10 ≤ h ∧ h ≤ ENDP EXD ENT kn 0 - 1 then [0] else []), 0) := by
  unfold LATE
  rw [if_pos EX_D, if_pos ⟨h1, h2⟩, EX_L]
  by_cases g : OVP EXD ENT h kn 0
  · rw [if_pos g, if_pos ((EX_ov h kn).1 g)]
  · rw [if_neg g, if_neg (fun e => g ((EX_ov h kn).2 e))]
theorem l_late (h kn : Int) : ap Try.prog pol 12 [EXV, .vs 4 [.agg [I 1, I 0, I 12, I 14]] (some 1), I h, I kn] = some (.ret (.tup [ov (LATE EXD ENT h kn).1, I (LATE EXD ENT h kn).2])) :=
  c_late EXD EX_ok q1 .nils WG_nils ENT (some 1) h kn
theorem l9 : ap Try.prog pol 12 [EXV, .vs 4 [.agg [I 1, I 0, I 12, I 14]] (some 1), I 9, I 20] = some (.ret (.tup [.vs 1 [] none, I 0])) := by
  rw [l_late, EX_late _ _ (by decide) (by decide)]; rfl
theorem l11 : ap Try.prog pol 12 [EXV, .vs 4 [.agg [I 1, I 0, I 12, I 14]] (some 1), I 11, I 20] = some (.ret (.tup [.vs 1 [I 0] none, I 0])) := by
  rw [l_late, EX_late _ _ (by decide) (by decide)]; rfl
theorem l12 : ap Try.prog pol 12 [EXV, .vs 4 [.agg [I 1, I 0, I 12, I 14]] (some 1), I 12, I 20] = some (.ret (.tup [.vs 1 [] none, I 0])) := by
  rw [l_late, EX_late _ _ (by decide) (by decide)]; rfl
theorem l13 : ap Try.prog pol 12 [EXV, .vs 4 [.agg [I 1, I 0, I 12, I 14]] (some 1), I 12, I 13] = some (.ret (.tup [.vs 1 [I 0] none, I 0])) := by
  rw [l_late, EX_late _ _ (by decide) (by decide)]; rfl
theorem l16 : ap Try.prog pol 12 [EXV, .vs 4 [.agg [I 1, I 0, I 12, I 14]] (some 1), I 16, I 20] = some (.ret (.tup [.nils, I 1])) := by
  rw [l_late]
  have : LATE EXD ENT 16 20 = (none, 1) := by unfold LATE; rw [if_pos EX_D, if_neg (by decide)]
  rw [this]; rfl
theorem lf : ap Try.prog pol 20 [EXV, .vs 4 [.agg [I 1, I 0, I 12, I 14]] (some 1), I 0, I 20, I 5] = some (.ret (.tup [I 10, I 0])) := by
  have := c_fine EXD EX_ok q1 .nils WG_nils ENT (some 1) 0 20 5
  have e : FINE EXD ENT 0 20 5 = (10, 0) := by unfold FINE; rw [if_pos EX_D, if_pos (by decide)]; rfl
  rw [e] at this
  exact this
theorem lc : ap Try.prog pol 14 [EXV, .vs 4 [.agg [I 1, I 0, I 12, I 14]] (some 1)] = some (.ret (I 0)) := by
  have := c_dcheck EXD EX_ok q1 .nils ENT (some 1)
  rw [EX_D] at this
  exact this
theorem lc3 : ap Try.prog pol 14 [EXV, .vs 4 [.agg [I 0, I 0, I 3, I 0]] (some 1)] = some (.ret (I 300)) := by
  have := c_dcheck EXD EX_ok q1 .nils [⟨0, 0, 3, 0⟩] (some 1)
  rw [EX_D3] at this
  exact this
def BOTH : List Clm := [⟨0, 0, 11, 5, 0⟩, ⟨0, 0, 12, 5, 0⟩]
theorem EX_C : CC EXD BOTH = 0 := by
  unfold CC
  rw [if_pos EX_X, if_neg (by decide), if_pos]
  intro i y e
  match i with
  | 0 =>
    simp [BOTH] at e
    subst e
    refine ⟨by decide, by decide, by decide, by decide, fun g h => ?_, fun y h => by cases h⟩
    cases h
    decide
  | 1 =>
    simp [BOTH] at e
    subst e
    refine ⟨by decide, by decide, by decide, by decide, fun g h => ?_, fun y h => ?_⟩
    · cases h
      decide
    · cases h
      decide
  | i + 2 => simp [BOTH] at e
theorem EX_A : ACT EXD ENT BOTH 20 = (some [⟨0, 0, 12, 5, 0⟩], 0) := by
  unfold ACT
  rw [if_pos EX_D, if_pos EX_C, if_pos (by decide)]
  have e : PRS EXD ENT 20 0 1 = [⟨0, 10, 12⟩] := rfl
  have k1 : ¬ KEEP (PRS EXD ENT 20 0 1) 11 := by
    rw [e]; intro g; exact absurd (g ⟨0, 10, 12⟩ (by simp)) (by decide)
  have k2 : KEEP (PRS EXD ENT 20 0 1) 12 := by
    rw [e]; intro p hp; simp only [List.mem_singleton] at hp; subst hp; decide
  have : KEPT EXD ENT 20 EXD.ds.length BOTH = [⟨0, 0, 12, 5, 0⟩] := by
    show KEPT EXD ENT 20 1 BOTH = _
    unfold KEPT BOTH
    simp [k1, k2]
  rw [this]
theorem la : ap Try.prog pol 18 [EXV, .vs 4 [.agg [I 1, I 0, I 12, I 14]] (some 1), .vs 5 [.agg [I 0, I 0, I 11, I 5, I 0], .agg [I 0, I 0, I 12, I 5, I 0]] (some 2), I 20] = some (.ret (.tup [.vs 5 [.agg [I 0, I 0, I 12, I 5, I 0]] none, I 0])) := by
  have := c_act EXD EX_ok q1 .nils WG_nils ENT (some 1) BOTH (some 2) 20
  rw [EX_A] at this
  exact this
theorem ls1 : ap Try.prog pol 16 [.vs 1 [I 0] none, .vs 1 [I 0] (some 1)] = some (.ret (.bool true)) := c_same [0] [0] none (some 1) (by decide) (by decide)
theorem ls2 (c : Option Nat) : ap Try.prog pol 22 [.vs 5 [.agg [I 0, I 0, I 12, I 5, I 0]] none, .vs 5 [.agg [I 0, I 0, I 12, I 5, I 0]] c] = some (.ret (.bool true)) := c_samec [⟨0, 0, 12, 5, 0⟩] none c (by decide)
theorem c_sane : ap Try.prog pol 10 [] = some (.ret (.bool true)) := by
  rw [ap_eq _ Try.func10 rfl Try.ntmps10 Try.results10 (by kernel_rfl) rfl (by exact Nat.le_of_ble_eq_true rfl)]
  simp (config := { maxSteps := 1000000 }) only [RUN, PATHS, BASE, FA, POL, start_tm, Heap.empty, reduceIte, Nat.reduceLT, Nat.reduceLeDiff, Nat.reduceEqDiff, Nat.reduceAdd, Nat.reduceSub, Nat.reduceMul, Nat.reduceBEq, Int.reduceLT, Int.reduceLE, Int.reduceEq, Int.reduceNeg, Int.reduceAdd, Int.reduceSub, Int.reduceMul, Bool.false_eq_true, Bool.not_true, Bool.not_false, decide_eq_true_eq, and_self, true_and, and_true, reduceCtorEq, ne_eq, not_false_eq_true, not_true_eq_false, decide_true, decide_false, or_false, false_or, NUM, c_example, l9, l11, l12, l13, l16, lf, lc, lc3, la, ls1, ls2]
  simp
end Go.Proofs.Ytaggpjlkapnonaa
