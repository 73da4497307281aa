/-
  expand.Check: rights.
-/
import Derived.Test.YtaggpjlkapnonaaC3
set_option linter.unusedSimpArgs false
set_option linter.unusedVariables false
set_option linter.unusedSectionVars false
namespace Go.Proofs.Ytaggpjlkapnonaa
open Go GoV
set_option maxRecDepth 100000

theorem eq_rgt (x : Rgt) (c' d' : Int) (xo yo : Operand) : binPV Try.prog .eql 81 xo yo (rgt x) (rgt ⟨x.nm, x.kd, x.fm, x.rc, 0, 0, c', d', 0, 0⟩) = some (.bool (decide (x.a = 0 ∧ x.b = 0 ∧ x.c = c' ∧ x.d = d' ∧ x.e = 0 ∧ x.f = 0))) := by
  refine (bin_agg (by kernel_rfl) (fun n => ?_) xo yo).1
  have g2 : Try.prog.stoodInHeld 81 = false := by kernel_rfl
  simp only [eqPV, Try.underlying81, g2, eqFs, partPV, FA, Option.bind_some, Bool.false_eq_true, if_false, List.getElem?_cons_zero, List.getElem?_cons_succ, if_true, String.reduceEq, beq_self_eq_true]
  have hn : (x.nm == x.nm) = true := by
    show x.nm.beq x.nm = true
    unfold ByteArray.beq
    simp
  by_cases h1 : x.a = 0
  case neg => simp [hn, h1]
  by_cases h2 : x.b = 0
  case neg => simp [hn, h1, h2]
  by_cases h3 : x.c = c'
  case neg => simp [hn, h1, h2, h3]
  by_cases h4 : x.d = d'
  case neg => simp [hn, h1, h2, h3, h4]
  by_cases h5 : x.e = 0
  case neg => simp [hn, h1, h2, h3, h4, h5]
  by_cases h6 : x.f = 0
  case neg => simp [hn, h1, h2, h3, h4, h5, h6]
  simp [hn, h1, h2, h3, h4, h5, h6]
/-- What a right must be. -/
def RGT (hours nf nr : Int) (x : Rgt) : Prop := (0 ≤ x.fm ∧ x.fm < nf) ∧ (0 ≤ x.rc ∧ x.rc < nr) ∧ (0 ≤ x.c ∧ x.c ≤ x.d ∧ x.d ≤ hours - 1) ∧
  (if x.kd = 1 then x.rc = 0 ∧ (0 ≤ x.a ∧ x.a ≤ 1048576) ∧ (1 ≤ x.b ∧ x.b ≤ 1073741824) ∧ (1 ≤ x.f ∧ x.f ≤ x.e ∧ x.e ≤ hours)
   else if x.kd = 2 then x.a = 0 ∧ x.b = 0 ∧ x.c = 0 ∧ x.d = hours - 1 ∧ x.e = 0 ∧ x.f = 0
   else if x.kd = 3 then x.a = 0 ∧ x.b = 0 ∧ x.e = 0 ∧ x.f = 0 else False)
instance (h nf nr : Int) (x : Rgt) : Decidable (RGT h nf nr x) := by unfold RGT; infer_instance
section
variable {p q : Prop} [Decidable p] [Decidable q] {H : Heap}
theorem h_and : (if p then some (CR.ret (PV.bool (decide q)), H) else some (CR.ret (PV.bool false), H)) = some (CR.ret (PV.bool (decide (p ∧ q))), H) := by
  by_cases h : p <;> simp [h]
theorem h_nand : (if p then some (CR.ret (PV.bool false), H) else some (CR.ret (PV.bool (decide q)), H)) = some (CR.ret (PV.bool (decide (¬ p ∧ q))), H) := by
  by_cases h : p <;> simp [h]
theorem h_iff (h : p ↔ q) : some (CR.ret (PV.bool (decide p)), H) = some (CR.ret (PV.bool (decide q)), H) := by rw [decide_eq_decide.2 h]
theorem h_f : some (CR.ret (PV.bool false), H) = some (CR.ret (PV.bool (decide False)), H) := by simp
end
abbrev dist (nm : ByteArray) (hours cap start : Int) (rs fs cs gs ds ws : PV) : PV := .agg [.str nm, I hours, I cap, I start, rs, fs, cs, gs, ds, ws]
theorem c_right (nm : ByteArray) (hours cap start : Int) (rs fs : List PV) (rc fc : Option Nat) (cs gs ds ws : PV) (x : Rgt) (h1 : 1 ≤ hours) (h2 : hours ≤ 4096) (H : Heap) :
    callF G Try.prog pol 54 [dist nm hours cap start (.vs 12 rs rc) (.vs 4 fs fc) cs gs ds ws, rgt x] H = some (.ret (.bool (decide (RGT hours fs.length rs.length x))), ⟨H.rows, H.next + 1⟩) := by
  have e2 := eq_rgt x 0 (hours - 1)
  have e3 := eq_rgt x x.c x.d
  obtain ⟨n, kd, fm, rc, a, b, c, d, e, f⟩ := x
  simp only at e2 e3
  rw [callF_eq _ _ Try.func54 rfl Try.ntmps54 Try.results54 (by kernel_rfl) rfl (by exact Nat.le_of_ble_eq_true rfl)]
  by_cases k1 : kd = 1
  · subst k1
    simp (config := { maxSteps := 1000000 }) only [RUN, PATHS, BASE, FA, POL, start_tm, Heap.empty, reduceIte, Nat.reduceLT, Nat.reduceLeDiff, Nat.reduceEqDiff, Nat.reduceAdd, Nat.reduceSub, Nat.reduceMul, Nat.reduceBEq, Int.reduceLT, Int.reduceLE, Int.reduceEq, Int.reduceNeg, Int.reduceAdd, Int.reduceSub, Int.reduceMul, Bool.false_eq_true, Bool.not_true, Bool.not_false, decide_eq_true_eq, and_self, true_and, and_true, reduceCtorEq, ne_eq, not_false_eq_true, not_true_eq_false, decide_true, decide_false, or_false, false_or, NUM, c_index, c_ris3, c_ris4, i64_in (x := hours - 1) (by unfold I64; omega), h_and, h_nand]
    refine h_iff ?_
    unfold RGT
    simp only [Int.reduceEq, if_true, Decidable.not_not]
  · by_cases k2 : kd = 2
    · subst k2
      simp (config := { maxSteps := 1000000 }) only [RUN, PATHS, BASE, FA, POL, start_tm, Heap.empty, reduceIte, Nat.reduceLT, Nat.reduceLeDiff, Nat.reduceEqDiff, Nat.reduceAdd, Nat.reduceSub, Nat.reduceMul, Nat.reduceBEq, Int.reduceLT, Int.reduceLE, Int.reduceEq, Int.reduceNeg, Int.reduceAdd, Int.reduceSub, Int.reduceMul, Bool.false_eq_true, Bool.not_true, Bool.not_false, decide_eq_true_eq, and_self, true_and, and_true, reduceCtorEq, ne_eq, not_false_eq_true, not_true_eq_false, decide_true, decide_false, or_false, false_or, NUM, c_index, c_ris3, c_ris4, i64_in (x := hours - 1) (by unfold I64; omega), e2, h_and, h_nand]
      refine h_iff ?_
      unfold RGT
      simp only [Int.reduceEq, if_true, if_false, Decidable.not_not]
    · by_cases k3 : kd = 3
      · subst k3
        simp (config := { maxSteps := 1000000 }) only [RUN, PATHS, BASE, FA, POL, start_tm, Heap.empty, reduceIte, Nat.reduceLT, Nat.reduceLeDiff, Nat.reduceEqDiff, Nat.reduceAdd, Nat.reduceSub, Nat.reduceMul, Nat.reduceBEq, Int.reduceLT, Int.reduceLE, Int.reduceEq, Int.reduceNeg, Int.reduceAdd, Int.reduceSub, Int.reduceMul, Bool.false_eq_true, Bool.not_true, Bool.not_false, decide_eq_true_eq, and_self, true_and, and_true, reduceCtorEq, ne_eq, not_false_eq_true, not_true_eq_false, decide_true, decide_false, or_false, false_or, NUM, c_index, c_ris3, c_ris4, i64_in (x := hours - 1) (by unfold I64; omega), e3, h_and, h_nand]
        refine h_iff ?_
        unfold RGT
        simp only [Int.reduceEq, if_true, if_false, Decidable.not_not, true_and]
      · simp (config := { maxSteps := 1000000 }) only [RUN, PATHS, BASE, FA, POL, start_tm, Heap.empty, reduceIte, Nat.reduceLT, Nat.reduceLeDiff, Nat.reduceEqDiff, Nat.reduceAdd, Nat.reduceSub, Nat.reduceMul, Nat.reduceBEq, Int.reduceLT, Int.reduceLE, Int.reduceEq, Int.reduceNeg, Int.reduceAdd, Int.reduceSub, Int.reduceMul, Bool.false_eq_true, Bool.not_true, Bool.not_false, decide_eq_true_eq, and_self, true_and, and_true, reduceCtorEq, ne_eq, not_false_eq_true, not_true_eq_false, decide_true, decide_false, or_false, false_or, NUM, c_index, c_ris3, c_ris4, i64_in (x := hours - 1) (by unfold I64; omega), k1, k2, k3]
        rw [decide_eq_false (p := RGT ..) (by unfold RGT; simp only [k1, k2, k3, if_false, and_false]; exact id)]
        simp only [ite_self]
end Go.Proofs.Ytaggpjlkapnonaa
