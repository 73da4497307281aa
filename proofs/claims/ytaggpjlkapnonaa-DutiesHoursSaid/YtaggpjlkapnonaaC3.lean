/-
  expand.Check: its parts.
-/
import Derived.Test.YtaggpjlkapnonaaC2
set_option linter.unusedSimpArgs false
set_option linter.unusedVariables false
set_option linter.unusedSectionVars false
namespace Go.Proofs.Ytaggpjlkapnonaa
open Go GoV
set_option maxRecDepth 100000

theorem NUM : (((0 : Nat) : Int) = 0 ∧ ((1 : Nat) : Int) = 1 ∧ ((2 : Nat) : Int) = 2 ∧ ((3 : Nat) : Int) = 3 ∧ ((4 : Nat) : Int) = 4) ∧
    (IntKind.i64.wrap 0 = 0 ∧ IntKind.i64.wrap 1 = 1 ∧ IntKind.i64.wrap 2 = 2 ∧ IntKind.i64.wrap 3 = 3 ∧ IntKind.i64.wrap 4 = 4) ∧
    ((0 : Int).toNat = 0 ∧ (1 : Int).toNat = 1 ∧ (2 : Int).toNat = 2 ∧ (3 : Int).toNat = 3 ∧ (4 : Int).toNat = 4) := by
  refine ⟨⟨rfl, rfl, rfl, rfl, rfl⟩, ⟨?_, ?_, ?_, ?_, ?_⟩, ⟨rfl, rfl, rfl, rfl, rfl⟩⟩ <;> exact i64_in (by unfold I64; omega)
theorem mkiK_int (t : Nat) (v : PV) (k : IntKind) : mkiK t v (some (.int k)) = some (.iface t v) := rfl
theorem c_ris3 (a b c : Int) : ap Try.prog pol 51 [.vs 1 [I a, I b, I c] (some 3)] = some (.ret (.bool (decide (a ≤ b ∧ b ≤ c)))) := by
  rw [ap_eq _ Try.func51 rfl Try.ntmps51 Try.results51 (by kernel_rfl) rfl (by exact Nat.le_of_ble_eq_true rfl)]
  by_cases h1 : b < a
  · simp (config := { maxSteps := 1000000 }) only [RUN, PATHS, BASE, FA, POL, start_tm, Heap.empty, reduceIte, Nat.reduceLT, Nat.reduceLeDiff, Nat.reduceEqDiff, Nat.reduceAdd, Nat.reduceSub, Nat.reduceMul, Nat.reduceBEq, Int.reduceLT, Int.reduceLE, Int.reduceEq, Int.reduceNeg, Int.reduceAdd, Int.reduceSub, Int.reduceMul, Bool.false_eq_true, Bool.not_true, Bool.not_false, decide_eq_true_eq, and_self, true_and, and_true, reduceCtorEq, ne_eq, not_false_eq_true, not_true_eq_false, decide_true, decide_false, or_false, false_or, WW_loop, NUM, List.getElem?_cons_zero, List.getElem?_cons_succ, h1, (show ¬ a ≤ b by omega), false_and]
  · by_cases h2 : c < b
    · simp (config := { maxSteps := 1000000 }) only [RUN, PATHS, BASE, FA, POL, start_tm, Heap.empty, reduceIte, Nat.reduceLT, Nat.reduceLeDiff, Nat.reduceEqDiff, Nat.reduceAdd, Nat.reduceSub, Nat.reduceMul, Nat.reduceBEq, Int.reduceLT, Int.reduceLE, Int.reduceEq, Int.reduceNeg, Int.reduceAdd, Int.reduceSub, Int.reduceMul, Bool.false_eq_true, Bool.not_true, Bool.not_false, decide_eq_true_eq, and_self, true_and, and_true, reduceCtorEq, ne_eq, not_false_eq_true, not_true_eq_false, decide_true, decide_false, or_false, false_or, WW_loop, NUM, List.getElem?_cons_zero, List.getElem?_cons_succ, h1, h2, (show ¬ b ≤ c by omega), and_false]
    · simp (config := { maxSteps := 1000000 }) only [RUN, PATHS, BASE, FA, POL, start_tm, Heap.empty, reduceIte, Nat.reduceLT, Nat.reduceLeDiff, Nat.reduceEqDiff, Nat.reduceAdd, Nat.reduceSub, Nat.reduceMul, Nat.reduceBEq, Int.reduceLT, Int.reduceLE, Int.reduceEq, Int.reduceNeg, Int.reduceAdd, Int.reduceSub, Int.reduceMul, Bool.false_eq_true, Bool.not_true, Bool.not_false, decide_eq_true_eq, and_self, true_and, and_true, reduceCtorEq, ne_eq, not_false_eq_true, not_true_eq_false, decide_true, decide_false, or_false, false_or, WW_loop, NUM, List.getElem?_cons_zero, List.getElem?_cons_succ, h1, h2, (show a ≤ b by omega), (show b ≤ c by omega)]
theorem c_ris4 (a b c d : Int) : ap Try.prog pol 51 [.vs 1 [I a, I b, I c, I d] (some 4)] = some (.ret (.bool (decide (a ≤ b ∧ b ≤ c ∧ c ≤ d)))) := by
  rw [ap_eq _ Try.func51 rfl Try.ntmps51 Try.results51 (by kernel_rfl) rfl (by exact Nat.le_of_ble_eq_true rfl)]
  by_cases h1 : b < a
  · simp (config := { maxSteps := 1000000 }) only [RUN, PATHS, BASE, FA, POL, start_tm, Heap.empty, reduceIte, Nat.reduceLT, Nat.reduceLeDiff, Nat.reduceEqDiff, Nat.reduceAdd, Nat.reduceSub, Nat.reduceMul, Nat.reduceBEq, Int.reduceLT, Int.reduceLE, Int.reduceEq, Int.reduceNeg, Int.reduceAdd, Int.reduceSub, Int.reduceMul, Bool.false_eq_true, Bool.not_true, Bool.not_false, decide_eq_true_eq, and_self, true_and, and_true, reduceCtorEq, ne_eq, not_false_eq_true, not_true_eq_false, decide_true, decide_false, or_false, false_or, WW_loop, NUM, List.getElem?_cons_zero, List.getElem?_cons_succ, h1, (show ¬ a ≤ b by omega), false_and]
  · by_cases h2 : c < b
    · simp (config := { maxSteps := 1000000 }) only [RUN, PATHS, BASE, FA, POL, start_tm, Heap.empty, reduceIte, Nat.reduceLT, Nat.reduceLeDiff, Nat.reduceEqDiff, Nat.reduceAdd, Nat.reduceSub, Nat.reduceMul, Nat.reduceBEq, Int.reduceLT, Int.reduceLE, Int.reduceEq, Int.reduceNeg, Int.reduceAdd, Int.reduceSub, Int.reduceMul, Bool.false_eq_true, Bool.not_true, Bool.not_false, decide_eq_true_eq, and_self, true_and, and_true, reduceCtorEq, ne_eq, not_false_eq_true, not_true_eq_false, decide_true, decide_false, or_false, false_or, WW_loop, NUM, List.getElem?_cons_zero, List.getElem?_cons_succ, h1, h2, (show ¬ b ≤ c by omega), and_false, false_and]
    · by_cases h3 : d < c
      · simp (config := { maxSteps := 1000000 }) only [RUN, PATHS, BASE, FA, POL, start_tm, Heap.empty, reduceIte, Nat.reduceLT, Nat.reduceLeDiff, Nat.reduceEqDiff, Nat.reduceAdd, Nat.reduceSub, Nat.reduceMul, Nat.reduceBEq, Int.reduceLT, Int.reduceLE, Int.reduceEq, Int.reduceNeg, Int.reduceAdd, Int.reduceSub, Int.reduceMul, Bool.false_eq_true, Bool.not_true, Bool.not_false, decide_eq_true_eq, and_self, true_and, and_true, reduceCtorEq, ne_eq, not_false_eq_true, not_true_eq_false, decide_true, decide_false, or_false, false_or, WW_loop, NUM, List.getElem?_cons_zero, List.getElem?_cons_succ, h1, h2, h3, (show ¬ c ≤ d by omega), and_false]
      · simp (config := { maxSteps := 1000000 }) only [RUN, PATHS, BASE, FA, POL, start_tm, Heap.empty, reduceIte, Nat.reduceLT, Nat.reduceLeDiff, Nat.reduceEqDiff, Nat.reduceAdd, Nat.reduceSub, Nat.reduceMul, Nat.reduceBEq, Int.reduceLT, Int.reduceLE, Int.reduceEq, Int.reduceNeg, Int.reduceAdd, Int.reduceSub, Int.reduceMul, Bool.false_eq_true, Bool.not_true, Bool.not_false, decide_eq_true_eq, and_self, true_and, and_true, reduceCtorEq, ne_eq, not_false_eq_true, not_true_eq_false, decide_true, decide_false, or_false, false_or, WW_loop, NUM, List.getElem?_cons_zero, List.getElem?_cons_succ, h1, h2, h3, (show a ≤ b by omega), (show b ≤ c by omega), (show c ≤ d by omega)]
theorem c_index (i n : Int) : ap Try.prog pol 53 [I i, I n] = some (.ret (.bool (decide (0 ≤ i ∧ i < n)))) := by
  rw [ap_eq _ Try.func53 rfl Try.ntmps53 Try.results53 (by kernel_rfl) rfl (by exact Nat.le_of_ble_eq_true rfl)]
  by_cases h : 0 ≤ i
  · simp (config := { maxSteps := 1000000 }) only [RUN, PATHS, BASE, FA, POL, start_tm, Heap.empty, reduceIte, Nat.reduceLT, Nat.reduceLeDiff, Nat.reduceEqDiff, Nat.reduceAdd, Nat.reduceSub, Nat.reduceMul, Nat.reduceBEq, Int.reduceLT, Int.reduceLE, Int.reduceEq, Int.reduceNeg, Int.reduceAdd, Int.reduceSub, Int.reduceMul, Bool.false_eq_true, Bool.not_true, Bool.not_false, decide_eq_true_eq, and_self, true_and, and_true, reduceCtorEq, ne_eq, not_false_eq_true, not_true_eq_false, decide_true, decide_false, or_false, false_or, h]
  · simp (config := { maxSteps := 1000000 }) only [RUN, PATHS, BASE, FA, POL, start_tm, Heap.empty, reduceIte, Nat.reduceLT, Nat.reduceLeDiff, Nat.reduceEqDiff, Nat.reduceAdd, Nat.reduceSub, Nat.reduceMul, Nat.reduceBEq, Int.reduceLT, Int.reduceLE, Int.reduceEq, Int.reduceNeg, Int.reduceAdd, Int.reduceSub, Int.reduceMul, Bool.false_eq_true, Bool.not_true, Bool.not_false, decide_eq_true_eq, and_self, true_and, and_true, reduceCtorEq, ne_eq, not_false_eq_true, not_true_eq_false, decide_true, decide_false, or_false, false_or, h, false_and]
theorem c_demand (b : Bool) (e : Int) : ap Try.prog pol 44 [.bool b, I e] = if b = true then some (.ret (.tup [])) else some (.pan (.iface 106 (I e))) := by
  rw [ap_eq _ Try.func44 rfl Try.ntmps44 Try.results44 (by kernel_rfl) rfl (by exact Nat.le_of_ble_eq_true rfl)]
  cases b
  · simp (config := { maxSteps := 1000000 }) only [RUN, PATHS, BASE, FA, POL, start_tm, Heap.empty, reduceIte, Nat.reduceLT, Nat.reduceLeDiff, Nat.reduceEqDiff, Nat.reduceAdd, Nat.reduceSub, Nat.reduceMul, Nat.reduceBEq, Int.reduceLT, Int.reduceLE, Int.reduceEq, Int.reduceNeg, Int.reduceAdd, Int.reduceSub, Int.reduceMul, Bool.false_eq_true, Bool.not_true, Bool.not_false, decide_eq_true_eq, and_self, true_and, and_true, reduceCtorEq, ne_eq, not_false_eq_true, not_true_eq_false, decide_true, decide_false, or_false, false_or, mkiK_int, if_false]
  · simp (config := { maxSteps := 1000000 }) only [RUN, PATHS, BASE, FA, POL, start_tm, Heap.empty, reduceIte, Nat.reduceLT, Nat.reduceLeDiff, Nat.reduceEqDiff, Nat.reduceAdd, Nat.reduceSub, Nat.reduceMul, Nat.reduceBEq, Int.reduceLT, Int.reduceLE, Int.reduceEq, Int.reduceNeg, Int.reduceAdd, Int.reduceSub, Int.reduceMul, Bool.false_eq_true, Bool.not_true, Bool.not_false, decide_eq_true_eq, and_self, true_and, and_true, reduceCtorEq, ne_eq, not_false_eq_true, not_true_eq_false, decide_true, decide_false, or_false, false_or, if_true]
/-- What a pair of shares must be. -/
def SHR (a b c d : Int) : Prop := VALID a b ∧ VALID c d ∧ 0 ≤ a ∧ CMP (w64 (a * d)) (w64 (c * b)) ≤ 0 ∧ c ≤ d
instance (a b c d : Int) : Decidable (SHR a b c d) := by unfold SHR; infer_instance
theorem b_iff {p q : Prop} [Decidable p] [Decidable q] (h : p ↔ q) : some (CR.ret (PV.bool (decide p))) = some (CR.ret (PV.bool (decide q))) := by rw [decide_eq_decide.2 h]
theorem b_no {q : Prop} [Decidable q] (h : ¬ q) : some (CR.ret (PV.bool false)) = some (CR.ret (PV.bool (decide q))) := by rw [decide_eq_false h]
theorem b_yes {q : Prop} [Decidable q] (h : q) : some (CR.ret (PV.bool true)) = some (CR.ret (PV.bool (decide q))) := by rw [decide_eq_true h]
theorem b_and {p q : Prop} [Decidable p] [Decidable q] : (if p then some (CR.ret (PV.bool (decide q))) else some (CR.ret (PV.bool false))) = some (CR.ret (PV.bool (decide (p ∧ q)))) := by
  by_cases h : p <;> simp [h]
theorem b_nand {p q : Prop} [Decidable p] [Decidable q] : (if p then some (CR.ret (PV.bool false)) else some (CR.ret (PV.bool (decide q)))) = some (CR.ret (PV.bool (decide (¬ p ∧ q)))) := by
  by_cases h : p <;> simp [h]
theorem b_f : some (CR.ret (PV.bool false)) = some (CR.ret (PV.bool (decide False))) := by simp
theorem b_t : some (CR.ret (PV.bool true)) = some (CR.ret (PV.bool (decide True))) := by simp
theorem c_share (a b c d : Int) (ha : I64 a) (hb : I64 b) (hc : I64 c) (hd : I64 d) : ap Try.prog pol 60 [.agg [I a, I b, I c, I d]] = some (.ret (.bool (decide (SHR a b c d)))) := by
  rw [ap_eq _ Try.func60 rfl Try.ntmps60 Try.results60 (by kernel_rfl) rfl (by exact Nat.le_of_ble_eq_true rfl)]
  by_cases h1 : VALID a b ∧ VALID c d
  · have e : CMPR a b c d = (CMP (w64 (a * d)) (w64 (c * b)), 0) := by simp only [CMPR, h1, and_self, if_true]
    by_cases h2 : 0 ≤ a
    · by_cases h3 : CMP (w64 (a * d)) (w64 (c * b)) ≤ 0
      · simp (config := { maxSteps := 1000000 }) only [RUN, PATHS, BASE, FA, POL, start_tm, Heap.empty, reduceIte, Nat.reduceLT, Nat.reduceLeDiff, Nat.reduceEqDiff, Nat.reduceAdd, Nat.reduceSub, Nat.reduceMul, Nat.reduceBEq, Int.reduceLT, Int.reduceLE, Int.reduceEq, Int.reduceNeg, Int.reduceAdd, Int.reduceSub, Int.reduceMul, Bool.false_eq_true, Bool.not_true, Bool.not_false, decide_eq_true_eq, and_self, true_and, and_true, reduceCtorEq, ne_eq, not_false_eq_true, not_true_eq_false, decide_true, decide_false, or_false, false_or, NUM, c_cmp a b c d ha hb hc hd, e, h2, h3]
        exact b_iff ⟨fun h => ⟨h1.1, h1.2, h2, h3, h⟩, fun h => h.2.2.2.2⟩
      · simp (config := { maxSteps := 1000000 }) only [RUN, PATHS, BASE, FA, POL, start_tm, Heap.empty, reduceIte, Nat.reduceLT, Nat.reduceLeDiff, Nat.reduceEqDiff, Nat.reduceAdd, Nat.reduceSub, Nat.reduceMul, Nat.reduceBEq, Int.reduceLT, Int.reduceLE, Int.reduceEq, Int.reduceNeg, Int.reduceAdd, Int.reduceSub, Int.reduceMul, Bool.false_eq_true, Bool.not_true, Bool.not_false, decide_eq_true_eq, and_self, true_and, and_true, reduceCtorEq, ne_eq, not_false_eq_true, not_true_eq_false, decide_true, decide_false, or_false, false_or, NUM, c_cmp a b c d ha hb hc hd, e, h2, h3]
        exact b_no fun h => h3 h.2.2.2.1
    · simp (config := { maxSteps := 1000000 }) only [RUN, PATHS, BASE, FA, POL, start_tm, Heap.empty, reduceIte, Nat.reduceLT, Nat.reduceLeDiff, Nat.reduceEqDiff, Nat.reduceAdd, Nat.reduceSub, Nat.reduceMul, Nat.reduceBEq, Int.reduceLT, Int.reduceLE, Int.reduceEq, Int.reduceNeg, Int.reduceAdd, Int.reduceSub, Int.reduceMul, Bool.false_eq_true, Bool.not_true, Bool.not_false, decide_eq_true_eq, and_self, true_and, and_true, reduceCtorEq, ne_eq, not_false_eq_true, not_true_eq_false, decide_true, decide_false, or_false, false_or, NUM, c_cmp a b c d ha hb hc hd, e, h2]
      exact b_no fun h => h2 h.2.2.1
  · have e : CMPR a b c d = (0, 120) := by simp only [CMPR, h1, if_false]
    simp (config := { maxSteps := 1000000 }) only [RUN, PATHS, BASE, FA, POL, start_tm, Heap.empty, reduceIte, Nat.reduceLT, Nat.reduceLeDiff, Nat.reduceEqDiff, Nat.reduceAdd, Nat.reduceSub, Nat.reduceMul, Nat.reduceBEq, Int.reduceLT, Int.reduceLE, Int.reduceEq, Int.reduceNeg, Int.reduceAdd, Int.reduceSub, Int.reduceMul, Bool.false_eq_true, Bool.not_true, Bool.not_false, decide_eq_true_eq, and_self, true_and, and_true, reduceCtorEq, ne_eq, not_false_eq_true, not_true_eq_false, decide_true, decide_false, or_false, false_or, NUM, c_cmp a b c d ha hb hc hd, e]
    exact b_no fun h => h1 ⟨h.1, h.2.1⟩
/-- A reach. -/
structure Rch where
  (nm : ByteArray) (up dl cp bk si e0 e1 s0 s1 s2 s3 : Int)
def Rch.OK (x : Rch) : Prop := I64 x.s0 ∧ I64 x.s1 ∧ I64 x.s2 ∧ I64 x.s3
abbrev rch (x : Rch) : PV := .agg [.str x.nm, I x.up, I x.dl, I x.cp, I x.bk, I x.si, I x.e0, I x.e1, I x.s0, I x.s1, I x.s2, I x.s3]
/-- What a reach must be, apart from what lies above it. -/
def RIN (x : Rch) : Prop := (1 ≤ x.dl ∧ x.dl ≤ 16) ∧ (0 ≤ x.si ∧ x.si ≤ x.cp ∧ x.cp ≤ 1073741824) ∧ (0 ≤ x.si ∧ x.si ≤ x.bk ∧ x.bk ≤ 1099511627776) ∧ (0 ≤ x.e0 ∧ x.e0 ≤ x.e1 ∧ x.e1 ≤ 1073741824) ∧ SHR x.s0 x.s1 x.s2 x.s3
instance (x : Rch) : Decidable (RIN x) := by unfold RIN; infer_instance
def RUP (i : Nat) (x : Rch) : Prop := (i = 0 ∧ x.up = -1) ∨ (0 < i ∧ 0 ≤ x.up ∧ x.up < i)
instance (i : Nat) (x : Rch) : Decidable (RUP i x) := by unfold RUP; infer_instance
theorem c_reach (i : Nat) (x : Rch) (h : x.OK) : ap Try.prog pol 52 [I i, rch x] = some (.ret (.bool (decide (RUP i x ∧ RIN x)))) := by
  obtain ⟨nm, up, dl, cp, bk, si, e0, e1, s0, s1, s2, s3⟩ := x
  obtain ⟨ha, hb, hc, hd⟩ := h
  simp only at ha hb hc hd
  rw [ap_eq _ Try.func52 rfl Try.ntmps52 Try.results52 (by kernel_rfl) rfl (by exact Nat.le_of_ble_eq_true rfl)]
  by_cases hi : i = 0
  · subst hi
    have e : RUP 0 ⟨nm, up, dl, cp, bk, si, e0, e1, s0, s1, s2, s3⟩ ↔ up = -1 := by simp [RUP]
    simp (config := { maxSteps := 1000000 }) only [RUN, PATHS, BASE, FA, POL, start_tm, Heap.empty, reduceIte, Nat.reduceLT, Nat.reduceLeDiff, Nat.reduceEqDiff, Nat.reduceAdd, Nat.reduceSub, Nat.reduceMul, Nat.reduceBEq, Int.reduceLT, Int.reduceLE, Int.reduceEq, Int.reduceNeg, Int.reduceAdd, Int.reduceSub, Int.reduceMul, Bool.false_eq_true, Bool.not_true, Bool.not_false, decide_eq_true_eq, and_self, true_and, and_true, reduceCtorEq, ne_eq, not_false_eq_true, not_true_eq_false, decide_true, decide_false, or_false, false_or, NUM, c_ris3, c_ris4, c_share s0 s1 s2 s3 ha hb hc hd, b_and]
    refine b_iff ?_
    rw [e]
    unfold RIN
    simp only [and_assoc]
  · have e : RUP i ⟨nm, up, dl, cp, bk, si, e0, e1, s0, s1, s2, s3⟩ ↔ (0 ≤ up ∧ up < i) := by unfold RUP; simp only; omega
    simp (config := { maxSteps := 1000000 }) only [RUN, PATHS, BASE, FA, POL, start_tm, Heap.empty, reduceIte, Nat.reduceLT, Nat.reduceLeDiff, Nat.reduceEqDiff, Nat.reduceAdd, Nat.reduceSub, Nat.reduceMul, Nat.reduceBEq, Int.reduceLT, Int.reduceLE, Int.reduceEq, Int.reduceNeg, Int.reduceAdd, Int.reduceSub, Int.reduceMul, Bool.false_eq_true, Bool.not_true, Bool.not_false, decide_eq_true_eq, and_self, true_and, and_true, reduceCtorEq, ne_eq, not_false_eq_true, not_true_eq_false, decide_true, decide_false, or_false, false_or, NUM, c_ris3, c_ris4, c_share s0 s1 s2 s3 ha hb hc hd, c_index, (show (0 : Int) < i by omega), b_and]
    refine b_iff ?_
    rw [e]
    unfold RIN
    simp only [and_assoc]
structure Frm where
  (nm : ByteArray) (at_ ar cr : Int)
abbrev frm (x : Frm) : PV := .agg [.str x.nm, I x.at_, I x.ar, I x.cr]
structure Crp where
  (nm : ByteArray) (n : Int)
structure Rgt where
  (nm : ByteArray) (kd fm rc a b c d e f : Int)
abbrev rgt (x : Rgt) : PV := .agg [.str x.nm, I x.kd, I x.fm, I x.rc, I x.a, I x.b, I x.c, I x.d, I x.e, I x.f]
end Go.Proofs.Ytaggpjlkapnonaa
