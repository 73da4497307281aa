/-
  The small functions of the statements, and the sanity examples.
-/
import Derived.Test.YtcdmoilcpkapiaaC5
set_option linter.unusedSimpArgs false
set_option linter.unusedVariables false
set_option linter.unusedSectionVars false
namespace Go.Proofs.Ytcdmoilcpkapiaa
open Go GoV
set_option maxRecDepth 100000

theorem eq_rat (a b c d : Int) (xo yo : Operand) : binPV Try.prog .eql 23 xo yo (rat a b) (rat c d) = some (.bool (decide (a = c ∧ b = d))) ∧ binPV Try.prog .neq 23 xo yo (rat a b) (rat c d) = some (.bool (decide (¬ (a = c ∧ b = d)))) := by
  refine bin_agg (by kernel_rfl) (fun n => ?_) xo yo
  have g2 : Try.prog.stoodInHeld 23 = false := by kernel_rfl
  simp only [eqPV, Try.underlying23, g2, eqFs, partPV, FA, Option.bind_some, Bool.false_eq_true, if_false, List.getElem?_cons_zero, List.getElem?_cons_succ, if_true, String.reduceEq]
  by_cases h1 : a = c <;> by_cases h2 : b = d <;> simp [h1, h2]
theorem c_all0 (es : List PV) (cap : Option Nat) (hl : es.length ≤ 1000) (h : ∀ e ∈ es, e = I 0) : ap Try.prog pol 23 [.vs 1 es cap] = some (.ret (.bool true)) := by
  rw [ap_eq _ Try.func23 rfl Try.ntmps23 Try.results23 (by kernel_rfl) rfl (by exact Nat.le_of_ble_eq_true rfl)]
  simp (config := { maxSteps := 1000000 }) only [RUN, PATHS, BASE, FA, POL, start_tm, Heap.empty, reduceIte, Nat.reduceLT, Nat.reduceLeDiff, Nat.reduceEqDiff, Nat.reduceAdd, Nat.reduceSub, Nat.reduceMul, Nat.reduceBEq, Int.reduceLT, Int.reduceLE, Int.reduceEq, Int.reduceNeg, Int.reduceAdd, Int.reduceSub, Int.reduceMul, Bool.false_eq_true, Bool.not_true, Bool.not_false, decide_eq_true_eq, and_self, true_and, and_true, reduceCtorEq, ne_eq, not_false_eq_true, not_true_eq_false, decide_true, decide_false, or_false, false_or]
  generalize hL : W _ (.loop _) _ = L
  obtain ⟨ex, s, rfl, rfl, hd⟩ := loop_at hL (α := Nat) (fun k => es.length - k)
    (fun s0 k s => k ≤ es.length ∧ s.tmps 7 = I k ∧ s.tmps 6 = I es.length ∧ s.tmps 5 = .vs 1 es cap ∧ s.defers = [])
    (fun s0 ex s => ex = .exit 0 ∧ s.defers = []) 0
    (by simp (config := { maxSteps := 1000000 }) only [RUN, PATHS, BASE, FA, POL, start_tm, Heap.empty, reduceIte, Nat.reduceLT, Nat.reduceLeDiff, Nat.reduceEqDiff, Nat.reduceAdd, Nat.reduceSub, Nat.reduceMul, Nat.reduceBEq, Int.reduceLT, Int.reduceLE, Int.reduceEq, Int.reduceNeg, Int.reduceAdd, Int.reduceSub, Int.reduceMul, Bool.false_eq_true, Bool.not_true, Bool.not_false, decide_eq_true_eq, and_self, true_and, and_true, reduceCtorEq, ne_eq, not_false_eq_true, not_true_eq_false, decide_true, decide_false, or_false, false_or]; simp) (by
      rintro k s r hW ⟨hk, h7, h6, h5, hd⟩
      by_cases hp : k < es.length
      · have e0 : es[k]? = some (I 0) := by rw [List.getElem?_eq_getElem hp, h _ (List.getElem_mem hp)]
        simp (config := { maxSteps := 1000000 }) only [RUN, PATHS, BASE, FA, POL, start_tm, Heap.empty, reduceIte, Nat.reduceLT, Nat.reduceLeDiff, Nat.reduceEqDiff, Nat.reduceAdd, Nat.reduceSub, Nat.reduceMul, Nat.reduceBEq, Int.reduceLT, Int.reduceLE, Int.reduceEq, Int.reduceNeg, Int.reduceAdd, Int.reduceSub, Int.reduceMul, Bool.false_eq_true, Bool.not_true, Bool.not_false, decide_eq_true_eq, and_self, true_and, and_true, reduceCtorEq, ne_eq, not_false_eq_true, not_true_eq_false, decide_true, decide_false, or_false, false_or, h7, h6, h5, hd, e0, Int.toNat_natCast, (show (k : Int) < es.length by omega), (show (0 : Int) ≤ k by omega), true_and, (i64_in (x := (k : Int) + 1) (by unfold I64; omega))] at hW
        subst hW
        refine rd_next (k + 1) ?_ (show es.length - (k + 1) < es.length - k by omega)
        simp (config := { maxSteps := 1000000 }) only [RUN, PATHS, BASE, FA, POL, start_tm, Heap.empty, reduceIte, Nat.reduceLT, Nat.reduceLeDiff, Nat.reduceEqDiff, Nat.reduceAdd, Nat.reduceSub, Nat.reduceMul, Nat.reduceBEq, Int.reduceLT, Int.reduceLE, Int.reduceEq, Int.reduceNeg, Int.reduceAdd, Int.reduceSub, Int.reduceMul, Bool.false_eq_true, Bool.not_true, Bool.not_false, decide_eq_true_eq, and_self, true_and, and_true, reduceCtorEq, ne_eq, not_false_eq_true, not_true_eq_false, decide_true, decide_false, or_false, false_or, h6, h5]
        exact ⟨by omega, by simp⟩
      · simp (config := { maxSteps := 1000000 }) only [RUN, PATHS, BASE, FA, POL, start_tm, Heap.empty, reduceIte, Nat.reduceLT, Nat.reduceLeDiff, Nat.reduceEqDiff, Nat.reduceAdd, Nat.reduceSub, Nat.reduceMul, Nat.reduceBEq, Int.reduceLT, Int.reduceLE, Int.reduceEq, Int.reduceNeg, Int.reduceAdd, Int.reduceSub, Int.reduceMul, Bool.false_eq_true, Bool.not_true, Bool.not_false, decide_eq_true_eq, and_self, true_and, and_true, reduceCtorEq, ne_eq, not_false_eq_true, not_true_eq_false, decide_true, decide_false, or_false, false_or, h7, h6, h5, hd, (show ¬ (k : Int) < es.length by omega)] at hW
        subst hW
        exact rd_exit ⟨rfl, rfl⟩)
  simp (config := { maxSteps := 1000000 }) only [RUN, PATHS, BASE, FA, POL, start_tm, Heap.empty, reduceIte, Nat.reduceLT, Nat.reduceLeDiff, Nat.reduceEqDiff, Nat.reduceAdd, Nat.reduceSub, Nat.reduceMul, Nat.reduceBEq, Int.reduceLT, Int.reduceLE, Int.reduceEq, Int.reduceNeg, Int.reduceAdd, Int.reduceSub, Int.reduceMul, Bool.false_eq_true, Bool.not_true, Bool.not_false, decide_eq_true_eq, and_self, true_and, and_true, reduceCtorEq, ne_eq, not_false_eq_true, not_true_eq_false, decide_true, decide_false, or_false, false_or, hd]
theorem c_few (n d : Int) (hn : -32768 ≤ n ∧ n ≤ 32767) (hd : 0 ≤ d ∧ d ≤ 65535) : ap Try.prog pol 24 [.int .i16 n, .int .u16 d] = some (.ret (.tup [rat (MK (n.tmod 512) (1 + d.tmod 1024)).1 (MK (n.tmod 512) (1 + d.tmod 1024)).2.1, .bool (decide ((MK (n.tmod 512) (1 + d.tmod 1024)).2.2 = 0))])) := by
  rw [ap_eq _ Try.func24 rfl Try.ntmps24 Try.results24 (by kernel_rfl) rfl (by exact Nat.le_of_ble_eq_true rfl)]
  have b1 := Int.lt_tmod_of_pos n (b := 512) (by omega)
  have b2 := Int.tmod_lt_of_pos n (b := 512) (by omega)
  have b3 := Int.lt_tmod_of_pos d (b := 1024) (by omega)
  have b4 := Int.tmod_lt_of_pos d (b := 1024) (by omega)
  simp (config := { maxSteps := 1000000 }) only [RUN, PATHS, BASE, FA, POL, start_tm, Heap.empty, reduceIte, Nat.reduceLT, Nat.reduceLeDiff, Nat.reduceEqDiff, Nat.reduceAdd, Nat.reduceSub, Nat.reduceMul, Nat.reduceBEq, Int.reduceLT, Int.reduceLE, Int.reduceEq, Int.reduceNeg, Int.reduceAdd, Int.reduceSub, Int.reduceMul, Bool.false_eq_true, Bool.not_true, Bool.not_false, decide_eq_true_eq, and_self, true_and, and_true, reduceCtorEq, ne_eq, not_false_eq_true, not_true_eq_false, decide_true, decide_false, or_false, false_or, i64_in (x := n) (by unfold I64; omega), i64_in (x := d) (by unfold I64; omega), i64_in (x := 1 + d.tmod 1024) (by unfold I64; omega), c_make (n.tmod 512) (1 + d.tmod 1024) (by unfold I64; omega) (by unfold I64; omega)]
theorem c_sane : ap Try.prog pol 10 [] = some (.ret (.bool true)) := by
  rw [ap_eq _ Try.func10 rfl Try.ntmps10 Try.results10 (by kernel_rfl) rfl (by exact Nat.le_of_ble_eq_true rfl)]
  have k (x : Int) (h : -9223372036854775808 ≤ x ∧ x ≤ 9223372036854775807 := by omega) : I64 x := h
  have m1 : MK 6 (-4) = (-3, 2, 0) := by decide
  have m2 : MK 2147483648 2 = (1073741824, 1, 0) := by decide
  have m3 : MK 1 0 = (0, 0, 120) := by decide
  have m4 : MK 1 1073741825 = (0, 0, 2) := by decide
  have o1 : OPR 1 2 1 3 (w64 (w64 3 + w64 2)) (w64 6) = (5, 6, 0) := by decide
  have o2 : TIMES 7 2 3 = (10, 11, 0) := by decide
  have o3 : BTW 1 3 1 2 = (2, 5, 0) := by decide
  have o4 : BTW (-1) 2 1 3 = (0, 1, 0) := by decide
  have o5 : BTW 2 1 5 1 = (3, 1, 0) := by decide
  have v1 : ¬ VALID 0 0 := by decide
  have v2 : ¬ VALID 2 4 := by decide
  have v3 : VALID 1 2 := by decide
  simp (config := { maxSteps := 1000000 }) only [RUN, PATHS, BASE, FA, POL, start_tm, Heap.empty, reduceIte, Nat.reduceLT, Nat.reduceLeDiff, Nat.reduceEqDiff, Nat.reduceAdd, Nat.reduceSub, Nat.reduceMul, Nat.reduceBEq, Int.reduceLT, Int.reduceLE, Int.reduceEq, Int.reduceNeg, Int.reduceAdd, Int.reduceSub, Int.reduceMul, Bool.false_eq_true, Bool.not_true, Bool.not_false, decide_eq_true_eq, and_self, true_and, and_true, reduceCtorEq, ne_eq, not_false_eq_true, not_true_eq_false, decide_true, decide_false, or_false, false_or, c_make 6 (-4) (k _) (k _), m1, c_make 2147483648 2 (k _) (k _), m2, c_make 1 0 (k _) (k _), m3, c_make 1 1073741825 (k _) (k _), m4, c_add 1 2 1 3 (k _) (k _) (k _) (k _), o1, c_times 7 2 3 (k _) (k _) (k _), o2, c_btw 1 3 1 2 (k _) (k _) (k _) (k _), o3,
    c_btw (-1) 2 1 3 (k _) (k _) (k _) (k _), o4, c_btw 2 1 5 1 (k _) (k _) (k _) (k _), o5, c_check 0 0 (k _) (k _), v1, c_check 2 4 (k _) (k _), v2, c_check 1 2 (k _) (k _), v3, eq_rat]
end Go.Proofs.Ytcdmoilcpkapiaa
