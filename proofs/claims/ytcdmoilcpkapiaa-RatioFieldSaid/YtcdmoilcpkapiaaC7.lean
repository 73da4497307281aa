/-
  The statements of chapter 12: what each function comes to.
-/
import Derived.Test.YtcdmoilcpkapiaaC6
import Derived.Test.YtcdmoilcpkapiaaEz
set_option linter.unusedSimpArgs false
set_option linter.unusedVariables false
set_option linter.unusedSectionVars false
namespace Go.Proofs.Ytcdmoilcpkapiaa
open Go GoV
set_option maxRecDepth 100000

theorem wf_bd {k : IntKind} {n : Int} (h : (Lit.int k n).wf = true) : k.min ≤ n ∧ n ≤ k.max := by
  simpa only [Lit.wf, Bool.and_eq_true, decide_eq_true_eq] using h
theorem wf_i64 {n : Int} (h : (Lit.int .i64 n).wf = true) : I64 n := by
  have := wf_bd h
  simp [IntKind.min, IntKind.max, IntKind.bits, IntKind.signed] at this
  exact this
theorem sh_int {g : Nat} {cs : List PV} (h : Sh Try.prog (g + 1) 3 cs) : ∃ n, cs = [I n] ∧ I64 n := by
  simp only [Sh, Try.underlying3] at h
  obtain ⟨n, rfl, w⟩ := h
  exact ⟨n, rfl, wf_i64 w⟩
theorem sh_rat {g : Nat} {cs : List PV} (h : Sh Try.prog (g + 2) 23 cs) : ∃ n d, cs = [I n, I d] ∧ I64 n ∧ I64 d := by
  unfold Sh at h
  simp only [Try.underlying23, ShF] at h
  obtain ⟨a, _, rfl, h1, b, _, rfl, h2, rfl⟩ := h
  obtain ⟨n, rfl, hn⟩ := sh_int h1
  obtain ⟨d, rfl, hd⟩ := sh_int h2
  exact ⟨n, d, rfl, hn, hd⟩
theorem agg_int : aggB Try.prog 3 = false := by kernel_rfl
theorem agg_rat : aggB Try.prog 23 = true := by kernel_rfl

theorem w_spec (a b n d : Int) (ha : I64 a) (hb : I64 b) (hn : I64 n) (hd : I64 d) : ap Try.prog pol 3 [rat a b, I n, I d] = some (.ret (.bool true)) := by
  rw [ap_eq _ Try.func3 rfl Try.ntmps3 Try.results3 (by kernel_rfl) rfl (by exact Nat.le_of_ble_eq_true rfl)]
  simp (config := { maxSteps := 1000000 }) only [RUN, PATHS, BASE, FA, POL, start_tm, Heap.empty, reduceIte, Nat.reduceLT, Nat.reduceLeDiff, Nat.reduceEqDiff, Nat.reduceAdd, Nat.reduceSub, Nat.reduceMul, Nat.reduceBEq, Int.reduceLT, Int.reduceLE, Int.reduceEq, Int.reduceNeg, Int.reduceAdd, Int.reduceSub, Int.reduceMul, Bool.false_eq_true, Bool.not_true, Bool.not_false, decide_eq_true_eq, and_self, true_and, and_true, reduceCtorEq, ne_eq, not_false_eq_true, not_true_eq_false, decide_true, decide_false, or_false, false_or, c_sane, c_make n d hn hd, c_refmake n d hn hd, c_check a b ha hb, c_refcheck a b ha hb, eq_rat]
theorem w_sum (a b c d : Int) (ha : I64 a) (hb : I64 b) (hc : I64 c) (hd : I64 d) : ap Try.prog pol 8 [rat a b, rat c d] = some (.ret (.bool true)) := by
  rw [ap_eq _ Try.func8 rfl Try.ntmps8 Try.results8 (by kernel_rfl) rfl (by exact Nat.le_of_ble_eq_true rfl)]
  simp (config := { maxSteps := 1000000 }) only [RUN, PATHS, BASE, FA, POL, start_tm, Heap.empty, reduceIte, Nat.reduceLT, Nat.reduceLeDiff, Nat.reduceEqDiff, Nat.reduceAdd, Nat.reduceSub, Nat.reduceMul, Nat.reduceBEq, Int.reduceLT, Int.reduceLE, Int.reduceEq, Int.reduceNeg, Int.reduceAdd, Int.reduceSub, Int.reduceMul, Bool.false_eq_true, Bool.not_true, Bool.not_false, decide_eq_true_eq, and_self, true_and, and_true, reduceCtorEq, ne_eq, not_false_eq_true, not_true_eq_false, decide_true, decide_false, or_false, false_or, c_sane, c_add a b c d ha hb hc hd, c_refadd a b c d ha hb hc hd, c_sub a b c d ha hb hc hd, c_refsub a b c d ha hb hc hd, c_mul a b c d ha hb hc hd, c_refmul a b c d ha hb hc hd,
    c_divi a b c d ha hb hc hd, c_refdivi a b c d ha hb hc hd, c_cmp a b c d ha hb hc hd, c_refcmp a b c d ha hb hc hd, eq_rat]
theorem w_times (a b c d n : Int) (ha : I64 a) (hb : I64 b) (hc : I64 c) (hd : I64 d) (hn : I64 n) : ap Try.prog pol 4 [rat a b, rat c d, I n] = some (.ret (.bool true)) := by
  rw [ap_eq _ Try.func4 rfl Try.ntmps4 Try.results4 (by kernel_rfl) rfl (by exact Nat.le_of_ble_eq_true rfl)]
  simp (config := { maxSteps := 1000000 }) only [RUN, PATHS, BASE, FA, POL, start_tm, Heap.empty, reduceIte, Nat.reduceLT, Nat.reduceLeDiff, Nat.reduceEqDiff, Nat.reduceAdd, Nat.reduceSub, Nat.reduceMul, Nat.reduceBEq, Int.reduceLT, Int.reduceLE, Int.reduceEq, Int.reduceNeg, Int.reduceAdd, Int.reduceSub, Int.reduceMul, Bool.false_eq_true, Bool.not_true, Bool.not_false, decide_eq_true_eq, and_self, true_and, and_true, reduceCtorEq, ne_eq, not_false_eq_true, not_true_eq_false, decide_true, decide_false, or_false, false_or, c_sane, c_times a b n ha hb hn, c_reftimes a b n ha hb hn, c_btw a b c d ha hb hc hd, c_refbtw a b c d ha hb hc hd, eq_rat]
end Go.Proofs.Ytcdmoilcpkapiaa
