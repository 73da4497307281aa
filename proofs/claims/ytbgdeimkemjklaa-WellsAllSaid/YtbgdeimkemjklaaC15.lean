/-
  The law of what is owed and what remains: what it computes.
-/
import Derived.Test.YtbgdeimkemjklaaC14
import Derived.Test.YtbgdeimkemjklaaEz
set_option linter.unusedSimpArgs false
set_option linter.unusedVariables false
set_option linter.unusedSectionVars false
namespace Go.Proofs.Ytbgdeimkemjklaa
open Go GoV
set_option maxRecDepth 100000

theorem wf_bd {k : IntKind} {n : Int} (h : (Lit.int k n).wf = true) : k.min ≤ n ∧ n ≤ k.max := by
  simpa only [Lit.wf, Bool.and_eq_true, decide_eq_true_eq] using h
theorem wf_i64 {n : Int} (h : (Lit.int .i64 n).wf = true) : I64 n := by
  have := wf_bd h
  simp [IntKind.min, IntKind.max, IntKind.bits, IntKind.signed] at this
  exact this
theorem sh_int {g : Nat} {cs : List PV} (h : Sh Try.prog (g + 1) 3 cs) : ∃ n, cs = [I n] ∧ I64 n := by
  simp only [Sh, Try.underlying3] at h
  obtain ⟨n, rfl, w⟩ := h
  exact ⟨n, rfl, wf_i64 w⟩
theorem agg_int : aggB Try.prog 3 = false := by kernel_rfl
theorem agg_ints : aggB Try.prog 36 = false := by kernel_rfl
theorem agg_well : aggB Try.prog 38 = true := by kernel_rfl
theorem els_map {α : Type} {P : PV → Prop} (f : α → PV) (Q : α → Prop) (hP : ∀ x, P x → ∃ a, x = f a ∧ Q a) : ∀ (es : List PV), (∀ x ∈ es, P x) → ∃ l : List α, es = l.map f ∧ ∀ a ∈ l, Q a
  | [], _ => ⟨[], rfl, by simp⟩
  | e :: r, h => by
    obtain ⟨a, rfl, ha⟩ := hP e (h e (by simp))
    obtain ⟨l, rfl, hl⟩ := els_map f Q hP r fun x hx => h x (by simp [hx])
    refine ⟨a :: l, rfl, ?_⟩
    intro b hb
    rcases List.mem_cons.1 hb with rfl | hb
    · exact ha
    · exact hl b hb
theorem sh_ints {g : Nat} {cs : List PV} (h : Sh Try.prog (g + 2) 36 cs) : ∃ l, cs = [ints l none] ∧ ∀ x ∈ l, I64 x := by
  unfold Sh at h
  simp only [Try.underlying36] at h
  obtain ⟨es, rfl, _, hx⟩ := h
  obtain ⟨l, rfl, hl⟩ := els_map I I64 (P := fun x => ∃ ps, x = elOf (aggB Try.prog 3) ps ∧ Sh Try.prog (g + 1) 3 ps) (by
    rintro x ⟨ps, rfl, hs⟩
    obtain ⟨n, rfl, hn⟩ := sh_int hs
    exact ⟨n, by rw [agg_int]; rfl, hn⟩) es hx
  exact ⟨l, rfl, hl⟩
theorem sh_well {g : Nat} {cs : List PV} (h : Sh Try.prog (g + 3) 38 cs) : ∃ f r d k, cs = [I f, I r, I d, ints k none] ∧ I64 f ∧ I64 r ∧ I64 d ∧ ∀ x ∈ k, I64 x := by
  unfold Sh at h
  simp only [Try.underlying38, ShF] at h
  obtain ⟨_, _, rfl, h1, _, _, rfl, h2, _, _, rfl, h3, _, _, rfl, h4, rfl⟩ := h
  obtain ⟨f, rfl, hf⟩ := sh_int h1
  obtain ⟨r, rfl, hr⟩ := sh_int h2
  obtain ⟨d, rfl, hd⟩ := sh_int h3
  obtain ⟨k, rfl, hk⟩ := sh_ints h4
  exact ⟨f, r, d, k, rfl, hf, hr, hd, hk⟩
theorem same_nil (c : Option Nat) : ap Try.prog pol 19 [.vs 1 [] c, .nils] = some (.ret (.bool true)) := by
  rw [ap_eq _ Try.func19 rfl Try.ntmps19 Try.results19 (by kernel_rfl) rfl (by exact Nat.le_of_ble_eq_true rfl)]
  simp (config := { maxSteps := 1000000 }) only [RUN, PATHS, BASE, FA, POL, start_tm, Heap.empty, reduceIte, Nat.reduceLT, Nat.reduceLeDiff, Nat.reduceEqDiff, Nat.reduceAdd, Nat.reduceSub, Nat.reduceMul, Nat.reduceBEq, Int.reduceLT, Int.reduceLE, Int.reduceEq, Int.reduceNeg, Int.reduceAdd, Int.reduceSub, Int.reduceMul, Bool.false_eq_true, Bool.not_true, Bool.not_false, decide_eq_true_eq, and_self, true_and, and_true, reduceCtorEq, ne_eq, not_false_eq_true, not_true_eq_false, decide_true, decide_false, or_false, false_or, WW_loop, NUM]
theorem OWE_len (u : List Int) : (OWE u).length = u.length := by simp [OWE]
theorem REP_len (u r : List Int) : (REP u r).length = u.length := by simp [REP]
theorem w_owed (f r d : Int) (k p q : List Int) : ap Try.prog pol 4 [well f r d k none, ints p none, ints q none] = some (.ret (.bool true)) := by
  rw [ap_eq _ Try.func4 rfl Try.ntmps4 Try.results4 (by kernel_rfl) rfl (by exact Nat.le_of_ble_eq_true rfl)]
  by_cases hf : FEW k p
  rotate_left
  · simp (config := { maxSteps := 1000000 }) only [RUN, PATHS, BASE, FA, POL, start_tm, Heap.empty, reduceIte, Nat.reduceLT, Nat.reduceLeDiff, Nat.reduceEqDiff, Nat.reduceAdd, Nat.reduceSub, Nat.reduceMul, Nat.reduceBEq, Int.reduceLT, Int.reduceLE, Int.reduceEq, Int.reduceNeg, Int.reduceAdd, Int.reduceSub, Int.reduceMul, Bool.false_eq_true, Bool.not_true, Bool.not_false, decide_eq_true_eq, and_self, true_and, and_true, reduceCtorEq, ne_eq, not_false_eq_true, not_true_eq_false, decide_true, decide_false, or_false, false_or, INTS, c_sane, c_few, hf]
  have hk : k.length ≤ 1000000 := by unfold FEW at hf; omega
  have hp : p.length ≤ 1000000 := by unfold FEW at hf; omega
  by_cases h0 : CHK f r d k p = 0
  · have bd := BD_of h0
    have hD := DAYS_le bd
    have so := c_same (OWE (UNT d k p)) (OWE (UNT d k p)) none none (by rw [OWE_len, UNT_len]; omega) (by rw [OWE_len, UNT_len]; omega)
    have sr := c_same (REP (UNT d k p) q) (REP (UNT d k p) q) none none (by rw [REP_len, UNT_len]; omega) (by rw [REP_len, UNT_len]; omega)
    by_cases hq : q.length = DAYS k p ∧ LIT q
    · simp (config := { maxSteps := 1000000 }) only [RUN, PATHS, BASE, FA, POL, start_tm, Heap.empty, reduceIte, Nat.reduceLT, Nat.reduceLeDiff, Nat.reduceEqDiff, Nat.reduceAdd, Nat.reduceSub, Nat.reduceMul, Nat.reduceBEq, Int.reduceLT, Int.reduceLE, Int.reduceEq, Int.reduceNeg, Int.reduceAdd, Int.reduceSub, Int.reduceMul, Bool.false_eq_true, Bool.not_true, Bool.not_false, decide_eq_true_eq, and_self, true_and, and_true, reduceCtorEq, ne_eq, not_false_eq_true, not_true_eq_false, decide_true, decide_false, or_false, false_or, INTS, c_sane, c_few, hf, h0, hq, c_owed f r d k p none none hk hp, c_refowed f r d k p none none hk hp, c_repaid f r d k p q none none none hk hp, c_refrepaid f r d k p q none none none hk hp, so, sr]
    · simp (config := { maxSteps := 1000000 }) only [RUN, PATHS, BASE, FA, POL, start_tm, Heap.empty, reduceIte, Nat.reduceLT, Nat.reduceLeDiff, Nat.reduceEqDiff, Nat.reduceAdd, Nat.reduceSub, Nat.reduceMul, Nat.reduceBEq, Int.reduceLT, Int.reduceLE, Int.reduceEq, Int.reduceNeg, Int.reduceAdd, Int.reduceSub, Int.reduceMul, Bool.false_eq_true, Bool.not_true, Bool.not_false, decide_eq_true_eq, and_self, true_and, and_true, reduceCtorEq, ne_eq, not_false_eq_true, not_true_eq_false, decide_true, decide_false, or_false, false_or, INTS, c_sane, c_few, hf, h0, hq, c_owed f r d k p none none hk hp, c_refowed f r d k p none none hk hp, c_repaid f r d k p q none none none hk hp, c_refrepaid f r d k p q none none none hk hp, so, same_nil]
  · simp (config := { maxSteps := 1000000 }) only [RUN, PATHS, BASE, FA, POL, start_tm, Heap.empty, reduceIte, Nat.reduceLT, Nat.reduceLeDiff, Nat.reduceEqDiff, Nat.reduceAdd, Nat.reduceSub, Nat.reduceMul, Nat.reduceBEq, Int.reduceLT, Int.reduceLE, Int.reduceEq, Int.reduceNeg, Int.reduceAdd, Int.reduceSub, Int.reduceMul, Bool.false_eq_true, Bool.not_true, Bool.not_false, decide_eq_true_eq, and_self, true_and, and_true, reduceCtorEq, ne_eq, not_false_eq_true, not_true_eq_false, decide_true, decide_false, or_false, false_or, INTS, c_sane, c_few, hf, h0, c_owed f r d k p none none hk hp, c_refowed f r d k p none none hk hp, c_repaid f r d k p q none none none hk hp, c_refrepaid f r d k p q none none none hk hp, same_nil]
end Go.Proofs.Ytbgdeimkemjklaa
