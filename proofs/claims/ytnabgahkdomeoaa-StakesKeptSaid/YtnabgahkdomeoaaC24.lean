/-
  Lists compared; few; what Settle answers.
-/
import Derived.Test.YtnabgahkdomeoaaC23
set_option linter.unusedSimpArgs false
set_option linter.unusedVariables false
set_option linter.unusedSectionVars false
namespace Go.Proofs.Ytnabgahkdomeoaa
open Go GoV
set_option maxRecDepth 100000

theorem c_same (a b : List Int) (c c' : Option Nat) (hl : a.length ≤ 1000000) : ap Try.prog pol 18 [.vs 1 (a.map I) c, .vs 1 (b.map I) c'] = some (.ret (.bool (decide (a = b)))) := by
  rw [ap_eq _ Try.func18 rfl Try.ntmps18 Try.results18 (by kernel_rfl) rfl (by exact Nat.le_of_ble_eq_true rfl)]
  by_cases h : a.length = b.length
  rotate_left
  · rw [decide_eq_false (fun e => h (by rw [e]))]
    simp (config := { maxSteps := 1000000 }) only [RUN, PATHS, BASE, FA, POL, start_tm, Heap.empty, reduceIte, Nat.reduceLT, Nat.reduceLeDiff, Nat.reduceEqDiff, Nat.reduceAdd, Nat.reduceSub, Nat.reduceMul, Nat.reduceBEq, Int.reduceLT, Int.reduceLE, Int.reduceEq, Int.reduceNeg, Int.reduceAdd, Int.reduceSub, Int.reduceMul, Bool.false_eq_true, Bool.not_true, Bool.not_false, decide_eq_true_eq, and_self, true_and, and_true, reduceCtorEq, ne_eq, not_false_eq_true, not_true_eq_false, decide_true, decide_false, or_false, false_or, NUM, SIN, List.length_map, (show ¬ (a.length : Int) = b.length by omega)]
  simp (config := { maxSteps := 1000000 }) only [RUN, PATHS, BASE, FA, POL, start_tm, Heap.empty, reduceIte, Nat.reduceLT, Nat.reduceLeDiff, Nat.reduceEqDiff, Nat.reduceAdd, Nat.reduceSub, Nat.reduceMul, Nat.reduceBEq, Int.reduceLT, Int.reduceLE, Int.reduceEq, Int.reduceNeg, Int.reduceAdd, Int.reduceSub, Int.reduceMul, Bool.false_eq_true, Bool.not_true, Bool.not_false, decide_eq_true_eq, and_self, true_and, and_true, reduceCtorEq, ne_eq, not_false_eq_true, not_true_eq_false, decide_true, decide_false, or_false, false_or, NUM, SIN, List.length_map, h]
  generalize hL : W _ (.loop _) _ = L
  obtain ⟨ex, s, rfl, hex, hd⟩ := loop_at hL (α := Nat) (fun j => a.length - j)
    (fun s0 j s => j ≤ a.length ∧ a.take j = b.take j ∧ s.tmps 5 = I j ∧ s.tmps 0 = .vs 1 (a.map I) c ∧ s.tmps 1 = .vs 1 (b.map I) c' ∧ s.defers = [] ∧ s.fid = 0)
    (fun s0 ex s => ((ex = .exit 0 ∧ a = b) ∨ (ex = .ret ∧ a ≠ b ∧ s.tmps 4 = .bool false)) ∧ s.defers = []) 0
    (by simp (config := { maxSteps := 1000000 }) only [RUN, PATHS, BASE, FA, POL, start_tm, Heap.empty, reduceIte, Nat.reduceLT, Nat.reduceLeDiff, Nat.reduceEqDiff, Nat.reduceAdd, Nat.reduceSub, Nat.reduceMul, Nat.reduceBEq, Int.reduceLT, Int.reduceLE, Int.reduceEq, Int.reduceNeg, Int.reduceAdd, Int.reduceSub, Int.reduceMul, Bool.false_eq_true, Bool.not_true, Bool.not_false, decide_eq_true_eq, and_self, true_and, and_true, reduceCtorEq, ne_eq, not_false_eq_true, not_true_eq_false, decide_true, decide_false, or_false, false_or, List.take_zero]; exact ⟨by omega, by simp⟩) (by
      rintro j s r hW ⟨hj, ht, h5, h0, h1, hd, hf⟩
      by_cases hp : j < a.length
      · have e0 : a[j]? = some a[j] := List.getElem?_eq_getElem hp
        have f0 : b[j]? = some (b[j]'(by omega)) := List.getElem?_eq_getElem _
        have e1 := map_get (f := I) e0
        have f1 := map_get (f := I) f0
        generalize a[j] = x at *
        generalize b[j]'(by omega) = y at *
        by_cases hxy : x = y
        · simp (config := { maxSteps := 1000000 }) only [RUN, PATHS, BASE, FA, POL, start_tm, Heap.empty, reduceIte, Nat.reduceLT, Nat.reduceLeDiff, Nat.reduceEqDiff, Nat.reduceAdd, Nat.reduceSub, Nat.reduceMul, Nat.reduceBEq, Int.reduceLT, Int.reduceLE, Int.reduceEq, Int.reduceNeg, Int.reduceAdd, Int.reduceSub, Int.reduceMul, Bool.false_eq_true, Bool.not_true, Bool.not_false, decide_eq_true_eq, and_self, true_and, and_true, reduceCtorEq, ne_eq, not_false_eq_true, not_true_eq_false, decide_true, decide_false, or_false, false_or, NUM, h5, h0, h1, hd, hf, e1, f1, hxy, List.length_map, Int.toNat_natCast, (show (j : Int) < a.length by omega), (show (j : Int) < b.length by omega), (show (0 : Int) ≤ j by omega), i64_in (x := (j : Int) + 1) (by unfold I64; omega)] at hW
          subst hW
          refine rd_next (j + 1) ?_ (show a.length - (j + 1) < a.length - j by omega)
          simp (config := { maxSteps := 1000000 }) only [RUN, PATHS, BASE, FA, POL, start_tm, Heap.empty, reduceIte, Nat.reduceLT, Nat.reduceLeDiff, Nat.reduceEqDiff, Nat.reduceAdd, Nat.reduceSub, Nat.reduceMul, Nat.reduceBEq, Int.reduceLT, Int.reduceLE, Int.reduceEq, Int.reduceNeg, Int.reduceAdd, Int.reduceSub, Int.reduceMul, Bool.false_eq_true, Bool.not_true, Bool.not_false, decide_eq_true_eq, and_self, true_and, and_true, reduceCtorEq, ne_eq, not_false_eq_true, not_true_eq_false, decide_true, decide_false, or_false, false_or, h0, h1, hd]
          exact ⟨by omega, by rw [List.take_add_one, List.take_add_one, ht, e0, f0, hxy], by simp⟩
        · simp (config := { maxSteps := 1000000 }) only [RUN, PATHS, BASE, FA, POL, start_tm, Heap.empty, reduceIte, Nat.reduceLT, Nat.reduceLeDiff, Nat.reduceEqDiff, Nat.reduceAdd, Nat.reduceSub, Nat.reduceMul, Nat.reduceBEq, Int.reduceLT, Int.reduceLE, Int.reduceEq, Int.reduceNeg, Int.reduceAdd, Int.reduceSub, Int.reduceMul, Bool.false_eq_true, Bool.not_true, Bool.not_false, decide_eq_true_eq, and_self, true_and, and_true, reduceCtorEq, ne_eq, not_false_eq_true, not_true_eq_false, decide_true, decide_false, or_false, false_or, NUM, h5, h0, h1, hd, hf, e1, f1, hxy, List.length_map, Int.toNat_natCast, (show (j : Int) < a.length by omega), (show (j : Int) < b.length by omega), (show (0 : Int) ≤ j by omega)] at hW
          subst hW
          exact rd_ret ⟨.inr ⟨rfl, fun e => hxy (by rw [e, f0] at e0; exact (Option.some.inj e0).symm), by simp (config := { maxSteps := 1000000 }) only [RUN, PATHS, BASE, FA, POL, start_tm, Heap.empty, reduceIte, Nat.reduceLT, Nat.reduceLeDiff, Nat.reduceEqDiff, Nat.reduceAdd, Nat.reduceSub, Nat.reduceMul, Nat.reduceBEq, Int.reduceLT, Int.reduceLE, Int.reduceEq, Int.reduceNeg, Int.reduceAdd, Int.reduceSub, Int.reduceMul, Bool.false_eq_true, Bool.not_true, Bool.not_false, decide_eq_true_eq, and_self, true_and, and_true, reduceCtorEq, ne_eq, not_false_eq_true, not_true_eq_false, decide_true, decide_false, or_false, false_or]⟩, by simp (config := { maxSteps := 1000000 }) only [RUN, PATHS, BASE, FA, POL, start_tm, Heap.empty, reduceIte, Nat.reduceLT, Nat.reduceLeDiff, Nat.reduceEqDiff, Nat.reduceAdd, Nat.reduceSub, Nat.reduceMul, Nat.reduceBEq, Int.reduceLT, Int.reduceLE, Int.reduceEq, Int.reduceNeg, Int.reduceAdd, Int.reduceSub, Int.reduceMul, Bool.false_eq_true, Bool.not_true, Bool.not_false, decide_eq_true_eq, and_self, true_and, and_true, reduceCtorEq, ne_eq, not_false_eq_true, not_true_eq_false, decide_true, decide_false, or_false, false_or, hd]⟩
      · simp (config := { maxSteps := 1000000 }) only [RUN, PATHS, BASE, FA, POL, start_tm, Heap.empty, reduceIte, Nat.reduceLT, Nat.reduceLeDiff, Nat.reduceEqDiff, Nat.reduceAdd, Nat.reduceSub, Nat.reduceMul, Nat.reduceBEq, Int.reduceLT, Int.reduceLE, Int.reduceEq, Int.reduceNeg, Int.reduceAdd, Int.reduceSub, Int.reduceMul, Bool.false_eq_true, Bool.not_true, Bool.not_false, decide_eq_true_eq, and_self, true_and, and_true, reduceCtorEq, ne_eq, not_false_eq_true, not_true_eq_false, decide_true, decide_false, or_false, false_or, h5, h0, hd, hf, List.length_map, (show ¬ (j : Int) < a.length by omega)] at hW
        subst hW
        have : j = a.length := by omega
        subst this
        rw [List.take_length, h, List.take_length] at ht
        exact rd_exit ⟨.inl ⟨rfl, ht⟩, by simp (config := { maxSteps := 1000000 }) only [RUN, PATHS, BASE, FA, POL, start_tm, Heap.empty, reduceIte, Nat.reduceLT, Nat.reduceLeDiff, Nat.reduceEqDiff, Nat.reduceAdd, Nat.reduceSub, Nat.reduceMul, Nat.reduceBEq, Int.reduceLT, Int.reduceLE, Int.reduceEq, Int.reduceNeg, Int.reduceAdd, Int.reduceSub, Int.reduceMul, Bool.false_eq_true, Bool.not_true, Bool.not_false, decide_eq_true_eq, and_self, true_and, and_true, reduceCtorEq, ne_eq, not_false_eq_true, not_true_eq_false, decide_true, decide_false, or_false, false_or, hd]⟩)
  rcases hex with ⟨rfl, hg⟩ | ⟨rfl, hg, h2⟩
  · rw [decide_eq_true hg]; simp (config := { maxSteps := 1000000 }) only [RUN, PATHS, BASE, FA, POL, start_tm, Heap.empty, reduceIte, Nat.reduceLT, Nat.reduceLeDiff, Nat.reduceEqDiff, Nat.reduceAdd, Nat.reduceSub, Nat.reduceMul, Nat.reduceBEq, Int.reduceLT, Int.reduceLE, Int.reduceEq, Int.reduceNeg, Int.reduceAdd, Int.reduceSub, Int.reduceMul, Bool.false_eq_true, Bool.not_true, Bool.not_false, decide_eq_true_eq, and_self, true_and, and_true, reduceCtorEq, ne_eq, not_false_eq_true, not_true_eq_false, decide_true, decide_false, or_false, false_or, hd]
  · rw [decide_eq_false hg]; simp (config := { maxSteps := 1000000 }) only [RUN, PATHS, BASE, FA, POL, start_tm, Heap.empty, reduceIte, Nat.reduceLT, Nat.reduceLeDiff, Nat.reduceEqDiff, Nat.reduceAdd, Nat.reduceSub, Nat.reduceMul, Nat.reduceBEq, Int.reduceLT, Int.reduceLE, Int.reduceEq, Int.reduceNeg, Int.reduceAdd, Int.reduceSub, Int.reduceMul, Bool.false_eq_true, Bool.not_true, Bool.not_false, decide_eq_true_eq, and_self, true_and, and_true, reduceCtorEq, ne_eq, not_false_eq_true, not_true_eq_false, decide_true, decide_false, or_false, false_or, hd, h2]
theorem c_same0 : ap Try.prog pol 18 [.nils, .nils] = some (.ret (.bool true)) := by
  rw [ap_eq _ Try.func18 rfl Try.ntmps18 Try.results18 (by kernel_rfl) rfl (by exact Nat.le_of_ble_eq_true rfl)]
  simp (config := { maxSteps := 1000000 }) only [RUN, PATHS, BASE, FA, POL, start_tm, Heap.empty, reduceIte, Nat.reduceLT, Nat.reduceLeDiff, Nat.reduceEqDiff, Nat.reduceAdd, Nat.reduceSub, Nat.reduceMul, Nat.reduceBEq, Int.reduceLT, Int.reduceLE, Int.reduceEq, Int.reduceNeg, Int.reduceAdd, Int.reduceSub, Int.reduceMul, Bool.false_eq_true, Bool.not_true, Bool.not_false, decide_eq_true_eq, and_self, true_and, and_true, reduceCtorEq, ne_eq, not_false_eq_true, not_true_eq_false, decide_true, decide_false, or_false, false_or, NUM, WW_loop]
noncomputable def OUTS (T : Int) (w : List Int) : List Int := if SUMI w = 0 then List.replicate w.length 0 else SHO T w
noncomputable def REST (T : Int) (w : List Int) : Int := if SUMI w = 0 then T else 0
theorem SHV_ok {T : Int} {w : List Int} (h : CKW T w = 0) : SHV T w = .tup [.vs 1 ((OUTS T w).map I) none, I (REST T w), I 0] := by
  unfold SHV OUTS REST
  rw [if_neg (by rw [h]; decide)]
  split <;> rfl
theorem OUTS_len {T : Int} {w : List Int} (h : CKW T w = 0) : (OUTS T w).length = w.length := by
  unfold OUTS
  split
  · simp
  · next h0 =>
    obtain ⟨M, l, hs, _⟩ := c_share1 T w none h h0
    rw [← SHO_eq hs, hs.out_len]
/-- All that is paid. -/
noncomputable def PAID (l : List Stk) (ps : List Pst) : List Int := l.map fun x => FORV x ps
theorem FORV_bd {x : Stk} {l : List Pst} (hx : OKS x) (ok : ∀ y ∈ l, OKP y) : 0 ≤ FORV x l ∧ FORV x l ≤ x.d := by
  unfold FORV
  cases hf : FND x.b l with
  | none => exact ⟨Int.le_refl _, hx.2.2.1.1⟩
  | some y =>
    have hy := ok y (List.mem_of_find?_eq_some hf)
    show 0 ≤ AMT x y ∧ AMT x y ≤ x.d
    by_cases hp : x.p < y.bo.length
    · obtain ⟨r, n, e1, e2, o1, o2, ea, _⟩ := AMT_in hx hy hp
      have := mul_bd hx.2.2.2 (DIST_bd o1 o2)
      have := hx.2.2.1
      rw [ea]; omega
    · unfold AMT; rw [if_neg hp]; exact ⟨Int.le_refl _, hx.2.2.1.1⟩
theorem PAID_get {l : List Stk} {ps : List Pst} {j : Nat} {x : Stk} (e : l[j]? = some x) : (PAID l ps)[j]? = some (FORV x ps) := by simp [PAID, e]
theorem PAID_take {l : List Stk} {ps : List Pst} {j : Nat} {x : Stk} (e : l[j]? = some x) : PAID (l.take (j + 1)) ps = PAID (l.take j) ps ++ [FORV x ps] := by
  rw [List.take_add_one, e]; simp [PAID]
theorem PAID_sum {l : List Stk} {ps : List Pst} (hg : GOOD l) (ok : ∀ y ∈ ps, OKP y) (j : Nat) : 0 ≤ SUMI (PAID (l.take j) ps) ∧ SUMI (PAID (l.take j) ps) ≤ 1073741824 * l.length := by
  have h := SUMI_bounds (a := 0) (b := 1073741824) (PAID (l.take j) ps) (by
    intro x hx
    obtain ⟨y, hy, rfl⟩ := List.mem_map.1 hx
    obtain ⟨i, ei⟩ := List.mem_iff_getElem?.1 (List.mem_of_mem_take hy)
    have hy' := GOOD_in hg ei
    have := FORV_bd hy' ok
    have := hy'.2.2.1
    omega)
  have : ((PAID (l.take j) ps).length : Int) ≤ l.length := by simp [PAID]; omega
  omega
end Go.Proofs.Ytnabgahkdomeoaa
