/-
  stakes.Share, walked.
-/
import Derived.Test.YtnabgahkdomeoaaC18
set_option linter.unusedSimpArgs false
set_option linter.unusedVariables false
set_option linter.unusedSectionVars false
namespace Go.Proofs.Ytnabgahkdomeoaa
open Go GoV
set_option maxRecDepth 100000

theorem SHQ_take_sum {T S : Int} {w : List Int} (hT : 0 ≤ T ∧ T ≤ 1099511627776) (hS : 0 < S) (hs : S = SUMI w) (h : ∀ x ∈ w, OKL x) (j : Nat) : 0 ≤ SUMI (SHQ T S (w.take j)) ∧ SUMI (SHQ T S (w.take j)) ≤ T := by
  have h1 := SH_sum T S 0 (w.take j)
  have h2 := (SUMI_bounds (a := 0) (b := S) ((QUOF T S 0 (w.take j)).map Qu.r) (by
    intro x hx
    obtain ⟨q, hq, rfl⟩ := List.mem_map.1 hx
    obtain ⟨i, y, _, rfl⟩ := QUO_mem hq
    have a1 := Int.emod_nonneg (T * y) (show S ≠ 0 by omega)
    have a2 := Int.emod_lt_of_pos (T * y) hS
    exact ⟨a1, by show T * y % S ≤ S; omega⟩)).1
  have h3 : SUMI (w.take j) ≤ S := by
    have e : SUMI w = SUMI (w.take j) + SUMI (w.drop j) := by rw [← SUMI_app, List.take_append_drop]
    have := (SUMI_bounds (a := 0) (b := 1073741824) (w.drop j) (fun x hx => h x (List.mem_of_mem_drop hx))).1
    omega
  have h4 : T * SUMI (w.take j) ≤ T * S := Int.mul_le_mul_of_nonneg_left h3 hT.1
  refine ⟨?_, ?_⟩
  · have := (SUMI_bounds (a := 0) (b := T) (SHQ T S (w.take j)) (by
      intro x hx
      obtain ⟨y, hy, rfl⟩ := List.mem_map.1 hx
      have hy' := h y (List.mem_of_mem_take hy)
      unfold OKL at hy'
      have p := Int.mul_nonneg hT.1 hy'.1
      have p2 := Int.mul_le_mul_of_nonneg_left (show y ≤ S by
        have := List.mem_iff_getElem?.1 (List.mem_of_mem_take hy)
        obtain ⟨i, ei⟩ := this
        have e1 := SUMI_take ei
        have b0 := (SUM_take_le h i).1
        have e : SUMI w = SUMI (w.take (i + 1)) + SUMI (w.drop (i + 1)) := by rw [← SUMI_app, List.take_append_drop]
        have := (SUMI_bounds (a := 0) (b := 1073741824) (w.drop (i + 1)) (fun x hx => h x (List.mem_of_mem_drop hx))).1
        omega) hT.1
      exact ⟨Int.ediv_nonneg p (by omega), Int.ediv_le_of_le_mul hS (by omega)⟩)).1
    omega
  · rcases Int.lt_or_le T (SUMI (SHQ T S (w.take j))) with h5 | h5
    · have h6 := Int.mul_le_mul_of_nonneg_left (show T + 1 ≤ SUMI (SHQ T S (w.take j)) by omega) (show 0 ≤ S by omega)
      rw [Int.mul_add, Int.mul_one, Int.mul_comm S T] at h6
      omega
    · exact h5
theorem c_shareE (T : Int) (w : List Int) (c : Option Nat) (h : CKW T w ≠ 0) : ap Try.prog pol 16 [I T, .vs 1 (w.map I) c] = some (.ret (.tup [.nils, I 0, I (CKW T w)])) := by
  have cr := c_right T w c
  rw [ap_eq _ Try.func16 rfl Try.ntmps16 Try.results16 (by kernel_rfl) rfl (by exact Nat.le_of_ble_eq_true rfl)]
  simp (config := { maxSteps := 1000000 }) only [RUN, PATHS, BASE, FA, POL, start_tm, Heap.empty, reduceIte, Nat.reduceLT, Nat.reduceLeDiff, Nat.reduceEqDiff, Nat.reduceAdd, Nat.reduceSub, Nat.reduceMul, Nat.reduceBEq, Int.reduceLT, Int.reduceLE, Int.reduceEq, Int.reduceNeg, Int.reduceAdd, Int.reduceSub, Int.reduceMul, Bool.false_eq_true, Bool.not_true, Bool.not_false, decide_eq_true_eq, and_self, true_and, and_true, reduceCtorEq, ne_eq, not_false_eq_true, not_true_eq_false, decide_true, decide_false, or_false, false_or, NUM, SIN, cr, h]
theorem OWN_quo (T S : Int) (w : List Int) : OWN 0 (QUO T S w) := by
  intro i q e
  rw [QUO_get] at e
  obtain ⟨x, _, rfl⟩ := Option.map_eq_some_iff.1 e
  show (i : Int) = (0 : Nat) + i; omega
theorem c_share0 (T : Int) (w : List Int) (c : Option Nat) (h : CKW T w = 0) (h0 : SUMI w = 0) : ap Try.prog pol 16 [I T, .vs 1 (w.map I) c] = some (.ret (.tup [.vs 1 ((List.replicate w.length 0).map I) none, I T, I 0])) := by
  have cr := c_right T w c
  obtain ⟨hl, hT, hw⟩ := CKW_0 h
  obtain ⟨Z, hZ⟩ : ∃ Z, Z = PADZ [] w.length := ⟨_, rfl⟩
  have lZ : Z.length = w.length := by rw [hZ]; exact PADZ_len (by simp)
  have zs : List.replicate w.length (I 0) = Z.map I := by rw [hZ]; exact zeros _
  rw [ap_eq _ Try.func16 rfl Try.ntmps16 Try.results16 (by kernel_rfl) rfl (by exact Nat.le_of_ble_eq_true rfl)]
  simp (config := { maxSteps := 1000000 }) only [RUN, PATHS, BASE, FA, POL, start_tm, Heap.empty, reduceIte, Nat.reduceLT, Nat.reduceLeDiff, Nat.reduceEqDiff, Nat.reduceAdd, Nat.reduceSub, Nat.reduceMul, Nat.reduceBEq, Int.reduceLT, Int.reduceLE, Int.reduceEq, Int.reduceNeg, Int.reduceAdd, Int.reduceSub, Int.reduceMul, Bool.false_eq_true, Bool.not_true, Bool.not_false, decide_eq_true_eq, and_self, true_and, and_true, reduceCtorEq, ne_eq, not_false_eq_true, not_true_eq_false, decide_true, decide_false, or_false, false_or, NUM, SIN, cr, h, List.length_map, Int.toNat_natCast, (show (0 : Int) ≤ w.length by omega), (show (w.length : Int) ≤ maxN by unfold maxN; omega), (show 8 ≤ maxB by decide), zs]
  generalize hL : W _ (.loop _) _ = L
  obtain ⟨ex, s, rfl, rfl, h7, h0', h1, h4, hH, hd, hf⟩ := loop_at hL (α := Nat) (fun j => w.length - j)
    (fun s0 j s => j ≤ w.length ∧ s.tmps 31 = I j ∧ s.tmps 30 = I w.length ∧ s.tmps 29 = .vs 1 (w.map I) c ∧ s.tmps 7 = I (SUMI (w.take j)) ∧ s.tmps 0 = I T ∧ s.tmps 1 = .vs 1 (w.map I) c ∧ s.tmps 4 = .gsl 1 1 w.length 0 w.length ∧ s.H = s0.H ∧ s.defers = [] ∧ s.fid = 0)
    (fun s0 ex s => ex = .exit 0 ∧ s.tmps 7 = I (SUMI w) ∧ s.tmps 0 = I T ∧ s.tmps 1 = .vs 1 (w.map I) c ∧ s.tmps 4 = .gsl 1 1 w.length 0 w.length ∧ s.H = s0.H ∧ s.defers = [] ∧ s.fid = 0) 0
    (by simp (config := { maxSteps := 1000000 }) only [RUN, PATHS, BASE, FA, POL, start_tm, Heap.empty, reduceIte, Nat.reduceLT, Nat.reduceLeDiff, Nat.reduceEqDiff, Nat.reduceAdd, Nat.reduceSub, Nat.reduceMul, Nat.reduceBEq, Int.reduceLT, Int.reduceLE, Int.reduceEq, Int.reduceNeg, Int.reduceAdd, Int.reduceSub, Int.reduceMul, Bool.false_eq_true, Bool.not_true, Bool.not_false, decide_eq_true_eq, and_self, true_and, and_true, reduceCtorEq, ne_eq, not_false_eq_true, not_true_eq_false, decide_true, decide_false, or_false, false_or, List.take_zero]; exact ⟨by omega, by simp, by simp [SUMI]⟩) (by
      rintro j s r hW ⟨hj, h31, h30, h29, h7, h0, h1, h4, hH, hd, hf⟩
      by_cases hp : j < w.length
      · have e0 : w[j]? = some w[j] := List.getElem?_eq_getElem hp
        have e1 := map_get (f := I) e0
        have st := SUMI_take e0
        have b1 := SUM_take_le hw (j + 1)
        generalize w[j] = x at *
        simp (config := { maxSteps := 1000000 }) only [RUN, PATHS, BASE, FA, POL, start_tm, Heap.empty, reduceIte, Nat.reduceLT, Nat.reduceLeDiff, Nat.reduceEqDiff, Nat.reduceAdd, Nat.reduceSub, Nat.reduceMul, Nat.reduceBEq, Int.reduceLT, Int.reduceLE, Int.reduceEq, Int.reduceNeg, Int.reduceAdd, Int.reduceSub, Int.reduceMul, Bool.false_eq_true, Bool.not_true, Bool.not_false, decide_eq_true_eq, and_self, true_and, and_true, reduceCtorEq, ne_eq, not_false_eq_true, not_true_eq_false, decide_true, decide_false, or_false, false_or, NUM, h31, h30, h29, h7, h0, h1, h4, hd, hf, e1, List.length_map, Int.toNat_natCast, (show (j : Int) < w.length by omega), (show (0 : Int) ≤ j by omega), ← st, i64_in (x := SUMI (w.take (j + 1))) (by unfold I64; omega), i64_in (x := (j : Int) + 1) (by unfold I64; omega)] at hW
        subst hW
        refine rd_next (j + 1) ?_ (show w.length - (j + 1) < w.length - j by omega)
        simp (config := { maxSteps := 1000000 }) only [RUN, PATHS, BASE, FA, POL, start_tm, Heap.empty, reduceIte, Nat.reduceLT, Nat.reduceLeDiff, Nat.reduceEqDiff, Nat.reduceAdd, Nat.reduceSub, Nat.reduceMul, Nat.reduceBEq, Int.reduceLT, Int.reduceLE, Int.reduceEq, Int.reduceNeg, Int.reduceAdd, Int.reduceSub, Int.reduceMul, Bool.false_eq_true, Bool.not_true, Bool.not_false, decide_eq_true_eq, and_self, true_and, and_true, reduceCtorEq, ne_eq, not_false_eq_true, not_true_eq_false, decide_true, decide_false, or_false, false_or, h30, h29, h0, h1, h4, hH]
        exact ⟨by omega, by simp⟩
      · simp (config := { maxSteps := 1000000 }) only [RUN, PATHS, BASE, FA, POL, start_tm, Heap.empty, reduceIte, Nat.reduceLT, Nat.reduceLeDiff, Nat.reduceEqDiff, Nat.reduceAdd, Nat.reduceSub, Nat.reduceMul, Nat.reduceBEq, Int.reduceLT, Int.reduceLE, Int.reduceEq, Int.reduceNeg, Int.reduceAdd, Int.reduceSub, Int.reduceMul, Bool.false_eq_true, Bool.not_true, Bool.not_false, decide_eq_true_eq, and_self, true_and, and_true, reduceCtorEq, ne_eq, not_false_eq_true, not_true_eq_false, decide_true, decide_false, or_false, false_or, h31, h30, hd, hf, (show ¬ (j : Int) < w.length by omega)] at hW
        subst hW
        rw [List.take_of_length_le (by omega)] at h7
        refine rd_exit ⟨rfl, ?_⟩
        simp (config := { maxSteps := 1000000 }) only [RUN, PATHS, BASE, FA, POL, start_tm, Heap.empty, reduceIte, Nat.reduceLT, Nat.reduceLeDiff, Nat.reduceEqDiff, Nat.reduceAdd, Nat.reduceSub, Nat.reduceMul, Nat.reduceBEq, Int.reduceLT, Int.reduceLE, Int.reduceEq, Int.reduceNeg, Int.reduceAdd, Int.reduceSub, Int.reduceMul, Bool.false_eq_true, Bool.not_true, Bool.not_false, decide_eq_true_eq, and_self, true_and, and_true, reduceCtorEq, ne_eq, not_false_eq_true, not_true_eq_false, decide_true, decide_false, or_false, false_or, h7, h0, h1, h4, hH])
  have r1 : s.H.rows 1 = some (.gro 1 (Z.map I) 0) := by rw [hH]; simp (config := { maxSteps := 1000000 }) only [RUN, PATHS, BASE, FA, POL, start_tm, Heap.empty, reduceIte, Nat.reduceLT, Nat.reduceLeDiff, Nat.reduceEqDiff, Nat.reduceAdd, Nat.reduceSub, Nat.reduceMul, Nat.reduceBEq, Int.reduceLT, Int.reduceLE, Int.reduceEq, Int.reduceNeg, Int.reduceAdd, Int.reduceSub, Int.reduceMul, Bool.false_eq_true, Bool.not_true, Bool.not_false, decide_eq_true_eq, and_self, true_and, and_true, reduceCtorEq, ne_eq, not_false_eq_true, not_true_eq_false, decide_true, decide_false, or_false, false_or]
  have zz : Z = List.replicate w.length 0 := by rw [hZ]; simp [PADZ]
  simp (config := { maxSteps := 1000000 }) only [RUN, PATHS, BASE, FA, POL, start_tm, Heap.empty, reduceIte, Nat.reduceLT, Nat.reduceLeDiff, Nat.reduceEqDiff, Nat.reduceAdd, Nat.reduceSub, Nat.reduceMul, Nat.reduceBEq, Int.reduceLT, Int.reduceLE, Int.reduceEq, Int.reduceNeg, Int.reduceAdd, Int.reduceSub, Int.reduceMul, Bool.false_eq_true, Bool.not_true, Bool.not_false, decide_eq_true_eq, and_self, true_and, and_true, reduceCtorEq, ne_eq, not_false_eq_true, not_true_eq_false, decide_true, decide_false, or_false, false_or, NUM, SIN, h7, h0', h1, h4, hd, hf, h0, r1, lZ, List.length_map, Nat.zero_add, Nat.le_refl]
  rw [List.take_of_length_le (by simp [lZ]), SIN.2.2.1, zz]
end Go.Proofs.Ytnabgahkdomeoaa
