/-
  What is compared and moved when quotas are put in order.
-/
import Derived.Test.YtnabgahkdomeoaaC8
import Derived.Test.YtnabgahkdomeoaaL1
set_option linter.unusedSimpArgs false
set_option linter.unusedVariables false
set_option linter.unusedSectionVars false
namespace Go.Proofs.Ytnabgahkdomeoaa
open Go GoV
set_option maxRecDepth 100000

abbrev qu (x : Qu) : PV := .agg [I x.ix, U x.r]
theorem SQU : (∀ l : List Qu, strip0L (l.map qu) = l.map qu) ∧ (∀ l : List Qu, (l.map qu).map strip0 = l.map qu) ∧ (∀ H (l : List Qu), (l.map qu).map (strip1 H) = l.map qu) ∧ (∀ H (l : List Qu), (l.map qu).map (strip2 H) = l.map qu) ∧ (∀ H (l : List Qu), strip1L H (l.map qu) = l.map qu) ∧ (∀ H (l : List Qu), strip2L H (l.map qu) = l.map qu) := STR qu (fun _ => rfl) (fun _ _ => rfl) (fun _ _ => rfl)
def CMP (a b : Qu) : Int := if b.r < a.r then -1 else if a.r < b.r then 1 else 0
theorem CMP_lt {a b : Qu} : CMP a b < 0 ↔ b.r < a.r := by unfold CMP; split <;> (try split) <;> omega
theorem c_isnan (a : Int) : ap Try.prog pol 55 [U a] = some (.ret (.bool false)) := by
  rw [ap_eq _ Try.func55 rfl Try.ntmps55 Try.results55 (by kernel_rfl) rfl (by exact Nat.le_of_ble_eq_true rfl)]
  simp (config := { maxSteps := 1000000 }) only [RUN, PATHS, BASE, FA, POL, start_tm, Heap.empty, reduceIte, Nat.reduceLT, Nat.reduceLeDiff, Nat.reduceEqDiff, Nat.reduceAdd, Nat.reduceSub, Nat.reduceMul, Nat.reduceBEq, Int.reduceLT, Int.reduceLE, Int.reduceEq, Int.reduceNeg, Int.reduceAdd, Int.reduceSub, Int.reduceMul, Bool.false_eq_true, Bool.not_true, Bool.not_false, decide_eq_true_eq, and_self, true_and, and_true, reduceCtorEq, ne_eq, not_false_eq_true, not_true_eq_false, decide_true, decide_false, or_false, false_or]
theorem c_compare (a b : Int) : ap Try.prog pol 36 [U a, U b] = some (.ret (I (if a < b then -1 else if b < a then 1 else 0))) := by
  rw [ap_eq _ Try.func36 rfl Try.ntmps36 Try.results36 (by kernel_rfl) rfl (by exact Nat.le_of_ble_eq_true rfl)]
  by_cases h1 : a < b
  · simp (config := { maxSteps := 1000000 }) only [RUN, PATHS, BASE, FA, POL, start_tm, Heap.empty, reduceIte, Nat.reduceLT, Nat.reduceLeDiff, Nat.reduceEqDiff, Nat.reduceAdd, Nat.reduceSub, Nat.reduceMul, Nat.reduceBEq, Int.reduceLT, Int.reduceLE, Int.reduceEq, Int.reduceNeg, Int.reduceAdd, Int.reduceSub, Int.reduceMul, Bool.false_eq_true, Bool.not_true, Bool.not_false, decide_eq_true_eq, and_self, true_and, and_true, reduceCtorEq, ne_eq, not_false_eq_true, not_true_eq_false, decide_true, decide_false, or_false, false_or, c_isnan, h1]
  by_cases h2 : b < a
  · simp (config := { maxSteps := 1000000 }) only [RUN, PATHS, BASE, FA, POL, start_tm, Heap.empty, reduceIte, Nat.reduceLT, Nat.reduceLeDiff, Nat.reduceEqDiff, Nat.reduceAdd, Nat.reduceSub, Nat.reduceMul, Nat.reduceBEq, Int.reduceLT, Int.reduceLE, Int.reduceEq, Int.reduceNeg, Int.reduceAdd, Int.reduceSub, Int.reduceMul, Bool.false_eq_true, Bool.not_true, Bool.not_false, decide_eq_true_eq, and_self, true_and, and_true, reduceCtorEq, ne_eq, not_false_eq_true, not_true_eq_false, decide_true, decide_false, or_false, false_or, c_isnan, h1, h2]
  · simp (config := { maxSteps := 1000000 }) only [RUN, PATHS, BASE, FA, POL, start_tm, Heap.empty, reduceIte, Nat.reduceLT, Nat.reduceLeDiff, Nat.reduceEqDiff, Nat.reduceAdd, Nat.reduceSub, Nat.reduceMul, Nat.reduceBEq, Int.reduceLT, Int.reduceLE, Int.reduceEq, Int.reduceNeg, Int.reduceAdd, Int.reduceSub, Int.reduceMul, Bool.false_eq_true, Bool.not_true, Bool.not_false, decide_eq_true_eq, and_self, true_and, and_true, reduceCtorEq, ne_eq, not_false_eq_true, not_true_eq_false, decide_true, decide_false, or_false, false_or, c_isnan, h1, h2]
theorem c_cmp (a b : Qu) : ap Try.prog pol 35 [qu a, qu b] = some (.ret (I (CMP a b))) := by
  rw [ap_eq _ Try.func35 rfl Try.ntmps35 Try.results35 (by kernel_rfl) rfl (by exact Nat.le_of_ble_eq_true rfl)]
  simp (config := { maxSteps := 1000000 }) only [RUN, PATHS, BASE, FA, POL, start_tm, Heap.empty, reduceIte, Nat.reduceLT, Nat.reduceLeDiff, Nat.reduceEqDiff, Nat.reduceAdd, Nat.reduceSub, Nat.reduceMul, Nat.reduceBEq, Int.reduceLT, Int.reduceLE, Int.reduceEq, Int.reduceNeg, Int.reduceAdd, Int.reduceSub, Int.reduceMul, Bool.false_eq_true, Bool.not_true, Bool.not_false, decide_eq_true_eq, and_self, true_and, and_true, reduceCtorEq, ne_eq, not_false_eq_true, not_true_eq_false, decide_true, decide_false, or_false, false_or, c_compare]
  rfl
theorem upd_upd {α : Type} (f : Nat → α) (t : Nat) (v w : α) : upd (upd f t v) t w = upd f t w := by
  funext i; simp only [upd]; split <;> rfl
/-- The order's row. -/
abbrev RW (d : List Qu) : Row := .gro 2 (d.map qu) 0
abbrev QG (n : Nat) : PV := .gsl 2 2 n 0 n
abbrev CF : PV := .fn 35 []
theorem mget {d : List Qu} {i : Nat} {x : Qu} (h : d[i]? = some x) : (d.map qu)[i]? = some (qu x) := by simp [h]
theorem mset {d : List Qu} {i j : Nat} {x y : Qu} (hi : d[i]? = some x) (hj : d[j]? = some y) : ((d.map qu).set i (qu y)).set j (qu x) = (SWP d i j).map qu := by
  rw [SWP_eq hi hj, List.map_set, List.map_set]
theorem mget2 {d : List Qu} {i j : Nat} {x y : Qu} (hi : d[i]? = some x) (hj : d[j]? = some y) : ∃ z, ((d.map qu).set i (qu y))[j]? = some (qu z) := by
  rw [List.getElem?_set]
  split
  · rw [if_pos]; exact ⟨_, rfl⟩
    rename_i h; subst h
    have := List.getElem?_eq_some_iff.1 hi
    simpa using this.1
  · exact ⟨y, by simp [hj]⟩
theorem c_swapRange (d : List Qu) (a b k : Nat) (ha : a + k ≤ d.length) (hb : b + k ≤ d.length) (hl : d.length ≤ 1000000) (H : Heap) (hr : H.rows 2 = some (RW d)) :
    ∃ n, callF G Try.prog pol 71 [QG d.length, I a, I b, I k, CF] H = some (.ret (.tup []), ⟨upd H.rows 2 (some (RW (SRF d a b k))), n⟩) ∧ H.next ≤ n := by
  rw [callF_eq _ _ Try.func71 rfl Try.ntmps71 Try.results71 (by kernel_rfl) rfl (by exact Nat.le_of_ble_eq_true rfl)]
  simp (config := { maxSteps := 1000000 }) only [RUN, PATHS, BASE, FA, POL, start_tm, Heap.empty, reduceIte, Nat.reduceLT, Nat.reduceLeDiff, Nat.reduceEqDiff, Nat.reduceAdd, Nat.reduceSub, Nat.reduceMul, Nat.reduceBEq, Int.reduceLT, Int.reduceLE, Int.reduceEq, Int.reduceNeg, Int.reduceAdd, Int.reduceSub, Int.reduceMul, Bool.false_eq_true, Bool.not_true, Bool.not_false, decide_eq_true_eq, and_self, true_and, and_true, reduceCtorEq, ne_eq, not_false_eq_true, not_true_eq_false, decide_true, decide_false, or_false, false_or]
  generalize hL : W _ (.loop _) _ = L
  obtain ⟨ex, s, rfl, rfl, hrow, hd, hn⟩ := loop_at hL (α := Nat × List Qu) (fun p => k - p.1)
    (fun s0 p s => p.1 ≤ k ∧ p.2.length = d.length ∧ SRF p.2 (a + p.1) (b + p.1) (k - p.1) = SRF d a b k ∧ s.H.rows = upd H.rows 2 (some (RW p.2)) ∧ s.tmps 10 = I p.1 ∧ s.tmps 0 = QG d.length ∧ s.tmps 1 = I a ∧ s.tmps 2 = I b ∧ s.tmps 3 = I k ∧ s.defers = [] ∧ s.fid = H.next ∧ H.next ≤ s.H.next)
    (fun s0 ex s => ex = .exit 0 ∧ s.H.rows = upd H.rows 2 (some (RW (SRF d a b k))) ∧ s.defers = [] ∧ H.next ≤ s.H.next) (0, d)
    (by simp (config := { maxSteps := 1000000 }) only [RUN, PATHS, BASE, FA, POL, start_tm, Heap.empty, reduceIte, Nat.reduceLT, Nat.reduceLeDiff, Nat.reduceEqDiff, Nat.reduceAdd, Nat.reduceSub, Nat.reduceMul, Nat.reduceBEq, Int.reduceLT, Int.reduceLE, Int.reduceEq, Int.reduceNeg, Int.reduceAdd, Int.reduceSub, Int.reduceMul, Bool.false_eq_true, Bool.not_true, Bool.not_false, decide_eq_true_eq, and_self, true_and, and_true, reduceCtorEq, ne_eq, not_false_eq_true, not_true_eq_false, decide_true, decide_false, or_false, false_or]; exact ⟨by omega, by simp, by rw [← hr, upd_same], by simp, by omega⟩) (by
      rintro ⟨j, e⟩ s r hW ⟨hj, hle, hs, hrow, h10, h0, h1, h2, h3, hd, hf, hn⟩
      dsimp only at hj hle hs hrow h10
      by_cases hp : j < k
      · have ei : e[a + j]? = some e[a + j] := List.getElem?_eq_getElem (by omega)
        have ej : e[b + j]? = some e[b + j] := List.getElem?_eq_getElem (by omega)
        have em := mset ei ej
        obtain ⟨z, ez⟩ := mget2 ei ej
        have i1 := mget ei
        have j1 := mget ej
        generalize e[a + j] = x at *
        generalize e[b + j] = y at *
        have r2 : s.H.rows 2 = some (RW e) := by rw [hrow]; simp
        have n1 : ((a : Int) + j).toNat = a + j := by omega
        have n2 : ((b : Int) + j).toNat = b + j := by omega
        simp (config := { maxSteps := 1000000 }) only [RUN, PATHS, BASE, FA, POL, start_tm, Heap.empty, reduceIte, Nat.reduceLT, Nat.reduceLeDiff, Nat.reduceEqDiff, Nat.reduceAdd, Nat.reduceSub, Nat.reduceMul, Nat.reduceBEq, Int.reduceLT, Int.reduceLE, Int.reduceEq, Int.reduceNeg, Int.reduceAdd, Int.reduceSub, Int.reduceMul, Bool.false_eq_true, Bool.not_true, Bool.not_false, decide_eq_true_eq, and_self, true_and, and_true, reduceCtorEq, ne_eq, not_false_eq_true, not_true_eq_false, decide_true, decide_false, or_false, false_or, NUM, SQU, hle, h10, h0, h1, h2, h3, hd, hf, r2, i1, j1, ez, n1, n2, Nat.zero_add, List.length_map, List.length_set, (show (j : Int) < k by omega), (show (0 : Int) ≤ (a : Int) + j by omega), (show (0 : Int) ≤ (b : Int) + j by omega), (show (a : Int) + j < d.length by omega), (show (b : Int) + j < d.length by omega), (i64_in (x := (a : Int) + j) (by unfold I64; omega)), (i64_in (x := (b : Int) + j) (by unfold I64; omega)), (i64_in (x := (j : Int) + 1) (by unfold I64; omega)), Nat.zero_le] at hW
        subst hW
        rw [if_pos (by kernel_rfl)]
        refine rd_next (j + 1, SWP e (a + j) (b + j)) ?_ (show k - (j + 1) < k - j by omega)
        simp (config := { maxSteps := 1000000 }) only [RUN, PATHS, BASE, FA, POL, start_tm, Heap.empty, reduceIte, Nat.reduceLT, Nat.reduceLeDiff, Nat.reduceEqDiff, Nat.reduceAdd, Nat.reduceSub, Nat.reduceMul, Nat.reduceBEq, Int.reduceLT, Int.reduceLE, Int.reduceEq, Int.reduceNeg, Int.reduceAdd, Int.reduceSub, Int.reduceMul, Bool.false_eq_true, Bool.not_true, Bool.not_false, decide_eq_true_eq, and_self, true_and, and_true, reduceCtorEq, ne_eq, not_false_eq_true, not_true_eq_false, decide_true, decide_false, or_false, false_or, h0, h1, h2, h3, SWP_len, em, hrow]
        refine ⟨by omega, hle, ?_, ?_, by simp, hn⟩
        · rw [← hs, show k - j = (k - (j + 1)) + 1 by omega]; rfl
        · show upd (upd s.H.rows 2 _) 2 _ = _; rw [upd_upd, hrow, upd_upd]
      · simp (config := { maxSteps := 1000000 }) only [RUN, PATHS, BASE, FA, POL, start_tm, Heap.empty, reduceIte, Nat.reduceLT, Nat.reduceLeDiff, Nat.reduceEqDiff, Nat.reduceAdd, Nat.reduceSub, Nat.reduceMul, Nat.reduceBEq, Int.reduceLT, Int.reduceLE, Int.reduceEq, Int.reduceNeg, Int.reduceAdd, Int.reduceSub, Int.reduceMul, Bool.false_eq_true, Bool.not_true, Bool.not_false, decide_eq_true_eq, and_self, true_and, and_true, reduceCtorEq, ne_eq, not_false_eq_true, not_true_eq_false, decide_true, decide_false, or_false, false_or, h10, h3, hd, hf, (show ¬ (j : Int) < k by omega)] at hW
        subst hW
        have : j = k := by omega
        subst this
        rw [Nat.sub_self] at hs
        simp only [SRF] at hs
        subst hs
        exact rd_exit ⟨rfl, by simp (config := { maxSteps := 1000000 }) only [RUN, PATHS, BASE, FA, POL, start_tm, Heap.empty, reduceIte, Nat.reduceLT, Nat.reduceLeDiff, Nat.reduceEqDiff, Nat.reduceAdd, Nat.reduceSub, Nat.reduceMul, Nat.reduceBEq, Int.reduceLT, Int.reduceLE, Int.reduceEq, Int.reduceNeg, Int.reduceAdd, Int.reduceSub, Int.reduceMul, Bool.false_eq_true, Bool.not_true, Bool.not_false, decide_eq_true_eq, and_self, true_and, and_true, reduceCtorEq, ne_eq, not_false_eq_true, not_true_eq_false, decide_true, decide_false, or_false, false_or, hrow], by simp (config := { maxSteps := 1000000 }) only [RUN, PATHS, BASE, FA, POL, start_tm, Heap.empty, reduceIte, Nat.reduceLT, Nat.reduceLeDiff, Nat.reduceEqDiff, Nat.reduceAdd, Nat.reduceSub, Nat.reduceMul, Nat.reduceBEq, Int.reduceLT, Int.reduceLE, Int.reduceEq, Int.reduceNeg, Int.reduceAdd, Int.reduceSub, Int.reduceMul, Bool.false_eq_true, Bool.not_true, Bool.not_false, decide_eq_true_eq, and_self, true_and, and_true, reduceCtorEq, ne_eq, not_false_eq_true, not_true_eq_false, decide_true, decide_false, or_false, false_or, hd], hn⟩)
  simp (config := { maxSteps := 1000000 }) only [RUN, PATHS, BASE, FA, POL, start_tm, Heap.empty, reduceIte, Nat.reduceLT, Nat.reduceLeDiff, Nat.reduceEqDiff, Nat.reduceAdd, Nat.reduceSub, Nat.reduceMul, Nat.reduceBEq, Int.reduceLT, Int.reduceLE, Int.reduceEq, Int.reduceNeg, Int.reduceAdd, Int.reduceSub, Int.reduceMul, Bool.false_eq_true, Bool.not_true, Bool.not_false, decide_eq_true_eq, and_self, true_and, and_true, reduceCtorEq, ne_eq, not_false_eq_true, not_true_eq_false, decide_true, decide_false, or_false, false_or, hd]
  refine ⟨s.H.next, ?_, hn⟩
  rw [← hrow]
theorem c_swapAt (X U C V Y d : List Qu) (a b k n : Nat) (hd : d = X ++ (U ++ (C ++ (V ++ Y)))) (ha : a = X.length) (hb : b = X.length + U.length + C.length) (hk : k = U.length) (hv : V.length = U.length) (hn : n = d.length) (hl : n ≤ 1000000) (H : Heap) (hr : H.rows 2 = some (RW d)) :
    ∃ j, callF G Try.prog pol 71 [QG n, I a, I b, I k, CF] H = some (.ret (.tup []), ⟨upd H.rows 2 (some (RW (X ++ (V ++ (C ++ (U ++ Y)))))), j⟩) ∧ H.next ≤ j := by
  subst hn hk
  have hd' := congrArg List.length hd
  simp only [List.length_append] at hd'
  obtain ⟨j, cs, hj⟩ := c_swapRange d a b U.length (by omega) (by omega) hl H hr
  have sr := SRF_at U V X C Y a b ha hb hv
  rw [← hd] at sr
  rw [sr] at cs
  exact ⟨j, cs, hj⟩
theorem c_rotate (A U V B : List Qu) (a m b n : Nat) (ha : a = A.length) (hm : m = a + U.length) (hb : b = m + V.length) (hn : n = (A ++ (U ++ (V ++ B))).length) (hu : 0 < U.length) (hv : 0 < V.length) (hl : n ≤ 1000000) (H : Heap)
    (hr : H.rows 2 = some (RW (A ++ (U ++ (V ++ B))))) :
    ∃ k, callF G Try.prog pol 70 [QG n, I a, I m, I b, CF] H = some (.ret (.tup []), ⟨upd H.rows 2 (some (RW (A ++ (V ++ (U ++ B))))), k⟩) ∧ H.next ≤ k := by
  simp only [List.length_append] at hn
  rw [callF_eq _ _ Try.func70 rfl Try.ntmps70 Try.results70 (by kernel_rfl) rfl (by exact Nat.le_of_ble_eq_true rfl)]
  simp (config := { maxSteps := 1000000 }) only [RUN, PATHS, BASE, FA, POL, start_tm, Heap.empty, reduceIte, Nat.reduceLT, Nat.reduceLeDiff, Nat.reduceEqDiff, Nat.reduceAdd, Nat.reduceSub, Nat.reduceMul, Nat.reduceBEq, Int.reduceLT, Int.reduceLE, Int.reduceEq, Int.reduceNeg, Int.reduceAdd, Int.reduceSub, Int.reduceMul, Bool.false_eq_true, Bool.not_true, Bool.not_false, decide_eq_true_eq, and_self, true_and, and_true, reduceCtorEq, ne_eq, not_false_eq_true, not_true_eq_false, decide_true, decide_false, or_false, false_or, i64_in (x := (U.length : Int)) (by unfold I64; omega), i64_in (x := (V.length : Int)) (by unfold I64; omega), (show (m : Int) - a = U.length by omega), (show (b : Int) - m = V.length by omega)]
  generalize hL : W _ (.loop _) _ = L
  obtain ⟨ex, s, rfl, rfl, X, U', V', Y, hc, hnn, hum, hup, hvp, he, hrow, h10, h11, h0, h2, h4, hd, hf, hnx⟩ := loop_at hL (α := List Qu × List Qu × List Qu × List Qu) (fun p => p.2.1.length + p.2.2.1.length)
    (fun s0 p s => n = p.1.length + (p.2.1.length + (p.2.2.1.length + p.2.2.2.length)) ∧ p.1.length + p.2.1.length = m ∧ 0 < p.2.1.length ∧ 0 < p.2.2.1.length ∧ p.1 ++ (p.2.2.1 ++ (p.2.1 ++ p.2.2.2)) = A ++ (V ++ (U ++ B)) ∧
      s.H.rows = upd H.rows 2 (some (RW (p.1 ++ (p.2.1 ++ (p.2.2.1 ++ p.2.2.2))))) ∧ s.tmps 10 = I p.2.1.length ∧ s.tmps 11 = I p.2.2.1.length ∧ s.tmps 0 = QG n ∧ s.tmps 2 = I m ∧ s.tmps 4 = CF ∧ s.defers = [] ∧ s.fid = H.next ∧ H.next ≤ s.H.next)
    (fun s0 ex s => ex = .exit 0 ∧ ∃ X U' V' Y : List Qu, U'.length = V'.length ∧ n = X.length + (U'.length + (V'.length + Y.length)) ∧ X.length + U'.length = m ∧ 0 < U'.length ∧ 0 < V'.length ∧ X ++ (V' ++ (U' ++ Y)) = A ++ (V ++ (U ++ B)) ∧
      s.H.rows = upd H.rows 2 (some (RW (X ++ (U' ++ (V' ++ Y))))) ∧ s.tmps 10 = I U'.length ∧ s.tmps 11 = I V'.length ∧ s.tmps 0 = QG n ∧ s.tmps 2 = I m ∧ s.tmps 4 = CF ∧ s.defers = [] ∧ s.fid = H.next ∧ H.next ≤ s.H.next) (A, U, V, B)
    (by simp (config := { maxSteps := 1000000 }) only [RUN, PATHS, BASE, FA, POL, start_tm, Heap.empty, reduceIte, Nat.reduceLT, Nat.reduceLeDiff, Nat.reduceEqDiff, Nat.reduceAdd, Nat.reduceSub, Nat.reduceMul, Nat.reduceBEq, Int.reduceLT, Int.reduceLE, Int.reduceEq, Int.reduceNeg, Int.reduceAdd, Int.reduceSub, Int.reduceMul, Bool.false_eq_true, Bool.not_true, Bool.not_false, decide_eq_true_eq, and_self, true_and, and_true, reduceCtorEq, ne_eq, not_false_eq_true, not_true_eq_false, decide_true, decide_false, or_false, false_or]; exact ⟨by omega, by omega, hu, hv, by rw [← hr, upd_same], by omega⟩) (by
      rintro ⟨X, U', V', Y⟩ s r hW ⟨hnn, hum, hup, hvp, he, hrow, h10, h11, h0, h2, h4, hd, hf, hnx⟩
      dsimp only at hnn hum hup hvp he hrow h10 h11
      have r2 : s.H.rows 2 = some (RW (X ++ (U' ++ (V' ++ Y)))) := by rw [hrow]; simp
      by_cases hij : U'.length = V'.length
      · simp (config := { maxSteps := 1000000 }) only [RUN, PATHS, BASE, FA, POL, start_tm, Heap.empty, reduceIte, Nat.reduceLT, Nat.reduceLeDiff, Nat.reduceEqDiff, Nat.reduceAdd, Nat.reduceSub, Nat.reduceMul, Nat.reduceBEq, Int.reduceLT, Int.reduceLE, Int.reduceEq, Int.reduceNeg, Int.reduceAdd, Int.reduceSub, Int.reduceMul, Bool.false_eq_true, Bool.not_true, Bool.not_false, decide_eq_true_eq, and_self, true_and, and_true, reduceCtorEq, ne_eq, not_false_eq_true, not_true_eq_false, decide_true, decide_false, or_false, false_or, h10, h11, hd, hf, hij] at hW
        subst hW
        refine rd_exit ⟨rfl, X, U', V', Y, hij, hnn, hum, hup, hvp, he, ?_⟩
        simp (config := { maxSteps := 1000000 }) only [RUN, PATHS, BASE, FA, POL, start_tm, Heap.empty, reduceIte, Nat.reduceLT, Nat.reduceLeDiff, Nat.reduceEqDiff, Nat.reduceAdd, Nat.reduceSub, Nat.reduceMul, Nat.reduceBEq, Int.reduceLT, Int.reduceLE, Int.reduceEq, Int.reduceNeg, Int.reduceAdd, Int.reduceSub, Int.reduceMul, Bool.false_eq_true, Bool.not_true, Bool.not_false, decide_eq_true_eq, and_self, true_and, and_true, reduceCtorEq, ne_eq, not_false_eq_true, not_true_eq_false, decide_true, decide_false, or_false, false_or, hrow, h10, h11, h0, h2, h4, hij]
        exact hnx
      by_cases hgt : V'.length < U'.length
      · obtain ⟨U1, U2, rfl, l1⟩ := part_at U' V'.length (by omega)
        rw [List.length_append] at hum hnn hgt hij
        obtain ⟨k, cs, hk⟩ := c_swapAt X U1 U2 V' Y _ (m - (U1.length + U2.length)) m V'.length n rfl (by omega) (by omega) (by omega) (by omega) (by simp only [List.length_append]; omega) hl s.H (by rw [r2]; simp)
        simp (config := { maxSteps := 1000000 }) only [RUN, PATHS, BASE, FA, POL, start_tm, Heap.empty, reduceIte, Nat.reduceLT, Nat.reduceLeDiff, Nat.reduceEqDiff, Nat.reduceAdd, Nat.reduceSub, Nat.reduceMul, Nat.reduceBEq, Int.reduceLT, Int.reduceLE, Int.reduceEq, Int.reduceNeg, Int.reduceAdd, Int.reduceSub, Int.reduceMul, Bool.false_eq_true, Bool.not_true, Bool.not_false, decide_eq_true_eq, and_self, true_and, and_true, reduceCtorEq, ne_eq, not_false_eq_true, not_true_eq_false, decide_true, decide_false, or_false, false_or, NUM, h10, h11, h0, h2, h4, hd, hf, List.length_append, Int.natCast_add, (show ¬ (U1.length : Int) + U2.length = V'.length by omega), (show (V'.length : Int) < (U1.length : Int) + U2.length by omega), (i64_in (x := ((m - (U1.length + U2.length) : Nat) : Int)) (by unfold I64; omega)), (i64_in (x := (U1.length : Int) + U2.length - V'.length) (by unfold I64; omega)), (show (m : Int) - ((U1.length : Int) + U2.length) = ((m - (U1.length + U2.length) : Nat) : Int) by omega), cs] at hW
        subst hW
        refine rd_next (X ++ V', U2, U1, Y) ?_ ?_
        rotate_left
        · simp only [List.length_append]; omega
        simp (config := { maxSteps := 1000000 }) only [RUN, PATHS, BASE, FA, POL, start_tm, Heap.empty, reduceIte, Nat.reduceLT, Nat.reduceLeDiff, Nat.reduceEqDiff, Nat.reduceAdd, Nat.reduceSub, Nat.reduceMul, Nat.reduceBEq, Int.reduceLT, Int.reduceLE, Int.reduceEq, Int.reduceNeg, Int.reduceAdd, Int.reduceSub, Int.reduceMul, Bool.false_eq_true, Bool.not_true, Bool.not_false, decide_eq_true_eq, and_self, true_and, and_true, reduceCtorEq, ne_eq, not_false_eq_true, not_true_eq_false, decide_true, decide_false, or_false, false_or, h11, h0, h2, h4, hrow, List.length_append]
        rw [upd_upd]
        refine ⟨by omega, by omega, by omega, by omega, ?_, by simp, ?_, by rw [l1], by omega⟩
        · rw [← he]; simp
        · rw [show (U1.length : Int) + U2.length - V'.length = U2.length by omega]
      · obtain ⟨V1, V2, rfl, l1⟩ := part_at V' (V'.length - U'.length) (by omega)
        rw [List.length_append] at hnn hgt hij l1 hvp
        obtain ⟨q, hq⟩ : ∃ q, q = m + V1.length := ⟨_, rfl⟩
        obtain ⟨k, cs, hk⟩ := c_swapAt X U' V1 V2 Y _ (m - U'.length) q U'.length n rfl (by omega) (by omega) rfl (by omega) (by simp only [List.length_append]; omega) hl s.H (by rw [r2]; simp)
        simp (config := { maxSteps := 1000000 }) only [RUN, PATHS, BASE, FA, POL, start_tm, Heap.empty, reduceIte, Nat.reduceLT, Nat.reduceLeDiff, Nat.reduceEqDiff, Nat.reduceAdd, Nat.reduceSub, Nat.reduceMul, Nat.reduceBEq, Int.reduceLT, Int.reduceLE, Int.reduceEq, Int.reduceNeg, Int.reduceAdd, Int.reduceSub, Int.reduceMul, Bool.false_eq_true, Bool.not_true, Bool.not_false, decide_eq_true_eq, and_self, true_and, and_true, reduceCtorEq, ne_eq, not_false_eq_true, not_true_eq_false, decide_true, decide_false, or_false, false_or, NUM, h10, h11, h0, h2, h4, hd, hf, List.length_append, Int.natCast_add, (show ¬ (U'.length : Int) = (V1.length : Int) + V2.length by omega), (show ¬ (V1.length : Int) + V2.length < U'.length by omega), (i64_in (x := ((m - U'.length : Nat) : Int)) (by unfold I64; omega)), (show (m : Int) - (U'.length : Int) = ((m - U'.length : Nat) : Int) by omega), (i64_in (x := (m : Int) + (V1.length + V2.length)) (by unfold I64; omega)),
          (show (m : Int) + (V1.length + V2.length) - U'.length = (q : Int) by omega), (i64_in (x := (q : Int)) (by unfold I64; omega)), (show (V1.length : Int) + V2.length - U'.length = (V1.length : Int) by omega), (i64_in (x := (V1.length : Int)) (by unfold I64; omega)), cs] at hW
        subst hW
        refine rd_next (X, V2, V1, U' ++ Y) ?_ ?_
        rotate_left
        · simp only [List.length_append]; omega
        simp (config := { maxSteps := 1000000 }) only [RUN, PATHS, BASE, FA, POL, start_tm, Heap.empty, reduceIte, Nat.reduceLT, Nat.reduceLeDiff, Nat.reduceEqDiff, Nat.reduceAdd, Nat.reduceSub, Nat.reduceMul, Nat.reduceBEq, Int.reduceLT, Int.reduceLE, Int.reduceEq, Int.reduceNeg, Int.reduceAdd, Int.reduceSub, Int.reduceMul, Bool.false_eq_true, Bool.not_true, Bool.not_false, decide_eq_true_eq, and_self, true_and, and_true, reduceCtorEq, ne_eq, not_false_eq_true, not_true_eq_false, decide_true, decide_false, or_false, false_or, h10, h0, h2, h4, hrow, List.length_append]
        rw [upd_upd]
        refine ⟨by omega, by omega, by omega, by omega, ?_, by simp, by rw [show U'.length = V2.length by omega], by omega⟩
        rw [← he]; simp)
  obtain ⟨k, cs, hk⟩ := c_swapAt X U' [] V' Y _ (m - U'.length) m U'.length n rfl (by omega) (by simp; omega) rfl (by omega) (by simp only [List.length_append, List.length_nil]; omega) hl s.H (by rw [hrow]; simp)
  simp (config := { maxSteps := 1000000 }) only [RUN, PATHS, BASE, FA, POL, start_tm, Heap.empty, reduceIte, Nat.reduceLT, Nat.reduceLeDiff, Nat.reduceEqDiff, Nat.reduceAdd, Nat.reduceSub, Nat.reduceMul, Nat.reduceBEq, Int.reduceLT, Int.reduceLE, Int.reduceEq, Int.reduceNeg, Int.reduceAdd, Int.reduceSub, Int.reduceMul, Bool.false_eq_true, Bool.not_true, Bool.not_false, decide_eq_true_eq, and_self, true_and, and_true, reduceCtorEq, ne_eq, not_false_eq_true, not_true_eq_false, decide_true, decide_false, or_false, false_or, h10, h11, h0, h2, h4, hd, hf, (i64_in (x := ((m - U'.length : Nat) : Int)) (by unfold I64; omega)), (show (m : Int) - (U'.length : Int) = ((m - U'.length : Nat) : Int) by omega), cs]
  refine ⟨k, ?_, by omega⟩
  rw [hrow, upd_upd]
  simp only [List.nil_append] at *
  rw [he]
end Go.Proofs.Ytnabgahkdomeoaa
