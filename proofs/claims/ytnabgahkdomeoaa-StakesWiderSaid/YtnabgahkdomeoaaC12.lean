/-
  A merge where the second side is a single quota.
-/
import Derived.Test.YtnabgahkdomeoaaC11
set_option linter.unusedSimpArgs false
set_option linter.unusedVariables false
set_option linter.unusedSectionVars false
namespace Go.Proofs.Ytnabgahkdomeoaa
open Go GoV
set_option maxRecDepth 100000

/-- Where a single member goes that comes from behind. -/
theorem two_parts {L : List Qu} {y : Qu} {i : Nat} (hi : i ≤ L.length) (sL : QS L) (hI : ∀ x ∈ L, x.ix < y.ix) (k1 : 0 < i → ∀ x, L[i - 1]? = some x → ¬ QLT y x) (k2 : i < L.length → ∀ x, L[i]? = some x → QLT y x) :
    ∃ L1 L2, L = L1 ++ L2 ∧ L1.length = i ∧ QB L1 [y] ∧ QB [y] L2 := by
  obtain ⟨L1, L2, rfl, l1⟩ := part_at L i hi
  obtain ⟨s1, s2, _⟩ := QS_app.1 sL
  refine ⟨L1, L2, rfl, l1, QB_last s1 (by simp) fun u v hu hv => ?_, QB_last (by simp) s2 fun u v hu hv => ?_⟩
  · simp at hv; subst hv
    obtain ⟨p, q⟩ := getLast_at hu
    exact QLT.of_not (k1 (by omega) u (by rw [List.getElem?_append_left (by omega), ← l1]; exact q)) (hI u (by simp [List.mem_of_getElem? q]))
  · simp at hu; subst hu
    obtain ⟨p, q⟩ := head_at hv
    exact k2 (by simp; omega) v (by rw [List.getElem?_append_right (by omega), l1, Nat.sub_self]; exact q)
theorem c_symr (A L B : List Qu) (y : Qu) (a m b n : Nat) (ha : a = A.length) (hm : m = a + L.length) (hb : b = m + 1) (h2 : 2 ≤ L.length) (sL : QS L) (hI : ∀ x ∈ L, x.ix < y.ix) (hn : n = (A ++ (L ++ (y :: B))).length) (hl : n ≤ 1000000) (H : Heap)
    (hr : H.rows 2 = some (RW (A ++ (L ++ (y :: B))))) :
    ∃ M, M.Perm (L ++ [y]) ∧ QS M ∧ ∃ k, callF G Try.prog pol 66 [QG n, I a, I m, I b, CF] H = some (.ret (.tup []), ⟨upd H.rows 2 (some (RW (A ++ (M ++ B)))), k⟩) ∧ H.next ≤ k := by
  simp only [List.length_append, List.length_cons] at hn
  have hDl : (A ++ (L ++ (y :: B))).length = n := by simp only [List.length_append, List.length_cons]; omega
  have iy : (A ++ (L ++ (y :: B)))[m]? = some y := by
    rw [← List.append_assoc]; exact at_app' (by simp; omega)
  have iL : ∀ k, k < L.length → (A ++ (L ++ (y :: B)))[a + k]? = L[k]? := fun k hk => by
    rw [List.getElem?_append_right (by omega), show a + k - A.length = k by omega, List.getElem?_append_left hk]
  rw [callF_eq _ _ Try.func66 rfl Try.ntmps66 Try.results66 (by kernel_rfl) rfl (by exact Nat.le_of_ble_eq_true rfl)]
  simp (config := { maxSteps := 1000000 }) only [RUN, PATHS, BASE, FA, POL, start_tm, Heap.empty, reduceIte, Nat.reduceLT, Nat.reduceLeDiff, Nat.reduceEqDiff, Nat.reduceAdd, Nat.reduceSub, Nat.reduceMul, Nat.reduceBEq, Int.reduceLT, Int.reduceLE, Int.reduceEq, Int.reduceNeg, Int.reduceAdd, Int.reduceSub, Int.reduceMul, Bool.false_eq_true, Bool.not_true, Bool.not_false, decide_eq_true_eq, and_self, true_and, and_true, reduceCtorEq, ne_eq, not_false_eq_true, not_true_eq_false, decide_true, decide_false, or_false, false_or, NUM, (show (b : Int) - m = 1 by omega), i64_in (x := (m : Int) - a) (by unfold I64; omega), (show ¬ (m : Int) - a = 1 by omega)]
  generalize hL : W _ (.loop _) _ = L'
  obtain ⟨ex, s, rfl, rfl, i, hi1, hi2, k1, k2, h14, h0, h2', hd, hf, hrow, hnx⟩ := loop_at hL (α := Nat × Nat) (fun p => p.2 - p.1)
    (fun s0 p s => a ≤ p.1 ∧ p.1 ≤ p.2 ∧ p.2 ≤ m ∧ (a < p.1 → ∀ x, L[p.1 - a - 1]? = some x → ¬ QLT y x) ∧ (p.2 < m → ∀ x, L[p.2 - a]? = some x → QLT y x) ∧ s.tmps 14 = I p.1 ∧ s.tmps 15 = I p.2 ∧ s.tmps 0 = QG n ∧ s.tmps 2 = I m ∧ s.tmps 4 = CF ∧ s.defers = [] ∧ s.fid = H.next ∧ s.H.rows = H.rows ∧ H.next ≤ s.H.next)
    (fun s0 ex s => ex = .exit 4 ∧ ∃ i, a ≤ i ∧ i ≤ m ∧ (a < i → ∀ x, L[i - a - 1]? = some x → ¬ QLT y x) ∧ (i < m → ∀ x, L[i - a]? = some x → QLT y x) ∧ s.tmps 14 = I i ∧ s.tmps 0 = QG n ∧ s.tmps 2 = I m ∧ s.defers = [] ∧ s.fid = H.next ∧ s.H.rows = H.rows ∧ H.next ≤ s.H.next) (a, m)
    (by simp (config := { maxSteps := 1000000 }) only [RUN, PATHS, BASE, FA, POL, start_tm, Heap.empty, reduceIte, Nat.reduceLT, Nat.reduceLeDiff, Nat.reduceEqDiff, Nat.reduceAdd, Nat.reduceSub, Nat.reduceMul, Nat.reduceBEq, Int.reduceLT, Int.reduceLE, Int.reduceEq, Int.reduceNeg, Int.reduceAdd, Int.reduceSub, Int.reduceMul, Bool.false_eq_true, Bool.not_true, Bool.not_false, decide_eq_true_eq, and_self, true_and, and_true, reduceCtorEq, ne_eq, not_false_eq_true, not_true_eq_false, decide_true, decide_false, or_false, false_or]
        exact ⟨Nat.le_refl _, by omega, Nat.le_refl _, fun h => by omega, fun h => by omega, by omega⟩) (by
      rintro ⟨i, j⟩ s r hW ⟨q1, q2, q3, k1, k2, h14, h15, h0, h2', h4, hd, hf, hrow, hnx⟩
      dsimp only at q1 q2 q3 k1 k2 h14 h15
      by_cases hp : i < j
      rotate_left
      · simp (config := { maxSteps := 1000000 }) only [RUN, PATHS, BASE, FA, POL, start_tm, Heap.empty, reduceIte, Nat.reduceLT, Nat.reduceLeDiff, Nat.reduceEqDiff, Nat.reduceAdd, Nat.reduceSub, Nat.reduceMul, Nat.reduceBEq, Int.reduceLT, Int.reduceLE, Int.reduceEq, Int.reduceNeg, Int.reduceAdd, Int.reduceSub, Int.reduceMul, Bool.false_eq_true, Bool.not_true, Bool.not_false, decide_eq_true_eq, and_self, true_and, and_true, reduceCtorEq, ne_eq, not_false_eq_true, not_true_eq_false, decide_true, decide_false, or_false, false_or, h14, h15, hd, hf, (show ¬ (i : Int) < j by omega)] at hW
        subst hW
        obtain rfl : i = j := by omega
        refine rd_exit ⟨rfl, i, q1, q3, k1, k2, ?_⟩
        simp (config := { maxSteps := 1000000 }) only [RUN, PATHS, BASE, FA, POL, start_tm, Heap.empty, reduceIte, Nat.reduceLT, Nat.reduceLeDiff, Nat.reduceEqDiff, Nat.reduceAdd, Nat.reduceSub, Nat.reduceMul, Nat.reduceBEq, Int.reduceLT, Int.reduceLE, Int.reduceEq, Int.reduceNeg, Int.reduceAdd, Int.reduceSub, Int.reduceMul, Bool.false_eq_true, Bool.not_true, Bool.not_false, decide_eq_true_eq, and_self, true_and, and_true, reduceCtorEq, ne_eq, not_false_eq_true, not_true_eq_false, decide_true, decide_false, or_false, false_or, h14, h0, h2', hrow]
        exact hnx
      obtain ⟨h, hh⟩ : ∃ h, h = (i + j) / 2 := ⟨_, rfl⟩
      have mu := mid_u i j (by omega)
      rw [← hh] at mu
      have eL := iL (h - a) (by omega)
      rw [show a + (h - a) = h by omega] at eL
      have ex : L[h - a]? = some (L[h - a]'(by omega)) := List.getElem?_eq_getElem _
      have hxy := hI _ (List.getElem_mem (show h - a < L.length by omega))
      generalize L[h - a]'(by omega) = x at *
      rw [ex] at eL
      have r2 : s.H.rows 2 = some (RW (A ++ (L ++ (y :: B)))) := by rw [hrow]; exact hr
      have i1 := mget iy
      have i2 := mget eL
      generalize A ++ (L ++ (y :: B)) = D at *
      by_cases hc : x.r < y.r
      · have hcm : CMP y x < 0 := CMP_lt.2 hc
        simp (config := { maxSteps := 1000000 }) only [RUN, PATHS, BASE, FA, POL, start_tm, Heap.empty, reduceIte, Nat.reduceLT, Nat.reduceLeDiff, Nat.reduceEqDiff, Nat.reduceAdd, Nat.reduceSub, Nat.reduceMul, Nat.reduceBEq, Int.reduceLT, Int.reduceLE, Int.reduceEq, Int.reduceNeg, Int.reduceAdd, Int.reduceSub, Int.reduceMul, Bool.false_eq_true, Bool.not_true, Bool.not_false, decide_eq_true_eq, and_self, true_and, and_true, reduceCtorEq, ne_eq, not_false_eq_true, not_true_eq_false, decide_true, decide_false, or_false, false_or, NUM, SQU, h14, h15, h0, h2', h4, hd, hf, r2, i1, i2, hDl, mu, c_cmp, hcm, Nat.zero_add, Nat.zero_le, List.length_map, Int.toNat_natCast, (show (i : Int) < j by omega), i64_in (x := (i : Int) + j) (by unfold I64; omega), i64_in (x := (h : Int)) (by unfold I64; omega), i64_in (x := (h : Int) + 1) (by unfold I64; omega), (show (0 : Int) ≤ h by omega), (show (0 : Int) ≤ m by omega), (show (h : Int) < n by omega), (show (m : Int) < n by omega)] at hW
        subst hW
        refine rd_next (i, h) ?_ (show h - i < j - i by omega)
        simp (config := { maxSteps := 1000000 }) only [RUN, PATHS, BASE, FA, POL, start_tm, Heap.empty, reduceIte, Nat.reduceLT, Nat.reduceLeDiff, Nat.reduceEqDiff, Nat.reduceAdd, Nat.reduceSub, Nat.reduceMul, Nat.reduceBEq, Int.reduceLT, Int.reduceLE, Int.reduceEq, Int.reduceNeg, Int.reduceAdd, Int.reduceSub, Int.reduceMul, Bool.false_eq_true, Bool.not_true, Bool.not_false, decide_eq_true_eq, and_self, true_and, and_true, reduceCtorEq, ne_eq, not_false_eq_true, not_true_eq_false, decide_true, decide_false, or_false, false_or, h14, h0, h2', h4, hrow]
        refine ⟨by omega, by omega, by omega, k1, fun _ z ez => ?_, hnx⟩
        rw [ex] at ez; cases ez; exact .inl hc
      · have hcm : ¬ CMP y x < 0 := fun h => hc (CMP_lt.1 h)
        simp (config := { maxSteps := 1000000 }) only [RUN, PATHS, BASE, FA, POL, start_tm, Heap.empty, reduceIte, Nat.reduceLT, Nat.reduceLeDiff, Nat.reduceEqDiff, Nat.reduceAdd, Nat.reduceSub, Nat.reduceMul, Nat.reduceBEq, Int.reduceLT, Int.reduceLE, Int.reduceEq, Int.reduceNeg, Int.reduceAdd, Int.reduceSub, Int.reduceMul, Bool.false_eq_true, Bool.not_true, Bool.not_false, decide_eq_true_eq, and_self, true_and, and_true, reduceCtorEq, ne_eq, not_false_eq_true, not_true_eq_false, decide_true, decide_false, or_false, false_or, NUM, SQU, h14, h15, h0, h2', h4, hd, hf, r2, i1, i2, hDl, mu, c_cmp, hcm, Nat.zero_add, Nat.zero_le, List.length_map, Int.toNat_natCast, (show (i : Int) < j by omega), i64_in (x := (i : Int) + j) (by unfold I64; omega), i64_in (x := (h : Int)) (by unfold I64; omega), i64_in (x := (h : Int) + 1) (by unfold I64; omega), (show (0 : Int) ≤ h by omega), (show (0 : Int) ≤ m by omega), (show (h : Int) < n by omega), (show (m : Int) < n by omega)] at hW
        subst hW
        refine rd_next (h + 1, j) ?_ (show j - (h + 1) < j - i by omega)
        simp (config := { maxSteps := 1000000 }) only [RUN, PATHS, BASE, FA, POL, start_tm, Heap.empty, reduceIte, Nat.reduceLT, Nat.reduceLeDiff, Nat.reduceEqDiff, Nat.reduceAdd, Nat.reduceSub, Nat.reduceMul, Nat.reduceBEq, Int.reduceLT, Int.reduceLE, Int.reduceEq, Int.reduceNeg, Int.reduceAdd, Int.reduceSub, Int.reduceMul, Bool.false_eq_true, Bool.not_true, Bool.not_false, decide_eq_true_eq, and_self, true_and, and_true, reduceCtorEq, ne_eq, not_false_eq_true, not_true_eq_false, decide_true, decide_false, or_false, false_or, h15, h0, h2', h4, hrow]
        refine ⟨by omega, by omega, by omega, fun _ z ez => ?_, k2, by simp, hnx⟩
        rw [show h + 1 - a - 1 = h - a by omega, ex] at ez; cases ez
        exact fun hq => hc ((QLT_iff hxy).1 hq))
  obtain ⟨L1, L2, rfl, l1, b1, b2⟩ := two_parts (i := i - a) (by omega) sL hI (fun h => k1 (by omega)) (fun h => k2 (by omega))
  rw [List.length_append] at hn hm
  refine ⟨L1 ++ y :: L2, ?_, QS_ins sL b2 b1, ?_⟩
  · rw [List.append_assoc]
    exact List.Perm.append_left L1 (List.perm_append_comm (l₁ := [y]))
  simp (config := { maxSteps := 1000000 }) only [RUN, PATHS, BASE, FA, POL, start_tm, Heap.empty, reduceIte, Nat.reduceLT, Nat.reduceLeDiff, Nat.reduceEqDiff, Nat.reduceAdd, Nat.reduceSub, Nat.reduceMul, Nat.reduceBEq, Int.reduceLT, Int.reduceLE, Int.reduceEq, Int.reduceNeg, Int.reduceAdd, Int.reduceSub, Int.reduceMul, Bool.false_eq_true, Bool.not_true, Bool.not_false, decide_eq_true_eq, and_self, true_and, and_true, reduceCtorEq, ne_eq, not_false_eq_true, not_true_eq_false, decide_true, decide_false, or_false, false_or, h14, h0, h2', hd, hf]
  generalize hL2 : W _ (.loop _) _ = L2'
  obtain ⟨ex, s2, rfl, rfl, hrow2, hd2, hnx2⟩ := loop_at hL2 (α := List Qu × List Qu) (fun p => p.1.length)
    (fun s0 p s => p.1 ++ p.2 = L2 ∧ s.H.rows = upd H.rows 2 (some (RW (A ++ (L1 ++ (p.1 ++ y :: (p.2 ++ B)))))) ∧ s.tmps 17 = I (a + L1.length + p.1.length) ∧ s.tmps 14 = I i ∧ s.tmps 0 = QG n ∧ s.defers = [] ∧ s.fid = H.next ∧ H.next ≤ s.H.next)
    (fun s0 ex s => ex = .exit 6 ∧ s.H.rows = upd H.rows 2 (some (RW (A ++ (L1 ++ (y :: (L2 ++ B)))))) ∧ s.defers = [] ∧ H.next ≤ s.H.next) (L2, [])
    (by simp (config := { maxSteps := 1000000 }) only [RUN, PATHS, BASE, FA, POL, start_tm, Heap.empty, reduceIte, Nat.reduceLT, Nat.reduceLeDiff, Nat.reduceEqDiff, Nat.reduceAdd, Nat.reduceSub, Nat.reduceMul, Nat.reduceBEq, Int.reduceLT, Int.reduceLE, Int.reduceEq, Int.reduceNeg, Int.reduceAdd, Int.reduceSub, Int.reduceMul, Bool.false_eq_true, Bool.not_true, Bool.not_false, decide_eq_true_eq, and_self, true_and, and_true, reduceCtorEq, ne_eq, not_false_eq_true, not_true_eq_false, decide_true, decide_false, or_false, false_or, h14, h0]
        refine ⟨?_, by rw [hm]; simp; omega, hnx⟩
        rw [hrow, ← List.append_assoc L1, ← hr, upd_same]) (by
      rintro ⟨Q, P⟩ s r hW ⟨hPQ, hrow, h17, h14, h0, hd, hf, hnx⟩
      dsimp only at hPQ hrow h17
      have hlen : Q.length + P.length = L2.length := by rw [← hPQ]; simp
      rcases List.eq_nil_or_concat Q with rfl | ⟨Q', z, rfl⟩
      · simp only [List.length_nil, List.nil_append, Int.add_zero, Int.natCast_zero] at hlen hPQ h17
        simp (config := { maxSteps := 1000000 }) only [RUN, PATHS, BASE, FA, POL, start_tm, Heap.empty, reduceIte, Nat.reduceLT, Nat.reduceLeDiff, Nat.reduceEqDiff, Nat.reduceAdd, Nat.reduceSub, Nat.reduceMul, Nat.reduceBEq, Int.reduceLT, Int.reduceLE, Int.reduceEq, Int.reduceNeg, Int.reduceAdd, Int.reduceSub, Int.reduceMul, Bool.false_eq_true, Bool.not_true, Bool.not_false, decide_eq_true_eq, and_self, true_and, and_true, reduceCtorEq, ne_eq, not_false_eq_true, not_true_eq_false, decide_true, decide_false, or_false, false_or, h17, h14, hd, hf, (show ¬ (i : Int) < (a : Int) + L1.length by omega)] at hW
        subst hW
        subst hPQ
        refine rd_exit ⟨rfl, ?_⟩
        simp (config := { maxSteps := 1000000 }) only [RUN, PATHS, BASE, FA, POL, start_tm, Heap.empty, reduceIte, Nat.reduceLT, Nat.reduceLeDiff, Nat.reduceEqDiff, Nat.reduceAdd, Nat.reduceSub, Nat.reduceMul, Nat.reduceBEq, Int.reduceLT, Int.reduceLE, Int.reduceEq, Int.reduceNeg, Int.reduceAdd, Int.reduceSub, Int.reduceMul, Bool.false_eq_true, Bool.not_true, Bool.not_false, decide_eq_true_eq, and_self, true_and, and_true, reduceCtorEq, ne_eq, not_false_eq_true, not_true_eq_false, decide_true, decide_false, or_false, false_or, hrow]
        simpa using hnx
      · rw [List.concat_eq_append] at *
        simp only [List.length_append, List.length_cons, List.length_nil, List.append_assoc, List.cons_append, List.nil_append] at *
        obtain ⟨q, hq⟩ : ∃ q, q = a + L1.length + Q'.length := ⟨_, rfl⟩
        have h17' : s.tmps 17 = I ((q : Int) + 1) := by rw [h17]; congr 1; omega
        have r2 : s.H.rows 2 = some (RW (A ++ (L1 ++ (Q' ++ z :: y :: (P ++ B))))) := by rw [hrow]; simp
        have ez : (A ++ (L1 ++ (Q' ++ z :: y :: (P ++ B))))[q]? = some z := by
          rw [← List.append_assoc, ← List.append_assoc]; exact at_app' (by simp; omega)
        have ey : (A ++ (L1 ++ (Q' ++ z :: y :: (P ++ B))))[q + 1]? = some y := by
          have : A ++ (L1 ++ (Q' ++ z :: y :: (P ++ B))) = (A ++ L1 ++ Q' ++ [z]) ++ y :: (P ++ B) := by simp
          rw [this]; exact at_app' (by simp; omega)
        have sw : SWP (A ++ (L1 ++ (Q' ++ z :: y :: (P ++ B)))) (q + 1) q = A ++ (L1 ++ (Q' ++ y :: z :: (P ++ B))) := by
          have := SWP_at' (A ++ L1 ++ Q') [] (P ++ B) z y (i := q) (j := q + 1) (by simp; omega) (by simp; omega)
          simpa using this
        have i1 := mget ez
        have i2 := mget ey
        have em := mset ey ez
        obtain ⟨w, ew⟩ := mget2 ey ez
        have hDl : (A ++ (L1 ++ (Q' ++ z :: y :: (P ++ B)))).length = n := by simp only [List.length_append, List.length_cons]; omega
        generalize hD : A ++ (L1 ++ (Q' ++ z :: y :: (P ++ B))) = D at ez ey sw i1 i2 em ew hDl r2 hrow
        simp (config := { maxSteps := 1000000 }) only [RUN, PATHS, BASE, FA, POL, start_tm, Heap.empty, reduceIte, Nat.reduceLT, Nat.reduceLeDiff, Nat.reduceEqDiff, Nat.reduceAdd, Nat.reduceSub, Nat.reduceMul, Nat.reduceBEq, Int.reduceLT, Int.reduceLE, Int.reduceEq, Int.reduceNeg, Int.reduceAdd, Int.reduceSub, Int.reduceMul, Bool.false_eq_true, Bool.not_true, Bool.not_false, decide_eq_true_eq, and_self, true_and, and_true, reduceCtorEq, ne_eq, not_false_eq_true, not_true_eq_false, decide_true, decide_false, or_false, false_or, NUM, SQU, h17', h14, h0, hd, hf, r2, i1, i2, ew, hDl, Nat.zero_add, Nat.zero_le, List.length_map, List.length_set, Int.toNat_natCast, Int.add_sub_cancel, (show ((q : Int) + 1).toNat = q + 1 by omega), (show (i : Int) < (q : Int) + 1 by omega), (show (0 : Int) ≤ q by omega), (show (0 : Int) ≤ (q : Int) + 1 by omega), (show (q : Int) < n by omega), (show (q : Int) + 1 < n by omega), i64_in (x := (q : Int)) (by unfold I64; omega)] at hW
        subst hW
        rw [if_pos (by kernel_rfl)]
        refine rd_next (Q', z :: P) ?_ (by simp)
        simp (config := { maxSteps := 1000000 }) only [RUN, PATHS, BASE, FA, POL, start_tm, Heap.empty, reduceIte, Nat.reduceLT, Nat.reduceLeDiff, Nat.reduceEqDiff, Nat.reduceAdd, Nat.reduceSub, Nat.reduceMul, Nat.reduceBEq, Int.reduceLT, Int.reduceLE, Int.reduceEq, Int.reduceNeg, Int.reduceAdd, Int.reduceSub, Int.reduceMul, Bool.false_eq_true, Bool.not_true, Bool.not_false, decide_eq_true_eq, and_self, true_and, and_true, reduceCtorEq, ne_eq, not_false_eq_true, not_true_eq_false, decide_true, decide_false, or_false, false_or, h14, h0, em, sw, hrow]
        refine ⟨hPQ, ?_, by rw [hq]; simp, hnx⟩
        show upd (upd s.H.rows 2 _) 2 _ = _; rw [upd_upd, hrow, upd_upd])
  simp (config := { maxSteps := 1000000 }) only [RUN, PATHS, BASE, FA, POL, start_tm, Heap.empty, reduceIte, Nat.reduceLT, Nat.reduceLeDiff, Nat.reduceEqDiff, Nat.reduceAdd, Nat.reduceSub, Nat.reduceMul, Nat.reduceBEq, Int.reduceLT, Int.reduceLE, Int.reduceEq, Int.reduceNeg, Int.reduceAdd, Int.reduceSub, Int.reduceMul, Bool.false_eq_true, Bool.not_true, Bool.not_false, decide_eq_true_eq, and_self, true_and, and_true, reduceCtorEq, ne_eq, not_false_eq_true, not_true_eq_false, decide_true, decide_false, or_false, false_or, hd2]
  exact ⟨s2.H.next, by rw [List.append_assoc, List.cons_append, ← hrow2], hnx2⟩
end Go.Proofs.Ytnabgahkdomeoaa
