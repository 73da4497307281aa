/-
  A merge where one side is a single quota.
-/
import Derived.Test.YtnabgahkdomeoaaC10
set_option linter.unusedSimpArgs false
set_option linter.unusedVariables false
set_option linter.unusedSectionVars false
namespace Go.Proofs.Ytnabgahkdomeoaa
open Go GoV
set_option maxRecDepth 100000

theorem mid_u (a z : Nat) (h : a + z ≤ 4000000) : (IntKind.u64.wrap ((a : Int) + z)).fdiv (2 ^ min 1 IntKind.u64.bits) = ((a + z) / 2 : Nat) := by
  rw [u64_in (by unfold U64; omega), show (2 : Int) ^ min 1 IntKind.u64.bits = 2 by decide, Int.fdiv_eq_ediv_of_nonneg _ (by decide)]
  omega
theorem QB_head {l m : List Qu} (hm : QS m) (hl : QS l) (h : ∀ x y, l.getLast? = some x → m.head? = some y → QLT x y) : QB l m := QB_last hl hm h
/-- Where a single member goes. -/
theorem one_parts {R : List Qu} {x : Qu} {i : Nat} (hi : i ≤ R.length) (sR : QS R) (hI : ∀ y ∈ R, x.ix < y.ix) (k1 : 0 < i → ∀ y, R[i - 1]? = some y → QLT y x) (k2 : i < R.length → ∀ y, R[i]? = some y → ¬ QLT y x) :
    ∃ R1 R2, R = R1 ++ R2 ∧ R1.length = i ∧ QB R1 [x] ∧ QB [x] R2 := by
  obtain ⟨R1, R2, rfl, l1⟩ := part_at R i hi
  obtain ⟨s1, s2, _⟩ := QS_app.1 sR
  refine ⟨R1, R2, rfl, l1, QB_last s1 (by simp) fun u v hu hv => ?_, QB_last (by simp) s2 fun u v hu hv => ?_⟩
  · simp at hv; subst hv
    obtain ⟨p, q⟩ := getLast_at hu
    exact k1 (by omega) u (by rw [List.getElem?_append_left (by omega), ← l1]; exact q)
  · simp at hu; subst hu
    obtain ⟨p, q⟩ := head_at hv
    refine QLT.of_not (k2 (by simp; omega) v (by rw [List.getElem?_append_right (by omega), l1, Nat.sub_self]; exact q)) (hI v (by simp [List.mem_of_getElem? q]))
theorem c_sym1 (A R B : List Qu) (x : Qu) (a m b n : Nat) (ha : a = A.length) (hm : m = a + 1) (hb : b = m + R.length) (sR : QS R) (hI : ∀ y ∈ R, x.ix < y.ix) (hn : n = (A ++ (x :: (R ++ B))).length) (hl : n ≤ 1000000) (H : Heap)
    (hr : H.rows 2 = some (RW (A ++ (x :: (R ++ B))))) :
    ∃ M, M.Perm (x :: R) ∧ QS M ∧ ∃ k, callF G Try.prog pol 66 [QG n, I a, I m, I b, CF] H = some (.ret (.tup []), ⟨upd H.rows 2 (some (RW (A ++ (M ++ B)))), k⟩) ∧ H.next ≤ k := by
  simp only [List.length_append, List.length_cons] at hn
  have hDl : (A ++ (x :: (R ++ B))).length = n := by simp only [List.length_append, List.length_cons]; omega
  have ix : (A ++ (x :: (R ++ B)))[a]? = some x := at_app' ha
  have iR : ∀ k, k < R.length → (A ++ (x :: (R ++ B)))[m + k]? = R[k]? := fun k hk => by
    rw [List.getElem?_append_right (by omega), show m + k - A.length = k + 1 by omega, List.getElem?_cons_succ, List.getElem?_append_left hk]
  rw [callF_eq _ _ Try.func66 rfl Try.ntmps66 Try.results66 (by kernel_rfl) rfl (by exact Nat.le_of_ble_eq_true rfl)]
  simp (config := { maxSteps := 1000000 }) only [RUN, PATHS, BASE, FA, POL, start_tm, Heap.empty, reduceIte, Nat.reduceLT, Nat.reduceLeDiff, Nat.reduceEqDiff, Nat.reduceAdd, Nat.reduceSub, Nat.reduceMul, Nat.reduceBEq, Int.reduceLT, Int.reduceLE, Int.reduceEq, Int.reduceNeg, Int.reduceAdd, Int.reduceSub, Int.reduceMul, Bool.false_eq_true, Bool.not_true, Bool.not_false, decide_eq_true_eq, and_self, true_and, and_true, reduceCtorEq, ne_eq, not_false_eq_true, not_true_eq_false, decide_true, decide_false, or_false, false_or, (show (m : Int) - a = 1 by omega), NUM]
  generalize hL : W _ (.loop _) _ = L
  obtain ⟨ex, s, rfl, rfl, i, hi1, hi2, k1, k2, h10, h0, h1, hd, hf, hrow, hnx⟩ := loop_at hL (α := Nat × Nat) (fun p => p.2 - p.1)
    (fun s0 p s => m ≤ p.1 ∧ p.1 ≤ p.2 ∧ p.2 ≤ b ∧ (m < p.1 → ∀ y, R[p.1 - m - 1]? = some y → QLT y x) ∧ (p.2 < b → ∀ y, R[p.2 - m]? = some y → ¬ QLT y x) ∧ s.tmps 10 = I p.1 ∧ s.tmps 11 = I p.2 ∧ s.tmps 0 = QG n ∧ s.tmps 1 = I a ∧ s.tmps 4 = CF ∧ s.defers = [] ∧ s.fid = H.next ∧ s.H.rows = H.rows ∧ H.next ≤ s.H.next)
    (fun s0 ex s => ex = .exit 0 ∧ ∃ i, m ≤ i ∧ i ≤ b ∧ (m < i → ∀ y, R[i - m - 1]? = some y → QLT y x) ∧ (i < b → ∀ y, R[i - m]? = some y → ¬ QLT y x) ∧ s.tmps 10 = I i ∧ s.tmps 0 = QG n ∧ s.tmps 1 = I a ∧ s.defers = [] ∧ s.fid = H.next ∧ s.H.rows = H.rows ∧ H.next ≤ s.H.next) (m, b)
    (by simp (config := { maxSteps := 1000000 }) only [RUN, PATHS, BASE, FA, POL, start_tm, Heap.empty, reduceIte, Nat.reduceLT, Nat.reduceLeDiff, Nat.reduceEqDiff, Nat.reduceAdd, Nat.reduceSub, Nat.reduceMul, Nat.reduceBEq, Int.reduceLT, Int.reduceLE, Int.reduceEq, Int.reduceNeg, Int.reduceAdd, Int.reduceSub, Int.reduceMul, Bool.false_eq_true, Bool.not_true, Bool.not_false, decide_eq_true_eq, and_self, true_and, and_true, reduceCtorEq, ne_eq, not_false_eq_true, not_true_eq_false, decide_true, decide_false, or_false, false_or]
        exact ⟨Nat.le_refl _, by omega, Nat.le_refl _, fun h => by omega, fun h => by omega, by omega⟩) (by
      rintro ⟨i, j⟩ s r hW ⟨q1, q2, q3, k1, k2, h10, h11, h0, h1, h4, hd, hf, hrow, hnx⟩
      dsimp only at q1 q2 q3 k1 k2 h10 h11
      by_cases hp : i < j
      rotate_left
      · simp (config := { maxSteps := 1000000 }) only [RUN, PATHS, BASE, FA, POL, start_tm, Heap.empty, reduceIte, Nat.reduceLT, Nat.reduceLeDiff, Nat.reduceEqDiff, Nat.reduceAdd, Nat.reduceSub, Nat.reduceMul, Nat.reduceBEq, Int.reduceLT, Int.reduceLE, Int.reduceEq, Int.reduceNeg, Int.reduceAdd, Int.reduceSub, Int.reduceMul, Bool.false_eq_true, Bool.not_true, Bool.not_false, decide_eq_true_eq, and_self, true_and, and_true, reduceCtorEq, ne_eq, not_false_eq_true, not_true_eq_false, decide_true, decide_false, or_false, false_or, h10, h11, hd, hf, (show ¬ (i : Int) < j by omega)] at hW
        subst hW
        obtain rfl : i = j := by omega
        refine rd_exit ⟨rfl, i, q1, q3, k1, k2, ?_⟩
        simp (config := { maxSteps := 1000000 }) only [RUN, PATHS, BASE, FA, POL, start_tm, Heap.empty, reduceIte, Nat.reduceLT, Nat.reduceLeDiff, Nat.reduceEqDiff, Nat.reduceAdd, Nat.reduceSub, Nat.reduceMul, Nat.reduceBEq, Int.reduceLT, Int.reduceLE, Int.reduceEq, Int.reduceNeg, Int.reduceAdd, Int.reduceSub, Int.reduceMul, Bool.false_eq_true, Bool.not_true, Bool.not_false, decide_eq_true_eq, and_self, true_and, and_true, reduceCtorEq, ne_eq, not_false_eq_true, not_true_eq_false, decide_true, decide_false, or_false, false_or, h10, h0, h1, hrow]
        exact hnx
      obtain ⟨h, hh⟩ : ∃ h, h = (i + j) / 2 := ⟨_, rfl⟩
      have mu := mid_u i j (by omega)
      rw [← hh] at mu
      have eR := iR (h - m) (by omega)
      rw [show m + (h - m) = h by omega] at eR
      have ey : R[h - m]? = some (R[h - m]'(by omega)) := List.getElem?_eq_getElem _
      have hyx := hI _ (List.getElem_mem (show h - m < R.length by omega))
      generalize R[h - m]'(by omega) = y at *
      rw [ey] at eR
      have r2 : s.H.rows 2 = some (RW (A ++ (x :: (R ++ B)))) := by rw [hrow]; exact hr
      have i1 := mget ix
      have i2 := mget eR
      generalize A ++ (x :: (R ++ B)) = D at *
      by_cases hc : x.r < y.r
      · have hcm : CMP y x < 0 := CMP_lt.2 hc
        simp (config := { maxSteps := 1000000 }) only [RUN, PATHS, BASE, FA, POL, start_tm, Heap.empty, reduceIte, Nat.reduceLT, Nat.reduceLeDiff, Nat.reduceEqDiff, Nat.reduceAdd, Nat.reduceSub, Nat.reduceMul, Nat.reduceBEq, Int.reduceLT, Int.reduceLE, Int.reduceEq, Int.reduceNeg, Int.reduceAdd, Int.reduceSub, Int.reduceMul, Bool.false_eq_true, Bool.not_true, Bool.not_false, decide_eq_true_eq, and_self, true_and, and_true, reduceCtorEq, ne_eq, not_false_eq_true, not_true_eq_false, decide_true, decide_false, or_false, false_or, NUM, SQU, h10, h11, h0, h1, h4, hd, hf, r2, i1, i2, hDl, mu, c_cmp, hcm, Nat.zero_add, Nat.zero_le, List.length_map, Int.toNat_natCast, (show (i : Int) < j by omega), i64_in (x := (i : Int) + j) (by unfold I64; omega), i64_in (x := (h : Int)) (by unfold I64; omega), i64_in (x := (h : Int) + 1) (by unfold I64; omega), (show (0 : Int) ≤ h by omega), (show (0 : Int) ≤ a by omega), (show (h : Int) < n by omega), (show (a : Int) < n by omega)] at hW
        subst hW
        refine rd_next (h + 1, j) ?_ (show j - (h + 1) < j - i by omega)
        simp (config := { maxSteps := 1000000 }) only [RUN, PATHS, BASE, FA, POL, start_tm, Heap.empty, reduceIte, Nat.reduceLT, Nat.reduceLeDiff, Nat.reduceEqDiff, Nat.reduceAdd, Nat.reduceSub, Nat.reduceMul, Nat.reduceBEq, Int.reduceLT, Int.reduceLE, Int.reduceEq, Int.reduceNeg, Int.reduceAdd, Int.reduceSub, Int.reduceMul, Bool.false_eq_true, Bool.not_true, Bool.not_false, decide_eq_true_eq, and_self, true_and, and_true, reduceCtorEq, ne_eq, not_false_eq_true, not_true_eq_false, decide_true, decide_false, or_false, false_or, h11, h0, h1, h4, hrow]
        refine ⟨by omega, by omega, by omega, fun _ z ez => ?_, k2, by simp, hnx⟩
        rw [show h + 1 - m - 1 = h - m by omega, ey] at ez; cases ez; exact .inl hc
      · have hcm : ¬ CMP y x < 0 := fun h => hc (CMP_lt.1 h)
        simp (config := { maxSteps := 1000000 }) only [RUN, PATHS, BASE, FA, POL, start_tm, Heap.empty, reduceIte, Nat.reduceLT, Nat.reduceLeDiff, Nat.reduceEqDiff, Nat.reduceAdd, Nat.reduceSub, Nat.reduceMul, Nat.reduceBEq, Int.reduceLT, Int.reduceLE, Int.reduceEq, Int.reduceNeg, Int.reduceAdd, Int.reduceSub, Int.reduceMul, Bool.false_eq_true, Bool.not_true, Bool.not_false, decide_eq_true_eq, and_self, true_and, and_true, reduceCtorEq, ne_eq, not_false_eq_true, not_true_eq_false, decide_true, decide_false, or_false, false_or, NUM, SQU, h10, h11, h0, h1, h4, hd, hf, r2, i1, i2, hDl, mu, c_cmp, hcm, Nat.zero_add, Nat.zero_le, List.length_map, Int.toNat_natCast, (show (i : Int) < j by omega), i64_in (x := (i : Int) + j) (by unfold I64; omega), i64_in (x := (h : Int)) (by unfold I64; omega), i64_in (x := (h : Int) + 1) (by unfold I64; omega), (show (0 : Int) ≤ h by omega), (show (0 : Int) ≤ a by omega), (show (h : Int) < n by omega), (show (a : Int) < n by omega)] at hW
        subst hW
        refine rd_next (i, h) ?_ (show h - i < j - i by omega)
        simp (config := { maxSteps := 1000000 }) only [RUN, PATHS, BASE, FA, POL, start_tm, Heap.empty, reduceIte, Nat.reduceLT, Nat.reduceLeDiff, Nat.reduceEqDiff, Nat.reduceAdd, Nat.reduceSub, Nat.reduceMul, Nat.reduceBEq, Int.reduceLT, Int.reduceLE, Int.reduceEq, Int.reduceNeg, Int.reduceAdd, Int.reduceSub, Int.reduceMul, Bool.false_eq_true, Bool.not_true, Bool.not_false, decide_eq_true_eq, and_self, true_and, and_true, reduceCtorEq, ne_eq, not_false_eq_true, not_true_eq_false, decide_true, decide_false, or_false, false_or, h10, h0, h1, h4, hrow]
        refine ⟨by omega, by omega, by omega, k1, fun _ z ez => ?_, hnx⟩
        rw [ey] at ez; cases ez
        exact fun hq => hc ((QLT_iff hyx).1 hq))
  obtain ⟨R1, R2, rfl, l1, b1, b2⟩ := one_parts (i := i - m) (by omega) sR hI (fun h => k1 (by omega)) (fun h => k2 (by omega))
  rw [List.length_append] at hn hb
  refine ⟨R1 ++ x :: R2, List.perm_middle, QS_ins sR b2 b1, ?_⟩
  simp (config := { maxSteps := 1000000 }) only [RUN, PATHS, BASE, FA, POL, start_tm, Heap.empty, reduceIte, Nat.reduceLT, Nat.reduceLeDiff, Nat.reduceEqDiff, Nat.reduceAdd, Nat.reduceSub, Nat.reduceMul, Nat.reduceBEq, Int.reduceLT, Int.reduceLE, Int.reduceEq, Int.reduceNeg, Int.reduceAdd, Int.reduceSub, Int.reduceMul, Bool.false_eq_true, Bool.not_true, Bool.not_false, decide_eq_true_eq, and_self, true_and, and_true, reduceCtorEq, ne_eq, not_false_eq_true, not_true_eq_false, decide_true, decide_false, or_false, false_or, h10, h0, h1, hd, hf]
  generalize hL2 : W _ (.loop _) _ = L2
  obtain ⟨ex, s2, rfl, rfl, hrow2, hd2, hnx2⟩ := loop_at hL2 (α := List Qu × List Qu) (fun p => p.2.length)
    (fun s0 p s => p.1 ++ p.2 = R1 ∧ s.H.rows = upd H.rows 2 (some (RW (A ++ (p.1 ++ x :: (p.2 ++ (R2 ++ B)))))) ∧ s.tmps 13 = I (a + p.1.length) ∧ s.tmps 10 = I i ∧ s.tmps 0 = QG n ∧ s.defers = [] ∧ s.fid = H.next ∧ H.next ≤ s.H.next)
    (fun s0 ex s => ex = .exit 2 ∧ s.H.rows = upd H.rows 2 (some (RW (A ++ (R1 ++ x :: (R2 ++ B))))) ∧ s.defers = [] ∧ H.next ≤ s.H.next) ([], R1)
    (by simp (config := { maxSteps := 1000000 }) only [RUN, PATHS, BASE, FA, POL, start_tm, Heap.empty, reduceIte, Nat.reduceLT, Nat.reduceLeDiff, Nat.reduceEqDiff, Nat.reduceAdd, Nat.reduceSub, Nat.reduceMul, Nat.reduceBEq, Int.reduceLT, Int.reduceLE, Int.reduceEq, Int.reduceNeg, Int.reduceAdd, Int.reduceSub, Int.reduceMul, Bool.false_eq_true, Bool.not_true, Bool.not_false, decide_eq_true_eq, and_self, true_and, and_true, reduceCtorEq, ne_eq, not_false_eq_true, not_true_eq_false, decide_true, decide_false, or_false, false_or, h10, h0]
        refine ⟨?_, by simp, hnx⟩
        rw [hrow, ← List.append_assoc R1, ← hr, upd_same]) (by
      rintro ⟨P, Q⟩ s r hW ⟨hPQ, hrow, h13, h10, h0, hd, hf, hnx⟩
      dsimp only at hPQ hrow h13
      have hlen : P.length + Q.length = R1.length := by rw [← hPQ]; simp
      obtain ⟨q, hq⟩ : ∃ q, q = a + P.length := ⟨_, rfl⟩
      have h13' : s.tmps 13 = I q := by rw [h13, hq]; simp
      cases Q with
      | nil =>
        simp only [List.length_nil, List.append_nil] at hlen hPQ
        simp (config := { maxSteps := 1000000 }) only [RUN, PATHS, BASE, FA, POL, start_tm, Heap.empty, reduceIte, Nat.reduceLT, Nat.reduceLeDiff, Nat.reduceEqDiff, Nat.reduceAdd, Nat.reduceSub, Nat.reduceMul, Nat.reduceBEq, Int.reduceLT, Int.reduceLE, Int.reduceEq, Int.reduceNeg, Int.reduceAdd, Int.reduceSub, Int.reduceMul, Bool.false_eq_true, Bool.not_true, Bool.not_false, decide_eq_true_eq, and_self, true_and, and_true, reduceCtorEq, ne_eq, not_false_eq_true, not_true_eq_false, decide_true, decide_false, or_false, false_or, h13', h10, hd, hf, i64_in (x := (i : Int) - 1) (by unfold I64; omega), (show ¬ (q : Int) < (i : Int) - 1 by omega)] at hW
        subst hW
        subst hPQ
        refine rd_exit ⟨rfl, ?_⟩
        simp (config := { maxSteps := 1000000 }) only [RUN, PATHS, BASE, FA, POL, start_tm, Heap.empty, reduceIte, Nat.reduceLT, Nat.reduceLeDiff, Nat.reduceEqDiff, Nat.reduceAdd, Nat.reduceSub, Nat.reduceMul, Nat.reduceBEq, Int.reduceLT, Int.reduceLE, Int.reduceEq, Int.reduceNeg, Int.reduceAdd, Int.reduceSub, Int.reduceMul, Bool.false_eq_true, Bool.not_true, Bool.not_false, decide_eq_true_eq, and_self, true_and, and_true, reduceCtorEq, ne_eq, not_false_eq_true, not_true_eq_false, decide_true, decide_false, or_false, false_or, hrow]
        simpa using hnx
      | cons z Q =>
        simp only [List.length_cons] at hlen
        have r2 : s.H.rows 2 = some (RW (A ++ (P ++ x :: (z :: Q ++ (R2 ++ B))))) := by rw [hrow]; simp
        have iz : (A ++ (P ++ x :: (z :: Q ++ (R2 ++ B))))[q]? = some x := by
          rw [← List.append_assoc]; exact at_app' (by simp; omega)
        have ix : (A ++ (P ++ x :: (z :: Q ++ (R2 ++ B))))[q + 1]? = some z := by
          have : A ++ (P ++ x :: (z :: Q ++ (R2 ++ B))) = (A ++ P ++ [x]) ++ z :: (Q ++ (R2 ++ B)) := by simp
          rw [this]; exact at_app' (by simp; omega)
        have sw : SWP (A ++ (P ++ x :: (z :: Q ++ (R2 ++ B)))) q (q + 1) = A ++ (P ++ z :: x :: (Q ++ (R2 ++ B))) := by
          have := SWP_at (A ++ P) [] (Q ++ (R2 ++ B)) x z (i := q) (j := q + 1) (by simp; omega) (by simp; omega)
          simpa using this
        have i1 := mget iz
        have i2 := mget ix
        have em := mset iz ix
        obtain ⟨w, ew⟩ := mget2 iz ix
        have hDl : (A ++ (P ++ x :: (z :: Q ++ (R2 ++ B)))).length = n := by simp only [List.length_append, List.length_cons]; omega
        generalize hD : A ++ (P ++ x :: (z :: Q ++ (R2 ++ B))) = D at iz ix sw i1 i2 em ew hDl r2 hrow
        simp (config := { maxSteps := 1000000 }) only [RUN, PATHS, BASE, FA, POL, start_tm, Heap.empty, reduceIte, Nat.reduceLT, Nat.reduceLeDiff, Nat.reduceEqDiff, Nat.reduceAdd, Nat.reduceSub, Nat.reduceMul, Nat.reduceBEq, Int.reduceLT, Int.reduceLE, Int.reduceEq, Int.reduceNeg, Int.reduceAdd, Int.reduceSub, Int.reduceMul, Bool.false_eq_true, Bool.not_true, Bool.not_false, decide_eq_true_eq, and_self, true_and, and_true, reduceCtorEq, ne_eq, not_false_eq_true, not_true_eq_false, decide_true, decide_false, or_false, false_or, NUM, SQU, h13', h10, h0, hd, hf, r2, i1, i2, ew, hDl, Nat.zero_add, Nat.zero_le, List.length_map, List.length_set, Int.toNat_natCast, (show ((q : Int) + 1).toNat = q + 1 by omega), (show (q : Int) < (i : Int) - 1 by omega), (show (0 : Int) ≤ q by omega), (show (0 : Int) ≤ (q : Int) + 1 by omega), (show (q : Int) < n by omega), (show (q : Int) + 1 < n by omega), i64_in (x := (i : Int) - 1) (by unfold I64; omega), i64_in (x := (q : Int) + 1) (by unfold I64; omega)] at hW
        subst hW
        rw [if_pos (by kernel_rfl)]
        refine rd_next (P ++ [z], Q) ?_ (show Q.length < (z :: Q).length by simp)
        simp (config := { maxSteps := 1000000 }) only [RUN, PATHS, BASE, FA, POL, start_tm, Heap.empty, reduceIte, Nat.reduceLT, Nat.reduceLeDiff, Nat.reduceEqDiff, Nat.reduceAdd, Nat.reduceSub, Nat.reduceMul, Nat.reduceBEq, Int.reduceLT, Int.reduceLE, Int.reduceEq, Int.reduceNeg, Int.reduceAdd, Int.reduceSub, Int.reduceMul, Bool.false_eq_true, Bool.not_true, Bool.not_false, decide_eq_true_eq, and_self, true_and, and_true, reduceCtorEq, ne_eq, not_false_eq_true, not_true_eq_false, decide_true, decide_false, or_false, false_or, h10, h0, em, sw, hrow]
        refine ⟨by rw [← hPQ]; simp, ?_, by rw [hq]; simp; omega, hnx⟩
        show upd (upd s.H.rows 2 _) 2 _ = _; rw [upd_upd, hrow, upd_upd]; simp only [List.append_assoc, List.cons_append, List.nil_append])
  simp (config := { maxSteps := 1000000 }) only [RUN, PATHS, BASE, FA, POL, start_tm, Heap.empty, reduceIte, Nat.reduceLT, Nat.reduceLeDiff, Nat.reduceEqDiff, Nat.reduceAdd, Nat.reduceSub, Nat.reduceMul, Nat.reduceBEq, Int.reduceLT, Int.reduceLE, Int.reduceEq, Int.reduceNeg, Int.reduceAdd, Int.reduceSub, Int.reduceMul, Bool.false_eq_true, Bool.not_true, Bool.not_false, decide_eq_true_eq, and_self, true_and, and_true, reduceCtorEq, ne_eq, not_false_eq_true, not_true_eq_false, decide_true, decide_false, or_false, false_or, hd2]
  exact ⟨s2.H.next, by rw [← List.append_assoc, List.append_assoc, List.append_assoc, List.cons_append, ← hrow2], hnx2⟩
end Go.Proofs.Ytnabgahkdomeoaa
