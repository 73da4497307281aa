/-
  The walk of StakesQuota.
-/
import Derived.Test.YtnabgahkdomeoaaC30
set_option linter.unusedSimpArgs false
set_option linter.unusedVariables false
set_option linter.unusedSectionVars false
namespace Go.Proofs.Ytnabgahkdomeoaa
open Go GoV
set_option maxRecDepth 100000

set_option maxHeartbeats 1000000 in
theorem w_quota (T : Int) (w : List Int) : ap Try.prog pol 7 [I T, .vs 1 (w.map I) none] = some (.ret (.bool true)) := by
  obtain ⟨b, hb⟩ := c_fewB w none
  have c1 := c_share T w none
  cases b
  · rw [ap_eq _ Try.func7 rfl Try.ntmps7 Try.results7 (by kernel_rfl) rfl (by exact Nat.le_of_ble_eq_true rfl)]
    simp (config := { maxSteps := 1000000 }) only [RUN, PATHS, BASE, FA, POL, start_tm, Heap.empty, reduceIte, Nat.reduceLT, Nat.reduceLeDiff, Nat.reduceEqDiff, Nat.reduceAdd, Nat.reduceSub, Nat.reduceMul, Nat.reduceBEq, Int.reduceLT, Int.reduceLE, Int.reduceEq, Int.reduceNeg, Int.reduceAdd, Int.reduceSub, Int.reduceMul, Bool.false_eq_true, Bool.not_true, Bool.not_false, decide_eq_true_eq, and_self, true_and, and_true, reduceCtorEq, ne_eq, not_false_eq_true, not_true_eq_false, decide_true, decide_false, or_false, false_or, NUM, SIN, c_saneV, hb]
  by_cases h : CKW T w = 0
  rotate_left
  · unfold SHV at c1
    rw [if_pos h] at c1
    rw [ap_eq _ Try.func7 rfl Try.ntmps7 Try.results7 (by kernel_rfl) rfl (by exact Nat.le_of_ble_eq_true rfl)]
    simp (config := { maxSteps := 1000000 }) only [RUN, PATHS, BASE, FA, POL, start_tm, Heap.empty, reduceIte, Nat.reduceLT, Nat.reduceLeDiff, Nat.reduceEqDiff, Nat.reduceAdd, Nat.reduceSub, Nat.reduceMul, Nat.reduceBEq, Int.reduceLT, Int.reduceLE, Int.reduceEq, Int.reduceNeg, Int.reduceAdd, Int.reduceSub, Int.reduceMul, Bool.false_eq_true, Bool.not_true, Bool.not_false, decide_eq_true_eq, and_self, true_and, and_true, reduceCtorEq, ne_eq, not_false_eq_true, not_true_eq_false, decide_true, decide_false, or_false, false_or, NUM, SIN, c_saneV, hb, c1, h]
  rw [SHV_ok h] at c1
  obtain ⟨hl, hT, hw⟩ := CKW_0 h
  have lo := OUTS_len h
  have sm := OUTS_sum h
  have tk := OUTS_take h
  have inn := fun i x n => OUTS_in h (i := i) (x := x) (n := n)
  have oq := fun h0 i x n => OUTS_q h h0 (i := i) (x := x) (n := n)
  have om := fun h0 i k x y n m => OUTS_mono h h0 (i := i) (k := k) (x := x) (y := y) (n := n) (m := m)
  have r0 : REST T w = 0 ∨ SUMI w = 0 := by unfold REST; split <;> simp_all
  have sb := SUM_take_le hw
  generalize OUTS T w = O at *
  generalize REST T w = R at *
  rw [ap_eq _ Try.func7 rfl Try.ntmps7 Try.results7 (by kernel_rfl) rfl (by exact Nat.le_of_ble_eq_true rfl)]
  simp (config := { maxSteps := 1000000 }) only [RUN, PATHS, BASE, FA, POL, start_tm, Heap.empty, reduceIte, Nat.reduceLT, Nat.reduceLeDiff, Nat.reduceEqDiff, Nat.reduceAdd, Nat.reduceSub, Nat.reduceMul, Nat.reduceBEq, Int.reduceLT, Int.reduceLE, Int.reduceEq, Int.reduceNeg, Int.reduceAdd, Int.reduceSub, Int.reduceMul, Bool.false_eq_true, Bool.not_true, Bool.not_false, decide_eq_true_eq, and_self, true_and, and_true, reduceCtorEq, ne_eq, not_false_eq_true, not_true_eq_false, decide_true, decide_false, or_false, false_or, NUM, SIN, c_saneV, hb, c1, List.length_map, lo, (show ¬ T < 0 by omega), (show ¬ (1099511627776 : Int) < T by omega)]
  generalize hL : W _ (.loop _) _ = L
  obtain ⟨ex, s, rfl, rfl, h8, h0, h1, h5, h6, hd, hf⟩ := loop_at hL (α := Nat) (fun j => w.length - j)
    (fun s0 j s => j ≤ w.length ∧ s.tmps 56 = I j ∧ s.tmps 55 = I w.length ∧ s.tmps 54 = .vs 1 (w.map I) none ∧ s.tmps 8 = I (SUMI (w.take j)) ∧ s.tmps 0 = I T ∧ s.tmps 1 = .vs 1 (w.map I) none ∧ s.tmps 5 = .vs 1 (O.map I) none ∧ s.tmps 6 = I R ∧ s.defers = [] ∧ s.fid = 0)
    (fun s0 ex s => ex = .exit 0 ∧ s.tmps 8 = I (SUMI w) ∧ s.tmps 0 = I T ∧ s.tmps 1 = .vs 1 (w.map I) none ∧ s.tmps 5 = .vs 1 (O.map I) none ∧ s.tmps 6 = I R ∧ s.defers = [] ∧ s.fid = 0) 0
    (by simp (config := { maxSteps := 1000000 }) only [RUN, PATHS, BASE, FA, POL, start_tm, Heap.empty, reduceIte, Nat.reduceLT, Nat.reduceLeDiff, Nat.reduceEqDiff, Nat.reduceAdd, Nat.reduceSub, Nat.reduceMul, Nat.reduceBEq, Int.reduceLT, Int.reduceLE, Int.reduceEq, Int.reduceNeg, Int.reduceAdd, Int.reduceSub, Int.reduceMul, Bool.false_eq_true, Bool.not_true, Bool.not_false, decide_eq_true_eq, and_self, true_and, and_true, reduceCtorEq, ne_eq, not_false_eq_true, not_true_eq_false, decide_true, decide_false, or_false, false_or, List.take_zero]; exact ⟨Nat.zero_le _, rfl, rfl⟩) (by
      rintro j s r hW ⟨hj, h56, h55, h54, h8, h0, h1, h5, h6, hd, hf⟩
      by_cases hp : j < w.length
      · have e0 : w[j]? = some w[j] := List.getElem?_eq_getElem hp
        have e1 := map_get (f := I) e0
        have st := SUMI_take e0
        have b1 := sb (j + 1)
        have wx := hw _ (List.mem_of_getElem? e0)
        unfold OKL at wx
        generalize w[j] = x at *
        simp (config := { maxSteps := 1000000 }) only [RUN, PATHS, BASE, FA, POL, start_tm, Heap.empty, reduceIte, Nat.reduceLT, Nat.reduceLeDiff, Nat.reduceEqDiff, Nat.reduceAdd, Nat.reduceSub, Nat.reduceMul, Nat.reduceBEq, Int.reduceLT, Int.reduceLE, Int.reduceEq, Int.reduceNeg, Int.reduceAdd, Int.reduceSub, Int.reduceMul, Bool.false_eq_true, Bool.not_true, Bool.not_false, decide_eq_true_eq, and_self, true_and, and_true, reduceCtorEq, ne_eq, not_false_eq_true, not_true_eq_false, decide_true, decide_false, or_false, false_or, NUM, h56, h55, h54, h8, h0, h1, h5, h6, hd, hf, e1, List.length_map, Int.toNat_natCast, (show (j : Int) < w.length by omega), (show (0 : Int) ≤ j by omega), (show ¬ x < 0 by omega), (show ¬ (1073741824 : Int) < x by omega), ← st, i64_in (x := SUMI (w.take (j + 1))) (by unfold I64; omega), i64_in (x := (j : Int) + 1) (by unfold I64; omega)] at hW
        subst hW
        refine rd_next (j + 1) ?_ (show w.length - (j + 1) < w.length - j by omega)
        simp (config := { maxSteps := 1000000 }) only [RUN, PATHS, BASE, FA, POL, start_tm, Heap.empty, reduceIte, Nat.reduceLT, Nat.reduceLeDiff, Nat.reduceEqDiff, Nat.reduceAdd, Nat.reduceSub, Nat.reduceMul, Nat.reduceBEq, Int.reduceLT, Int.reduceLE, Int.reduceEq, Int.reduceNeg, Int.reduceAdd, Int.reduceSub, Int.reduceMul, Bool.false_eq_true, Bool.not_true, Bool.not_false, decide_eq_true_eq, and_self, true_and, and_true, reduceCtorEq, ne_eq, not_false_eq_true, not_true_eq_false, decide_true, decide_false, or_false, false_or, h55, h54, h0, h1, h5, h6]
        exact ⟨by omega, by simp⟩
      · simp (config := { maxSteps := 1000000 }) only [RUN, PATHS, BASE, FA, POL, start_tm, Heap.empty, reduceIte, Nat.reduceLT, Nat.reduceLeDiff, Nat.reduceEqDiff, Nat.reduceAdd, Nat.reduceSub, Nat.reduceMul, Nat.reduceBEq, Int.reduceLT, Int.reduceLE, Int.reduceEq, Int.reduceNeg, Int.reduceAdd, Int.reduceSub, Int.reduceMul, Bool.false_eq_true, Bool.not_true, Bool.not_false, decide_eq_true_eq, and_self, true_and, and_true, reduceCtorEq, ne_eq, not_false_eq_true, not_true_eq_false, decide_true, decide_false, or_false, false_or, h56, h55, hd, hf, (show ¬ (j : Int) < w.length by omega)] at hW
        subst hW
        rw [List.take_of_length_le (by omega)] at h8
        refine rd_exit ⟨rfl, ?_⟩
        simp (config := { maxSteps := 1000000 }) only [RUN, PATHS, BASE, FA, POL, start_tm, Heap.empty, reduceIte, Nat.reduceLT, Nat.reduceLeDiff, Nat.reduceEqDiff, Nat.reduceAdd, Nat.reduceSub, Nat.reduceMul, Nat.reduceBEq, Int.reduceLT, Int.reduceLE, Int.reduceEq, Int.reduceNeg, Int.reduceAdd, Int.reduceSub, Int.reduceMul, Bool.false_eq_true, Bool.not_true, Bool.not_false, decide_eq_true_eq, and_self, true_and, and_true, reduceCtorEq, ne_eq, not_false_eq_true, not_true_eq_false, decide_true, decide_false, or_false, false_or, h8, h0, h1, h5, h6])
  simp (config := { maxSteps := 1000000 }) only [RUN, PATHS, BASE, FA, POL, start_tm, Heap.empty, reduceIte, Nat.reduceLT, Nat.reduceLeDiff, Nat.reduceEqDiff, Nat.reduceAdd, Nat.reduceSub, Nat.reduceMul, Nat.reduceBEq, Int.reduceLT, Int.reduceLE, Int.reduceEq, Int.reduceNeg, Int.reduceAdd, Int.reduceSub, Int.reduceMul, Bool.false_eq_true, Bool.not_true, Bool.not_false, decide_eq_true_eq, and_self, true_and, and_true, reduceCtorEq, ne_eq, not_false_eq_true, not_true_eq_false, decide_true, decide_false, or_false, false_or, NUM, SIN, h8, h0, h1, h5, h6, hd, hf, List.length_map, lo]
  clear hL
  generalize hL : W _ (.loop _) _ = L
  obtain ⟨ex, s2, rfl, rfl, h11, h6, h8, hd⟩ := loop_at hL (α := Nat) (fun j => w.length - j)
    (fun s0 j s => j ≤ w.length ∧ s.tmps 73 = I j ∧ s.tmps 72 = I w.length ∧ s.tmps 71 = .vs 1 (O.map I) none ∧ s.tmps 11 = I (T - SUMI (O.take j)) ∧ s.tmps 8 = I (SUMI w) ∧ s.tmps 0 = I T ∧ s.tmps 1 = .vs 1 (w.map I) none ∧ s.tmps 5 = .vs 1 (O.map I) none ∧ s.tmps 6 = I R ∧ s.defers = [] ∧ s.fid = 0)
    (fun s0 ex s => ex = .exit 2 ∧ s.tmps 11 = I R ∧ s.tmps 6 = I R ∧ s.tmps 8 = I (SUMI w) ∧ s.defers = []) 0
    (by simp (config := { maxSteps := 1000000 }) only [RUN, PATHS, BASE, FA, POL, start_tm, Heap.empty, reduceIte, Nat.reduceLT, Nat.reduceLeDiff, Nat.reduceEqDiff, Nat.reduceAdd, Nat.reduceSub, Nat.reduceMul, Nat.reduceBEq, Int.reduceLT, Int.reduceLE, Int.reduceEq, Int.reduceNeg, Int.reduceAdd, Int.reduceSub, Int.reduceMul, Bool.false_eq_true, Bool.not_true, Bool.not_false, decide_eq_true_eq, and_self, true_and, and_true, reduceCtorEq, ne_eq, not_false_eq_true, not_true_eq_false, decide_true, decide_false, or_false, false_or, List.take_zero, h8, h0, h1, h5, h6]; exact ⟨Nat.zero_le _, by simp, by simp [SUMI]⟩) (by
      rintro j s r hW ⟨hj, h73, h72, h71, h11, h8, h0, h1, h5, h6, hd, hf⟩
      by_cases hp : j < w.length
      · have e0 : w[j]? = some w[j] := List.getElem?_eq_getElem hp
        have f0 : O[j]? = some (O[j]'(by omega)) := List.getElem?_eq_getElem _
        have e1 := map_get (f := I) e0
        have f1 := map_get (f := I) f0
        have st := SUMI_take f0
        have k1 := tk (j + 1)
        have k0 := tk j
        have oi := inn _ _ _ e0 f0
        have wx := hw _ (List.mem_of_getElem? e0)
        unfold OKL at wx
        rw [st] at k1
        have oq1 := fun h0 => oq h0 _ _ _ e0 f0
        have om1 := fun h0 k y m (f : w[k]? = some y) (fm : O[k]? = some m) => om h0 j k _ y _ m e0 f0 f fm
        have b1 := sb (j + 1)
        have b0 := sb j
        have bS := sb w.length
        have st' := SUMI_take e0
        rw [List.take_length] at bS
        have a1 : w[j] ≤ SUMI w := by
          have e : SUMI w = SUMI (w.take (j + 1)) + SUMI (w.drop (j + 1)) := by rw [← SUMI_app, List.take_append_drop]
          have := (SUMI_bounds (a := 0) (b := 1073741824) (w.drop (j + 1)) (fun x hx => hw x (List.mem_of_mem_drop hx))).1
          omega
        generalize w[j] = x at *
        generalize O[j]'(by omega) = n at *
        by_cases s0 : SUMI w = 0
        · have n0 : n = 0 := by
            have : x = 0 := by omega
            rcases Int.lt_or_le 0 n with h | h
            · exact absurd this (oi.2 h)
            · omega
          subst n0
          simp (config := { maxSteps := 1000000 }) only [RUN, PATHS, BASE, FA, POL, start_tm, Heap.empty, reduceIte, Nat.reduceLT, Nat.reduceLeDiff, Nat.reduceEqDiff, Nat.reduceAdd, Nat.reduceSub, Nat.reduceMul, Nat.reduceBEq, Int.reduceLT, Int.reduceLE, Int.reduceEq, Int.reduceNeg, Int.reduceAdd, Int.reduceSub, Int.reduceMul, Bool.false_eq_true, Bool.not_true, Bool.not_false, decide_eq_true_eq, and_self, true_and, and_true, reduceCtorEq, ne_eq, not_false_eq_true, not_true_eq_false, decide_true, decide_false, or_false, false_or, NUM, SIN, h73, h72, h71, h11, h8, h0, h1, h5, h6, hd, hf, e1, f1, lo, s0, List.length_map, Int.toNat_natCast, (show (j : Int) < w.length by omega), (show (0 : Int) ≤ j by omega), (show ¬ T - SUMI (O.take j) < 0 by omega), i64_in (x := T - SUMI (O.take j) - 0) (by unfold I64; omega), i64_in (x := (j : Int) + 1) (by unfold I64; omega)] at hW
          subst hW
          refine rd_next (j + 1) ?_ (show w.length - (j + 1) < w.length - j by omega)
          simp (config := { maxSteps := 1000000 }) only [RUN, PATHS, BASE, FA, POL, start_tm, Heap.empty, reduceIte, Nat.reduceLT, Nat.reduceLeDiff, Nat.reduceEqDiff, Nat.reduceAdd, Nat.reduceSub, Nat.reduceMul, Nat.reduceBEq, Int.reduceLT, Int.reduceLE, Int.reduceEq, Int.reduceNeg, Int.reduceAdd, Int.reduceSub, Int.reduceMul, Bool.false_eq_true, Bool.not_true, Bool.not_false, decide_eq_true_eq, and_self, true_and, and_true, reduceCtorEq, ne_eq, not_false_eq_true, not_true_eq_false, decide_true, decide_false, or_false, false_or, h72, h71, h0, h1, h5, h6, h8, s0, st]
          exact ⟨by omega, by simp, by congr 1; omega⟩
        have cm := c_mul64 T.toNat x.toNat (by omega) (by omega)
        have tT : ((T.toNat : Nat) : Int) = T := by omega
        have tx : ((x.toNat : Nat) : Int) = x := by omega
        have tS : (((SUMI w).toNat : Nat) : Int) = SUMI w := by omega
        have tv : T.toNat * x.toNat ≤ 1099511627776 * x.toNat := Nat.mul_le_mul_right _ (by omega)
        have tv2 : T.toNat * x.toNat ≤ 1099511627776 * 1073741824 := Nat.mul_le_mul (by omega) (by omega)
        have cd := c_div64 (T.toNat * x.toNat / 18446744073709551616) (T.toNat * x.toNat % 18446744073709551616) (SUMI w).toNat (by omega) (by omega) (by omega)
        rw [show T.toNat * x.toNat / 18446744073709551616 * 18446744073709551616 + T.toNat * x.toNat % 18446744073709551616 = T.toNat * x.toNat by omega] at cd
        have k1' : ((T.toNat * x.toNat / (SUMI w).toNat : Nat) : Int) = T * x / SUMI w := by rw [Int.natCast_ediv, Int.natCast_mul, tT, tx, tS]
        have k2' : ((T.toNat * x.toNat % (SUMI w).toNat : Nat) : Int) = T * x % SUMI w := by rw [Int.natCast_emod, Int.natCast_mul, tT, tx, tS]
        rw [k1', k2', tS] at cd
        rw [tT, tx] at cm
        have oq2 := oq1 s0
        have q0 : 0 ≤ T * x / SUMI w := Int.ediv_nonneg (Int.mul_nonneg hT.1 wx.1) (by omega)
        generalize T * x / SUMI w = Q at *
        generalize T * x % SUMI w = Z at *
        have qb : Q ≤ 1099511627776 := by omega
        have fin : ∀ r', r' = r → True := fun _ _ => trivial
        rcases oq2 with nq | ⟨nq, zp⟩
        · subst nq
          simp (config := { maxSteps := 1000000 }) only [RUN, PATHS, BASE, FA, POL, start_tm, Heap.empty, reduceIte, Nat.reduceLT, Nat.reduceLeDiff, Nat.reduceEqDiff, Nat.reduceAdd, Nat.reduceSub, Nat.reduceMul, Nat.reduceBEq, Int.reduceLT, Int.reduceLE, Int.reduceEq, Int.reduceNeg, Int.reduceAdd, Int.reduceSub, Int.reduceMul, Bool.false_eq_true, Bool.not_true, Bool.not_false, decide_eq_true_eq, and_self, true_and, and_true, reduceCtorEq, ne_eq, not_false_eq_true, not_true_eq_false, decide_true, decide_false, or_false, false_or, NUM, SIN, h73, h72, h71, h11, h8, h0, h1, h5, h6, hd, hf, e1, f1, lo, s0, cm, cd, List.length_map, Int.toNat_natCast, (show (j : Int) < w.length by omega), (show (0 : Int) ≤ j by omega), (show ¬ n < 0 by omega), (show ¬ T - SUMI (O.take j) < n by omega), i64_in (x := T - SUMI (O.take j) - n) (by unfold I64; omega), u64_in (x := T) (by unfold U64; omega), u64_in (x := x) (by unfold U64; omega), u64_in (x := SUMI w) (by unfold U64; omega), u64_in (x := n) (by unfold U64; omega)] at hW
          generalize hL2 : W _ (.loop _) _ = L2 at hW
          obtain ⟨ex, s3, rfl, rfl, g127, g126, g13, g12, g11, g8, g0, g1, g5, g6, g73, g72, g71, hd, hf⟩ := loop_at hL2 (α := Nat) (fun k => w.length - k)
            (fun s0 k s => k ≤ w.length ∧ s.tmps 128 = I k ∧ s.tmps 127 = I w.length ∧ s.tmps 126 = .vs 1 (O.map I) none ∧ s.tmps 13 = I n ∧ s.tmps 12 = I j ∧ s.tmps 11 = I (T - SUMI (O.take j) - n) ∧ s.tmps 8 = I (SUMI w) ∧ s.tmps 0 = I T ∧ s.tmps 1 = .vs 1 (w.map I) none ∧ s.tmps 5 = .vs 1 (O.map I) none ∧ s.tmps 6 = I R ∧ s.tmps 73 = I j ∧ s.tmps 72 = I w.length ∧ s.tmps 71 = .vs 1 (O.map I) none ∧ s.defers = [] ∧ s.fid = 0)
            (fun s0 ex s => ex = .exit 4 ∧ s.tmps 127 = I w.length ∧ s.tmps 126 = .vs 1 (O.map I) none ∧ s.tmps 13 = I n ∧ s.tmps 12 = I j ∧ s.tmps 11 = I (T - SUMI (O.take j) - n) ∧ s.tmps 8 = I (SUMI w) ∧ s.tmps 0 = I T ∧ s.tmps 1 = .vs 1 (w.map I) none ∧ s.tmps 5 = .vs 1 (O.map I) none ∧ s.tmps 6 = I R ∧ s.tmps 73 = I j ∧ s.tmps 72 = I w.length ∧ s.tmps 71 = .vs 1 (O.map I) none ∧ s.defers = [] ∧ s.fid = 0) 0
            (by simp (config := { maxSteps := 1000000 }) only [RUN, PATHS, BASE, FA, POL, start_tm, Heap.empty, reduceIte, Nat.reduceLT, Nat.reduceLeDiff, Nat.reduceEqDiff, Nat.reduceAdd, Nat.reduceSub, Nat.reduceMul, Nat.reduceBEq, Int.reduceLT, Int.reduceLE, Int.reduceEq, Int.reduceNeg, Int.reduceAdd, Int.reduceSub, Int.reduceMul, Bool.false_eq_true, Bool.not_true, Bool.not_false, decide_eq_true_eq, and_self, true_and, and_true, reduceCtorEq, ne_eq, not_false_eq_true, not_true_eq_false, decide_true, decide_false, or_false, false_or, h73, h72, h71, h8, h0, h1, h5, h6]; exact ⟨Nat.zero_le _, rfl⟩) (by
              rintro k s r3 hW3 ⟨hk, g128, g127, g126, g13, g12, g11, g8, g0, g1, g5, g6, g73, g72, g71, hd, hf⟩
              by_cases hp2 : k < w.length
              · have y0 : w[k]? = some w[k] := List.getElem?_eq_getElem hp2
                have m0 : O[k]? = some (O[k]'(by omega)) := List.getElem?_eq_getElem _
                have y1 := map_get (f := I) y0
                have m1 := map_get (f := I) m0
                have mo := om1 s0 _ _ _ y0 m0
                have mi := inn _ _ _ y0 m0
                have mt := tk (k + 1)
                rw [SUMI_take m0] at mt
                have mt0 := tk k
                generalize w[k] = y at *
                generalize O[k]'(by omega) = m at *
                by_cases c1 : x < y
                · have := mo.1 c1
                  simp (config := { maxSteps := 1000000 }) only [RUN, PATHS, BASE, FA, POL, start_tm, Heap.empty, reduceIte, Nat.reduceLT, Nat.reduceLeDiff, Nat.reduceEqDiff, Nat.reduceAdd, Nat.reduceSub, Nat.reduceMul, Nat.reduceBEq, Int.reduceLT, Int.reduceLE, Int.reduceEq, Int.reduceNeg, Int.reduceAdd, Int.reduceSub, Int.reduceMul, Bool.false_eq_true, Bool.not_true, Bool.not_false, decide_eq_true_eq, and_self, true_and, and_true, reduceCtorEq, ne_eq, not_false_eq_true, not_true_eq_false, decide_true, decide_false, or_false, false_or, NUM, SIN, g128, g127, g126, g13, g12, g1, g11, g8, g0, g5, g6, hd, hf, e1, y1, m1, lo, List.length_map, Int.toNat_natCast, (show (k : Int) < w.length by omega), (show (j : Int) < w.length by omega), (show (0 : Int) ≤ k by omega), (show (0 : Int) ≤ j by omega), i64_in (x := (k : Int) + 1) (by unfold I64; omega), i64_in (x := n + 1) (by unfold I64; omega), i64_in (x := m + 1) (by unfold I64; omega), c1, (show ¬ m < n by omega), (show ¬ y = x by omega)] at hW3
                  subst hW3
                  refine rd_next (k + 1) ?_ (show w.length - (k + 1) < w.length - k by omega)
                  simp (config := { maxSteps := 1000000 }) only [RUN, PATHS, BASE, FA, POL, start_tm, Heap.empty, reduceIte, Nat.reduceLT, Nat.reduceLeDiff, Nat.reduceEqDiff, Nat.reduceAdd, Nat.reduceSub, Nat.reduceMul, Nat.reduceBEq, Int.reduceLT, Int.reduceLE, Int.reduceEq, Int.reduceNeg, Int.reduceAdd, Int.reduceSub, Int.reduceMul, Bool.false_eq_true, Bool.not_true, Bool.not_false, decide_eq_true_eq, and_self, true_and, and_true, reduceCtorEq, ne_eq, not_false_eq_true, not_true_eq_false, decide_true, decide_false, or_false, false_or, g127, g126, g13, g12, g11, g8, g0, g1, g5, g6, g73, g72, g71]
                  exact ⟨by omega, by simp⟩
                by_cases c2 : y = x
                · have := mo.2 c2.symm
                  simp (config := { maxSteps := 1000000 }) only [RUN, PATHS, BASE, FA, POL, start_tm, Heap.empty, reduceIte, Nat.reduceLT, Nat.reduceLeDiff, Nat.reduceEqDiff, Nat.reduceAdd, Nat.reduceSub, Nat.reduceMul, Nat.reduceBEq, Int.reduceLT, Int.reduceLE, Int.reduceEq, Int.reduceNeg, Int.reduceAdd, Int.reduceSub, Int.reduceMul, Bool.false_eq_true, Bool.not_true, Bool.not_false, decide_eq_true_eq, and_self, true_and, and_true, reduceCtorEq, ne_eq, not_false_eq_true, not_true_eq_false, decide_true, decide_false, or_false, false_or, NUM, SIN, g128, g127, g126, g13, g12, g1, g11, g8, g0, g5, g6, hd, hf, e1, y1, m1, lo, List.length_map, Int.toNat_natCast, (show (k : Int) < w.length by omega), (show (j : Int) < w.length by omega), (show (0 : Int) ≤ k by omega), (show (0 : Int) ≤ j by omega), i64_in (x := (k : Int) + 1) (by unfold I64; omega), i64_in (x := n + 1) (by unfold I64; omega), i64_in (x := m + 1) (by unfold I64; omega), c1, c2, Int.lt_irrefl, (show ¬ n + 1 < m by omega), (show ¬ m + 1 < n by omega)] at hW3
                  subst hW3
                  refine rd_next (k + 1) ?_ (show w.length - (k + 1) < w.length - k by omega)
                  simp (config := { maxSteps := 1000000 }) only [RUN, PATHS, BASE, FA, POL, start_tm, Heap.empty, reduceIte, Nat.reduceLT, Nat.reduceLeDiff, Nat.reduceEqDiff, Nat.reduceAdd, Nat.reduceSub, Nat.reduceMul, Nat.reduceBEq, Int.reduceLT, Int.reduceLE, Int.reduceEq, Int.reduceNeg, Int.reduceAdd, Int.reduceSub, Int.reduceMul, Bool.false_eq_true, Bool.not_true, Bool.not_false, decide_eq_true_eq, and_self, true_and, and_true, reduceCtorEq, ne_eq, not_false_eq_true, not_true_eq_false, decide_true, decide_false, or_false, false_or, g127, g126, g13, g12, g11, g8, g0, g1, g5, g6, g73, g72, g71]
                  exact ⟨by omega, by simp⟩
                · simp (config := { maxSteps := 1000000 }) only [RUN, PATHS, BASE, FA, POL, start_tm, Heap.empty, reduceIte, Nat.reduceLT, Nat.reduceLeDiff, Nat.reduceEqDiff, Nat.reduceAdd, Nat.reduceSub, Nat.reduceMul, Nat.reduceBEq, Int.reduceLT, Int.reduceLE, Int.reduceEq, Int.reduceNeg, Int.reduceAdd, Int.reduceSub, Int.reduceMul, Bool.false_eq_true, Bool.not_true, Bool.not_false, decide_eq_true_eq, and_self, true_and, and_true, reduceCtorEq, ne_eq, not_false_eq_true, not_true_eq_false, decide_true, decide_false, or_false, false_or, NUM, SIN, g128, g127, g126, g13, g12, g1, g11, g8, g0, g5, g6, hd, hf, e1, y1, m1, lo, List.length_map, Int.toNat_natCast, (show (k : Int) < w.length by omega), (show (j : Int) < w.length by omega), (show (0 : Int) ≤ k by omega), (show (0 : Int) ≤ j by omega), i64_in (x := (k : Int) + 1) (by unfold I64; omega), i64_in (x := n + 1) (by unfold I64; omega), i64_in (x := m + 1) (by unfold I64; omega), c1, c2] at hW3
                  subst hW3
                  refine rd_next (k + 1) ?_ (show w.length - (k + 1) < w.length - k by omega)
                  simp (config := { maxSteps := 1000000 }) only [RUN, PATHS, BASE, FA, POL, start_tm, Heap.empty, reduceIte, Nat.reduceLT, Nat.reduceLeDiff, Nat.reduceEqDiff, Nat.reduceAdd, Nat.reduceSub, Nat.reduceMul, Nat.reduceBEq, Int.reduceLT, Int.reduceLE, Int.reduceEq, Int.reduceNeg, Int.reduceAdd, Int.reduceSub, Int.reduceMul, Bool.false_eq_true, Bool.not_true, Bool.not_false, decide_eq_true_eq, and_self, true_and, and_true, reduceCtorEq, ne_eq, not_false_eq_true, not_true_eq_false, decide_true, decide_false, or_false, false_or, g127, g126, g13, g12, g11, g8, g0, g1, g5, g6, g73, g72, g71]
                  exact ⟨by omega, by simp⟩
              · simp (config := { maxSteps := 1000000 }) only [RUN, PATHS, BASE, FA, POL, start_tm, Heap.empty, reduceIte, Nat.reduceLT, Nat.reduceLeDiff, Nat.reduceEqDiff, Nat.reduceAdd, Nat.reduceSub, Nat.reduceMul, Nat.reduceBEq, Int.reduceLT, Int.reduceLE, Int.reduceEq, Int.reduceNeg, Int.reduceAdd, Int.reduceSub, Int.reduceMul, Bool.false_eq_true, Bool.not_true, Bool.not_false, decide_eq_true_eq, and_self, true_and, and_true, reduceCtorEq, ne_eq, not_false_eq_true, not_true_eq_false, decide_true, decide_false, or_false, false_or, g128, g127, hd, hf, (show ¬ (k : Int) < w.length by omega)] at hW3
                subst hW3
                refine rd_exit ⟨rfl, ?_⟩
                simp (config := { maxSteps := 1000000 }) only [RUN, PATHS, BASE, FA, POL, start_tm, Heap.empty, reduceIte, Nat.reduceLT, Nat.reduceLeDiff, Nat.reduceEqDiff, Nat.reduceAdd, Nat.reduceSub, Nat.reduceMul, Nat.reduceBEq, Int.reduceLT, Int.reduceLE, Int.reduceEq, Int.reduceNeg, Int.reduceAdd, Int.reduceSub, Int.reduceMul, Bool.false_eq_true, Bool.not_true, Bool.not_false, decide_eq_true_eq, and_self, true_and, and_true, reduceCtorEq, ne_eq, not_false_eq_true, not_true_eq_false, decide_true, decide_false, or_false, false_or, g127, g126, g13, g12, g11, g8, g0, g1, g5, g6, g73, g72, g71])
          simp (config := { maxSteps := 1000000 }) only [RUN, PATHS, BASE, FA, POL, start_tm, Heap.empty, reduceIte, Nat.reduceLT, Nat.reduceLeDiff, Nat.reduceEqDiff, Nat.reduceAdd, Nat.reduceSub, Nat.reduceMul, Nat.reduceBEq, Int.reduceLT, Int.reduceLE, Int.reduceEq, Int.reduceNeg, Int.reduceAdd, Int.reduceSub, Int.reduceMul, Bool.false_eq_true, Bool.not_true, Bool.not_false, decide_eq_true_eq, and_self, true_and, and_true, reduceCtorEq, ne_eq, not_false_eq_true, not_true_eq_false, decide_true, decide_false, or_false, false_or, NUM, g127, g126, g13, g12, g11, g8, g0, g1, g5, g6, g73, g72, g71, hd, hf, i64_in (x := (j : Int) + 1) (by unfold I64; omega)] at hW
          subst hW
          refine rd_next (j + 1) ?_ (show w.length - (j + 1) < w.length - j by omega)
          simp (config := { maxSteps := 1000000 }) only [RUN, PATHS, BASE, FA, POL, start_tm, Heap.empty, reduceIte, Nat.reduceLT, Nat.reduceLeDiff, Nat.reduceEqDiff, Nat.reduceAdd, Nat.reduceSub, Nat.reduceMul, Nat.reduceBEq, Int.reduceLT, Int.reduceLE, Int.reduceEq, Int.reduceNeg, Int.reduceAdd, Int.reduceSub, Int.reduceMul, Bool.false_eq_true, Bool.not_true, Bool.not_false, decide_eq_true_eq, and_self, true_and, and_true, reduceCtorEq, ne_eq, not_false_eq_true, not_true_eq_false, decide_true, decide_false, or_false, false_or, g127, g126, g13, g12, g11, g8, g0, g1, g5, g6, g73, g72, g71, st]
          exact ⟨by omega, by simp, by congr 1; omega⟩
        · simp (config := { maxSteps := 1000000 }) only [RUN, PATHS, BASE, FA, POL, start_tm, Heap.empty, reduceIte, Nat.reduceLT, Nat.reduceLeDiff, Nat.reduceEqDiff, Nat.reduceAdd, Nat.reduceSub, Nat.reduceMul, Nat.reduceBEq, Int.reduceLT, Int.reduceLE, Int.reduceEq, Int.reduceNeg, Int.reduceAdd, Int.reduceSub, Int.reduceMul, Bool.false_eq_true, Bool.not_true, Bool.not_false, decide_eq_true_eq, and_self, true_and, and_true, reduceCtorEq, ne_eq, not_false_eq_true, not_true_eq_false, decide_true, decide_false, or_false, false_or, NUM, SIN, h73, h72, h71, h11, h8, h0, h1, h5, h6, hd, hf, e1, f1, lo, s0, cm, cd, List.length_map, Int.toNat_natCast, (show (j : Int) < w.length by omega), (show (0 : Int) ≤ j by omega), (show ¬ n < 0 by omega), (show ¬ T - SUMI (O.take j) < n by omega), i64_in (x := T - SUMI (O.take j) - n) (by unfold I64; omega), u64_in (x := T) (by unfold U64; omega), u64_in (x := x) (by unfold U64; omega), u64_in (x := SUMI w) (by unfold U64; omega), u64_in (x := n) (by unfold U64; omega), (show ¬ n = Q by omega), (show ¬ Z = 0 by omega), u64_in (x := Q + 1) (by unfold U64; omega), ← nq] at hW
          generalize hL2 : W _ (.loop _) _ = L2 at hW
          obtain ⟨ex, s3, rfl, rfl, g127, g126, g13, g12, g11, g8, g0, g1, g5, g6, g73, g72, g71, hd, hf⟩ := loop_at hL2 (α := Nat) (fun k => w.length - k)
            (fun s0 k s => k ≤ w.length ∧ s.tmps 128 = I k ∧ s.tmps 127 = I w.length ∧ s.tmps 126 = .vs 1 (O.map I) none ∧ s.tmps 13 = I n ∧ s.tmps 12 = I j ∧ s.tmps 11 = I (T - SUMI (O.take j) - n) ∧ s.tmps 8 = I (SUMI w) ∧ s.tmps 0 = I T ∧ s.tmps 1 = .vs 1 (w.map I) none ∧ s.tmps 5 = .vs 1 (O.map I) none ∧ s.tmps 6 = I R ∧ s.tmps 73 = I j ∧ s.tmps 72 = I w.length ∧ s.tmps 71 = .vs 1 (O.map I) none ∧ s.defers = [] ∧ s.fid = 0)
            (fun s0 ex s => ex = .exit 4 ∧ s.tmps 127 = I w.length ∧ s.tmps 126 = .vs 1 (O.map I) none ∧ s.tmps 13 = I n ∧ s.tmps 12 = I j ∧ s.tmps 11 = I (T - SUMI (O.take j) - n) ∧ s.tmps 8 = I (SUMI w) ∧ s.tmps 0 = I T ∧ s.tmps 1 = .vs 1 (w.map I) none ∧ s.tmps 5 = .vs 1 (O.map I) none ∧ s.tmps 6 = I R ∧ s.tmps 73 = I j ∧ s.tmps 72 = I w.length ∧ s.tmps 71 = .vs 1 (O.map I) none ∧ s.defers = [] ∧ s.fid = 0) 0
            (by simp (config := { maxSteps := 1000000 }) only [RUN, PATHS, BASE, FA, POL, start_tm, Heap.empty, reduceIte, Nat.reduceLT, Nat.reduceLeDiff, Nat.reduceEqDiff, Nat.reduceAdd, Nat.reduceSub, Nat.reduceMul, Nat.reduceBEq, Int.reduceLT, Int.reduceLE, Int.reduceEq, Int.reduceNeg, Int.reduceAdd, Int.reduceSub, Int.reduceMul, Bool.false_eq_true, Bool.not_true, Bool.not_false, decide_eq_true_eq, and_self, true_and, and_true, reduceCtorEq, ne_eq, not_false_eq_true, not_true_eq_false, decide_true, decide_false, or_false, false_or, h73, h72, h71, h8, h0, h1, h5, h6]; exact ⟨Nat.zero_le _, rfl⟩) (by
              rintro k s r3 hW3 ⟨hk, g128, g127, g126, g13, g12, g11, g8, g0, g1, g5, g6, g73, g72, g71, hd, hf⟩
              by_cases hp2 : k < w.length
              · have y0 : w[k]? = some w[k] := List.getElem?_eq_getElem hp2
                have m0 : O[k]? = some (O[k]'(by omega)) := List.getElem?_eq_getElem _
                have y1 := map_get (f := I) y0
                have m1 := map_get (f := I) m0
                have mo := om1 s0 _ _ _ y0 m0
                have mi := inn _ _ _ y0 m0
                have mt := tk (k + 1)
                rw [SUMI_take m0] at mt
                have mt0 := tk k
                generalize w[k] = y at *
                generalize O[k]'(by omega) = m at *
                by_cases c1 : x < y
                · have := mo.1 c1
                  simp (config := { maxSteps := 1000000 }) only [RUN, PATHS, BASE, FA, POL, start_tm, Heap.empty, reduceIte, Nat.reduceLT, Nat.reduceLeDiff, Nat.reduceEqDiff, Nat.reduceAdd, Nat.reduceSub, Nat.reduceMul, Nat.reduceBEq, Int.reduceLT, Int.reduceLE, Int.reduceEq, Int.reduceNeg, Int.reduceAdd, Int.reduceSub, Int.reduceMul, Bool.false_eq_true, Bool.not_true, Bool.not_false, decide_eq_true_eq, and_self, true_and, and_true, reduceCtorEq, ne_eq, not_false_eq_true, not_true_eq_false, decide_true, decide_false, or_false, false_or, NUM, SIN, g128, g127, g126, g13, g12, g1, g11, g8, g0, g5, g6, hd, hf, e1, y1, m1, lo, List.length_map, Int.toNat_natCast, (show (k : Int) < w.length by omega), (show (j : Int) < w.length by omega), (show (0 : Int) ≤ k by omega), (show (0 : Int) ≤ j by omega), i64_in (x := (k : Int) + 1) (by unfold I64; omega), i64_in (x := n + 1) (by unfold I64; omega), i64_in (x := m + 1) (by unfold I64; omega), c1, (show ¬ m < n by omega), (show ¬ y = x by omega)] at hW3
                  subst hW3
                  refine rd_next (k + 1) ?_ (show w.length - (k + 1) < w.length - k by omega)
                  simp (config := { maxSteps := 1000000 }) only [RUN, PATHS, BASE, FA, POL, start_tm, Heap.empty, reduceIte, Nat.reduceLT, Nat.reduceLeDiff, Nat.reduceEqDiff, Nat.reduceAdd, Nat.reduceSub, Nat.reduceMul, Nat.reduceBEq, Int.reduceLT, Int.reduceLE, Int.reduceEq, Int.reduceNeg, Int.reduceAdd, Int.reduceSub, Int.reduceMul, Bool.false_eq_true, Bool.not_true, Bool.not_false, decide_eq_true_eq, and_self, true_and, and_true, reduceCtorEq, ne_eq, not_false_eq_true, not_true_eq_false, decide_true, decide_false, or_false, false_or, g127, g126, g13, g12, g11, g8, g0, g1, g5, g6, g73, g72, g71]
                  exact ⟨by omega, by simp⟩
                by_cases c2 : y = x
                · have := mo.2 c2.symm
                  simp (config := { maxSteps := 1000000 }) only [RUN, PATHS, BASE, FA, POL, start_tm, Heap.empty, reduceIte, Nat.reduceLT, Nat.reduceLeDiff, Nat.reduceEqDiff, Nat.reduceAdd, Nat.reduceSub, Nat.reduceMul, Nat.reduceBEq, Int.reduceLT, Int.reduceLE, Int.reduceEq, Int.reduceNeg, Int.reduceAdd, Int.reduceSub, Int.reduceMul, Bool.false_eq_true, Bool.not_true, Bool.not_false, decide_eq_true_eq, and_self, true_and, and_true, reduceCtorEq, ne_eq, not_false_eq_true, not_true_eq_false, decide_true, decide_false, or_false, false_or, NUM, SIN, g128, g127, g126, g13, g12, g1, g11, g8, g0, g5, g6, hd, hf, e1, y1, m1, lo, List.length_map, Int.toNat_natCast, (show (k : Int) < w.length by omega), (show (j : Int) < w.length by omega), (show (0 : Int) ≤ k by omega), (show (0 : Int) ≤ j by omega), i64_in (x := (k : Int) + 1) (by unfold I64; omega), i64_in (x := n + 1) (by unfold I64; omega), i64_in (x := m + 1) (by unfold I64; omega), c1, c2, Int.lt_irrefl, (show ¬ n + 1 < m by omega), (show ¬ m + 1 < n by omega)] at hW3
                  subst hW3
                  refine rd_next (k + 1) ?_ (show w.length - (k + 1) < w.length - k by omega)
                  simp (config := { maxSteps := 1000000 }) only [RUN, PATHS, BASE, FA, POL, start_tm, Heap.empty, reduceIte, Nat.reduceLT, Nat.reduceLeDiff, Nat.reduceEqDiff, Nat.reduceAdd, Nat.reduceSub, Nat.reduceMul, Nat.reduceBEq, Int.reduceLT, Int.reduceLE, Int.reduceEq, Int.reduceNeg, Int.reduceAdd, Int.reduceSub, Int.reduceMul, Bool.false_eq_true, Bool.not_true, Bool.not_false, decide_eq_true_eq, and_self, true_and, and_true, reduceCtorEq, ne_eq, not_false_eq_true, not_true_eq_false, decide_true, decide_false, or_false, false_or, g127, g126, g13, g12, g11, g8, g0, g1, g5, g6, g73, g72, g71]
                  exact ⟨by omega, by simp⟩
                · simp (config := { maxSteps := 1000000 }) only [RUN, PATHS, BASE, FA, POL, start_tm, Heap.empty, reduceIte, Nat.reduceLT, Nat.reduceLeDiff, Nat.reduceEqDiff, Nat.reduceAdd, Nat.reduceSub, Nat.reduceMul, Nat.reduceBEq, Int.reduceLT, Int.reduceLE, Int.reduceEq, Int.reduceNeg, Int.reduceAdd, Int.reduceSub, Int.reduceMul, Bool.false_eq_true, Bool.not_true, Bool.not_false, decide_eq_true_eq, and_self, true_and, and_true, reduceCtorEq, ne_eq, not_false_eq_true, not_true_eq_false, decide_true, decide_false, or_false, false_or, NUM, SIN, g128, g127, g126, g13, g12, g1, g11, g8, g0, g5, g6, hd, hf, e1, y1, m1, lo, List.length_map, Int.toNat_natCast, (show (k : Int) < w.length by omega), (show (j : Int) < w.length by omega), (show (0 : Int) ≤ k by omega), (show (0 : Int) ≤ j by omega), i64_in (x := (k : Int) + 1) (by unfold I64; omega), i64_in (x := n + 1) (by unfold I64; omega), i64_in (x := m + 1) (by unfold I64; omega), c1, c2] at hW3
                  subst hW3
                  refine rd_next (k + 1) ?_ (show w.length - (k + 1) < w.length - k by omega)
                  simp (config := { maxSteps := 1000000 }) only [RUN, PATHS, BASE, FA, POL, start_tm, Heap.empty, reduceIte, Nat.reduceLT, Nat.reduceLeDiff, Nat.reduceEqDiff, Nat.reduceAdd, Nat.reduceSub, Nat.reduceMul, Nat.reduceBEq, Int.reduceLT, Int.reduceLE, Int.reduceEq, Int.reduceNeg, Int.reduceAdd, Int.reduceSub, Int.reduceMul, Bool.false_eq_true, Bool.not_true, Bool.not_false, decide_eq_true_eq, and_self, true_and, and_true, reduceCtorEq, ne_eq, not_false_eq_true, not_true_eq_false, decide_true, decide_false, or_false, false_or, g127, g126, g13, g12, g11, g8, g0, g1, g5, g6, g73, g72, g71]
                  exact ⟨by omega, by simp⟩
              · simp (config := { maxSteps := 1000000 }) only [RUN, PATHS, BASE, FA, POL, start_tm, Heap.empty, reduceIte, Nat.reduceLT, Nat.reduceLeDiff, Nat.reduceEqDiff, Nat.reduceAdd, Nat.reduceSub, Nat.reduceMul, Nat.reduceBEq, Int.reduceLT, Int.reduceLE, Int.reduceEq, Int.reduceNeg, Int.reduceAdd, Int.reduceSub, Int.reduceMul, Bool.false_eq_true, Bool.not_true, Bool.not_false, decide_eq_true_eq, and_self, true_and, and_true, reduceCtorEq, ne_eq, not_false_eq_true, not_true_eq_false, decide_true, decide_false, or_false, false_or, g128, g127, hd, hf, (show ¬ (k : Int) < w.length by omega)] at hW3
                subst hW3
                refine rd_exit ⟨rfl, ?_⟩
                simp (config := { maxSteps := 1000000 }) only [RUN, PATHS, BASE, FA, POL, start_tm, Heap.empty, reduceIte, Nat.reduceLT, Nat.reduceLeDiff, Nat.reduceEqDiff, Nat.reduceAdd, Nat.reduceSub, Nat.reduceMul, Nat.reduceBEq, Int.reduceLT, Int.reduceLE, Int.reduceEq, Int.reduceNeg, Int.reduceAdd, Int.reduceSub, Int.reduceMul, Bool.false_eq_true, Bool.not_true, Bool.not_false, decide_eq_true_eq, and_self, true_and, and_true, reduceCtorEq, ne_eq, not_false_eq_true, not_true_eq_false, decide_true, decide_false, or_false, false_or, g127, g126, g13, g12, g11, g8, g0, g1, g5, g6, g73, g72, g71])
          simp (config := { maxSteps := 1000000 }) only [RUN, PATHS, BASE, FA, POL, start_tm, Heap.empty, reduceIte, Nat.reduceLT, Nat.reduceLeDiff, Nat.reduceEqDiff, Nat.reduceAdd, Nat.reduceSub, Nat.reduceMul, Nat.reduceBEq, Int.reduceLT, Int.reduceLE, Int.reduceEq, Int.reduceNeg, Int.reduceAdd, Int.reduceSub, Int.reduceMul, Bool.false_eq_true, Bool.not_true, Bool.not_false, decide_eq_true_eq, and_self, true_and, and_true, reduceCtorEq, ne_eq, not_false_eq_true, not_true_eq_false, decide_true, decide_false, or_false, false_or, NUM, g127, g126, g13, g12, g11, g8, g0, g1, g5, g6, g73, g72, g71, hd, hf, i64_in (x := (j : Int) + 1) (by unfold I64; omega)] at hW
          subst hW
          refine rd_next (j + 1) ?_ (show w.length - (j + 1) < w.length - j by omega)
          simp (config := { maxSteps := 1000000 }) only [RUN, PATHS, BASE, FA, POL, start_tm, Heap.empty, reduceIte, Nat.reduceLT, Nat.reduceLeDiff, Nat.reduceEqDiff, Nat.reduceAdd, Nat.reduceSub, Nat.reduceMul, Nat.reduceBEq, Int.reduceLT, Int.reduceLE, Int.reduceEq, Int.reduceNeg, Int.reduceAdd, Int.reduceSub, Int.reduceMul, Bool.false_eq_true, Bool.not_true, Bool.not_false, decide_eq_true_eq, and_self, true_and, and_true, reduceCtorEq, ne_eq, not_false_eq_true, not_true_eq_false, decide_true, decide_false, or_false, false_or, g127, g126, g13, g12, g11, g8, g0, g1, g5, g6, g73, g72, g71, st]
          exact ⟨by omega, by simp, by congr 1; omega⟩
      · simp (config := { maxSteps := 1000000 }) only [RUN, PATHS, BASE, FA, POL, start_tm, Heap.empty, reduceIte, Nat.reduceLT, Nat.reduceLeDiff, Nat.reduceEqDiff, Nat.reduceAdd, Nat.reduceSub, Nat.reduceMul, Nat.reduceBEq, Int.reduceLT, Int.reduceLE, Int.reduceEq, Int.reduceNeg, Int.reduceAdd, Int.reduceSub, Int.reduceMul, Bool.false_eq_true, Bool.not_true, Bool.not_false, decide_eq_true_eq, and_self, true_and, and_true, reduceCtorEq, ne_eq, not_false_eq_true, not_true_eq_false, decide_true, decide_false, or_false, false_or, h73, h72, hd, hf, (show ¬ (j : Int) < w.length by omega)] at hW
        subst hW
        rw [List.take_of_length_le (by omega), show T - SUMI O = R by omega] at h11
        refine rd_exit ⟨rfl, ?_⟩
        simp (config := { maxSteps := 1000000 }) only [RUN, PATHS, BASE, FA, POL, start_tm, Heap.empty, reduceIte, Nat.reduceLT, Nat.reduceLeDiff, Nat.reduceEqDiff, Nat.reduceAdd, Nat.reduceSub, Nat.reduceMul, Nat.reduceBEq, Int.reduceLT, Int.reduceLE, Int.reduceEq, Int.reduceNeg, Int.reduceAdd, Int.reduceSub, Int.reduceMul, Bool.false_eq_true, Bool.not_true, Bool.not_false, decide_eq_true_eq, and_self, true_and, and_true, reduceCtorEq, ne_eq, not_false_eq_true, not_true_eq_false, decide_true, decide_false, or_false, false_or, h11, h6, h8])
  rcases r0 with r0 | r0
  · simp (config := { maxSteps := 1000000 }) only [RUN, PATHS, BASE, FA, POL, start_tm, Heap.empty, reduceIte, Nat.reduceLT, Nat.reduceLeDiff, Nat.reduceEqDiff, Nat.reduceAdd, Nat.reduceSub, Nat.reduceMul, Nat.reduceBEq, Int.reduceLT, Int.reduceLE, Int.reduceEq, Int.reduceNeg, Int.reduceAdd, Int.reduceSub, Int.reduceMul, Bool.false_eq_true, Bool.not_true, Bool.not_false, decide_eq_true_eq, and_self, true_and, and_true, reduceCtorEq, ne_eq, not_false_eq_true, not_true_eq_false, decide_true, decide_false, or_false, false_or, NUM, h11, h6, h8, hd, r0]
  · by_cases hR : R = 0
    · simp (config := { maxSteps := 1000000 }) only [RUN, PATHS, BASE, FA, POL, start_tm, Heap.empty, reduceIte, Nat.reduceLT, Nat.reduceLeDiff, Nat.reduceEqDiff, Nat.reduceAdd, Nat.reduceSub, Nat.reduceMul, Nat.reduceBEq, Int.reduceLT, Int.reduceLE, Int.reduceEq, Int.reduceNeg, Int.reduceAdd, Int.reduceSub, Int.reduceMul, Bool.false_eq_true, Bool.not_true, Bool.not_false, decide_eq_true_eq, and_self, true_and, and_true, reduceCtorEq, ne_eq, not_false_eq_true, not_true_eq_false, decide_true, decide_false, or_false, false_or, NUM, h11, h6, h8, hd, hR]
    · simp (config := { maxSteps := 1000000 }) only [RUN, PATHS, BASE, FA, POL, start_tm, Heap.empty, reduceIte, Nat.reduceLT, Nat.reduceLeDiff, Nat.reduceEqDiff, Nat.reduceAdd, Nat.reduceSub, Nat.reduceMul, Nat.reduceBEq, Int.reduceLT, Int.reduceLE, Int.reduceEq, Int.reduceNeg, Int.reduceAdd, Int.reduceSub, Int.reduceMul, Bool.false_eq_true, Bool.not_true, Bool.not_false, decide_eq_true_eq, and_self, true_and, and_true, reduceCtorEq, ne_eq, not_false_eq_true, not_true_eq_false, decide_true, decide_false, or_false, false_or, NUM, h11, h6, h8, hd, hR, r0]
end Go.Proofs.Ytnabgahkdomeoaa
