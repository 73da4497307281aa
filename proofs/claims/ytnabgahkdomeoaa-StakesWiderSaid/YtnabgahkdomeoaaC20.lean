/-
  stakes.Share where something is divided.
-/
import Derived.Test.YtnabgahkdomeoaaC19
set_option linter.unusedSimpArgs false
set_option linter.unusedVariables false
set_option linter.unusedSectionVars false
namespace Go.Proofs.Ytnabgahkdomeoaa
open Go GoV
set_option maxRecDepth 100000

set_option maxHeartbeats 1000000 in
theorem c_share1 (T : Int) (w : List Int) (c : Option Nat) (h : CKW T w = 0) (h0 : SUMI w ≠ 0) :
    ∃ M left, ∃ hs : SHA T (SUMI w) w M left, ap Try.prog pol 16 [I T, .vs 1 (w.map I) c] = some (.ret (.tup [.vs 1 (hs.out.map I) none, I 0, I 0])) := by
  have cr := c_right T w c
  obtain ⟨hl, hT, hw⟩ := CKW_0 h
  obtain ⟨S, hS⟩ : ∃ S, S = SUMI w := ⟨_, rfl⟩
  have bS := SUM_take_le hw w.length
  rw [List.take_length, ← hS] at bS
  rw [← hS] at h0
  have S0 : 0 < S := by omega
  obtain ⟨Z, hZ⟩ : ∃ Z, Z = PADZ [] w.length := ⟨_, rfl⟩
  have lZ : Z.length = w.length := by rw [hZ]; exact PADZ_len (by simp)
  have zs : List.replicate w.length (I 0) = Z.map I := by rw [hZ]; exact zeros _
  rw [ap_eq _ Try.func16 rfl Try.ntmps16 Try.results16 (by kernel_rfl) rfl (by exact Nat.le_of_ble_eq_true rfl)]
  simp (config := { maxSteps := 1000000 }) only [RUN, PATHS, BASE, FA, POL, start_tm, Heap.empty, reduceIte, Nat.reduceLT, Nat.reduceLeDiff, Nat.reduceEqDiff, Nat.reduceAdd, Nat.reduceSub, Nat.reduceMul, Nat.reduceBEq, Int.reduceLT, Int.reduceLE, Int.reduceEq, Int.reduceNeg, Int.reduceAdd, Int.reduceSub, Int.reduceMul, Bool.false_eq_true, Bool.not_true, Bool.not_false, decide_eq_true_eq, and_self, true_and, and_true, reduceCtorEq, ne_eq, not_false_eq_true, not_true_eq_false, decide_true, decide_false, or_false, false_or, NUM, SIN, cr, h, List.length_map, Int.toNat_natCast, (show (0 : Int) ≤ w.length by omega), (show (w.length : Int) ≤ maxN by unfold maxN; omega), (show 8 ≤ maxB by decide), zs]
  generalize hL : W _ (.loop _) _ = L
  obtain ⟨ex, s, rfl, rfl, h7, h0', h1, h4, hH, hd, hf⟩ := loop_at hL (α := Nat) (fun j => w.length - j)
    (fun s0 j s => j ≤ w.length ∧ s.tmps 31 = I j ∧ s.tmps 30 = I w.length ∧ s.tmps 29 = .vs 1 (w.map I) c ∧ s.tmps 7 = I (SUMI (w.take j)) ∧ s.tmps 0 = I T ∧ s.tmps 1 = .vs 1 (w.map I) c ∧ s.tmps 4 = .gsl 1 1 w.length 0 w.length ∧ s.H = s0.H ∧ s.defers = [] ∧ s.fid = 0)
    (fun s0 ex s => ex = .exit 0 ∧ s.tmps 7 = I (SUMI w) ∧ s.tmps 0 = I T ∧ s.tmps 1 = .vs 1 (w.map I) c ∧ s.tmps 4 = .gsl 1 1 w.length 0 w.length ∧ s.H = s0.H ∧ s.defers = [] ∧ s.fid = 0) 0
    (by simp (config := { maxSteps := 1000000 }) only [RUN, PATHS, BASE, FA, POL, start_tm, Heap.empty, reduceIte, Nat.reduceLT, Nat.reduceLeDiff, Nat.reduceEqDiff, Nat.reduceAdd, Nat.reduceSub, Nat.reduceMul, Nat.reduceBEq, Int.reduceLT, Int.reduceLE, Int.reduceEq, Int.reduceNeg, Int.reduceAdd, Int.reduceSub, Int.reduceMul, Bool.false_eq_true, Bool.not_true, Bool.not_false, decide_eq_true_eq, and_self, true_and, and_true, reduceCtorEq, ne_eq, not_false_eq_true, not_true_eq_false, decide_true, decide_false, or_false, false_or, List.take_zero]; exact ⟨by omega, by simp, by simp [SUMI]⟩) (by
      rintro j s r hW ⟨hj, h31, h30, h29, h7, h0, h1, h4, hH, hd, hf⟩
      by_cases hp : j < w.length
      · have e0 : w[j]? = some w[j] := List.getElem?_eq_getElem hp
        have e1 := map_get (f := I) e0
        have st := SUMI_take e0
        have b1 := SUM_take_le hw (j + 1)
        generalize w[j] = x at *
        simp (config := { maxSteps := 1000000 }) only [RUN, PATHS, BASE, FA, POL, start_tm, Heap.empty, reduceIte, Nat.reduceLT, Nat.reduceLeDiff, Nat.reduceEqDiff, Nat.reduceAdd, Nat.reduceSub, Nat.reduceMul, Nat.reduceBEq, Int.reduceLT, Int.reduceLE, Int.reduceEq, Int.reduceNeg, Int.reduceAdd, Int.reduceSub, Int.reduceMul, Bool.false_eq_true, Bool.not_true, Bool.not_false, decide_eq_true_eq, and_self, true_and, and_true, reduceCtorEq, ne_eq, not_false_eq_true, not_true_eq_false, decide_true, decide_false, or_false, false_or, NUM, h31, h30, h29, h7, h0, h1, h4, hd, hf, e1, List.length_map, Int.toNat_natCast, (show (j : Int) < w.length by omega), (show (0 : Int) ≤ j by omega), ← st, i64_in (x := SUMI (w.take (j + 1))) (by unfold I64; omega), i64_in (x := (j : Int) + 1) (by unfold I64; omega)] at hW
        subst hW
        refine rd_next (j + 1) ?_ (show w.length - (j + 1) < w.length - j by omega)
        simp (config := { maxSteps := 1000000 }) only [RUN, PATHS, BASE, FA, POL, start_tm, Heap.empty, reduceIte, Nat.reduceLT, Nat.reduceLeDiff, Nat.reduceEqDiff, Nat.reduceAdd, Nat.reduceSub, Nat.reduceMul, Nat.reduceBEq, Int.reduceLT, Int.reduceLE, Int.reduceEq, Int.reduceNeg, Int.reduceAdd, Int.reduceSub, Int.reduceMul, Bool.false_eq_true, Bool.not_true, Bool.not_false, decide_eq_true_eq, and_self, true_and, and_true, reduceCtorEq, ne_eq, not_false_eq_true, not_true_eq_false, decide_true, decide_false, or_false, false_or, h30, h29, h0, h1, h4, hH]
        exact ⟨by omega, by simp⟩
      · simp (config := { maxSteps := 1000000 }) only [RUN, PATHS, BASE, FA, POL, start_tm, Heap.empty, reduceIte, Nat.reduceLT, Nat.reduceLeDiff, Nat.reduceEqDiff, Nat.reduceAdd, Nat.reduceSub, Nat.reduceMul, Nat.reduceBEq, Int.reduceLT, Int.reduceLE, Int.reduceEq, Int.reduceNeg, Int.reduceAdd, Int.reduceSub, Int.reduceMul, Bool.false_eq_true, Bool.not_true, Bool.not_false, decide_eq_true_eq, and_self, true_and, and_true, reduceCtorEq, ne_eq, not_false_eq_true, not_true_eq_false, decide_true, decide_false, or_false, false_or, h31, h30, hd, hf, (show ¬ (j : Int) < w.length by omega)] at hW
        subst hW
        rw [List.take_of_length_le (by omega)] at h7
        refine rd_exit ⟨rfl, ?_⟩
        simp (config := { maxSteps := 1000000 }) only [RUN, PATHS, BASE, FA, POL, start_tm, Heap.empty, reduceIte, Nat.reduceLT, Nat.reduceLeDiff, Nat.reduceEqDiff, Nat.reduceAdd, Nat.reduceSub, Nat.reduceMul, Nat.reduceBEq, Int.reduceLT, Int.reduceLE, Int.reduceEq, Int.reduceNeg, Int.reduceAdd, Int.reduceSub, Int.reduceMul, Bool.false_eq_true, Bool.not_true, Bool.not_false, decide_eq_true_eq, and_self, true_and, and_true, reduceCtorEq, ne_eq, not_false_eq_true, not_true_eq_false, decide_true, decide_false, or_false, false_or, h7, h0, h1, h4, hH])
  have r1 : s.H.rows 1 = some (.gro 1 (Z.map I) 0) := by rw [hH]; simp (config := { maxSteps := 1000000 }) only [RUN, PATHS, BASE, FA, POL, start_tm, Heap.empty, reduceIte, Nat.reduceLT, Nat.reduceLeDiff, Nat.reduceEqDiff, Nat.reduceAdd, Nat.reduceSub, Nat.reduceMul, Nat.reduceBEq, Int.reduceLT, Int.reduceLE, Int.reduceEq, Int.reduceNeg, Int.reduceAdd, Int.reduceSub, Int.reduceMul, Bool.false_eq_true, Bool.not_true, Bool.not_false, decide_eq_true_eq, and_self, true_and, and_true, reduceCtorEq, ne_eq, not_false_eq_true, not_true_eq_false, decide_true, decide_false, or_false, false_or]
  have nx : s.H.next = 2 := by rw [hH]; rfl
  rw [← hS] at h7
  simp (config := { maxSteps := 1000000 }) only [RUN, PATHS, BASE, FA, POL, start_tm, Heap.empty, reduceIte, Nat.reduceLT, Nat.reduceLeDiff, Nat.reduceEqDiff, Nat.reduceAdd, Nat.reduceSub, Nat.reduceMul, Nat.reduceBEq, Int.reduceLT, Int.reduceLE, Int.reduceEq, Int.reduceNeg, Int.reduceAdd, Int.reduceSub, Int.reduceMul, Bool.false_eq_true, Bool.not_true, Bool.not_false, decide_eq_true_eq, and_self, true_and, and_true, reduceCtorEq, ne_eq, not_false_eq_true, not_true_eq_false, decide_true, decide_false, or_false, false_or, NUM, SIN, h7, h0', h1, h4, hd, hf, h0, List.length_map, nx]
  clear hL
  generalize hL : W _ (.loop _) _ = L
  obtain ⟨ex, s2, rfl, rfl, h10, h11, h4, q1, q2, hd, hf⟩ := loop_at hL (α := Nat) (fun j => w.length - j)
    (fun s0 j s => j ≤ w.length ∧ s.tmps 46 = I j ∧ s.tmps 45 = I w.length ∧ s.tmps 44 = .vs 1 (w.map I) c ∧ s.tmps 7 = I S ∧ s.tmps 0 = I T ∧ s.tmps 4 = .gsl 1 1 w.length 0 w.length ∧ s.tmps 10 = I (T - SUMI (SHQ T S (w.take j))) ∧ s.tmps 11 = QG j ∧
      s.H.rows 1 = some (.gro 1 ((PADZ (SHQ T S (w.take j)) w.length).map I) 0) ∧ s.H.rows 2 = some (RW (QUO T S (w.take j))) ∧ s.defers = [] ∧ s.fid = 0)
    (fun s0 ex s => ex = .exit 2 ∧ s.tmps 10 = I (T - SUMI (SHQ T S w)) ∧ s.tmps 11 = QG w.length ∧ s.tmps 4 = .gsl 1 1 w.length 0 w.length ∧ s.H.rows 1 = some (.gro 1 ((SHQ T S w).map I) 0) ∧ s.H.rows 2 = some (RW (QUO T S w)) ∧ s.defers = [] ∧ s.fid = 0) 0
    (by simp (config := { maxSteps := 1000000 }) only [RUN, PATHS, BASE, FA, POL, start_tm, Heap.empty, reduceIte, Nat.reduceLT, Nat.reduceLeDiff, Nat.reduceEqDiff, Nat.reduceAdd, Nat.reduceSub, Nat.reduceMul, Nat.reduceBEq, Int.reduceLT, Int.reduceLE, Int.reduceEq, Int.reduceNeg, Int.reduceAdd, Int.reduceSub, Int.reduceMul, Bool.false_eq_true, Bool.not_true, Bool.not_false, decide_eq_true_eq, and_self, true_and, and_true, reduceCtorEq, ne_eq, not_false_eq_true, not_true_eq_false, decide_true, decide_false, or_false, false_or, List.take_zero, r1, nx, h0', h4]
        refine ⟨Nat.zero_le _, rfl, ?_, ?_, ?_, ?_⟩
        · exact h7
        · simp [SHQ, SUMI]
        · rw [hZ]; rfl
        · simp [QUO, QUOF]) (by
      rintro j s r hW ⟨hj, h46, h45, h44, h7, h0', h4, h10, h11, r1, r2, hd, hf⟩
      by_cases hp : j < w.length
      · have e0 : w[j]? = some w[j] := List.getElem?_eq_getElem hp
        have e1 := map_get (f := I) e0
        have sq := SHQ_take (T := T) (S := S) e0
        have qq := QUO_take (T := T) (S := S) e0
        have b1 := SHQ_take_sum hT S0 hS hw (j + 1)
        have b0 := SHQ_take_sum hT S0 hS hw j
        have okx := hw _ (List.mem_of_getElem? e0)
        unfold OKL at okx
        have ls : (SHQ T S (w.take j)).length = j := by rw [SHQ_len, List.length_take]; omega
        have p1 := PADZ_at (q := SHQ T S (w.take j)) (n := w.length) (by omega)
        have p2 := PADZ_set (q := SHQ T S (w.take j)) (n := w.length) (T * w[j] / S) (by omega)
        have p3 := PADZ_len (q := SHQ T S (w.take j)) (n := w.length) (by omega)
        rw [ls] at p1 p2
        rw [← sq] at p2
        have lq : (QUO T S (w.take j)).length = j := by rw [QUO_len, List.length_take]; omega
        rw [sq, SUMI_app] at b1
        have xq : SUMI [T * w[j] / S] = T * w[j] / S := by simp [SUMI]
        rw [xq] at b1
        have q0 : 0 ≤ T * w[j] / S := Int.ediv_nonneg (Int.mul_nonneg hT.1 okx.1) (by omega)
        generalize w[j] = x at *
        obtain ⟨t, rfl⟩ := Int.eq_ofNat_of_zero_le hT.1
        obtain ⟨v, rfl⟩ := Int.eq_ofNat_of_zero_le okx.1
        obtain ⟨S', rfl⟩ := Int.eq_ofNat_of_zero_le (show 0 ≤ S by omega)
        have cm := c_mul64 t v (by omega) (by omega)
        have tv : t * v ≤ 1099511627776 * 1073741824 := Nat.mul_le_mul (by omega) (by omega)
        have hov : t * v / 18446744073709551616 < S' := by
          have a1 : v ≤ S' := by
            have e1' := SUMI_take e0
            have b0' := (SUM_take_le hw j).1
            have e : SUMI w = SUMI (w.take (j + 1)) + SUMI (w.drop (j + 1)) := by rw [← SUMI_app, List.take_append_drop]
            have := (SUMI_bounds (a := 0) (b := 1073741824) (w.drop (j + 1)) (fun x hx => hw x (List.mem_of_mem_drop hx))).1
            omega
          have a2 : t * v ≤ 1099511627776 * v := Nat.mul_le_mul_right _ (by omega)
          omega
        have cd := c_div64 (t * v / 18446744073709551616) (t * v % 18446744073709551616) S' hov (by omega) (by omega)
        rw [show t * v / 18446744073709551616 * 18446744073709551616 + t * v % 18446744073709551616 = t * v by omega] at cd
        have k1 : ((t * v / S' : Nat) : Int) = (t : Int) * v / S' := by simp
        have k2 : ((t * v % S' : Nat) : Int) = (t : Int) * v % S' := by simp
        rw [k1, k2] at cd
        generalize hqq : (t : Int) * v / S' = Q at *
        generalize hrr : (t : Int) * v % S' = R at *
        obtain ⟨P, hP⟩ : ∃ P, P = PADZ (SHQ t S' (w.take j)) w.length := ⟨_, rfl⟩
        rw [← hP] at p1 p2 p3 r1
        have p2' := mapI_set P j Q
        rw [p2] at p2'
        have p1' := map_get (f := I) p1
        have pq : ((P.map I).set j (I Q))[j]? = some (I Q) := by
          rw [List.getElem?_set_self]; simpa [p3] using hp
        simp (config := { maxSteps := 1000000 }) only [RUN, PATHS, BASE, FA, POL, start_tm, Heap.empty, reduceIte, Nat.reduceLT, Nat.reduceLeDiff, Nat.reduceEqDiff, Nat.reduceAdd, Nat.reduceSub, Nat.reduceMul, Nat.reduceBEq, Int.reduceLT, Int.reduceLE, Int.reduceEq, Int.reduceNeg, Int.reduceAdd, Int.reduceSub, Int.reduceMul, Bool.false_eq_true, Bool.not_true, Bool.not_false, decide_eq_true_eq, and_self, true_and, and_true, reduceCtorEq, ne_eq, not_false_eq_true, not_true_eq_false, decide_true, decide_false, or_false, false_or, NUM, h46, h45, h44, h7, h0', h4, h10, h11, hd, hf, r1, r2, e1, cm, cd, p1', p3, lq, pq, List.length_map, List.length_set, Int.toNat_natCast, (show (j : Int) < w.length by omega), (show (0 : Int) ≤ j by omega), i64_in (x := (j : Int) + 1) (by unfold I64; omega), u64_in (x := (t : Int)) (by unfold U64; omega), u64_in (x := (v : Int)) (by unfold U64; omega), u64_in (x := (S' : Int)) (by unfold U64; omega), Nat.zero_add, Nat.zero_le, i64_in (x := Q) (by unfold I64; omega), i64_in (x := (t : Int) - SUMI (SHQ t S' (w.take j)) - Q) (by unfold I64; omega), (show j + 1 ≤ 67108864 by omega)] at hW
        subst hW
        refine rd_next (j + 1) ?_ (show w.length - (j + 1) < w.length - j by omega)
        simp (config := { maxSteps := 1000000 }) only [RUN, PATHS, BASE, FA, POL, start_tm, Heap.empty, reduceIte, Nat.reduceLT, Nat.reduceLeDiff, Nat.reduceEqDiff, Nat.reduceAdd, Nat.reduceSub, Nat.reduceMul, Nat.reduceBEq, Int.reduceLT, Int.reduceLE, Int.reduceEq, Int.reduceNeg, Int.reduceAdd, Int.reduceSub, Int.reduceMul, Bool.false_eq_true, Bool.not_true, Bool.not_false, decide_eq_true_eq, and_self, true_and, and_true, reduceCtorEq, ne_eq, not_false_eq_true, not_true_eq_false, decide_true, decide_false, or_false, false_or, h45, h44, h7, h0', h4, p2', sq, SUMI_app, SUMI, Int.add_zero, qq, Int.sub_sub]
        exact ⟨by omega, by simp, by simp⟩
      · simp (config := { maxSteps := 1000000 }) only [RUN, PATHS, BASE, FA, POL, start_tm, Heap.empty, reduceIte, Nat.reduceLT, Nat.reduceLeDiff, Nat.reduceEqDiff, Nat.reduceAdd, Nat.reduceSub, Nat.reduceMul, Nat.reduceBEq, Int.reduceLT, Int.reduceLE, Int.reduceEq, Int.reduceNeg, Int.reduceAdd, Int.reduceSub, Int.reduceMul, Bool.false_eq_true, Bool.not_true, Bool.not_false, decide_eq_true_eq, and_self, true_and, and_true, reduceCtorEq, ne_eq, not_false_eq_true, not_true_eq_false, decide_true, decide_false, or_false, false_or, h46, h45, hd, hf, (show ¬ (j : Int) < w.length by omega)] at hW
        subst hW
        have : j = w.length := by omega
        subst this
        rw [List.take_length] at h10 r1 r2
        refine rd_exit ⟨rfl, ?_⟩
        simp (config := { maxSteps := 1000000 }) only [RUN, PATHS, BASE, FA, POL, start_tm, Heap.empty, reduceIte, Nat.reduceLT, Nat.reduceLeDiff, Nat.reduceEqDiff, Nat.reduceAdd, Nat.reduceSub, Nat.reduceMul, Nat.reduceBEq, Int.reduceLT, Int.reduceLE, Int.reduceEq, Int.reduceNeg, Int.reduceAdd, Int.reduceSub, Int.reduceMul, Bool.false_eq_true, Bool.not_true, Bool.not_false, decide_eq_true_eq, and_self, true_and, and_true, reduceCtorEq, ne_eq, not_false_eq_true, not_true_eq_false, decide_true, decide_false, or_false, false_or, h10, h11, h4, r1, r2]
        simp [PADZ, SHQ])
  obtain ⟨left, hlf⟩ := Int.eq_ofNat_of_zero_le (show 0 ≤ T - SUMI (SHQ T S w) by
    have := (SHQ_take_sum hT S0 hS hw w.length).2
    rw [List.take_length] at this; omega)
  obtain ⟨M, pm, qs, k, cs, hk⟩ := c_sort (QUO T S w) w.length (OWN_quo T S w) (QUO_len T S w).symm (by omega) s2.H q2
  have hs : SHA T S w M left := ⟨pm, qs, hlf.symm⟩
  have lM := hs.len
  have ll := hs.left_le hS S0
  subst hS
  refine ⟨M, left, hs, ?_⟩
  rw [hlf] at h10
  have lq : (SHQ T (SUMI w) w).length = w.length := SHQ_len
  have lo := hs.out_len
  have ki := hs.k_in
  have ot : hs.out = BMP ((M.take left).map Qu.ix) (SHQ T (SUMI w) w) := rfl
  have kd : hs.K = (M.take left).map Qu.ix := rfl
  rw [kd] at ki
  rw [ot] at lo ⊢
  rcases Nat.eq_zero_or_pos left with l0 | l0
  · subst l0
    simp (config := { maxSteps := 1000000 }) only [RUN, PATHS, BASE, FA, POL, start_tm, Heap.empty, reduceIte, Nat.reduceLT, Nat.reduceLeDiff, Nat.reduceEqDiff, Nat.reduceAdd, Nat.reduceSub, Nat.reduceMul, Nat.reduceBEq, Int.reduceLT, Int.reduceLE, Int.reduceEq, Int.reduceNeg, Int.reduceAdd, Int.reduceSub, Int.reduceMul, Bool.false_eq_true, Bool.not_true, Bool.not_false, decide_eq_true_eq, and_self, true_and, and_true, reduceCtorEq, ne_eq, not_false_eq_true, not_true_eq_false, decide_true, decide_false, or_false, false_or, NUM, SIN, SQU, h10, h11, h4, q1, hd, hf, cs, WW_loop, lq, Int.natCast_zero, List.length_map, Int.toNat_natCast, Nat.zero_add, Nat.le_refl, (show (0 : Int) ≤ w.length by omega)]
    rw [List.take_of_length_le (by simp [lq]), SIN.2.2.1]; rfl
  simp (config := { maxSteps := 1000000 }) only [RUN, PATHS, BASE, FA, POL, start_tm, Heap.empty, reduceIte, Nat.reduceLT, Nat.reduceLeDiff, Nat.reduceEqDiff, Nat.reduceAdd, Nat.reduceSub, Nat.reduceMul, Nat.reduceBEq, Int.reduceLT, Int.reduceLE, Int.reduceEq, Int.reduceNeg, Int.reduceAdd, Int.reduceSub, Int.reduceMul, Bool.false_eq_true, Bool.not_true, Bool.not_false, decide_eq_true_eq, and_self, true_and, and_true, reduceCtorEq, ne_eq, not_false_eq_true, not_true_eq_false, decide_true, decide_false, or_false, false_or, NUM, SIN, SQU, h10, h11, h4, q1, hd, hf, cs, lq, List.length_map, Int.sub_zero, Int.toNat_natCast, Nat.zero_add, Nat.le_refl, (show (0 : Int) ≤ (left : Int) by omega), (show (left : Int) ≤ w.length by omega), (show ¬ (0 : Int) = left by omega)]
  clear hL
  generalize hL : W _ (.loop _) _ = L
  obtain ⟨ex, s3, rfl, rfl, h4, q1, hd⟩ := loop_at hL (α := Nat) (fun j => left - j)
    (fun s0 j s => j ≤ left ∧ s.tmps 91 = I j ∧ s.tmps 90 = I left ∧ s.tmps 89 = .gsl 2 2 w.length 0 left ∧ s.tmps 4 = .gsl 1 1 w.length 0 w.length ∧
      s.H.rows 1 = some (.gro 1 ((BMP ((M.take j).map Qu.ix) (SHQ T (SUMI w) w)).map I) 0) ∧ s.H.rows 2 = some (RW M) ∧ s.defers = [] ∧ s.fid = 0)
    (fun s0 ex s => ex = .exit 4 ∧ s.tmps 4 = .gsl 1 1 w.length 0 w.length ∧ s.H.rows 1 = some (.gro 1 ((BMP ((M.take left).map Qu.ix) (SHQ T (SUMI w) w)).map I) 0) ∧ s.defers = []) 0
    (by simp (config := { maxSteps := 1000000 }) only [RUN, PATHS, BASE, FA, POL, start_tm, Heap.empty, reduceIte, Nat.reduceLT, Nat.reduceLeDiff, Nat.reduceEqDiff, Nat.reduceAdd, Nat.reduceSub, Nat.reduceMul, Nat.reduceBEq, Int.reduceLT, Int.reduceLE, Int.reduceEq, Int.reduceNeg, Int.reduceAdd, Int.reduceSub, Int.reduceMul, Bool.false_eq_true, Bool.not_true, Bool.not_false, decide_eq_true_eq, and_self, true_and, and_true, reduceCtorEq, ne_eq, not_false_eq_true, not_true_eq_false, decide_true, decide_false, or_false, false_or, List.take_zero, q1, h4]
        exact ⟨Nat.zero_le _, rfl, rfl⟩) (by
      rintro j s r hW ⟨hj, h91, h90, h89, h4, r1, r2, hd, hf⟩
      by_cases hp : j < left
      · have e0 : M[j]? = some (M[j]'(by omega)) := List.getElem?_eq_getElem _
        have e1 := mget e0
        have tk : (M.take (j + 1)).map Qu.ix = (M.take j).map Qu.ix ++ [(M[j]'(by omega)).ix] := by rw [List.take_add_one, e0, List.map_append]; rfl
        have hm : (M[j]'(by omega)).ix ∈ (M.take left).map Qu.ix := List.mem_map.2 ⟨_, List.mem_iff_getElem?.2 ⟨j, by rw [List.getElem?_take, if_pos hp]; exact e0⟩, rfl⟩
        have kx := ki _ hm
        generalize (M[j]'(by omega)) = x at *
        obtain ⟨a, ea⟩ := Int.eq_ofNat_of_zero_le kx.1
        obtain ⟨B, hB⟩ : ∃ B, B = BMP ((M.take j).map Qu.ix) (SHQ T (SUMI w) w) := ⟨_, rfl⟩
        have lB : B.length = w.length := by rw [hB, BMP_len, lq]
        have bs : BMP ((M.take (j + 1)).map Qu.ix) (SHQ T (SUMI w) w) = BMP1 B x.ix := by rw [tk, BMP_snoc, ← hB]
        rw [← hB] at r1
        have b0 : B[a]? = some (B[a]'(by omega)) := List.getElem?_eq_getElem _
        have bb : 0 ≤ B[a]'(by omega) ∧ B[a]'(by omega) ≤ 1099511627776 + 1 := by
          have sb : ((M.take j).map Qu.ix).Sublist ((M.take left).map Qu.ix) := by
            rw [show M.take j = (M.take left).take j by rw [List.take_take, Nat.min_eq_left (by omega)]]
            exact (List.take_sublist _ _).map _
          have wa : w[a]? = some (w[a]'(by omega)) := List.getElem?_eq_getElem _
          have sq : (SHQ T (SUMI w) w)[a]? = some (T * w[a]'(by omega) / SUMI w) := by simp [SHQ, wa]
          have bg := BMP_get a _ ((M.take j).map Qu.ix) _ (hs.k_nodup.sublist sb) (fun k hk => (ki k (sb.subset hk)).1) sq
          rw [← hB, b0] at bg
          have okx := hw _ (List.mem_of_getElem? wa)
          unfold OKL at okx
          have q0 : 0 ≤ T * w[a]'(by omega) / SUMI w := Int.ediv_nonneg (Int.mul_nonneg hT.1 okx.1) (by omega)
          have wS : w[a]'(by omega) ≤ SUMI w := by
            have e1' := SUMI_take wa
            have b0' := (SUM_take_le hw a).1
            have e : SUMI w = SUMI (w.take (a + 1)) + SUMI (w.drop (a + 1)) := by rw [← SUMI_app, List.take_append_drop]
            have := (SUMI_bounds (a := 0) (b := 1073741824) (w.drop (a + 1)) (fun x hx => hw x (List.mem_of_mem_drop hx))).1
            omega
          have q1 : T * w[a]'(by omega) / SUMI w ≤ T := Int.ediv_le_of_le_mul S0 (Int.mul_le_mul_of_nonneg_left wS hT.1)
          injection bg with bg
          rw [bg]
          split <;> omega
        have b1 : BMP1 B x.ix = B.set a (B[a]'(by omega) + 1) := by
          rw [BMP1, ea, Int.toNat_natCast, List.getD_eq_getElem?_getD, b0]; rfl
        generalize B[a]'(by omega) = y at *
        have b2 := map_get (f := I) b0
        have ms := mapI_set B a (y + 1)
        rcases hbx : s.boxes 19 with _ | ⟨ver, cs⟩
        · simp (config := { maxSteps := 1000000 }) only [RUN, PATHS, BASE, FA, POL, start_tm, Heap.empty, reduceIte, Nat.reduceLT, Nat.reduceLeDiff, Nat.reduceEqDiff, Nat.reduceAdd, Nat.reduceSub, Nat.reduceMul, Nat.reduceBEq, Int.reduceLT, Int.reduceLE, Int.reduceEq, Int.reduceNeg, Int.reduceAdd, Int.reduceSub, Int.reduceMul, Bool.false_eq_true, Bool.not_true, Bool.not_false, decide_eq_true_eq, and_self, true_and, and_true, reduceCtorEq, ne_eq, not_false_eq_true, not_true_eq_false, decide_true, decide_false, or_false, false_or, NUM, SIN, SQU, h91, h90, h89, h4, r1, r2, hd, hf, hbx, e1, ea, lB, lM, b2, List.length_map, Int.toNat_natCast, Nat.zero_add, Nat.zero_le, (show (j : Int) < left by omega), (show (0 : Int) ≤ j by omega), (show (0 : Int) ≤ a by omega), (show (a : Int) < w.length by omega), i64_in (x := y + 1) (by unfold I64; omega), i64_in (x := (j : Int) + 1) (by unfold I64; omega)] at hW
          subst hW
          refine rd_next (j + 1) ?_ (show left - (j + 1) < left - j by omega)
          simp (config := { maxSteps := 1000000 }) only [RUN, PATHS, BASE, FA, POL, start_tm, Heap.empty, reduceIte, Nat.reduceLT, Nat.reduceLeDiff, Nat.reduceEqDiff, Nat.reduceAdd, Nat.reduceSub, Nat.reduceMul, Nat.reduceBEq, Int.reduceLT, Int.reduceLE, Int.reduceEq, Int.reduceNeg, Int.reduceAdd, Int.reduceSub, Int.reduceMul, Bool.false_eq_true, Bool.not_true, Bool.not_false, decide_eq_true_eq, and_self, true_and, and_true, reduceCtorEq, ne_eq, not_false_eq_true, not_true_eq_false, decide_true, decide_false, or_false, false_or, h90, h89, h4, bs, b1, ms, r2]
          exact ⟨by omega, by simp⟩
        · simp (config := { maxSteps := 1000000 }) only [RUN, PATHS, BASE, FA, POL, start_tm, Heap.empty, reduceIte, Nat.reduceLT, Nat.reduceLeDiff, Nat.reduceEqDiff, Nat.reduceAdd, Nat.reduceSub, Nat.reduceMul, Nat.reduceBEq, Int.reduceLT, Int.reduceLE, Int.reduceEq, Int.reduceNeg, Int.reduceAdd, Int.reduceSub, Int.reduceMul, Bool.false_eq_true, Bool.not_true, Bool.not_false, decide_eq_true_eq, and_self, true_and, and_true, reduceCtorEq, ne_eq, not_false_eq_true, not_true_eq_false, decide_true, decide_false, or_false, false_or, NUM, SIN, SQU, h91, h90, h89, h4, r1, r2, hd, hf, hbx, e1, ea, lB, lM, b2, List.length_map, Int.toNat_natCast, Nat.zero_add, Nat.zero_le, (show (j : Int) < left by omega), (show (0 : Int) ≤ j by omega), (show (0 : Int) ≤ a by omega), (show (a : Int) < w.length by omega), i64_in (x := y + 1) (by unfold I64; omega), i64_in (x := (j : Int) + 1) (by unfold I64; omega)] at hW
          subst hW
          refine rd_next (j + 1) ?_ (show left - (j + 1) < left - j by omega)
          simp (config := { maxSteps := 1000000 }) only [RUN, PATHS, BASE, FA, POL, start_tm, Heap.empty, reduceIte, Nat.reduceLT, Nat.reduceLeDiff, Nat.reduceEqDiff, Nat.reduceAdd, Nat.reduceSub, Nat.reduceMul, Nat.reduceBEq, Int.reduceLT, Int.reduceLE, Int.reduceEq, Int.reduceNeg, Int.reduceAdd, Int.reduceSub, Int.reduceMul, Bool.false_eq_true, Bool.not_true, Bool.not_false, decide_eq_true_eq, and_self, true_and, and_true, reduceCtorEq, ne_eq, not_false_eq_true, not_true_eq_false, decide_true, decide_false, or_false, false_or, h90, h89, h4, bs, b1, ms, r2]
          exact ⟨by omega, by simp⟩
      · simp (config := { maxSteps := 1000000 }) only [RUN, PATHS, BASE, FA, POL, start_tm, Heap.empty, reduceIte, Nat.reduceLT, Nat.reduceLeDiff, Nat.reduceEqDiff, Nat.reduceAdd, Nat.reduceSub, Nat.reduceMul, Nat.reduceBEq, Int.reduceLT, Int.reduceLE, Int.reduceEq, Int.reduceNeg, Int.reduceAdd, Int.reduceSub, Int.reduceMul, Bool.false_eq_true, Bool.not_true, Bool.not_false, decide_eq_true_eq, and_self, true_and, and_true, reduceCtorEq, ne_eq, not_false_eq_true, not_true_eq_false, decide_true, decide_false, or_false, false_or, h91, h90, hd, hf, (show ¬ (j : Int) < left by omega)] at hW
        subst hW
        have : j = left := by omega
        subst this
        refine rd_exit ⟨rfl, ?_⟩
        simp (config := { maxSteps := 1000000 }) only [RUN, PATHS, BASE, FA, POL, start_tm, Heap.empty, reduceIte, Nat.reduceLT, Nat.reduceLeDiff, Nat.reduceEqDiff, Nat.reduceAdd, Nat.reduceSub, Nat.reduceMul, Nat.reduceBEq, Int.reduceLT, Int.reduceLE, Int.reduceEq, Int.reduceNeg, Int.reduceAdd, Int.reduceSub, Int.reduceMul, Bool.false_eq_true, Bool.not_true, Bool.not_false, decide_eq_true_eq, and_self, true_and, and_true, reduceCtorEq, ne_eq, not_false_eq_true, not_true_eq_false, decide_true, decide_false, or_false, false_or, h4, r1])
  simp (config := { maxSteps := 1000000 }) only [RUN, PATHS, BASE, FA, POL, start_tm, Heap.empty, reduceIte, Nat.reduceLT, Nat.reduceLeDiff, Nat.reduceEqDiff, Nat.reduceAdd, Nat.reduceSub, Nat.reduceMul, Nat.reduceBEq, Int.reduceLT, Int.reduceLE, Int.reduceEq, Int.reduceNeg, Int.reduceAdd, Int.reduceSub, Int.reduceMul, Bool.false_eq_true, Bool.not_true, Bool.not_false, decide_eq_true_eq, and_self, true_and, and_true, reduceCtorEq, ne_eq, not_false_eq_true, not_true_eq_false, decide_true, decide_false, or_false, false_or, NUM, SIN, h4, q1, hd, lo, List.length_map, Nat.zero_add, Nat.le_refl]
  rw [List.take_of_length_le (by rw [List.length_map, lo]; exact Nat.le_refl _), SIN.2.2.1]
end Go.Proofs.Ytnabgahkdomeoaa
