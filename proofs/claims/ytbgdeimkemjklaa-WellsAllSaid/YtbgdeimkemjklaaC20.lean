/-
  What is returned: what the law computes.
-/
import Derived.Test.YtbgdeimkemjklaaC19
set_option linter.unusedSimpArgs false
set_option linter.unusedVariables false
set_option linter.unusedSectionVars false
namespace Go.Proofs.Ytbgdeimkemjklaa
open Go GoV
set_option maxRecDepth 100000

theorem KS_set {q : List Int} {m : Nat} (v : Int) (hm : m < q.length) : ∀ j, KS (q.set m v) j = KS q j + if m < j then v - q.getD m 0 else 0
  | 0 => by simp [KS_zero]
  | j + 1 => by
    rw [KS_succ, KS_succ, KS_set v hm j]
    simp only [List.getD_eq_getElem?_getD, List.getElem?_set]
    by_cases h1 : m = j
    · subst h1
      rw [if_pos rfl, if_pos hm, if_neg (by omega), if_pos (by omega)]
      simp; omega
    · rw [if_neg h1]
      by_cases h2 : m < j
      · rw [if_pos h2, if_pos (by omega)]; omega
      · rw [if_neg h2, if_neg (by omega)]; omega
theorem REP_own (u : List Int) : REP u (OWE u) = List.replicate u.length 0 := by
  apply List.ext_getElem
  · simp [REP]
  · intro i h1 h2
    simp only [REP, List.getElem_map, List.getElem_range, REPf, List.getElem_replicate]
    have hi : i < u.length := by simpa [REP] using h1
    rw [KS_OWE u (i + 1) (by omega), PRV_succ]; omega
theorem OWE_LIT {d : Int} {k p : List Int} (h : BD d k p) : LIT (OWE (UNT d k p)) := by
  intro x hx
  simp only [OWE, List.mem_map] at hx
  obtain ⟨i, hi, rfl⟩ := hx
  rw [List.mem_range, UNT_len] at hi
  exact OWEf_bd h i hi
theorem REP_getE {u r : List Int} {i : Nat} (hi : i < u.length) : (REP u r)[i]? = some (REPf u r i) := by simp [REP, hi]
theorem w_paid (f r d : Int) (k p q : List Int) (n x : Int) (hn : 0 ≤ n ∧ n ≤ 255) (hx : 0 ≤ x ∧ x ≤ 65535) (hqi : ∀ y ∈ q, I64 y) : ap Try.prog pol 8 [well f r d k none, ints p none, ints q none, .int .u8 n, .int .u16 x] = some (.ret (.bool true)) := by
  rw [ap_eq _ Try.func8 rfl Try.ntmps8 Try.results8 (by kernel_rfl) rfl (by exact Nat.le_of_ble_eq_true rfl)]
  by_cases hf : FEW k p
  rotate_left
  · simp (config := { maxSteps := 1000000 }) only [RUN, PATHS, BASE, FA, POL, start_tm, Heap.empty, reduceIte, Nat.reduceLT, Nat.reduceLeDiff, Nat.reduceEqDiff, Nat.reduceAdd, Nat.reduceSub, Nat.reduceMul, Nat.reduceBEq, Int.reduceLT, Int.reduceLE, Int.reduceEq, Int.reduceNeg, Int.reduceAdd, Int.reduceSub, Int.reduceMul, Bool.false_eq_true, Bool.not_true, Bool.not_false, decide_eq_true_eq, and_self, true_and, and_true, reduceCtorEq, ne_eq, not_false_eq_true, not_true_eq_false, decide_true, decide_false, or_false, false_or, INTS, c_sane, c_few, hf]
  have hk : k.length ≤ 1000000 := by unfold FEW at hf; omega
  have hp : p.length ≤ 1000000 := by unfold FEW at hf; omega
  by_cases h0 : CHK f r d k p = 0
  rotate_left
  · simp (config := { maxSteps := 1000000 }) only [RUN, PATHS, BASE, FA, POL, start_tm, Heap.empty, reduceIte, Nat.reduceLT, Nat.reduceLeDiff, Nat.reduceEqDiff, Nat.reduceAdd, Nat.reduceSub, Nat.reduceMul, Nat.reduceBEq, Int.reduceLT, Int.reduceLE, Int.reduceEq, Int.reduceNeg, Int.reduceAdd, Int.reduceSub, Int.reduceMul, Bool.false_eq_true, Bool.not_true, Bool.not_false, decide_eq_true_eq, and_self, true_and, and_true, reduceCtorEq, ne_eq, not_false_eq_true, not_true_eq_false, decide_true, decide_false, or_false, false_or, INTS, NUM, c_sane, c_few, hf, h0, c_owed f r d k p none none hk hp]
  have bd := BD_of h0
  have bd' := bd
  obtain ⟨d1, d2, k0, k1, kn, ks, p1, pl⟩ := bd'
  have hD := DAYS_le bd
  have hl : (OWE (UNT d k p)).length = DAYS k p := by rw [OWE_len, UNT_len]
  have ul : (UNT d k p).length = DAYS k p := UNT_len d k p
  have ol := OWE_LIT bd
  have rp := c_repaid f r d k p (OWE (UNT d k p)) none none none hk hp
  rw [if_pos h0, if_pos ⟨hl, ol⟩, REP_own, ul] at rp
  have rp' := c_repaid f r d k p q none none none hk hp
  rw [if_pos h0] at rp'
  simp (config := { maxSteps := 1000000 }) only [RUN, PATHS, BASE, FA, POL, start_tm, Heap.empty, reduceIte, Nat.reduceLT, Nat.reduceLeDiff, Nat.reduceEqDiff, Nat.reduceAdd, Nat.reduceSub, Nat.reduceMul, Nat.reduceBEq, Int.reduceLT, Int.reduceLE, Int.reduceEq, Int.reduceNeg, Int.reduceAdd, Int.reduceSub, Int.reduceMul, Bool.false_eq_true, Bool.not_true, Bool.not_false, decide_eq_true_eq, and_self, true_and, and_true, reduceCtorEq, ne_eq, not_false_eq_true, not_true_eq_false, decide_true, decide_false, or_false, false_or, INTS, NUM, SOFAR, c_sane, c_few, hf, h0, c_owed f r d k p none none hk hp, hl]
  generalize hL : W _ (.loop _) _ = L
  obtain ⟨ex, s, rfl, rfl, gH, g13, g11, g1, g2, g3, g4, g5, gb, gd, gf⟩ := loop_at hL (α := Nat) (fun j => DAYS k p - j)
    (fun s0 j s => j ≤ DAYS k p ∧ s.tmps 44 = I j ∧ s.tmps 43 = I (DAYS k p) ∧ s.tmps 42 = ints (OWE (UNT d k p)) none ∧ s.H = s0.H ∧ s.tmps 13 = .bool true ∧ s.tmps 11 = ints (OWE (UNT d k p)) none ∧ s.tmps 1 = ints p none ∧ s.tmps 2 = ints q none ∧ s.tmps 3 = .int .u8 n ∧ s.tmps 4 = .int .u16 x ∧ s.tmps 5 = .bptr 0 5 0 0 ∧ s.boxes 5 = some (0, [I f, I r, I d, ints k none]) ∧ s.defers = [] ∧ s.fid = 0)
    (fun s0 ex s => ex = .exit 0 ∧ s.H = s0.H ∧ s.tmps 13 = .bool true ∧ s.tmps 11 = ints (OWE (UNT d k p)) none ∧ s.tmps 1 = ints p none ∧ s.tmps 2 = ints q none ∧ s.tmps 3 = .int .u8 n ∧ s.tmps 4 = .int .u16 x ∧ s.tmps 5 = .bptr 0 5 0 0 ∧ s.boxes 5 = some (0, [I f, I r, I d, ints k none]) ∧ s.defers = [] ∧ s.fid = 0) 0
    (by simp (config := { maxSteps := 1000000 }) only [RUN, PATHS, BASE, FA, POL, start_tm, Heap.empty, reduceIte, Nat.reduceLT, Nat.reduceLeDiff, Nat.reduceEqDiff, Nat.reduceAdd, Nat.reduceSub, Nat.reduceMul, Nat.reduceBEq, Int.reduceLT, Int.reduceLE, Int.reduceEq, Int.reduceNeg, Int.reduceAdd, Int.reduceSub, Int.reduceMul, Bool.false_eq_true, Bool.not_true, Bool.not_false, decide_eq_true_eq, and_self, true_and, and_true, reduceCtorEq, ne_eq, not_false_eq_true, not_true_eq_false, decide_true, decide_false, or_false, false_or]; simp) (by
      rintro j s r0 hW ⟨hj, hi, hn, h42, hH, h13, h11, h1, h2, h3, h4, h5, hb, hd, hf⟩
      by_cases hp' : j < DAYS k p
      · have eb : ((OWE (UNT d k p)).map I)[j]? = some (I (OWEf (UNT d k p) j)) := by
          rw [List.getElem?_map, OWE_getE (by rw [UNT_len]; omega)]; rfl
        have b := OWEf_bd bd j hp'
        simp (config := { maxSteps := 1000000 }) only [RUN, PATHS, BASE, FA, POL, start_tm, Heap.empty, reduceIte, Nat.reduceLT, Nat.reduceLeDiff, Nat.reduceEqDiff, Nat.reduceAdd, Nat.reduceSub, Nat.reduceMul, Nat.reduceBEq, Int.reduceLT, Int.reduceLE, Int.reduceEq, Int.reduceNeg, Int.reduceAdd, Int.reduceSub, Int.reduceMul, Bool.false_eq_true, Bool.not_true, Bool.not_false, decide_eq_true_eq, and_self, true_and, and_true, reduceCtorEq, ne_eq, not_false_eq_true, not_true_eq_false, decide_true, decide_false, or_false, false_or, INTS, NUM, hi, hn, h42, hH, h13, h11, h1, h2, h3, h4, h5, hb, hd, hf, eb, Int.toNat_natCast, (show (j : Int) < DAYS k p by omega), (show (0 : Int) ≤ j by omega), b.1, b.2, (i64_in (x := (j : Int) + 1) (by unfold I64; omega)), hl] at hW
        subst hW
        refine rd_next (j + 1) ?_ (show DAYS k p - (j + 1) < DAYS k p - j by omega)
        simp (config := { maxSteps := 1000000 }) only [RUN, PATHS, BASE, FA, POL, start_tm, Heap.empty, reduceIte, Nat.reduceLT, Nat.reduceLeDiff, Nat.reduceEqDiff, Nat.reduceAdd, Nat.reduceSub, Nat.reduceMul, Nat.reduceBEq, Int.reduceLT, Int.reduceLE, Int.reduceEq, Int.reduceNeg, Int.reduceAdd, Int.reduceSub, Int.reduceMul, Bool.false_eq_true, Bool.not_true, Bool.not_false, decide_eq_true_eq, and_self, true_and, and_true, reduceCtorEq, ne_eq, not_false_eq_true, not_true_eq_false, decide_true, decide_false, or_false, false_or, hn, h42, hH, h11, h1, h2, h3, h4, h5, hb]
        exact ⟨by omega, by congr 1⟩
      · simp (config := { maxSteps := 1000000 }) only [RUN, PATHS, BASE, FA, POL, start_tm, Heap.empty, reduceIte, Nat.reduceLT, Nat.reduceLeDiff, Nat.reduceEqDiff, Nat.reduceAdd, Nat.reduceSub, Nat.reduceMul, Nat.reduceBEq, Int.reduceLT, Int.reduceLE, Int.reduceEq, Int.reduceNeg, Int.reduceAdd, Int.reduceSub, Int.reduceMul, Bool.false_eq_true, Bool.not_true, Bool.not_false, decide_eq_true_eq, and_self, true_and, and_true, reduceCtorEq, ne_eq, not_false_eq_true, not_true_eq_false, decide_true, decide_false, or_false, false_or, hi, hn, h42, hH, h13, h11, h1, h2, h3, h4, h5, hb, hd, hf, (show ¬ (j : Int) < DAYS k p by omega)] at hW
        subst hW
        refine rd_exit ⟨rfl, ?_⟩
        simp (config := { maxSteps := 1000000 }) only [RUN, PATHS, BASE, FA, POL, start_tm, Heap.empty, reduceIte, Nat.reduceLT, Nat.reduceLeDiff, Nat.reduceEqDiff, Nat.reduceAdd, Nat.reduceSub, Nat.reduceMul, Nat.reduceBEq, Int.reduceLT, Int.reduceLE, Int.reduceEq, Int.reduceNeg, Int.reduceAdd, Int.reduceSub, Int.reduceMul, Bool.false_eq_true, Bool.not_true, Bool.not_false, decide_eq_true_eq, and_self, true_and, and_true, reduceCtorEq, ne_eq, not_false_eq_true, not_true_eq_false, decide_true, decide_false, or_false, false_or, hH, h13, h11, h1, h2, h3, h4, h5, hb])
  clear hL
  simp (config := { maxSteps := 1000000 }) only [RUN, PATHS, BASE, FA, POL, start_tm, Heap.empty, reduceIte, Nat.reduceLT, Nat.reduceLeDiff, Nat.reduceEqDiff, Nat.reduceAdd, Nat.reduceSub, Nat.reduceMul, Nat.reduceBEq, Int.reduceLT, Int.reduceLE, Int.reduceEq, Int.reduceNeg, Int.reduceAdd, Int.reduceSub, Int.reduceMul, Bool.false_eq_true, Bool.not_true, Bool.not_false, decide_eq_true_eq, and_self, true_and, and_true, reduceCtorEq, ne_eq, not_false_eq_true, not_true_eq_false, decide_true, decide_false, or_false, false_or, INTS, NUM, SOFAR, gH, g13, g11, g1, g2, g3, g4, g5, gb, gd, gf, rp, hl, List.length_replicate]
  generalize hL : W _ (.loop _) _ = L
  obtain ⟨ex, s, rfl, rfl, gH, g11, g1, g2, g3, g4, g5, gb, gd, gf⟩ := loop_at hL (α := Nat) (fun j => DAYS k p - j)
    (fun s0 j s => j ≤ DAYS k p ∧ s.tmps 79 = I j ∧ s.tmps 78 = I (DAYS k p) ∧ s.tmps 77 = ints (List.replicate (DAYS k p) 0) none ∧ s.H = s0.H ∧ s.tmps 11 = ints (OWE (UNT d k p)) none ∧ s.tmps 1 = ints p none ∧ s.tmps 2 = ints q none ∧ s.tmps 3 = .int .u8 n ∧ s.tmps 4 = .int .u16 x ∧ s.tmps 5 = .bptr 0 5 0 0 ∧ s.boxes 5 = some (0, [I f, I r, I d, ints k none]) ∧ s.defers = [] ∧ s.fid = 0)
    (fun s0 ex s => ex = .exit 2 ∧ s.H = s0.H ∧ s.tmps 11 = ints (OWE (UNT d k p)) none ∧ s.tmps 1 = ints p none ∧ s.tmps 2 = ints q none ∧ s.tmps 3 = .int .u8 n ∧ s.tmps 4 = .int .u16 x ∧ s.tmps 5 = .bptr 0 5 0 0 ∧ s.boxes 5 = some (0, [I f, I r, I d, ints k none]) ∧ s.defers = [] ∧ s.fid = 0) 0
    (by simp (config := { maxSteps := 1000000 }) only [RUN, PATHS, BASE, FA, POL, start_tm, Heap.empty, reduceIte, Nat.reduceLT, Nat.reduceLeDiff, Nat.reduceEqDiff, Nat.reduceAdd, Nat.reduceSub, Nat.reduceMul, Nat.reduceBEq, Int.reduceLT, Int.reduceLE, Int.reduceEq, Int.reduceNeg, Int.reduceAdd, Int.reduceSub, Int.reduceMul, Bool.false_eq_true, Bool.not_true, Bool.not_false, decide_eq_true_eq, and_self, true_and, and_true, reduceCtorEq, ne_eq, not_false_eq_true, not_true_eq_false, decide_true, decide_false, or_false, false_or, gH, g11, g1, g2, g3, g4, g5, gb]; simp) (by
      rintro j s r0 hW ⟨hj, hi, hn, h42, hH, h11, h1, h2, h3, h4, h5, hb, hd, hf⟩
      by_cases hp' : j < DAYS k p
      · have eb : ((List.replicate (DAYS k p) (0 : Int)).map I)[j]? = some (I 0) := by simp [hp']
        simp (config := { maxSteps := 1000000 }) only [RUN, PATHS, BASE, FA, POL, start_tm, Heap.empty, reduceIte, Nat.reduceLT, Nat.reduceLeDiff, Nat.reduceEqDiff, Nat.reduceAdd, Nat.reduceSub, Nat.reduceMul, Nat.reduceBEq, Int.reduceLT, Int.reduceLE, Int.reduceEq, Int.reduceNeg, Int.reduceAdd, Int.reduceSub, Int.reduceMul, Bool.false_eq_true, Bool.not_true, Bool.not_false, decide_eq_true_eq, and_self, true_and, and_true, reduceCtorEq, ne_eq, not_false_eq_true, not_true_eq_false, decide_true, decide_false, or_false, false_or, INTS, NUM, hi, hn, h42, hH, h11, h1, h2, h3, h4, h5, hb, hd, hf, eb, Int.toNat_natCast, (show (j : Int) < DAYS k p by omega), (show (0 : Int) ≤ j by omega), (i64_in (x := (j : Int) + 1) (by unfold I64; omega)), List.length_replicate] at hW
        subst hW
        refine rd_next (j + 1) ?_ (show DAYS k p - (j + 1) < DAYS k p - j by omega)
        simp (config := { maxSteps := 1000000 }) only [RUN, PATHS, BASE, FA, POL, start_tm, Heap.empty, reduceIte, Nat.reduceLT, Nat.reduceLeDiff, Nat.reduceEqDiff, Nat.reduceAdd, Nat.reduceSub, Nat.reduceMul, Nat.reduceBEq, Int.reduceLT, Int.reduceLE, Int.reduceEq, Int.reduceNeg, Int.reduceAdd, Int.reduceSub, Int.reduceMul, Bool.false_eq_true, Bool.not_true, Bool.not_false, decide_eq_true_eq, and_self, true_and, and_true, reduceCtorEq, ne_eq, not_false_eq_true, not_true_eq_false, decide_true, decide_false, or_false, false_or, hn, h42, hH, h11, h1, h2, h3, h4, h5, hb]
        exact ⟨by omega, by congr 1⟩
      · simp (config := { maxSteps := 1000000 }) only [RUN, PATHS, BASE, FA, POL, start_tm, Heap.empty, reduceIte, Nat.reduceLT, Nat.reduceLeDiff, Nat.reduceEqDiff, Nat.reduceAdd, Nat.reduceSub, Nat.reduceMul, Nat.reduceBEq, Int.reduceLT, Int.reduceLE, Int.reduceEq, Int.reduceNeg, Int.reduceAdd, Int.reduceSub, Int.reduceMul, Bool.false_eq_true, Bool.not_true, Bool.not_false, decide_eq_true_eq, and_self, true_and, and_true, reduceCtorEq, ne_eq, not_false_eq_true, not_true_eq_false, decide_true, decide_false, or_false, false_or, hi, hn, h42, hH, h11, h1, h2, h3, h4, h5, hb, hd, hf, (show ¬ (j : Int) < DAYS k p by omega)] at hW
        subst hW
        refine rd_exit ⟨rfl, ?_⟩
        simp (config := { maxSteps := 1000000 }) only [RUN, PATHS, BASE, FA, POL, start_tm, Heap.empty, reduceIte, Nat.reduceLT, Nat.reduceLeDiff, Nat.reduceEqDiff, Nat.reduceAdd, Nat.reduceSub, Nat.reduceMul, Nat.reduceBEq, Int.reduceLT, Int.reduceLE, Int.reduceEq, Int.reduceNeg, Int.reduceAdd, Int.reduceSub, Int.reduceMul, Bool.false_eq_true, Bool.not_true, Bool.not_false, decide_eq_true_eq, and_self, true_and, and_true, reduceCtorEq, ne_eq, not_false_eq_true, not_true_eq_false, decide_true, decide_false, or_false, false_or, hH, h11, h1, h2, h3, h4, h5, hb])
  clear hL
  by_cases hq : q.length = DAYS k p ∧ LIT q
  rotate_left
  · rw [if_neg hq] at rp'
    simp (config := { maxSteps := 1000000 }) only [RUN, PATHS, BASE, FA, POL, start_tm, Heap.empty, reduceIte, Nat.reduceLT, Nat.reduceLeDiff, Nat.reduceEqDiff, Nat.reduceAdd, Nat.reduceSub, Nat.reduceMul, Nat.reduceBEq, Int.reduceLT, Int.reduceLE, Int.reduceEq, Int.reduceNeg, Int.reduceAdd, Int.reduceSub, Int.reduceMul, Bool.false_eq_true, Bool.not_true, Bool.not_false, decide_eq_true_eq, and_self, true_and, and_true, reduceCtorEq, ne_eq, not_false_eq_true, not_true_eq_false, decide_true, decide_false, or_false, false_or, INTS, NUM, SOFAR, gH, g11, g1, g2, g3, g4, g5, gb, gd, gf, rp', hl]
  rw [if_pos hq] at rp'
  have rl : (REP (UNT d k p) q).length = DAYS k p := by rw [REP_len, ul]
  by_cases hq0 : DAYS k p = 0
  · simp (config := { maxSteps := 1000000 }) only [RUN, PATHS, BASE, FA, POL, start_tm, Heap.empty, reduceIte, Nat.reduceLT, Nat.reduceLeDiff, Nat.reduceEqDiff, Nat.reduceAdd, Nat.reduceSub, Nat.reduceMul, Nat.reduceBEq, Int.reduceLT, Int.reduceLE, Int.reduceEq, Int.reduceNeg, Int.reduceAdd, Int.reduceSub, Int.reduceMul, Bool.false_eq_true, Bool.not_true, Bool.not_false, decide_eq_true_eq, and_self, true_and, and_true, reduceCtorEq, ne_eq, not_false_eq_true, not_true_eq_false, decide_true, decide_false, or_false, false_or, INTS, NUM, SOFAR, gH, g11, g1, g2, g3, g4, g5, gb, gd, gf, rp', hl, rl, hq.1, hq0, (show ((0 : Nat) : Int) = 0 from rfl)]
  obtain ⟨m, em, hm⟩ : ∃ m : Nat, n.tmod (DAYS k p : Int) = (m : Int) ∧ m < DAYS k p := by
    refine ⟨(n.tmod (DAYS k p : Int)).toNat, ?_, ?_⟩
    · rw [Int.toNat_of_nonneg (Int.tmod_nonneg _ hn.1)]
    · have := Int.tmod_lt_of_pos n (b := (DAYS k p : Int)) (by omega)
      have := Int.tmod_nonneg (DAYS k p : Int) hn.1
      omega
  have qe : (q.map I).isEmpty = false := by
    rw [List.isEmpty_map]; exact List.isEmpty_eq_false_iff.2 (fun h => by have := hq.1; rw [h] at this; simp at this; omega)
  have m0 : q[m]? = some (q[m]'(by omega)) := List.getElem?_eq_getElem (by omega)
  have m1 := ints_get m0
  have mg : q.getD m 0 = q[m] := by rw [List.getD_eq_getElem?_getD, m0]; rfl
  have mb := LIT_get hq.2 (show m < q.length by omega)
  simp (config := { maxSteps := 1000000 }) only [RUN, PATHS, BASE, FA, POL, start_tm, Heap.empty, reduceIte, Nat.reduceLT, Nat.reduceLeDiff, Nat.reduceEqDiff, Nat.reduceAdd, Nat.reduceSub, Nat.reduceMul, Nat.reduceBEq, Int.reduceLT, Int.reduceLE, Int.reduceEq, Int.reduceNeg, Int.reduceAdd, Int.reduceSub, Int.reduceMul, Bool.false_eq_true, Bool.not_true, Bool.not_false, decide_eq_true_eq, and_self, true_and, and_true, reduceCtorEq, ne_eq, not_false_eq_true, not_true_eq_false, decide_true, decide_false, or_false, false_or, INTS, NUM, SOFAR, FITS, gH, g11, g1, g2, g3, g4, g5, gb, gd, gf, rp', hl, rl, hq.1, hq0, em, qe, m1, Int.toNat_natCast, (show ¬ (DAYS k p : Int) = 0 by omega), (i64_in (x := n) (by unfold I64; omega)), (i64_in (x := x) (by unfold I64; omega)), (i64_in (x := (m : Int)) (by unfold I64; omega)), (show (m : Int) < DAYS k p by omega), (show (0 : Int) ≤ m by omega), (show DAYS k p ≤ 67108864 by omega), true_or, (i64_in (x := q[m]'(by omega) + x) (by unfold I64; omega))]
  have sm : List.set (List.map I q) m (PV.int .i64 (q[m]'(by omega) + x)) = (q.set m (q[m]'(by omega) + x)).map I := List.map_set.symm
  have tk : List.take (DAYS k p) ((q.set m (q[m]'(by omega) + x)).map I) = (q.set m (q[m]'(by omega) + x)).map I := List.take_of_length_le (by simp; omega)
  have hxl : q[m]'(by omega) + x = q.getD m 0 + x := by rw [mg]
  generalize ev : q[m]'(by omega) + x = v at *
  have sl : (q.set m v).length = DAYS k p := by rw [List.length_set]; exact hq.1
  have rp2 := c_repaid f r d k p (q.set m v) none none none hk hp
  rw [if_pos h0] at rp2
  have lv : LIT (q.set m v) ↔ v ≤ 1073741824 := by
    constructor
    · intro h
      have := h v (List.mem_iff_getElem?.2 ⟨m, by rw [List.getElem?_set]; simp; omega⟩)
      exact this.2
    · intro h y hy
      rcases List.mem_or_eq_of_mem_set hy with hy | rfl
      · exact hq.2 y hy
      · omega
  have rl2 : (REP (UNT d k p) (q.set m v)).length = DAYS k p := by rw [REP_len, ul]
  have sg : (q.set m v)[m]? = some v := by rw [List.getElem?_set]; simp; omega
  have sg1 := ints_get sg
  by_cases hv : v ≤ 1073741824
  rotate_left
  · rw [if_neg (fun h => hv (lv.1 h.2))] at rp2
    simp (config := { maxSteps := 1000000 }) only [RUN, PATHS, BASE, FA, POL, start_tm, Heap.empty, reduceIte, Nat.reduceLT, Nat.reduceLeDiff, Nat.reduceEqDiff, Nat.reduceAdd, Nat.reduceSub, Nat.reduceMul, Nat.reduceBEq, Int.reduceLT, Int.reduceLE, Int.reduceEq, Int.reduceNeg, Int.reduceAdd, Int.reduceSub, Int.reduceMul, Bool.false_eq_true, Bool.not_true, Bool.not_false, decide_eq_true_eq, and_self, true_and, and_true, reduceCtorEq, ne_eq, not_false_eq_true, not_true_eq_false, decide_true, decide_false, or_false, false_or, INTS, NUM, sm, tk, sl, rp2, sg1, hl, rl, Nat.zero_le, Nat.zero_add, Int.toNat_natCast, (show ¬ v ≤ 1073741824 from hv), (show 1073741824 < v by omega), (show (m : Int) < DAYS k p by omega), (show (0 : Int) ≤ m by omega)]
  rw [if_pos ⟨sl, lv.2 hv⟩] at rp2
  simp (config := { maxSteps := 1000000 }) only [RUN, PATHS, BASE, FA, POL, start_tm, Heap.empty, reduceIte, Nat.reduceLT, Nat.reduceLeDiff, Nat.reduceEqDiff, Nat.reduceAdd, Nat.reduceSub, Nat.reduceMul, Nat.reduceBEq, Int.reduceLT, Int.reduceLE, Int.reduceEq, Int.reduceNeg, Int.reduceAdd, Int.reduceSub, Int.reduceMul, Bool.false_eq_true, Bool.not_true, Bool.not_false, decide_eq_true_eq, and_self, true_and, and_true, reduceCtorEq, ne_eq, not_false_eq_true, not_true_eq_false, decide_true, decide_false, or_false, false_or, INTS, NUM, sm, tk, sl, rp2, hl, rl, rl2, Nat.zero_le, Nat.zero_add]
  generalize hL : W _ (.loop _) _ = L
  obtain ⟨ex, s, rfl, rfl, gd, gf⟩ := loop_at hL (α := Nat) (fun j => DAYS k p - j)
    (fun s0 j s => j ≤ DAYS k p ∧ s.tmps 150 = I j ∧ s.tmps 149 = I (DAYS k p) ∧ s.tmps 148 = ints (REP (UNT d k p) (q.set m v)) none ∧ s.tmps 20 = ints (REP (UNT d k p) q) none ∧ s.tmps 4 = .int .u16 x ∧ s.tmps 22 = I m ∧ s.defers = [] ∧ s.fid = 0)
    (fun s0 ex s => ex = .exit 4 ∧ s.defers = [] ∧ s.fid = 0) 0
    (by simp (config := { maxSteps := 1000000 }) only [RUN, PATHS, BASE, FA, POL, start_tm, Heap.empty, reduceIte, Nat.reduceLT, Nat.reduceLeDiff, Nat.reduceEqDiff, Nat.reduceAdd, Nat.reduceSub, Nat.reduceMul, Nat.reduceBEq, Int.reduceLT, Int.reduceLE, Int.reduceEq, Int.reduceNeg, Int.reduceAdd, Int.reduceSub, Int.reduceMul, Bool.false_eq_true, Bool.not_true, Bool.not_false, decide_eq_true_eq, and_self, true_and, and_true, reduceCtorEq, ne_eq, not_false_eq_true, not_true_eq_false, decide_true, decide_false, or_false, false_or, g4]; simp) (by
      rintro j s r0 hW ⟨hj, hi, hn, h148, h20, h4, h22, hd, hf⟩
      by_cases hp' : j < DAYS k p
      · have e1 : ((REP (UNT d k p) (q.set m v)).map I)[j]? = some (I (REPf (UNT d k p) (q.set m v) j)) := by
          rw [List.getElem?_map, REP_getE (by rw [ul]; omega)]; rfl
        have e2 : ((REP (UNT d k p) q).map I)[j]? = some (I (REPf (UNT d k p) q j)) := by
          rw [List.getElem?_map, REP_getE (by rw [ul]; omega)]; rfl
        have ks := KS_set (q := q) v (show m < q.length by omega) (j + 1)
        have b1 := UNT_bd bd j
        have b2 := KS_le q hq.2 (j + 1)
        have key : 0 ≤ REPf (UNT d k p) (q.set m v) j ∧ REPf (UNT d k p) (q.set m v) j ≤ REPf (UNT d k p) q j ∧ REPf (UNT d k p) q j - REPf (UNT d k p) (q.set m v) j ≤ x ∧ (j < m → REPf (UNT d k p) (q.set m v) j = REPf (UNT d k p) q j) ∧ REPf (UNT d k p) q j ≤ 450359962737049600 := by
          unfold REPf
          rw [ks]
          split <;> omega
        generalize REPf (UNT d k p) (q.set m v) j = a at *
        generalize REPf (UNT d k p) q j = b at *
        obtain ⟨k1, k2, k3, k4, k5⟩ := key
        by_cases hjm : j < m
        · have := k4 hjm
          subst this
          simp (config := { maxSteps := 1000000 }) only [RUN, PATHS, BASE, FA, POL, start_tm, Heap.empty, reduceIte, Nat.reduceLT, Nat.reduceLeDiff, Nat.reduceEqDiff, Nat.reduceAdd, Nat.reduceSub, Nat.reduceMul, Nat.reduceBEq, Int.reduceLT, Int.reduceLE, Int.reduceEq, Int.reduceNeg, Int.reduceAdd, Int.reduceSub, Int.reduceMul, Bool.false_eq_true, Bool.not_true, Bool.not_false, decide_eq_true_eq, and_self, true_and, and_true, reduceCtorEq, ne_eq, not_false_eq_true, not_true_eq_false, decide_true, decide_false, or_false, false_or, INTS, NUM, hi, hn, h148, h20, h4, h22, hd, hf, e1, e2, rl, rl2, Int.toNat_natCast, (show (j : Int) < m by omega), (show (j : Int) < DAYS k p by omega), (show (0 : Int) ≤ j by omega), (i64_in (x := (j : Int) + 1) (by unfold I64; omega)), (i64_in (x := x) (by unfold I64; omega)), (show ¬ a < 0 by omega), (show ¬ a < a by omega), Int.sub_self, (i64_in (x := 0) (by unfold I64; omega)), (show ¬ x < 0 by omega)] at hW
          subst hW
          refine rd_next (j + 1) ?_ (show DAYS k p - (j + 1) < DAYS k p - j by omega)
          simp (config := { maxSteps := 1000000 }) only [RUN, PATHS, BASE, FA, POL, start_tm, Heap.empty, reduceIte, Nat.reduceLT, Nat.reduceLeDiff, Nat.reduceEqDiff, Nat.reduceAdd, Nat.reduceSub, Nat.reduceMul, Nat.reduceBEq, Int.reduceLT, Int.reduceLE, Int.reduceEq, Int.reduceNeg, Int.reduceAdd, Int.reduceSub, Int.reduceMul, Bool.false_eq_true, Bool.not_true, Bool.not_false, decide_eq_true_eq, and_self, true_and, and_true, reduceCtorEq, ne_eq, not_false_eq_true, not_true_eq_false, decide_true, decide_false, or_false, false_or, hn, h148, h20, h4, h22]
          exact ⟨by omega, by congr 1⟩
        · simp (config := { maxSteps := 1000000 }) only [RUN, PATHS, BASE, FA, POL, start_tm, Heap.empty, reduceIte, Nat.reduceLT, Nat.reduceLeDiff, Nat.reduceEqDiff, Nat.reduceAdd, Nat.reduceSub, Nat.reduceMul, Nat.reduceBEq, Int.reduceLT, Int.reduceLE, Int.reduceEq, Int.reduceNeg, Int.reduceAdd, Int.reduceSub, Int.reduceMul, Bool.false_eq_true, Bool.not_true, Bool.not_false, decide_eq_true_eq, and_self, true_and, and_true, reduceCtorEq, ne_eq, not_false_eq_true, not_true_eq_false, decide_true, decide_false, or_false, false_or, INTS, NUM, hi, hn, h148, h20, h4, h22, hd, hf, e1, e2, rl, rl2, Int.toNat_natCast, (show ¬ (j : Int) < m by omega), (show (j : Int) < DAYS k p by omega), (show (0 : Int) ≤ j by omega), (i64_in (x := (j : Int) + 1) (by unfold I64; omega)), (i64_in (x := x) (by unfold I64; omega)), (i64_in (x := b - a) (by unfold I64; omega)), (show ¬ a < 0 by omega), (show ¬ b < a by omega), (show ¬ x < b - a by omega)] at hW
          subst hW
          refine rd_next (j + 1) ?_ (show DAYS k p - (j + 1) < DAYS k p - j by omega)
          simp (config := { maxSteps := 1000000 }) only [RUN, PATHS, BASE, FA, POL, start_tm, Heap.empty, reduceIte, Nat.reduceLT, Nat.reduceLeDiff, Nat.reduceEqDiff, Nat.reduceAdd, Nat.reduceSub, Nat.reduceMul, Nat.reduceBEq, Int.reduceLT, Int.reduceLE, Int.reduceEq, Int.reduceNeg, Int.reduceAdd, Int.reduceSub, Int.reduceMul, Bool.false_eq_true, Bool.not_true, Bool.not_false, decide_eq_true_eq, and_self, true_and, and_true, reduceCtorEq, ne_eq, not_false_eq_true, not_true_eq_false, decide_true, decide_false, or_false, false_or, hn, h148, h20, h4, h22]
          exact ⟨by omega, by congr 1⟩
      · simp (config := { maxSteps := 1000000 }) only [RUN, PATHS, BASE, FA, POL, start_tm, Heap.empty, reduceIte, Nat.reduceLT, Nat.reduceLeDiff, Nat.reduceEqDiff, Nat.reduceAdd, Nat.reduceSub, Nat.reduceMul, Nat.reduceBEq, Int.reduceLT, Int.reduceLE, Int.reduceEq, Int.reduceNeg, Int.reduceAdd, Int.reduceSub, Int.reduceMul, Bool.false_eq_true, Bool.not_true, Bool.not_false, decide_eq_true_eq, and_self, true_and, and_true, reduceCtorEq, ne_eq, not_false_eq_true, not_true_eq_false, decide_true, decide_false, or_false, false_or, hi, hn, h148, h20, h4, h22, hd, hf, (show ¬ (j : Int) < DAYS k p by omega)] at hW
        subst hW
        refine rd_exit ⟨rfl, ?_⟩
        simp (config := { maxSteps := 1000000 }) only [RUN, PATHS, BASE, FA, POL, start_tm, Heap.empty, reduceIte, Nat.reduceLT, Nat.reduceLeDiff, Nat.reduceEqDiff, Nat.reduceAdd, Nat.reduceSub, Nat.reduceMul, Nat.reduceBEq, Int.reduceLT, Int.reduceLE, Int.reduceEq, Int.reduceNeg, Int.reduceAdd, Int.reduceSub, Int.reduceMul, Bool.false_eq_true, Bool.not_true, Bool.not_false, decide_eq_true_eq, and_self, true_and, and_true, reduceCtorEq, ne_eq, not_false_eq_true, not_true_eq_false, decide_true, decide_false, or_false, false_or])
  simp (config := { maxSteps := 1000000 }) only [RUN, PATHS, BASE, FA, POL, start_tm, Heap.empty, reduceIte, Nat.reduceLT, Nat.reduceLeDiff, Nat.reduceEqDiff, Nat.reduceAdd, Nat.reduceSub, Nat.reduceMul, Nat.reduceBEq, Int.reduceLT, Int.reduceLE, Int.reduceEq, Int.reduceNeg, Int.reduceAdd, Int.reduceSub, Int.reduceMul, Bool.false_eq_true, Bool.not_true, Bool.not_false, decide_eq_true_eq, and_self, true_and, and_true, reduceCtorEq, ne_eq, not_false_eq_true, not_true_eq_false, decide_true, decide_false, or_false, false_or, gd, gf]
end Go.Proofs.Ytbgdeimkemjklaa
