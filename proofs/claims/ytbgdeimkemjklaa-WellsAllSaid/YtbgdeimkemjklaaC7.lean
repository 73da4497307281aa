/-
  The program's Owed and Repaid.
-/
import Derived.Test.YtbgdeimkemjklaaC6
set_option linter.unusedSimpArgs false
set_option linter.unusedVariables false
set_option linter.unusedSectionVars false
namespace Go.Proofs.Ytbgdeimkemjklaa
open Go GoV
set_option maxRecDepth 100000

theorem ints_UNT_get {d : Int} {k p : List Int} {j : Nat} (h : j < DAYS k p) : ((UNT d k p).map I)[j]? = some (I ((UNT d k p).getD j 0)) := by
  rw [UNT_get h]; simp [UNT, h]
theorem c_owed (f r d : Int) (k p : List Int) (c c' : Option Nat) (hk : k.length ≤ 1000000) (hp : p.length ≤ 1000000) : ap Try.prog pol 15 [well f r d k c, ints p c'] =
    some (.ret (if CHK f r d k p = 0 then .tup [ints (OWE (UNT d k p)) none, I 0] else .tup [ints [] none, I (CHK f r d k p)])) := by
  rw [ap_eq _ Try.func15 rfl Try.ntmps15 Try.results15 (by kernel_rfl) rfl (by exact Nat.le_of_ble_eq_true rfl)]
  by_cases h0 : CHK f r d k p = 0
  · have bd := BD_of h0
    have := bd.k0
    have hD := DAYS_le bd
    by_cases hp0 : p.length = 0
    · have e0 : DAYS k p = 0 := by simp [DAYS, hp0]
      have e1 : OWE (UNT d k p) = [] := by simp [OWE, UNT, e0]
      simp (config := { maxSteps := 1000000 }) only [RUN, PATHS, BASE, FA, POL, start_tm, Heap.empty, reduceIte, Nat.reduceLT, Nat.reduceLeDiff, Nat.reduceEqDiff, Nat.reduceAdd, Nat.reduceSub, Nat.reduceMul, Nat.reduceBEq, Int.reduceLT, Int.reduceLE, Int.reduceEq, Int.reduceNeg, Int.reduceAdd, Int.reduceSub, Int.reduceMul, Bool.false_eq_true, Bool.not_true, Bool.not_false, decide_eq_true_eq, and_self, true_and, and_true, reduceCtorEq, ne_eq, not_false_eq_true, not_true_eq_false, decide_true, decide_false, or_false, false_or, WW_loop, INTS, SOFAR, h0, c_wcheck f r d k p c c' hk hp, c_until f r d k p c c' bd, hp0, e1, isNils_gsl]
      simp
    · simp (config := { maxSteps := 1000000 }) only [RUN, PATHS, BASE, FA, POL, start_tm, Heap.empty, reduceIte, Nat.reduceLT, Nat.reduceLeDiff, Nat.reduceEqDiff, Nat.reduceAdd, Nat.reduceSub, Nat.reduceMul, Nat.reduceBEq, Int.reduceLT, Int.reduceLE, Int.reduceEq, Int.reduceNeg, Int.reduceAdd, Int.reduceSub, Int.reduceMul, Bool.false_eq_true, Bool.not_true, Bool.not_false, decide_eq_true_eq, and_self, true_and, and_true, reduceCtorEq, ne_eq, not_false_eq_true, not_true_eq_false, decide_true, decide_false, or_false, false_or, INTS, SOFAR, h0, c_wcheck f r d k p c c' hk hp, c_until f r d k p c c' bd, hp0, isNils_gsl, UNT_len]
      generalize hL : W _ (.loop _) _ = L
      obtain ⟨ex, s, rfl, rfl, h7, hr, hd, hf⟩ := loop_at hL (α := Nat) (fun j => DAYS k p - j)
        (fun s0 j s => j ≤ DAYS k p ∧ s.tmps 19 = I j ∧ s.tmps 18 = I (DAYS k p) ∧ s.tmps 17 = ints (UNT d k p) none ∧ s.tmps 6 = I (PRV (UNT d k p) j) ∧ s.tmps 4 = .gsl 1 1 j 0 j ∧ s.H.rows 1 = some (.gro 1 (sofar (OWEf (UNT d k p)) j) 0) ∧ s.defers = [] ∧ s.fid = 0)
        (fun s0 ex s => ex = .exit 0 ∧ s.tmps 4 = .gsl 1 1 (DAYS k p) 0 (DAYS k p) ∧ s.H.rows 1 = some (.gro 1 (sofar (OWEf (UNT d k p)) (DAYS k p)) 0) ∧ s.defers = [] ∧ s.fid = 0) 0
        (by simp (config := { maxSteps := 1000000 }) only [RUN, PATHS, BASE, FA, POL, start_tm, Heap.empty, reduceIte, Nat.reduceLT, Nat.reduceLeDiff, Nat.reduceEqDiff, Nat.reduceAdd, Nat.reduceSub, Nat.reduceMul, Nat.reduceBEq, Int.reduceLT, Int.reduceLE, Int.reduceEq, Int.reduceNeg, Int.reduceAdd, Int.reduceSub, Int.reduceMul, Bool.false_eq_true, Bool.not_true, Bool.not_false, decide_eq_true_eq, and_self, true_and, and_true, reduceCtorEq, ne_eq, not_false_eq_true, not_true_eq_false, decide_true, decide_false, or_false, false_or, sofar_zero]; simp [PRV]) (by
          rintro j s r0 hW ⟨hj, h19, h18, h17, h6, h4, hr, hd, hf⟩
          by_cases hp' : j < DAYS k p
          · have so : sofar (OWEf (UNT d k p)) j ++ [I ((UNT d k p).getD j 0 - PRV (UNT d k p) j)] = sofar (OWEf (UNT d k p)) (j + 1) := sofar_succ _ j
            have b1 := UNT_bd bd j
            have b2 : 0 ≤ PRV (UNT d k p) j ∧ PRV (UNT d k p) j ≤ 450359962737049600 := by
              unfold PRV; split
              · omega
              · exact UNT_bd bd _
            simp (config := { maxSteps := 1000000 }) only [RUN, PATHS, BASE, FA, POL, start_tm, Heap.empty, reduceIte, Nat.reduceLT, Nat.reduceLeDiff, Nat.reduceEqDiff, Nat.reduceAdd, Nat.reduceSub, Nat.reduceMul, Nat.reduceBEq, Int.reduceLT, Int.reduceLE, Int.reduceEq, Int.reduceNeg, Int.reduceAdd, Int.reduceSub, Int.reduceMul, Bool.false_eq_true, Bool.not_true, Bool.not_false, decide_eq_true_eq, and_self, true_and, and_true, reduceCtorEq, ne_eq, not_false_eq_true, not_true_eq_false, decide_true, decide_false, or_false, false_or, INTS, SOFAR, so, h19, h18, h17, h6, h4, hr, hd, hf, UNT_len, ints_UNT_get hp', Int.toNat_natCast, (show (j : Int) < DAYS k p by omega), (show (0 : Int) ≤ j by omega), (show j ≤ 67108863 by omega), (i64_in (x := (j : Int) + 1) (by unfold I64; omega)), (i64_in (x := (UNT d k p).getD j 0 - PRV (UNT d k p) j) (by unfold I64; omega))] at hW
            subst hW
            refine rd_next (j + 1) ?_ (show DAYS k p - (j + 1) < DAYS k p - j by omega)
            simp (config := { maxSteps := 1000000 }) only [RUN, PATHS, BASE, FA, POL, start_tm, Heap.empty, reduceIte, Nat.reduceLT, Nat.reduceLeDiff, Nat.reduceEqDiff, Nat.reduceAdd, Nat.reduceSub, Nat.reduceMul, Nat.reduceBEq, Int.reduceLT, Int.reduceLE, Int.reduceEq, Int.reduceNeg, Int.reduceAdd, Int.reduceSub, Int.reduceMul, Bool.false_eq_true, Bool.not_true, Bool.not_false, decide_eq_true_eq, and_self, true_and, and_true, reduceCtorEq, ne_eq, not_false_eq_true, not_true_eq_false, decide_true, decide_false, or_false, false_or, h18, h17, PRV_succ]
            exact ⟨by omega, by simp⟩
          · simp (config := { maxSteps := 1000000 }) only [RUN, PATHS, BASE, FA, POL, start_tm, Heap.empty, reduceIte, Nat.reduceLT, Nat.reduceLeDiff, Nat.reduceEqDiff, Nat.reduceAdd, Nat.reduceSub, Nat.reduceMul, Nat.reduceBEq, Int.reduceLT, Int.reduceLE, Int.reduceEq, Int.reduceNeg, Int.reduceAdd, Int.reduceSub, Int.reduceMul, Bool.false_eq_true, Bool.not_true, Bool.not_false, decide_eq_true_eq, and_self, true_and, and_true, reduceCtorEq, ne_eq, not_false_eq_true, not_true_eq_false, decide_true, decide_false, or_false, false_or, INTS, h19, h18, h17, h6, h4, hr, hd, hf, (show ¬ (j : Int) < DAYS k p by omega)] at hW
            subst hW
            have : j = DAYS k p := by omega
            subst this
            refine rd_exit ⟨rfl, ?_⟩ 
            simp (config := { maxSteps := 1000000 }) only [RUN, PATHS, BASE, FA, POL, start_tm, Heap.empty, reduceIte, Nat.reduceLT, Nat.reduceLeDiff, Nat.reduceEqDiff, Nat.reduceAdd, Nat.reduceSub, Nat.reduceMul, Nat.reduceBEq, Int.reduceLT, Int.reduceLE, Int.reduceEq, Int.reduceNeg, Int.reduceAdd, Int.reduceSub, Int.reduceMul, Bool.false_eq_true, Bool.not_true, Bool.not_false, decide_eq_true_eq, and_self, true_and, and_true, reduceCtorEq, ne_eq, not_false_eq_true, not_true_eq_false, decide_true, decide_false, or_false, false_or, h4, hr])
      simp (config := { maxSteps := 1000000 }) only [RUN, PATHS, BASE, FA, POL, start_tm, Heap.empty, reduceIte, Nat.reduceLT, Nat.reduceLeDiff, Nat.reduceEqDiff, Nat.reduceAdd, Nat.reduceSub, Nat.reduceMul, Nat.reduceBEq, Int.reduceLT, Int.reduceLE, Int.reduceEq, Int.reduceNeg, Int.reduceAdd, Int.reduceSub, Int.reduceMul, Bool.false_eq_true, Bool.not_true, Bool.not_false, decide_eq_true_eq, and_self, true_and, and_true, reduceCtorEq, ne_eq, not_false_eq_true, not_true_eq_false, decide_true, decide_false, or_false, false_or, h7, hr, hd, hf, SOFAR, isNils_gsl]
      rw [sofar_ints, ← UNT_len d k p]
      rfl
  · simp (config := { maxSteps := 1000000 }) only [RUN, PATHS, BASE, FA, POL, start_tm, Heap.empty, reduceIte, Nat.reduceLT, Nat.reduceLeDiff, Nat.reduceEqDiff, Nat.reduceAdd, Nat.reduceSub, Nat.reduceMul, Nat.reduceBEq, Int.reduceLT, Int.reduceLE, Int.reduceEq, Int.reduceNeg, Int.reduceAdd, Int.reduceSub, Int.reduceMul, Bool.false_eq_true, Bool.not_true, Bool.not_false, decide_eq_true_eq, and_self, true_and, and_true, reduceCtorEq, ne_eq, not_false_eq_true, not_true_eq_false, decide_true, decide_false, or_false, false_or, INTS, h0, c_wcheck f r d k p c c' hk hp, SOFAR]
    rfl
theorem c_repaid (f r d : Int) (k p q : List Int) (c c' c'' : Option Nat) (hk : k.length ≤ 1000000) (hp : p.length ≤ 1000000) : ap Try.prog pol 17 [well f r d k c, ints p c', ints q c''] =
    some (.ret (if CHK f r d k p = 0 then (if q.length = DAYS k p ∧ LIT q then .tup [ints (REP (UNT d k p) q) none, I 0] else .tup [ints [] none, I 420]) else .tup [ints [] none, I (CHK f r d k p)])) := by
  rw [ap_eq _ Try.func17 rfl Try.ntmps17 Try.results17 (by kernel_rfl) rfl (by exact Nat.le_of_ble_eq_true rfl)]
  by_cases h0 : CHK f r d k p = 0
  · have bd := BD_of h0
    have := bd.k0
    have hD := DAYS_le bd
    by_cases hp0 : p.length = 0
    · have e0 : DAYS k p = 0 := by simp [DAYS, hp0]
      have e1 : REP (UNT d k p) q = [] := by simp [REP, UNT, e0]
      by_cases hl : q.length = 0
      · have hq1 : LIT q := by
          have : q = [] := List.length_eq_zero_iff.1 hl
          subst this; intro x hx; simp at hx
        simp (config := { maxSteps := 1000000 }) only [RUN, PATHS, BASE, FA, POL, start_tm, Heap.empty, reduceIte, Nat.reduceLT, Nat.reduceLeDiff, Nat.reduceEqDiff, Nat.reduceAdd, Nat.reduceSub, Nat.reduceMul, Nat.reduceBEq, Int.reduceLT, Int.reduceLE, Int.reduceEq, Int.reduceNeg, Int.reduceAdd, Int.reduceSub, Int.reduceMul, Bool.false_eq_true, Bool.not_true, Bool.not_false, decide_eq_true_eq, and_self, true_and, and_true, reduceCtorEq, ne_eq, not_false_eq_true, not_true_eq_false, decide_true, decide_false, or_false, false_or, WW_loop, INTS, SOFAR, h0, c_wcheck f r d k p c c' hk hp, c_until f r d k p c c' bd, hp0, hl, e0, hq1, c_litres q c'' (by omega), e1, isNils_gsl]
        simp
      · simp (config := { maxSteps := 1000000 }) only [RUN, PATHS, BASE, FA, POL, start_tm, Heap.empty, reduceIte, Nat.reduceLT, Nat.reduceLeDiff, Nat.reduceEqDiff, Nat.reduceAdd, Nat.reduceSub, Nat.reduceMul, Nat.reduceBEq, Int.reduceLT, Int.reduceLE, Int.reduceEq, Int.reduceNeg, Int.reduceAdd, Int.reduceSub, Int.reduceMul, Bool.false_eq_true, Bool.not_true, Bool.not_false, decide_eq_true_eq, and_self, true_and, and_true, reduceCtorEq, ne_eq, not_false_eq_true, not_true_eq_false, decide_true, decide_false, or_false, false_or, WW_loop, INTS, SOFAR, h0, c_wcheck f r d k p c c' hk hp, c_until f r d k p c c' bd, hp0, hl, e0, (show ¬ (q.length : Int) = 0 by omega), isNils_gsl]
        simp
    · by_cases hl : q.length = DAYS k p
      · by_cases hq1 : LIT q
        · simp (config := { maxSteps := 1000000 }) only [RUN, PATHS, BASE, FA, POL, start_tm, Heap.empty, reduceIte, Nat.reduceLT, Nat.reduceLeDiff, Nat.reduceEqDiff, Nat.reduceAdd, Nat.reduceSub, Nat.reduceMul, Nat.reduceBEq, Int.reduceLT, Int.reduceLE, Int.reduceEq, Int.reduceNeg, Int.reduceAdd, Int.reduceSub, Int.reduceMul, Bool.false_eq_true, Bool.not_true, Bool.not_false, decide_eq_true_eq, and_self, true_and, and_true, reduceCtorEq, ne_eq, not_false_eq_true, not_true_eq_false, decide_true, decide_false, or_false, false_or, INTS, SOFAR, h0, c_wcheck f r d k p c c' hk hp, c_until f r d k p c c' bd, hp0, hl, hq1, c_litres q c'' (by omega), isNils_gsl, UNT_len]
          generalize hL : W _ (.loop _) _ = L
          obtain ⟨ex, s, rfl, rfl, h7, hr, hd, hf⟩ := loop_at hL (α := Nat) (fun j => DAYS k p - j)
            (fun s0 j s => j ≤ DAYS k p ∧ s.tmps 33 = I j ∧ s.tmps 32 = I (DAYS k p) ∧ s.tmps 31 = ints (UNT d k p) none ∧ s.tmps 9 = I (KS q j) ∧ s.tmps 6 = .gsl 1 1 j 0 j ∧ s.tmps 2 = ints q c'' ∧ s.H.rows 1 = some (.gro 1 (sofar (REPf (UNT d k p) q) j) 0) ∧ s.defers = [] ∧ s.fid = 0)
            (fun s0 ex s => ex = .exit 0 ∧ s.tmps 6 = .gsl 1 1 (DAYS k p) 0 (DAYS k p) ∧ s.H.rows 1 = some (.gro 1 (sofar (REPf (UNT d k p) q) (DAYS k p)) 0) ∧ s.defers = [] ∧ s.fid = 0) 0
            (by simp (config := { maxSteps := 1000000 }) only [RUN, PATHS, BASE, FA, POL, start_tm, Heap.empty, reduceIte, Nat.reduceLT, Nat.reduceLeDiff, Nat.reduceEqDiff, Nat.reduceAdd, Nat.reduceSub, Nat.reduceMul, Nat.reduceBEq, Int.reduceLT, Int.reduceLE, Int.reduceEq, Int.reduceNeg, Int.reduceAdd, Int.reduceSub, Int.reduceMul, Bool.false_eq_true, Bool.not_true, Bool.not_false, decide_eq_true_eq, and_self, true_and, and_true, reduceCtorEq, ne_eq, not_false_eq_true, not_true_eq_false, decide_true, decide_false, or_false, false_or, sofar_zero, KS_zero]; simp) (by
              rintro j s r0 hW ⟨hj, h33, h32, h31, h9, h6, h2, hr, hd, hf⟩
              by_cases hp' : j < DAYS k p
              · have so : sofar (REPf (UNT d k p) q) j ++ [I (max 0 ((UNT d k p).getD j 0 - KS q (j + 1)))] = sofar (REPf (UNT d k p) q) (j + 1) := sofar_succ _ j
                have e0 : q[j]? = some (q[j]'(by omega)) := List.getElem?_eq_getElem (by omega)
                have e1 := ints_get e0
                have eg : q.getD j 0 = q[j] := by rw [List.getD_eq_getElem?_getD, e0]; rfl
                have b1 := UNT_bd bd j
                have b2 := KS_le q hq1 j
                have b3 := KS_le q hq1 (j + 1)
                have es := KS_succ q j
                rw [eg] at es
                rw [es] at so
                simp (config := { maxSteps := 1000000 }) only [RUN, PATHS, BASE, FA, POL, start_tm, Heap.empty, reduceIte, Nat.reduceLT, Nat.reduceLeDiff, Nat.reduceEqDiff, Nat.reduceAdd, Nat.reduceSub, Nat.reduceMul, Nat.reduceBEq, Int.reduceLT, Int.reduceLE, Int.reduceEq, Int.reduceNeg, Int.reduceAdd, Int.reduceSub, Int.reduceMul, Bool.false_eq_true, Bool.not_true, Bool.not_false, decide_eq_true_eq, and_self, true_and, and_true, reduceCtorEq, ne_eq, not_false_eq_true, not_true_eq_false, decide_true, decide_false, or_false, false_or, INTS, SOFAR, so, h33, h32, h31, h9, h6, h2, hr, hd, hf, UNT_len, ints_UNT_get hp', hl, e1, Int.toNat_natCast, (show (j : Int) < DAYS k p by omega), (show (0 : Int) ≤ j by omega), (show j ≤ 67108863 by omega), (i64_in (x := (j : Int) + 1) (by unfold I64; omega)), (i64_in (x := KS q j + q[j]) (by unfold I64; omega)), (i64_in (x := (UNT d k p).getD j 0 - (KS q j + q[j])) (by unfold I64; omega))] at hW
                subst hW
                refine rd_next (j + 1) ?_ (show DAYS k p - (j + 1) < DAYS k p - j by omega)
                simp (config := { maxSteps := 1000000 }) only [RUN, PATHS, BASE, FA, POL, start_tm, Heap.empty, reduceIte, Nat.reduceLT, Nat.reduceLeDiff, Nat.reduceEqDiff, Nat.reduceAdd, Nat.reduceSub, Nat.reduceMul, Nat.reduceBEq, Int.reduceLT, Int.reduceLE, Int.reduceEq, Int.reduceNeg, Int.reduceAdd, Int.reduceSub, Int.reduceMul, Bool.false_eq_true, Bool.not_true, Bool.not_false, decide_eq_true_eq, and_self, true_and, and_true, reduceCtorEq, ne_eq, not_false_eq_true, not_true_eq_false, decide_true, decide_false, or_false, false_or, h32, h31, h2, es]
                exact ⟨by omega, by simp⟩
              · simp (config := { maxSteps := 1000000 }) only [RUN, PATHS, BASE, FA, POL, start_tm, Heap.empty, reduceIte, Nat.reduceLT, Nat.reduceLeDiff, Nat.reduceEqDiff, Nat.reduceAdd, Nat.reduceSub, Nat.reduceMul, Nat.reduceBEq, Int.reduceLT, Int.reduceLE, Int.reduceEq, Int.reduceNeg, Int.reduceAdd, Int.reduceSub, Int.reduceMul, Bool.false_eq_true, Bool.not_true, Bool.not_false, decide_eq_true_eq, and_self, true_and, and_true, reduceCtorEq, ne_eq, not_false_eq_true, not_true_eq_false, decide_true, decide_false, or_false, false_or, INTS, h33, h32, h31, h9, h6, h2, hr, hd, hf, (show ¬ (j : Int) < DAYS k p by omega)] at hW
                subst hW
                have : j = DAYS k p := by omega
                subst this
                refine rd_exit ⟨rfl, ?_⟩ 
                simp (config := { maxSteps := 1000000 }) only [RUN, PATHS, BASE, FA, POL, start_tm, Heap.empty, reduceIte, Nat.reduceLT, Nat.reduceLeDiff, Nat.reduceEqDiff, Nat.reduceAdd, Nat.reduceSub, Nat.reduceMul, Nat.reduceBEq, Int.reduceLT, Int.reduceLE, Int.reduceEq, Int.reduceNeg, Int.reduceAdd, Int.reduceSub, Int.reduceMul, Bool.false_eq_true, Bool.not_true, Bool.not_false, decide_eq_true_eq, and_self, true_and, and_true, reduceCtorEq, ne_eq, not_false_eq_true, not_true_eq_false, decide_true, decide_false, or_false, false_or, h6, hr])
          simp (config := { maxSteps := 1000000 }) only [RUN, PATHS, BASE, FA, POL, start_tm, Heap.empty, reduceIte, Nat.reduceLT, Nat.reduceLeDiff, Nat.reduceEqDiff, Nat.reduceAdd, Nat.reduceSub, Nat.reduceMul, Nat.reduceBEq, Int.reduceLT, Int.reduceLE, Int.reduceEq, Int.reduceNeg, Int.reduceAdd, Int.reduceSub, Int.reduceMul, Bool.false_eq_true, Bool.not_true, Bool.not_false, decide_eq_true_eq, and_self, true_and, and_true, reduceCtorEq, ne_eq, not_false_eq_true, not_true_eq_false, decide_true, decide_false, or_false, false_or, h7, hr, hd, hf, SOFAR, isNils_gsl]
          rw [sofar_ints, ← UNT_len d k p]
          rfl
        · simp (config := { maxSteps := 1000000 }) only [RUN, PATHS, BASE, FA, POL, start_tm, Heap.empty, reduceIte, Nat.reduceLT, Nat.reduceLeDiff, Nat.reduceEqDiff, Nat.reduceAdd, Nat.reduceSub, Nat.reduceMul, Nat.reduceBEq, Int.reduceLT, Int.reduceLE, Int.reduceEq, Int.reduceNeg, Int.reduceAdd, Int.reduceSub, Int.reduceMul, Bool.false_eq_true, Bool.not_true, Bool.not_false, decide_eq_true_eq, and_self, true_and, and_true, reduceCtorEq, ne_eq, not_false_eq_true, not_true_eq_false, decide_true, decide_false, or_false, false_or, INTS, SOFAR, h0, c_wcheck f r d k p c c' hk hp, c_until f r d k p c c' bd, hp0, hl, hq1, c_litres q c'' (by omega), isNils_gsl, UNT_len, and_false]
          rfl
      · simp (config := { maxSteps := 1000000 }) only [RUN, PATHS, BASE, FA, POL, start_tm, Heap.empty, reduceIte, Nat.reduceLT, Nat.reduceLeDiff, Nat.reduceEqDiff, Nat.reduceAdd, Nat.reduceSub, Nat.reduceMul, Nat.reduceBEq, Int.reduceLT, Int.reduceLE, Int.reduceEq, Int.reduceNeg, Int.reduceAdd, Int.reduceSub, Int.reduceMul, Bool.false_eq_true, Bool.not_true, Bool.not_false, decide_eq_true_eq, and_self, true_and, and_true, reduceCtorEq, ne_eq, not_false_eq_true, not_true_eq_false, decide_true, decide_false, or_false, false_or, INTS, SOFAR, h0, c_wcheck f r d k p c c' hk hp, c_until f r d k p c c' bd, hp0, hl, (show ¬ (q.length : Int) = DAYS k p by omega), isNils_gsl, UNT_len, false_and]
        rfl
  · simp (config := { maxSteps := 1000000 }) only [RUN, PATHS, BASE, FA, POL, start_tm, Heap.empty, reduceIte, Nat.reduceLT, Nat.reduceLeDiff, Nat.reduceEqDiff, Nat.reduceAdd, Nat.reduceSub, Nat.reduceMul, Nat.reduceBEq, Int.reduceLT, Int.reduceLE, Int.reduceEq, Int.reduceNeg, Int.reduceAdd, Int.reduceSub, Int.reduceMul, Bool.false_eq_true, Bool.not_true, Bool.not_false, decide_eq_true_eq, and_self, true_and, and_true, reduceCtorEq, ne_eq, not_false_eq_true, not_true_eq_false, decide_true, decide_false, or_false, false_or, INTS, h0, c_wcheck f r d k p c c' hk hp, SOFAR]
    rfl
end Go.Proofs.Ytbgdeimkemjklaa
