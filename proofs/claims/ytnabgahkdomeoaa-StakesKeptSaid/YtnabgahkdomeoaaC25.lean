/-
  stakes.Settle and the reference's.
-/
import Derived.Test.YtnabgahkdomeoaaC24
set_option linter.unusedSimpArgs false
set_option linter.unusedVariables false
set_option linter.unusedSectionVars false
namespace Go.Proofs.Ytnabgahkdomeoaa
open Go GoV
set_option maxRecDepth 100000

/-- What Settle answers where it refuses. -/
theorem c_settle1 (l : List Stk) (ps : List Pst) (w : List Int) (c c' d : Option Nat) (h : CHK l ps ≠ 0) : ap Try.prog pol 19 [.vs 4 (l.map stk) c, .vs 3 (ps.map pst) c', .vs 1 (w.map I) d] = some (.ret (.tup [.nils, .nils, I 0, I (CHK l ps)])) := by
  have ck := c_chk l ps c c'
  rw [ap_eq _ Try.func19 rfl Try.ntmps19 Try.results19 (by kernel_rfl) rfl (by exact Nat.le_of_ble_eq_true rfl)]
  simp (config := { maxSteps := 1000000 }) only [RUN, PATHS, BASE, FA, POL, start_tm, Heap.empty, reduceIte, Nat.reduceLT, Nat.reduceLeDiff, Nat.reduceEqDiff, Nat.reduceAdd, Nat.reduceSub, Nat.reduceMul, Nat.reduceBEq, Int.reduceLT, Int.reduceLE, Int.reduceEq, Int.reduceNeg, Int.reduceAdd, Int.reduceSub, Int.reduceMul, Bool.false_eq_true, Bool.not_true, Bool.not_false, decide_eq_true_eq, and_self, true_and, and_true, reduceCtorEq, ne_eq, not_false_eq_true, not_true_eq_false, decide_true, decide_false, or_false, false_or, NUM, SST, SPS, ck, h]
theorem c_settle2 (l : List Stk) (ps : List Pst) (w : List Int) (c c' d : Option Nat) (h : CHK l ps = 0) (h2 : CKW 0 w ≠ 0) : ap Try.prog pol 19 [.vs 4 (l.map stk) c, .vs 3 (ps.map pst) c', .vs 1 (w.map I) d] = some (.ret (.tup [.nils, .nils, I 0, I (CKW 0 w)])) := by
  have ck := c_chk l ps c c'
  have cr := c_right 0 w d
  rw [ap_eq _ Try.func19 rfl Try.ntmps19 Try.results19 (by kernel_rfl) rfl (by exact Nat.le_of_ble_eq_true rfl)]
  simp (config := { maxSteps := 1000000 }) only [RUN, PATHS, BASE, FA, POL, start_tm, Heap.empty, reduceIte, Nat.reduceLT, Nat.reduceLeDiff, Nat.reduceEqDiff, Nat.reduceAdd, Nat.reduceSub, Nat.reduceMul, Nat.reduceBEq, Int.reduceLT, Int.reduceLE, Int.reduceEq, Int.reduceNeg, Int.reduceAdd, Int.reduceSub, Int.reduceMul, Bool.false_eq_true, Bool.not_true, Bool.not_false, decide_eq_true_eq, and_self, true_and, and_true, reduceCtorEq, ne_eq, not_false_eq_true, not_true_eq_false, decide_true, decide_false, or_false, false_or, NUM, SST, SPS, SIN, ck, h, cr, h2]
theorem CKW_T {T : Int} {w : List Int} (h : CKW 0 w = 0) (hT : 0 ≤ T ∧ T ≤ 1099511627776) : CKW T w = 0 := by
  obtain ⟨h1, _, h3⟩ := CKW_0 h
  unfold CKW; rw [if_neg (by omega), if_pos ⟨hT, h3⟩]
set_option maxHeartbeats 1000000 in
theorem c_settle3 (l : List Stk) (ps : List Pst) (w : List Int) (c c' d : Option Nat) (h : CHK l ps = 0) (h2 : CKW 0 w = 0) : ap Try.prog pol 19 [.vs 4 (l.map stk) c, .vs 3 (ps.map pst) c', .vs 1 (w.map I) d] =
    some (.ret (.tup [.vs 1 ((PAID l ps).map I) none, .vs 1 ((OUTS (SUMI (PAID l ps)) w).map I) none, I (REST (SUMI (PAID l ps)) w), I 0])) := by
  have ck := c_chk l ps c c'
  have cr := c_right 0 w d
  have cf := c_forfeits l ps c c'
  obtain ⟨⟨hl, hg⟩, ⟨hp, ok⟩, hi⟩ := CHK_0 h
  rw [ap_eq _ Try.func19 rfl Try.ntmps19 Try.results19 (by kernel_rfl) rfl (by exact Nat.le_of_ble_eq_true rfl)]
  simp (config := { maxSteps := 1000000 }) only [RUN, PATHS, BASE, FA, POL, start_tm, Heap.empty, reduceIte, Nat.reduceLT, Nat.reduceLeDiff, Nat.reduceEqDiff, Nat.reduceAdd, Nat.reduceSub, Nat.reduceMul, Nat.reduceBEq, Int.reduceLT, Int.reduceLE, Int.reduceEq, Int.reduceNeg, Int.reduceAdd, Int.reduceSub, Int.reduceMul, Bool.false_eq_true, Bool.not_true, Bool.not_false, decide_eq_true_eq, and_self, true_and, and_true, reduceCtorEq, ne_eq, not_false_eq_true, not_true_eq_false, decide_true, decide_false, or_false, false_or, NUM, SST, SPS, SIN, ck, h, cr, h2, cf]
  rw [callF_eq _ _ Try.func46 rfl Try.ntmps46 Try.results46 (by kernel_rfl) rfl (by exact Nat.le_of_ble_eq_true rfl)]
  simp (config := { maxSteps := 1000000 }) only [RUN, PATHS, BASE, FA, POL, start_tm, Heap.empty, reduceIte, Nat.reduceLT, Nat.reduceLeDiff, Nat.reduceEqDiff, Nat.reduceAdd, Nat.reduceSub, Nat.reduceMul, Nat.reduceBEq, Int.reduceLT, Int.reduceLE, Int.reduceEq, Int.reduceNeg, Int.reduceAdd, Int.reduceSub, Int.reduceMul, Bool.false_eq_true, Bool.not_true, Bool.not_false, decide_eq_true_eq, and_self, true_and, and_true, reduceCtorEq, ne_eq, not_false_eq_true, not_true_eq_false, decide_true, decide_false, or_false, false_or, NUM, SST, SPS, List.length_map]
  generalize hL : W _ (.loop _) _ = L
  obtain ⟨ex, s, rfl, rfl, r1, r2, r3, r4, r5, hd, hf, hx⟩ := loop_at hL (α := Nat) (fun j => l.length - j)
    (fun s0 j s => j ≤ l.length ∧ s.tmps 13 = I j ∧ s.tmps 12 = I l.length ∧ s.tmps 11 = .vs 4 (l.map stk) c ∧ s.tmps 2 = .rop [.vs 3 (ps.map pst) c'] ∧ s.tmps 0 = .yield 5 ∧ s.H.rows 1 = some (.gro 1 ((PAID (l.take j) ps).map I) 0) ∧ s.H.rows 2 = some (.gro 1 [.gsl 1 1 j 0 j] 0) ∧
      s.H.rows 3 = some (.gro 1 [I (SUMI (PAID (l.take j) ps))] 0) ∧ s.H.rows 4 = s0.H.rows 4 ∧ s.H.rows 5 = s0.H.rows 5 ∧ s.defers = [] ∧ s.fid = 6 ∧ 6 < s.H.next)
    (fun s0 ex s => ex = .exit 0 ∧ s.H.rows 1 = some (.gro 1 ((PAID l ps).map I) 0) ∧ s.H.rows 2 = some (.gro 1 [.gsl 1 1 l.length 0 l.length] 0) ∧ s.H.rows 3 = some (.gro 1 [I (SUMI (PAID l ps))] 0) ∧ s.H.rows 4 = s0.H.rows 4 ∧ s.H.rows 5 = s0.H.rows 5 ∧ s.defers = [] ∧ s.fid = 6 ∧ 6 < s.H.next) 0
    (by simp (config := { maxSteps := 1000000 }) only [RUN, PATHS, BASE, FA, POL, start_tm, Heap.empty, reduceIte, Nat.reduceLT, Nat.reduceLeDiff, Nat.reduceEqDiff, Nat.reduceAdd, Nat.reduceSub, Nat.reduceMul, Nat.reduceBEq, Int.reduceLT, Int.reduceLE, Int.reduceEq, Int.reduceNeg, Int.reduceAdd, Int.reduceSub, Int.reduceMul, Bool.false_eq_true, Bool.not_true, Bool.not_false, decide_eq_true_eq, and_self, true_and, and_true, reduceCtorEq, ne_eq, not_false_eq_true, not_true_eq_false, decide_true, decide_false, or_false, false_or, List.take_zero]
        exact ⟨Nat.zero_le _, rfl, rfl, rfl⟩) (by
      rintro j s r0 hW ⟨hj, h13, h12, h11, h2, h0, r1, r2, r3, r4, r5, hd, hf, hx⟩
      simp (config := { maxSteps := 1000000 }) only [RUN, PATHS, BASE, FA, POL, start_tm, Heap.empty, reduceIte, Nat.reduceLT, Nat.reduceLeDiff, Nat.reduceEqDiff, Nat.reduceAdd, Nat.reduceSub, Nat.reduceMul, Nat.reduceBEq, Int.reduceLT, Int.reduceLE, Int.reduceEq, Int.reduceNeg, Int.reduceAdd, Int.reduceSub, Int.reduceMul, Bool.false_eq_true, Bool.not_true, Bool.not_false, decide_eq_true_eq, and_self, true_and, and_true, reduceCtorEq, ne_eq, not_false_eq_true, not_true_eq_false, decide_true, decide_false, or_false, false_or] at r4
      simp (config := { maxSteps := 1000000 }) only [RUN, PATHS, BASE, FA, POL, start_tm, Heap.empty, reduceIte, Nat.reduceLT, Nat.reduceLeDiff, Nat.reduceEqDiff, Nat.reduceAdd, Nat.reduceSub, Nat.reduceMul, Nat.reduceBEq, Int.reduceLT, Int.reduceLE, Int.reduceEq, Int.reduceNeg, Int.reduceAdd, Int.reduceSub, Int.reduceMul, Bool.false_eq_true, Bool.not_true, Bool.not_false, decide_eq_true_eq, and_self, true_and, and_true, reduceCtorEq, ne_eq, not_false_eq_true, not_true_eq_false, decide_true, decide_false, or_false, false_or] at r5
      by_cases hpl : j < l.length
      · have e0 : l[j]? = some l[j] := List.getElem?_eq_getElem hpl
        have e1 := map_get (f := stk) e0
        have ox := GOOD_in hg e0
        have hxb := ox.1
        have hxp := ox.2.1
        have pt := PAID_take (ps := ps) e0
        have b1 := PAID_sum hg ok (j + 1)
        have lp : (PAID (l.take j) ps).length = j := by simp [PAID]; omega
        have st : SUMI (PAID (l.take (j + 1)) ps) = SUMI (PAID (l.take j) ps) + FORV l[j] ps := by rw [pt, SUMI_app]; simp [SUMI]
        rw [st] at b1
        generalize l[j] = x at *
        obtain ⟨k, t, cb, ht, hno⟩ := c_bsearch ps c' hi ok hp x.b hxb
        cases t with
        | false =>
          have fv : FORV x ps = 0 := by unfold FORV; rw [hno rfl]
          rw [fv] at b1
          rw [fv] at pt st
          simp (config := { maxSteps := 1000000 }) only [RUN, PATHS, BASE, FA, POL, start_tm, Heap.empty, reduceIte, Nat.reduceLT, Nat.reduceLeDiff, Nat.reduceEqDiff, Nat.reduceAdd, Nat.reduceSub, Nat.reduceMul, Nat.reduceBEq, Int.reduceLT, Int.reduceLE, Int.reduceEq, Int.reduceNeg, Int.reduceAdd, Int.reduceSub, Int.reduceMul, Bool.false_eq_true, Bool.not_true, Bool.not_false, decide_eq_true_eq, and_self, true_and, and_true, reduceCtorEq, ne_eq, not_false_eq_true, not_true_eq_false, decide_true, decide_false, or_false, false_or, NUM, SST, SPS, SRG, SIN, Try.func19, h13, h12, h11, h2, h0, r1, r2, r3, r4, r5, hd, hf, e1, cb, lp, List.length_map, Int.toNat_natCast, Nat.zero_le, (show (j : Int) < l.length by omega), (show (0 : Int) ≤ j by omega), i64_in (x := (j : Int) + 1) (by unfold I64; omega), (show j + 1 ≤ 67108864 by omega), i64_in (x := SUMI (PAID (l.take j) ps) + 0) (by unfold I64; omega)] at hW
          subst hW
          refine rd_next (j + 1) ?_ (show l.length - (j + 1) < l.length - j by omega)
          simp (config := { maxSteps := 1000000 }) only [RUN, PATHS, BASE, FA, POL, start_tm, Heap.empty, reduceIte, Nat.reduceLT, Nat.reduceLeDiff, Nat.reduceEqDiff, Nat.reduceAdd, Nat.reduceSub, Nat.reduceMul, Nat.reduceBEq, Int.reduceLT, Int.reduceLE, Int.reduceEq, Int.reduceNeg, Int.reduceAdd, Int.reduceSub, Int.reduceMul, Bool.false_eq_true, Bool.not_true, Bool.not_false, decide_eq_true_eq, and_self, true_and, and_true, reduceCtorEq, ne_eq, not_false_eq_true, not_true_eq_false, decide_true, decide_false, or_false, false_or, h12, h11, h2, h0, r1, r2, r3, r4, r5, hx, pt, List.map_append]
          exact ⟨by omega, by simp, by rw [← pt, st], by omega⟩
        | true =>
          obtain ⟨y, ey, hb⟩ := ht rfl
          have ey1 := map_get (f := pst) ey
          have oy := ok _ (List.mem_of_getElem? ey)
          have fa := FND_at hi (b := x.b) ey hb
          have hk : k < ps.length := by
            rcases Nat.lt_or_ge k ps.length with h | h
            · exact h
            · rw [List.getElem?_eq_none h] at ey; cases ey
          by_cases q2 : x.p < y.bo.length
          rotate_left
          · have fv : FORV x ps = 0 := by unfold FORV; rw [fa]; show AMT x y = 0; unfold AMT; rw [if_neg q2]
            rw [fv] at b1
            rw [fv] at pt st
            simp (config := { maxSteps := 1000000 }) only [RUN, PATHS, BASE, FA, POL, start_tm, Heap.empty, reduceIte, Nat.reduceLT, Nat.reduceLeDiff, Nat.reduceEqDiff, Nat.reduceAdd, Nat.reduceSub, Nat.reduceMul, Nat.reduceBEq, Int.reduceLT, Int.reduceLE, Int.reduceEq, Int.reduceNeg, Int.reduceAdd, Int.reduceSub, Int.reduceMul, Bool.false_eq_true, Bool.not_true, Bool.not_false, decide_eq_true_eq, and_self, true_and, and_true, reduceCtorEq, ne_eq, not_false_eq_true, not_true_eq_false, decide_true, decide_false, or_false, false_or, NUM, SST, SPS, SRG, SIN, Try.func19, h13, h12, h11, h2, h0, r1, r2, r3, r4, r5, hd, hf, e1, cb, lp, List.length_map, Int.toNat_natCast, Nat.zero_le, (show (j : Int) < l.length by omega), (show (0 : Int) ≤ j by omega), i64_in (x := (j : Int) + 1) (by unfold I64; omega), (show j + 1 ≤ 67108864 by omega), ey1, (show (0 : Int) ≤ k by omega), (show (k : Int) < ps.length by omega), q2, i64_in (x := SUMI (PAID (l.take j) ps) + 0) (by unfold I64; omega)] at hW
            subst hW
            refine rd_next (j + 1) ?_ (show l.length - (j + 1) < l.length - j by omega)
            simp (config := { maxSteps := 1000000 }) only [RUN, PATHS, BASE, FA, POL, start_tm, Heap.empty, reduceIte, Nat.reduceLT, Nat.reduceLeDiff, Nat.reduceEqDiff, Nat.reduceAdd, Nat.reduceSub, Nat.reduceMul, Nat.reduceBEq, Int.reduceLT, Int.reduceLE, Int.reduceEq, Int.reduceNeg, Int.reduceAdd, Int.reduceSub, Int.reduceMul, Bool.false_eq_true, Bool.not_true, Bool.not_false, decide_eq_true_eq, and_self, true_and, and_true, reduceCtorEq, ne_eq, not_false_eq_true, not_true_eq_false, decide_true, decide_false, or_false, false_or, h12, h11, h2, h0, r1, r2, r3, r4, r5, hx, pt, List.map_append]
            exact ⟨by omega, by simp, by rw [← pt, st], by omega⟩
          · obtain ⟨r, n, er, en, or, on, ea, ei⟩ := AMT_in ox oy q2
            have fv : FORV x ps = min x.d (x.r * DIST r n) := by unfold FORV; rw [fa]; exact ea
            have cl := c_least x.d (x.r * DIST r n)
            have db : max (max (r.lo - n) (n - r.hi)) 0 = DIST r n := rfl
            unfold OKR at or
            unfold OKI at on
            rw [fv] at b1
            rw [fv] at pt st
            simp (config := { maxSteps := 1000000 }) only [RUN, PATHS, BASE, FA, POL, start_tm, Heap.empty, reduceIte, Nat.reduceLT, Nat.reduceLeDiff, Nat.reduceEqDiff, Nat.reduceAdd, Nat.reduceSub, Nat.reduceMul, Nat.reduceBEq, Int.reduceLT, Int.reduceLE, Int.reduceEq, Int.reduceNeg, Int.reduceAdd, Int.reduceSub, Int.reduceMul, Bool.false_eq_true, Bool.not_true, Bool.not_false, decide_eq_true_eq, and_self, true_and, and_true, reduceCtorEq, ne_eq, not_false_eq_true, not_true_eq_false, decide_true, decide_false, or_false, false_or, NUM, SST, SPS, SRG, SIN, Try.func19, h13, h12, h11, h2, h0, r1, r2, r3, r4, r5, hd, hf, e1, cb, lp, List.length_map, Int.toNat_natCast, Nat.zero_le, (show (j : Int) < l.length by omega), (show (0 : Int) ≤ j by omega), i64_in (x := (j : Int) + 1) (by unfold I64; omega), (show j + 1 ≤ 67108864 by omega), ey1, (show (0 : Int) ≤ k by omega), (show (k : Int) < ps.length by omega), q2, hxp.1, map_get (f := rg) er, map_get (f := I) en, (show x.p < y.se.length by have := oy.2.2.1; omega), i64_in (x := r.lo - n) (by unfold I64; omega), i64_in (x := n - r.hi) (by unfold I64; omega), db, i64_in ei, cl, i64_in (x := SUMI (PAID (l.take j) ps) + min x.d (x.r * DIST r n)) (by unfold I64; omega)] at hW
            subst hW
            refine rd_next (j + 1) ?_ (show l.length - (j + 1) < l.length - j by omega)
            simp (config := { maxSteps := 1000000 }) only [RUN, PATHS, BASE, FA, POL, start_tm, Heap.empty, reduceIte, Nat.reduceLT, Nat.reduceLeDiff, Nat.reduceEqDiff, Nat.reduceAdd, Nat.reduceSub, Nat.reduceMul, Nat.reduceBEq, Int.reduceLT, Int.reduceLE, Int.reduceEq, Int.reduceNeg, Int.reduceAdd, Int.reduceSub, Int.reduceMul, Bool.false_eq_true, Bool.not_true, Bool.not_false, decide_eq_true_eq, and_self, true_and, and_true, reduceCtorEq, ne_eq, not_false_eq_true, not_true_eq_false, decide_true, decide_false, or_false, false_or, h12, h11, h2, h0, r1, r2, r3, r4, r5, hx, pt, List.map_append]
            exact ⟨by omega, by simp, by rw [← pt, st], by omega⟩
      · simp (config := { maxSteps := 1000000 }) only [RUN, PATHS, BASE, FA, POL, start_tm, Heap.empty, reduceIte, Nat.reduceLT, Nat.reduceLeDiff, Nat.reduceEqDiff, Nat.reduceAdd, Nat.reduceSub, Nat.reduceMul, Nat.reduceBEq, Int.reduceLT, Int.reduceLE, Int.reduceEq, Int.reduceNeg, Int.reduceAdd, Int.reduceSub, Int.reduceMul, Bool.false_eq_true, Bool.not_true, Bool.not_false, decide_eq_true_eq, and_self, true_and, and_true, reduceCtorEq, ne_eq, not_false_eq_true, not_true_eq_false, decide_true, decide_false, or_false, false_or, List.length_map, h13, h12, h11, h0, r1, r2, r3, r4, r5, hd, hf, (show ¬ (j : Int) < l.length by omega)] at hW
        subst hW
        have : j = l.length := by omega
        subst this
        rw [List.take_length] at r1 r3
        refine rd_exit ⟨rfl, ?_⟩
        simp (config := { maxSteps := 1000000 }) only [RUN, PATHS, BASE, FA, POL, start_tm, Heap.empty, reduceIte, Nat.reduceLT, Nat.reduceLeDiff, Nat.reduceEqDiff, Nat.reduceAdd, Nat.reduceSub, Nat.reduceMul, Nat.reduceBEq, Int.reduceLT, Int.reduceLE, Int.reduceEq, Int.reduceNeg, Int.reduceAdd, Int.reduceSub, Int.reduceMul, Bool.false_eq_true, Bool.not_true, Bool.not_false, decide_eq_true_eq, and_self, true_and, and_true, reduceCtorEq, ne_eq, not_false_eq_true, not_true_eq_false, decide_true, decide_false, or_false, false_or, r1, r2, r3, r4, r5, hx])
  simp (config := { maxSteps := 1000000 }) only [RUN, PATHS, BASE, FA, POL, start_tm, Heap.empty, reduceIte, Nat.reduceLT, Nat.reduceLeDiff, Nat.reduceEqDiff, Nat.reduceAdd, Nat.reduceSub, Nat.reduceMul, Nat.reduceBEq, Int.reduceLT, Int.reduceLE, Int.reduceEq, Int.reduceNeg, Int.reduceAdd, Int.reduceSub, Int.reduceMul, Bool.false_eq_true, Bool.not_true, Bool.not_false, decide_eq_true_eq, and_self, true_and, and_true, reduceCtorEq, ne_eq, not_false_eq_true, not_true_eq_false, decide_true, decide_false, or_false, false_or] at r4
  simp (config := { maxSteps := 1000000 }) only [RUN, PATHS, BASE, FA, POL, start_tm, Heap.empty, reduceIte, Nat.reduceLT, Nat.reduceLeDiff, Nat.reduceEqDiff, Nat.reduceAdd, Nat.reduceSub, Nat.reduceMul, Nat.reduceBEq, Int.reduceLT, Int.reduceLE, Int.reduceEq, Int.reduceNeg, Int.reduceAdd, Int.reduceSub, Int.reduceMul, Bool.false_eq_true, Bool.not_true, Bool.not_false, decide_eq_true_eq, and_self, true_and, and_true, reduceCtorEq, ne_eq, not_false_eq_true, not_true_eq_false, decide_true, decide_false, or_false, false_or] at r5
  have bt := PAID_sum hg ok l.length
  rw [List.take_length] at bt
  have cw := CKW_T h2 (T := SUMI (PAID l ps)) (by omega)
  have cs := c_share (SUMI (PAID l ps)) w d
  rw [SHV_ok cw] at cs
  have lp : (PAID l ps).length = l.length := by simp [PAID]
  simp (config := { maxSteps := 1000000 }) only [RUN, PATHS, BASE, FA, POL, start_tm, Heap.empty, reduceIte, Nat.reduceLT, Nat.reduceLeDiff, Nat.reduceEqDiff, Nat.reduceAdd, Nat.reduceSub, Nat.reduceMul, Nat.reduceBEq, Int.reduceLT, Int.reduceLE, Int.reduceEq, Int.reduceNeg, Int.reduceAdd, Int.reduceSub, Int.reduceMul, Bool.false_eq_true, Bool.not_true, Bool.not_false, decide_eq_true_eq, and_self, true_and, and_true, reduceCtorEq, ne_eq, not_false_eq_true, not_true_eq_false, decide_true, decide_false, or_false, false_or, NUM, SIN, r1, r2, r3, r4, r5, hd, hf, cs, lp, List.length_map, Nat.zero_add, Nat.le_refl]
  rw [List.take_of_length_le (by rw [List.length_map, lp]; exact Nat.le_refl _), SIN.2.2.1]
end Go.Proofs.Ytnabgahkdomeoaa
