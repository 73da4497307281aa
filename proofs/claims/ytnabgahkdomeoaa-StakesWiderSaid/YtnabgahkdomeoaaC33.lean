/-
  Widen; the walk of StakesWider.
-/
import Derived.Test.YtnabgahkdomeoaaC32
set_option linter.unusedSimpArgs false
set_option linter.unusedVariables false
set_option linter.unusedSectionVars false
namespace Go.Proofs.Ytnabgahkdomeoaa
open Go GoV
set_option maxRecDepth 100000

theorem WID_take {l : List Rg} {m : Int} {j : Nat} {x : Rg} (e : l[j]? = some x) : WID (l.take (j + 1)) m = WID (l.take j) m ++ [⟨max 0 (x.lo - m), min 1099511627776 (x.hi + m)⟩] := by
  rw [List.take_add_one, e]; simp [WID]
theorem c_widen (l : List Rg) (c : Option Nat) (m : Int) (h : RIGHT l) :
    ((0 ≤ m ∧ m ≤ 1099511627776) → ap Try.prog pol 23 [.vs 2 (l.map rg) c, I m] = some (.ret (.tup [.vs 2 ((WID l m).map rg) none, I 0]))) ∧
    (¬ (0 ≤ m ∧ m ≤ 1099511627776) → ap Try.prog pol 23 [.vs 2 (l.map rg) c, I m] = some (.ret (.tup [.vs 2 [] none, I 1]))) := by
  have cr := c_calright l c
  rw [decide_eq_true h] at cr
  have ci := c_cin m 0 1099511627776
  have h16 := h.1.2
  constructor
  · intro hm
    rw [decide_eq_true hm] at ci
    rw [ap_eq _ Try.func23 rfl Try.ntmps23 Try.results23 (by kernel_rfl) rfl (by exact Nat.le_of_ble_eq_true rfl)]
    simp (config := { maxSteps := 1000000 }) only [RUN, PATHS, BASE, FA, POL, start_tm, Heap.empty, reduceIte, Nat.reduceLT, Nat.reduceLeDiff, Nat.reduceEqDiff, Nat.reduceAdd, Nat.reduceSub, Nat.reduceMul, Nat.reduceBEq, Int.reduceLT, Int.reduceLE, Int.reduceEq, Int.reduceNeg, Int.reduceAdd, Int.reduceSub, Int.reduceMul, Bool.false_eq_true, Bool.not_true, Bool.not_false, decide_eq_true_eq, and_self, true_and, and_true, reduceCtorEq, ne_eq, not_false_eq_true, not_true_eq_false, decide_true, decide_false, or_false, false_or, NUM, SRG, List.length_map, cr, ci, (show ¬ (16 : Int) < l.length by omega)]
    generalize hL : W _ (.loop _) _ = L
    obtain ⟨ex, s, rfl, rfl, h4, r1, hd⟩ := loop_at hL (α := Nat) (fun j => l.length - j)
      (fun s0 j s => j ≤ l.length ∧ s.tmps 22 = I j ∧ s.tmps 21 = I l.length ∧ s.tmps 20 = .vs 2 (l.map rg) c ∧ s.tmps 1 = I m ∧ s.tmps 4 = .gsl 2 1 j 0 j ∧ s.H.rows 1 = some (.gro 2 ((WID (l.take j) m).map rg) 0) ∧ s.defers = [] ∧ s.fid = 0)
      (fun s0 ex s => ex = .exit 1 ∧ s.tmps 4 = .gsl 2 1 l.length 0 l.length ∧ s.H.rows 1 = some (.gro 2 ((WID l m).map rg) 0) ∧ s.defers = []) 0
      (by simp (config := { maxSteps := 1000000 }) only [RUN, PATHS, BASE, FA, POL, start_tm, Heap.empty, reduceIte, Nat.reduceLT, Nat.reduceLeDiff, Nat.reduceEqDiff, Nat.reduceAdd, Nat.reduceSub, Nat.reduceMul, Nat.reduceBEq, Int.reduceLT, Int.reduceLE, Int.reduceEq, Int.reduceNeg, Int.reduceAdd, Int.reduceSub, Int.reduceMul, Bool.false_eq_true, Bool.not_true, Bool.not_false, decide_eq_true_eq, and_self, true_and, and_true, reduceCtorEq, ne_eq, not_false_eq_true, not_true_eq_false, decide_true, decide_false, or_false, false_or, List.take_zero]; exact ⟨Nat.zero_le _, rfl, rfl⟩) (by
        rintro j s r hW ⟨hj, h22, h21, h20, h1, h4, r1, hd, hf⟩
        by_cases hp : j < l.length
        · have e0 : l[j]? = some l[j] := List.getElem?_eq_getElem hp
          have e1 := map_get (f := rg) e0
          have wt := WID_take (m := m) e0
          have ox := h.2 _ (List.getElem_mem hp)
          unfold OKR at ox
          have lw : (WID (l.take j) m).length = j := by simp [WID]; omega
          generalize l[j] = x at *
          rcases hbx : s.boxes 7 with _ | ⟨ver, cs⟩
          · simp (config := { maxSteps := 1000000 }) only [RUN, PATHS, BASE, FA, POL, start_tm, Heap.empty, reduceIte, Nat.reduceLT, Nat.reduceLeDiff, Nat.reduceEqDiff, Nat.reduceAdd, Nat.reduceSub, Nat.reduceMul, Nat.reduceBEq, Int.reduceLT, Int.reduceLE, Int.reduceEq, Int.reduceNeg, Int.reduceAdd, Int.reduceSub, Int.reduceMul, Bool.false_eq_true, Bool.not_true, Bool.not_false, decide_eq_true_eq, and_self, true_and, and_true, reduceCtorEq, ne_eq, not_false_eq_true, not_true_eq_false, decide_true, decide_false, or_false, false_or, NUM, SRG, h22, h21, h20, h1, h4, r1, hd, hf, hbx, e1, lw, List.length_map, Int.toNat_natCast, Nat.zero_le, (show (j : Int) < l.length by omega), (show (0 : Int) ≤ j by omega), i64_in (x := x.lo - m) (by unfold I64; omega), i64_in (x := x.hi + m) (by unfold I64; omega), i64_in (x := (j : Int) + 1) (by unfold I64; omega), (show j + 1 ≤ 67108864 by omega)] at hW
            subst hW
            refine rd_next (j + 1) ?_ (show l.length - (j + 1) < l.length - j by omega)
            simp (config := { maxSteps := 1000000 }) only [RUN, PATHS, BASE, FA, POL, start_tm, Heap.empty, reduceIte, Nat.reduceLT, Nat.reduceLeDiff, Nat.reduceEqDiff, Nat.reduceAdd, Nat.reduceSub, Nat.reduceMul, Nat.reduceBEq, Int.reduceLT, Int.reduceLE, Int.reduceEq, Int.reduceNeg, Int.reduceAdd, Int.reduceSub, Int.reduceMul, Bool.false_eq_true, Bool.not_true, Bool.not_false, decide_eq_true_eq, and_self, true_and, and_true, reduceCtorEq, ne_eq, not_false_eq_true, not_true_eq_false, decide_true, decide_false, or_false, false_or, h21, h20, h1, wt, List.map_append]
            exact ⟨by omega, by simp⟩
          · simp (config := { maxSteps := 1000000 }) only [RUN, PATHS, BASE, FA, POL, start_tm, Heap.empty, reduceIte, Nat.reduceLT, Nat.reduceLeDiff, Nat.reduceEqDiff, Nat.reduceAdd, Nat.reduceSub, Nat.reduceMul, Nat.reduceBEq, Int.reduceLT, Int.reduceLE, Int.reduceEq, Int.reduceNeg, Int.reduceAdd, Int.reduceSub, Int.reduceMul, Bool.false_eq_true, Bool.not_true, Bool.not_false, decide_eq_true_eq, and_self, true_and, and_true, reduceCtorEq, ne_eq, not_false_eq_true, not_true_eq_false, decide_true, decide_false, or_false, false_or, NUM, SRG, h22, h21, h20, h1, h4, r1, hd, hf, hbx, e1, lw, List.length_map, Int.toNat_natCast, Nat.zero_le, (show (j : Int) < l.length by omega), (show (0 : Int) ≤ j by omega), i64_in (x := x.lo - m) (by unfold I64; omega), i64_in (x := x.hi + m) (by unfold I64; omega), i64_in (x := (j : Int) + 1) (by unfold I64; omega), (show j + 1 ≤ 67108864 by omega)] at hW
            subst hW
            refine rd_next (j + 1) ?_ (show l.length - (j + 1) < l.length - j by omega)
            simp (config := { maxSteps := 1000000 }) only [RUN, PATHS, BASE, FA, POL, start_tm, Heap.empty, reduceIte, Nat.reduceLT, Nat.reduceLeDiff, Nat.reduceEqDiff, Nat.reduceAdd, Nat.reduceSub, Nat.reduceMul, Nat.reduceBEq, Int.reduceLT, Int.reduceLE, Int.reduceEq, Int.reduceNeg, Int.reduceAdd, Int.reduceSub, Int.reduceMul, Bool.false_eq_true, Bool.not_true, Bool.not_false, decide_eq_true_eq, and_self, true_and, and_true, reduceCtorEq, ne_eq, not_false_eq_true, not_true_eq_false, decide_true, decide_false, or_false, false_or, h21, h20, h1, wt, List.map_append]
            exact ⟨by omega, by simp⟩
        · simp (config := { maxSteps := 1000000 }) only [RUN, PATHS, BASE, FA, POL, start_tm, Heap.empty, reduceIte, Nat.reduceLT, Nat.reduceLeDiff, Nat.reduceEqDiff, Nat.reduceAdd, Nat.reduceSub, Nat.reduceMul, Nat.reduceBEq, Int.reduceLT, Int.reduceLE, Int.reduceEq, Int.reduceNeg, Int.reduceAdd, Int.reduceSub, Int.reduceMul, Bool.false_eq_true, Bool.not_true, Bool.not_false, decide_eq_true_eq, and_self, true_and, and_true, reduceCtorEq, ne_eq, not_false_eq_true, not_true_eq_false, decide_true, decide_false, or_false, false_or, h22, h21, hd, hf, (show ¬ (j : Int) < l.length by omega)] at hW
          subst hW
          have : j = l.length := by omega
          subst this
          rw [List.take_length] at r1
          refine rd_exit ⟨rfl, ?_⟩
          simp (config := { maxSteps := 1000000 }) only [RUN, PATHS, BASE, FA, POL, start_tm, Heap.empty, reduceIte, Nat.reduceLT, Nat.reduceLeDiff, Nat.reduceEqDiff, Nat.reduceAdd, Nat.reduceSub, Nat.reduceMul, Nat.reduceBEq, Int.reduceLT, Int.reduceLE, Int.reduceEq, Int.reduceNeg, Int.reduceAdd, Int.reduceSub, Int.reduceMul, Bool.false_eq_true, Bool.not_true, Bool.not_false, decide_eq_true_eq, and_self, true_and, and_true, reduceCtorEq, ne_eq, not_false_eq_true, not_true_eq_false, decide_true, decide_false, or_false, false_or, h4, r1])
    have lw : (WID l m).length = l.length := by simp [WID]
    simp (config := { maxSteps := 1000000 }) only [RUN, PATHS, BASE, FA, POL, start_tm, Heap.empty, reduceIte, Nat.reduceLT, Nat.reduceLeDiff, Nat.reduceEqDiff, Nat.reduceAdd, Nat.reduceSub, Nat.reduceMul, Nat.reduceBEq, Int.reduceLT, Int.reduceLE, Int.reduceEq, Int.reduceNeg, Int.reduceAdd, Int.reduceSub, Int.reduceMul, Bool.false_eq_true, Bool.not_true, Bool.not_false, decide_eq_true_eq, and_self, true_and, and_true, reduceCtorEq, ne_eq, not_false_eq_true, not_true_eq_false, decide_true, decide_false, or_false, false_or, NUM, SRG, h4, r1, hd, lw, List.length_map, Nat.zero_add, Nat.le_refl]
    rw [List.take_of_length_le (by rw [List.length_map, lw]; exact Nat.le_refl _), SRG.2.2.1]
  · intro hm
    rw [decide_eq_false hm] at ci
    rw [ap_eq _ Try.func23 rfl Try.ntmps23 Try.results23 (by kernel_rfl) rfl (by exact Nat.le_of_ble_eq_true rfl)]
    simp (config := { maxSteps := 1000000 }) only [RUN, PATHS, BASE, FA, POL, start_tm, Heap.empty, reduceIte, Nat.reduceLT, Nat.reduceLeDiff, Nat.reduceEqDiff, Nat.reduceAdd, Nat.reduceSub, Nat.reduceMul, Nat.reduceBEq, Int.reduceLT, Int.reduceLE, Int.reduceEq, Int.reduceNeg, Int.reduceAdd, Int.reduceSub, Int.reduceMul, Bool.false_eq_true, Bool.not_true, Bool.not_false, decide_eq_true_eq, and_self, true_and, and_true, reduceCtorEq, ne_eq, not_false_eq_true, not_true_eq_false, decide_true, decide_false, or_false, false_or, NUM, SRG, List.length_map, cr, ci, (show ¬ (16 : Int) < l.length by omega), Nat.zero_add, Nat.le_refl]
open Classical in
/-- The forecasts with wider bounds, if they are right. -/
noncomputable def WLS (ps : List Pst) (m : Int) : List Pst := if 0 ≤ m ∧ m ≤ 1099511627776 then ps.map (WP m) else []
theorem WLS_take {ps : List Pst} {m : Int} {j : Nat} {x : Pst} (e : ps[j]? = some x) : WLS (ps.take (j + 1)) m = WLS (ps.take j) m ++ (if 0 ≤ m ∧ m ≤ 1099511627776 then [WP m x] else []) := by
  unfold WLS
  rw [List.take_add_one, e]
  split <;> simp
theorem take_all {α : Type} (l : List α) (n : Nat) (h : l.length = n) : l.take n = l := List.take_of_length_le (by omega)
theorem SPS_take (l : List Pst) (n : Nat) (h : l.length = n) : (l.map pst).take n = l.map pst := take_all _ _ (by simpa using h)
theorem SST_take (l : List Stk) (n : Nat) (h : l.length = n) : (l.map stk).take n = l.map stk := take_all _ _ (by simpa using h)
set_option maxHeartbeats 2000000 in
theorem w_wider (l : List Stk) (ps : List Pst) (i m rate dep : Int) (hr : I64 rate) (hdp : I64 dep) : ap Try.prog pol 8 [.vs 4 (l.map stk) none, .vs 3 (ps.map pst) none, I i, I m, I rate, I dep] = some (.ret (.bool true)) := by
  obtain ⟨b, hb, _⟩ := c_few0 l ps none none
  cases b
  · rw [ap_eq _ Try.func8 rfl Try.ntmps8 Try.results8 (by kernel_rfl) rfl (by exact Nat.le_of_ble_eq_true rfl)]
    simp (config := { maxSteps := 1000000 }) only [RUN, PATHS, BASE, FA, POL, start_tm, Heap.empty, reduceIte, Nat.reduceLT, Nat.reduceLeDiff, Nat.reduceEqDiff, Nat.reduceAdd, Nat.reduceSub, Nat.reduceMul, Nat.reduceBEq, Int.reduceLT, Int.reduceLE, Int.reduceEq, Int.reduceNeg, Int.reduceAdd, Int.reduceSub, Int.reduceMul, Bool.false_eq_true, Bool.not_true, Bool.not_false, decide_eq_true_eq, and_self, true_and, and_true, reduceCtorEq, ne_eq, not_false_eq_true, not_true_eq_false, decide_true, decide_false, or_false, false_or, NUM, SST, SPS, c_saneV, hb]
  have cf := c_forfeit l ps none none i
  by_cases h : CHK l ps = 0
  rotate_left
  · have fo : FOR l ps i = (0, CHK l ps) := by unfold FOR; rw [if_neg h]
    rw [fo] at cf
    rw [ap_eq _ Try.func8 rfl Try.ntmps8 Try.results8 (by kernel_rfl) rfl (by exact Nat.le_of_ble_eq_true rfl)]
    simp (config := { maxSteps := 1000000 }) only [RUN, PATHS, BASE, FA, POL, start_tm, Heap.empty, reduceIte, Nat.reduceLT, Nat.reduceLeDiff, Nat.reduceEqDiff, Nat.reduceAdd, Nat.reduceSub, Nat.reduceMul, Nat.reduceBEq, Int.reduceLT, Int.reduceLE, Int.reduceEq, Int.reduceNeg, Int.reduceAdd, Int.reduceSub, Int.reduceMul, Bool.false_eq_true, Bool.not_true, Bool.not_false, decide_eq_true_eq, and_self, true_and, and_true, reduceCtorEq, ne_eq, not_false_eq_true, not_true_eq_false, decide_true, decide_false, or_false, false_or, NUM, SST, SPS, c_saneV, hb, cf, h]
  by_cases h1 : 0 ≤ i ∧ i < l.length
  rotate_left
  · have fo : FOR l ps i = (0, 1) := by unfold FOR; rw [if_pos h, if_neg h1]
    rw [fo] at cf
    rw [ap_eq _ Try.func8 rfl Try.ntmps8 Try.results8 (by kernel_rfl) rfl (by exact Nat.le_of_ble_eq_true rfl)]
    simp (config := { maxSteps := 1000000 }) only [RUN, PATHS, BASE, FA, POL, start_tm, Heap.empty, reduceIte, Nat.reduceLT, Nat.reduceLeDiff, Nat.reduceEqDiff, Nat.reduceAdd, Nat.reduceSub, Nat.reduceMul, Nat.reduceBEq, Int.reduceLT, Int.reduceLE, Int.reduceEq, Int.reduceNeg, Int.reduceAdd, Int.reduceSub, Int.reduceMul, Bool.false_eq_true, Bool.not_true, Bool.not_false, decide_eq_true_eq, and_self, true_and, and_true, reduceCtorEq, ne_eq, not_false_eq_true, not_true_eq_false, decide_true, decide_false, or_false, false_or, NUM, SST, SPS, c_saneV, hb, cf]
  obtain ⟨a, rfl⟩ := Int.eq_ofNat_of_zero_le h1.1
  have ha : a < l.length := by omega
  have e0 : l[a]? = some l[a] := List.getElem?_eq_getElem ha
  generalize l[a] = x at *
  obtain ⟨⟨hl, hg⟩, ⟨hp, ok⟩, hi⟩ := CHK_0 h
  have ox := GOOD_in hg e0
  rw [FOR_kt h e0] at cf
  have f0 := map_get (f := stk) e0
  have fb := FORV_bd ox ok
  rw [ap_eq _ Try.func8 rfl Try.ntmps8 Try.results8 (by kernel_rfl) rfl (by exact Nat.le_of_ble_eq_true rfl)]
  simp (config := { maxSteps := 1000000 }) only [RUN, PATHS, BASE, FA, POL, start_tm, Heap.empty, reduceIte, Nat.reduceLT, Nat.reduceLeDiff, Nat.reduceEqDiff, Nat.reduceAdd, Nat.reduceSub, Nat.reduceMul, Nat.reduceBEq, Int.reduceLT, Int.reduceLE, Int.reduceEq, Int.reduceNeg, Int.reduceAdd, Int.reduceSub, Int.reduceMul, Bool.false_eq_true, Bool.not_true, Bool.not_false, decide_eq_true_eq, and_self, true_and, and_true, reduceCtorEq, ne_eq, not_false_eq_true, not_true_eq_false, decide_true, decide_false, or_false, false_or, NUM, SST, SPS, c_saneV, hb, cf, List.length_map, (show ¬ (a : Int) < 0 by omega), (show ¬ (l.length : Int) ≤ a by omega)]
  generalize hL : W _ (.loop _) _ = L
  obtain ⟨ex, s, rfl, rfl, g0, g1, g2, g4, g5, g13, h15, h16, r1, r2, hn, hd, hf⟩ := loop_at hL (α := Nat) (fun j => ps.length - j)
    (fun s0 j s => j ≤ ps.length ∧ s.tmps 55 = I j ∧ s.tmps 54 = I ps.length ∧ s.tmps 53 = .vs 3 (ps.map pst) none ∧ s.tmps 3 = I m ∧ s.tmps 0 = .vs 4 (l.map stk) none ∧ s.tmps 1 = .vs 3 (ps.map pst) none ∧ s.tmps 2 = I a ∧ s.tmps 4 = I rate ∧ s.tmps 5 = I dep ∧ s.tmps 13 = I (FORV x ps) ∧
      s.tmps 15 = .gsl 3 1 (WLS (ps.take j) m).length 0 (WLS (ps.take j) m).length ∧ s.tmps 16 = .gsl 3 2 (OWNP x.b (ps.take j)).length 0 (OWNP x.b (ps.take j)).length ∧ s.H.rows 1 = some (.gro 3 ((WLS (ps.take j) m).map pst) 0) ∧ s.H.rows 2 = some (.gro 3 ((OWNP x.b (ps.take j)).map pst) 0) ∧ s.H.next = 3 ∧ s.defers = [] ∧ s.fid = 0)
    (fun s0 ex s => ex = .exit 0 ∧ s.tmps 0 = .vs 4 (l.map stk) none ∧ s.tmps 1 = .vs 3 (ps.map pst) none ∧ s.tmps 2 = I a ∧ s.tmps 4 = I rate ∧ s.tmps 5 = I dep ∧ s.tmps 13 = I (FORV x ps) ∧
      s.tmps 15 = .gsl 3 1 (WLS ps m).length 0 (WLS ps m).length ∧ s.tmps 16 = .gsl 3 2 (OWNP x.b ps).length 0 (OWNP x.b ps).length ∧ s.H.rows 1 = some (.gro 3 ((WLS ps m).map pst) 0) ∧ s.H.rows 2 = some (.gro 3 ((OWNP x.b ps).map pst) 0) ∧ s.H.next = 3 ∧ s.defers = [] ∧ s.fid = 0) 0
    (by have w0 : WLS [] m = [] := by unfold WLS; split <;> rfl
        simp (config := { maxSteps := 1000000 }) only [RUN, PATHS, BASE, FA, POL, start_tm, Heap.empty, reduceIte, Nat.reduceLT, Nat.reduceLeDiff, Nat.reduceEqDiff, Nat.reduceAdd, Nat.reduceSub, Nat.reduceMul, Nat.reduceBEq, Int.reduceLT, Int.reduceLE, Int.reduceEq, Int.reduceNeg, Int.reduceAdd, Int.reduceSub, Int.reduceMul, Bool.false_eq_true, Bool.not_true, Bool.not_false, decide_eq_true_eq, and_self, true_and, and_true, reduceCtorEq, ne_eq, not_false_eq_true, not_true_eq_false, decide_true, decide_false, or_false, false_or, List.take_zero, w0, OWNP, List.filter_nil]; exact ⟨Nat.zero_le _, rfl⟩) (by
      rintro j s r hW ⟨hj, h55, h54, h53, g3, g0, g1, g2, g4, g5, g13, h15, h16, r1, r2, hn, hd, hf⟩
      by_cases hpj : j < ps.length
      · have y0 : ps[j]? = some ps[j] := List.getElem?_eq_getElem hpj
        have y1 := map_get (f := pst) y0
        have oy := ok _ (List.getElem_mem hpj)
        have wt := WLS_take (m := m) y0
        have ot := OWNP_take (b := x.b) y0
        have lw : (WLS (ps.take j) m).length ≤ j := by unfold WLS; split <;> simp; omega
        have lo : (OWNP x.b (ps.take j)).length ≤ j := Nat.le_trans (List.length_filter_le _ _) (by simp; omega)
        generalize ps[j] = y at *
        obtain ⟨cw1, cw2⟩ := c_widen y.bo y.cb m oy.2.1
        obtain ⟨A, hA⟩ : ∃ A, A = WLS (ps.take j) m := ⟨_, rfl⟩
        obtain ⟨B, hB⟩ : ∃ B, B = OWNP x.b (ps.take j) := ⟨_, rfl⟩
        rw [← hA] at wt lw h15 r1
        rw [← hB] at ot lo h16 r2
        have wpst : pst (WP m y) = .agg [I y.b, .vs 2 ((WID y.bo m).map rg) none, .vs 1 (y.se.map I) y.cs] := rfl
        by_cases hm : 0 ≤ m ∧ m ≤ 1099511627776
        · have cw := cw1 hm
          rw [if_pos hm] at wt
          by_cases hyb : y.b = x.b
          · rw [if_pos hyb] at ot
            rcases hbx : s.boxes 18 with _ | ⟨ver, cs⟩
            · simp (config := { maxSteps := 1000000 }) only [RUN, PATHS, BASE, FA, POL, start_tm, Heap.empty, reduceIte, Nat.reduceLT, Nat.reduceLeDiff, Nat.reduceEqDiff, Nat.reduceAdd, Nat.reduceSub, Nat.reduceMul, Nat.reduceBEq, Int.reduceLT, Int.reduceLE, Int.reduceEq, Int.reduceNeg, Int.reduceAdd, Int.reduceSub, Int.reduceMul, Bool.false_eq_true, Bool.not_true, Bool.not_false, decide_eq_true_eq, and_self, true_and, and_true, reduceCtorEq, ne_eq, not_false_eq_true, not_true_eq_false, decide_true, decide_false, or_false, false_or, NUM, SST, SPS, SRG, SIN, cw, h55, h54, h53, g3, g0, g1, g2, g4, g5, g13, h15, h16, r1, r2, hn, hd, hf, hbx, y1, f0, List.length_map, Int.toNat_natCast, Nat.zero_le, Nat.zero_add, (show (j : Int) < ps.length by omega), (show (0 : Int) ≤ j by omega), (show (a : Int) < l.length by omega), (show (0 : Int) ≤ a by omega), i64_in (x := (j : Int) + 1) (by unfold I64; omega), (show A.length + 1 ≤ 67108864 by omega), (show B.length + 1 ≤ 67108864 by omega), hyb] at hW
              subst hW
              refine rd_next (j + 1) ?_ (show ps.length - (j + 1) < ps.length - j by omega)
              simp (config := { maxSteps := 1000000 }) only [RUN, PATHS, BASE, FA, POL, start_tm, Heap.empty, reduceIte, Nat.reduceLT, Nat.reduceLeDiff, Nat.reduceEqDiff, Nat.reduceAdd, Nat.reduceSub, Nat.reduceMul, Nat.reduceBEq, Int.reduceLT, Int.reduceLE, Int.reduceEq, Int.reduceNeg, Int.reduceAdd, Int.reduceSub, Int.reduceMul, Bool.false_eq_true, Bool.not_true, Bool.not_false, decide_eq_true_eq, and_self, true_and, and_true, reduceCtorEq, ne_eq, not_false_eq_true, not_true_eq_false, decide_true, decide_false, or_false, false_or, h54, h53, g3, g0, g1, g2, g4, g5, g13, h15, h16, r1, r2, hn, wt, ot, List.map_append, List.length_append, wpst]
              exact ⟨by omega, by simp [hyb]⟩
            · simp (config := { maxSteps := 1000000 }) only [RUN, PATHS, BASE, FA, POL, start_tm, Heap.empty, reduceIte, Nat.reduceLT, Nat.reduceLeDiff, Nat.reduceEqDiff, Nat.reduceAdd, Nat.reduceSub, Nat.reduceMul, Nat.reduceBEq, Int.reduceLT, Int.reduceLE, Int.reduceEq, Int.reduceNeg, Int.reduceAdd, Int.reduceSub, Int.reduceMul, Bool.false_eq_true, Bool.not_true, Bool.not_false, decide_eq_true_eq, and_self, true_and, and_true, reduceCtorEq, ne_eq, not_false_eq_true, not_true_eq_false, decide_true, decide_false, or_false, false_or, NUM, SST, SPS, SRG, SIN, cw, h55, h54, h53, g3, g0, g1, g2, g4, g5, g13, h15, h16, r1, r2, hn, hd, hf, hbx, y1, f0, List.length_map, Int.toNat_natCast, Nat.zero_le, Nat.zero_add, (show (j : Int) < ps.length by omega), (show (0 : Int) ≤ j by omega), (show (a : Int) < l.length by omega), (show (0 : Int) ≤ a by omega), i64_in (x := (j : Int) + 1) (by unfold I64; omega), (show A.length + 1 ≤ 67108864 by omega), (show B.length + 1 ≤ 67108864 by omega), hyb] at hW
              subst hW
              refine rd_next (j + 1) ?_ (show ps.length - (j + 1) < ps.length - j by omega)
              simp (config := { maxSteps := 1000000 }) only [RUN, PATHS, BASE, FA, POL, start_tm, Heap.empty, reduceIte, Nat.reduceLT, Nat.reduceLeDiff, Nat.reduceEqDiff, Nat.reduceAdd, Nat.reduceSub, Nat.reduceMul, Nat.reduceBEq, Int.reduceLT, Int.reduceLE, Int.reduceEq, Int.reduceNeg, Int.reduceAdd, Int.reduceSub, Int.reduceMul, Bool.false_eq_true, Bool.not_true, Bool.not_false, decide_eq_true_eq, and_self, true_and, and_true, reduceCtorEq, ne_eq, not_false_eq_true, not_true_eq_false, decide_true, decide_false, or_false, false_or, h54, h53, g3, g0, g1, g2, g4, g5, g13, h15, h16, r1, r2, hn, wt, ot, List.map_append, List.length_append, wpst]
              exact ⟨by omega, by simp [hyb]⟩
          · rw [if_neg hyb, List.append_nil] at ot
            rcases hbx : s.boxes 18 with _ | ⟨ver, cs⟩
            · simp (config := { maxSteps := 1000000 }) only [RUN, PATHS, BASE, FA, POL, start_tm, Heap.empty, reduceIte, Nat.reduceLT, Nat.reduceLeDiff, Nat.reduceEqDiff, Nat.reduceAdd, Nat.reduceSub, Nat.reduceMul, Nat.reduceBEq, Int.reduceLT, Int.reduceLE, Int.reduceEq, Int.reduceNeg, Int.reduceAdd, Int.reduceSub, Int.reduceMul, Bool.false_eq_true, Bool.not_true, Bool.not_false, decide_eq_true_eq, and_self, true_and, and_true, reduceCtorEq, ne_eq, not_false_eq_true, not_true_eq_false, decide_true, decide_false, or_false, false_or, NUM, SST, SPS, SRG, SIN, cw, h55, h54, h53, g3, g0, g1, g2, g4, g5, g13, h15, h16, r1, r2, hn, hd, hf, hbx, y1, f0, List.length_map, Int.toNat_natCast, Nat.zero_le, Nat.zero_add, (show (j : Int) < ps.length by omega), (show (0 : Int) ≤ j by omega), (show (a : Int) < l.length by omega), (show (0 : Int) ≤ a by omega), i64_in (x := (j : Int) + 1) (by unfold I64; omega), (show A.length + 1 ≤ 67108864 by omega), (show B.length + 1 ≤ 67108864 by omega), hyb] at hW
              subst hW
              refine rd_next (j + 1) ?_ (show ps.length - (j + 1) < ps.length - j by omega)
              simp (config := { maxSteps := 1000000 }) only [RUN, PATHS, BASE, FA, POL, start_tm, Heap.empty, reduceIte, Nat.reduceLT, Nat.reduceLeDiff, Nat.reduceEqDiff, Nat.reduceAdd, Nat.reduceSub, Nat.reduceMul, Nat.reduceBEq, Int.reduceLT, Int.reduceLE, Int.reduceEq, Int.reduceNeg, Int.reduceAdd, Int.reduceSub, Int.reduceMul, Bool.false_eq_true, Bool.not_true, Bool.not_false, decide_eq_true_eq, and_self, true_and, and_true, reduceCtorEq, ne_eq, not_false_eq_true, not_true_eq_false, decide_true, decide_false, or_false, false_or, h54, h53, g3, g0, g1, g2, g4, g5, g13, h15, h16, r1, r2, hn, wt, ot, List.map_append, List.length_append, wpst]
              exact ⟨by omega, by simp [hyb]⟩
            · simp (config := { maxSteps := 1000000 }) only [RUN, PATHS, BASE, FA, POL, start_tm, Heap.empty, reduceIte, Nat.reduceLT, Nat.reduceLeDiff, Nat.reduceEqDiff, Nat.reduceAdd, Nat.reduceSub, Nat.reduceMul, Nat.reduceBEq, Int.reduceLT, Int.reduceLE, Int.reduceEq, Int.reduceNeg, Int.reduceAdd, Int.reduceSub, Int.reduceMul, Bool.false_eq_true, Bool.not_true, Bool.not_false, decide_eq_true_eq, and_self, true_and, and_true, reduceCtorEq, ne_eq, not_false_eq_true, not_true_eq_false, decide_true, decide_false, or_false, false_or, NUM, SST, SPS, SRG, SIN, cw, h55, h54, h53, g3, g0, g1, g2, g4, g5, g13, h15, h16, r1, r2, hn, hd, hf, hbx, y1, f0, List.length_map, Int.toNat_natCast, Nat.zero_le, Nat.zero_add, (show (j : Int) < ps.length by omega), (show (0 : Int) ≤ j by omega), (show (a : Int) < l.length by omega), (show (0 : Int) ≤ a by omega), i64_in (x := (j : Int) + 1) (by unfold I64; omega), (show A.length + 1 ≤ 67108864 by omega), (show B.length + 1 ≤ 67108864 by omega), hyb] at hW
              subst hW
              refine rd_next (j + 1) ?_ (show ps.length - (j + 1) < ps.length - j by omega)
              simp (config := { maxSteps := 1000000 }) only [RUN, PATHS, BASE, FA, POL, start_tm, Heap.empty, reduceIte, Nat.reduceLT, Nat.reduceLeDiff, Nat.reduceEqDiff, Nat.reduceAdd, Nat.reduceSub, Nat.reduceMul, Nat.reduceBEq, Int.reduceLT, Int.reduceLE, Int.reduceEq, Int.reduceNeg, Int.reduceAdd, Int.reduceSub, Int.reduceMul, Bool.false_eq_true, Bool.not_true, Bool.not_false, decide_eq_true_eq, and_self, true_and, and_true, reduceCtorEq, ne_eq, not_false_eq_true, not_true_eq_false, decide_true, decide_false, or_false, false_or, h54, h53, g3, g0, g1, g2, g4, g5, g13, h15, h16, r1, r2, hn, wt, ot, List.map_append, List.length_append, wpst]
              exact ⟨by omega, by simp [hyb]⟩
        · have cw := cw2 hm
          rw [if_neg hm, List.append_nil] at wt
          by_cases hyb : y.b = x.b
          · rw [if_pos hyb] at ot
            rcases hbx : s.boxes 18 with _ | ⟨ver, cs⟩
            · simp (config := { maxSteps := 1000000 }) only [RUN, PATHS, BASE, FA, POL, start_tm, Heap.empty, reduceIte, Nat.reduceLT, Nat.reduceLeDiff, Nat.reduceEqDiff, Nat.reduceAdd, Nat.reduceSub, Nat.reduceMul, Nat.reduceBEq, Int.reduceLT, Int.reduceLE, Int.reduceEq, Int.reduceNeg, Int.reduceAdd, Int.reduceSub, Int.reduceMul, Bool.false_eq_true, Bool.not_true, Bool.not_false, decide_eq_true_eq, and_self, true_and, and_true, reduceCtorEq, ne_eq, not_false_eq_true, not_true_eq_false, decide_true, decide_false, or_false, false_or, NUM, SST, SPS, SRG, SIN, cw, h55, h54, h53, g3, g0, g1, g2, g4, g5, g13, h15, h16, r1, r2, hn, hd, hf, hbx, y1, f0, List.length_map, Int.toNat_natCast, Nat.zero_le, Nat.zero_add, (show (j : Int) < ps.length by omega), (show (0 : Int) ≤ j by omega), (show (a : Int) < l.length by omega), (show (0 : Int) ≤ a by omega), i64_in (x := (j : Int) + 1) (by unfold I64; omega), (show A.length + 1 ≤ 67108864 by omega), (show B.length + 1 ≤ 67108864 by omega), hyb] at hW
              subst hW
              refine rd_next (j + 1) ?_ (show ps.length - (j + 1) < ps.length - j by omega)
              simp (config := { maxSteps := 1000000 }) only [RUN, PATHS, BASE, FA, POL, start_tm, Heap.empty, reduceIte, Nat.reduceLT, Nat.reduceLeDiff, Nat.reduceEqDiff, Nat.reduceAdd, Nat.reduceSub, Nat.reduceMul, Nat.reduceBEq, Int.reduceLT, Int.reduceLE, Int.reduceEq, Int.reduceNeg, Int.reduceAdd, Int.reduceSub, Int.reduceMul, Bool.false_eq_true, Bool.not_true, Bool.not_false, decide_eq_true_eq, and_self, true_and, and_true, reduceCtorEq, ne_eq, not_false_eq_true, not_true_eq_false, decide_true, decide_false, or_false, false_or, h54, h53, g3, g0, g1, g2, g4, g5, g13, h15, h16, r1, r2, hn, wt, ot, List.map_append, List.length_append, wpst]
              exact ⟨by omega, by simp [hyb]⟩
            · simp (config := { maxSteps := 1000000 }) only [RUN, PATHS, BASE, FA, POL, start_tm, Heap.empty, reduceIte, Nat.reduceLT, Nat.reduceLeDiff, Nat.reduceEqDiff, Nat.reduceAdd, Nat.reduceSub, Nat.reduceMul, Nat.reduceBEq, Int.reduceLT, Int.reduceLE, Int.reduceEq, Int.reduceNeg, Int.reduceAdd, Int.reduceSub, Int.reduceMul, Bool.false_eq_true, Bool.not_true, Bool.not_false, decide_eq_true_eq, and_self, true_and, and_true, reduceCtorEq, ne_eq, not_false_eq_true, not_true_eq_false, decide_true, decide_false, or_false, false_or, NUM, SST, SPS, SRG, SIN, cw, h55, h54, h53, g3, g0, g1, g2, g4, g5, g13, h15, h16, r1, r2, hn, hd, hf, hbx, y1, f0, List.length_map, Int.toNat_natCast, Nat.zero_le, Nat.zero_add, (show (j : Int) < ps.length by omega), (show (0 : Int) ≤ j by omega), (show (a : Int) < l.length by omega), (show (0 : Int) ≤ a by omega), i64_in (x := (j : Int) + 1) (by unfold I64; omega), (show A.length + 1 ≤ 67108864 by omega), (show B.length + 1 ≤ 67108864 by omega), hyb] at hW
              subst hW
              refine rd_next (j + 1) ?_ (show ps.length - (j + 1) < ps.length - j by omega)
              simp (config := { maxSteps := 1000000 }) only [RUN, PATHS, BASE, FA, POL, start_tm, Heap.empty, reduceIte, Nat.reduceLT, Nat.reduceLeDiff, Nat.reduceEqDiff, Nat.reduceAdd, Nat.reduceSub, Nat.reduceMul, Nat.reduceBEq, Int.reduceLT, Int.reduceLE, Int.reduceEq, Int.reduceNeg, Int.reduceAdd, Int.reduceSub, Int.reduceMul, Bool.false_eq_true, Bool.not_true, Bool.not_false, decide_eq_true_eq, and_self, true_and, and_true, reduceCtorEq, ne_eq, not_false_eq_true, not_true_eq_false, decide_true, decide_false, or_false, false_or, h54, h53, g3, g0, g1, g2, g4, g5, g13, h15, h16, r1, r2, hn, wt, ot, List.map_append, List.length_append, wpst]
              exact ⟨by omega, by simp [hyb]⟩
          · rw [if_neg hyb, List.append_nil] at ot
            rcases hbx : s.boxes 18 with _ | ⟨ver, cs⟩
            · simp (config := { maxSteps := 1000000 }) only [RUN, PATHS, BASE, FA, POL, start_tm, Heap.empty, reduceIte, Nat.reduceLT, Nat.reduceLeDiff, Nat.reduceEqDiff, Nat.reduceAdd, Nat.reduceSub, Nat.reduceMul, Nat.reduceBEq, Int.reduceLT, Int.reduceLE, Int.reduceEq, Int.reduceNeg, Int.reduceAdd, Int.reduceSub, Int.reduceMul, Bool.false_eq_true, Bool.not_true, Bool.not_false, decide_eq_true_eq, and_self, true_and, and_true, reduceCtorEq, ne_eq, not_false_eq_true, not_true_eq_false, decide_true, decide_false, or_false, false_or, NUM, SST, SPS, SRG, SIN, cw, h55, h54, h53, g3, g0, g1, g2, g4, g5, g13, h15, h16, r1, r2, hn, hd, hf, hbx, y1, f0, List.length_map, Int.toNat_natCast, Nat.zero_le, Nat.zero_add, (show (j : Int) < ps.length by omega), (show (0 : Int) ≤ j by omega), (show (a : Int) < l.length by omega), (show (0 : Int) ≤ a by omega), i64_in (x := (j : Int) + 1) (by unfold I64; omega), (show A.length + 1 ≤ 67108864 by omega), (show B.length + 1 ≤ 67108864 by omega), hyb] at hW
              subst hW
              refine rd_next (j + 1) ?_ (show ps.length - (j + 1) < ps.length - j by omega)
              simp (config := { maxSteps := 1000000 }) only [RUN, PATHS, BASE, FA, POL, start_tm, Heap.empty, reduceIte, Nat.reduceLT, Nat.reduceLeDiff, Nat.reduceEqDiff, Nat.reduceAdd, Nat.reduceSub, Nat.reduceMul, Nat.reduceBEq, Int.reduceLT, Int.reduceLE, Int.reduceEq, Int.reduceNeg, Int.reduceAdd, Int.reduceSub, Int.reduceMul, Bool.false_eq_true, Bool.not_true, Bool.not_false, decide_eq_true_eq, and_self, true_and, and_true, reduceCtorEq, ne_eq, not_false_eq_true, not_true_eq_false, decide_true, decide_false, or_false, false_or, h54, h53, g3, g0, g1, g2, g4, g5, g13, h15, h16, r1, r2, hn, wt, ot, List.map_append, List.length_append, wpst]
              exact ⟨by omega, by simp [hyb]⟩
            · simp (config := { maxSteps := 1000000 }) only [RUN, PATHS, BASE, FA, POL, start_tm, Heap.empty, reduceIte, Nat.reduceLT, Nat.reduceLeDiff, Nat.reduceEqDiff, Nat.reduceAdd, Nat.reduceSub, Nat.reduceMul, Nat.reduceBEq, Int.reduceLT, Int.reduceLE, Int.reduceEq, Int.reduceNeg, Int.reduceAdd, Int.reduceSub, Int.reduceMul, Bool.false_eq_true, Bool.not_true, Bool.not_false, decide_eq_true_eq, and_self, true_and, and_true, reduceCtorEq, ne_eq, not_false_eq_true, not_true_eq_false, decide_true, decide_false, or_false, false_or, NUM, SST, SPS, SRG, SIN, cw, h55, h54, h53, g3, g0, g1, g2, g4, g5, g13, h15, h16, r1, r2, hn, hd, hf, hbx, y1, f0, List.length_map, Int.toNat_natCast, Nat.zero_le, Nat.zero_add, (show (j : Int) < ps.length by omega), (show (0 : Int) ≤ j by omega), (show (a : Int) < l.length by omega), (show (0 : Int) ≤ a by omega), i64_in (x := (j : Int) + 1) (by unfold I64; omega), (show A.length + 1 ≤ 67108864 by omega), (show B.length + 1 ≤ 67108864 by omega), hyb] at hW
              subst hW
              refine rd_next (j + 1) ?_ (show ps.length - (j + 1) < ps.length - j by omega)
              simp (config := { maxSteps := 1000000 }) only [RUN, PATHS, BASE, FA, POL, start_tm, Heap.empty, reduceIte, Nat.reduceLT, Nat.reduceLeDiff, Nat.reduceEqDiff, Nat.reduceAdd, Nat.reduceSub, Nat.reduceMul, Nat.reduceBEq, Int.reduceLT, Int.reduceLE, Int.reduceEq, Int.reduceNeg, Int.reduceAdd, Int.reduceSub, Int.reduceMul, Bool.false_eq_true, Bool.not_true, Bool.not_false, decide_eq_true_eq, and_self, true_and, and_true, reduceCtorEq, ne_eq, not_false_eq_true, not_true_eq_false, decide_true, decide_false, or_false, false_or, h54, h53, g3, g0, g1, g2, g4, g5, g13, h15, h16, r1, r2, hn, wt, ot, List.map_append, List.length_append, wpst]
              exact ⟨by omega, by simp [hyb]⟩
      · simp (config := { maxSteps := 1000000 }) only [RUN, PATHS, BASE, FA, POL, start_tm, Heap.empty, reduceIte, Nat.reduceLT, Nat.reduceLeDiff, Nat.reduceEqDiff, Nat.reduceAdd, Nat.reduceSub, Nat.reduceMul, Nat.reduceBEq, Int.reduceLT, Int.reduceLE, Int.reduceEq, Int.reduceNeg, Int.reduceAdd, Int.reduceSub, Int.reduceMul, Bool.false_eq_true, Bool.not_true, Bool.not_false, decide_eq_true_eq, and_self, true_and, and_true, reduceCtorEq, ne_eq, not_false_eq_true, not_true_eq_false, decide_true, decide_false, or_false, false_or, h55, h54, hd, hf, (show ¬ (j : Int) < ps.length by omega)] at hW
        subst hW
        have : j = ps.length := by omega
        subst this
        rw [List.take_length] at h15 h16 r1 r2
        refine rd_exit ⟨rfl, ?_⟩
        simp (config := { maxSteps := 1000000 }) only [RUN, PATHS, BASE, FA, POL, start_tm, Heap.empty, reduceIte, Nat.reduceLT, Nat.reduceLeDiff, Nat.reduceEqDiff, Nat.reduceAdd, Nat.reduceSub, Nat.reduceMul, Nat.reduceBEq, Int.reduceLT, Int.reduceLE, Int.reduceEq, Int.reduceNeg, Int.reduceAdd, Int.reduceSub, Int.reduceMul, Bool.false_eq_true, Bool.not_true, Bool.not_false, decide_eq_true_eq, and_self, true_and, and_true, reduceCtorEq, ne_eq, not_false_eq_true, not_true_eq_false, decide_true, decide_false, or_false, false_or, g0, g1, g2, g4, g5, g13, h15, h16, r1, r2, hn])
  have wch : CHK l (WLS ps m) = 0 := by
    unfold WLS
    split
    · next hm => exact CHK_wide h hm
    · exact CHK_mk h (by simp) (by simp) (by intro k hk; simp at hk)
  have wfo : FORV x (WLS ps m) ≤ FORV x ps := by
    unfold WLS
    split
    · next hm => exact FORV_wide ox ok hm
    · exact fb.1
  have cf1 := c_forfeit l (WLS ps m) none none a
  rw [FOR_kt wch e0] at cf1
  have cf2 := c_forfeit l (OWNP x.b ps) none none a
  rw [FOR_kt (CHK_own h x.b) e0, FORV_own] at cf2
  have tw := SPS_take (WLS ps m) _ rfl
  have to := SPS_take (OWNP x.b ps) _ rfl
  have lne : (l.map stk).isEmpty = false := by cases l with
    | nil => simp at ha
    | cons _ _ => rfl
  have ms : (((l.map stk).set a (.agg [I x.b, I x.p, I x.d, I (max x.r rate)])).set a (.agg [I x.b, I x.p, I (max x.d dep), I (max x.r rate)])) = (l.set a (GRE x rate dep)).map stk := by
    rw [List.set_set, List.map_set]; rfl
  have mg : (((l.map stk).set a (stk ⟨x.b, x.p, x.d, max x.r rate⟩)))[a]? = some (stk ⟨x.b, x.p, x.d, max x.r rate⟩) := by
    rw [List.getElem?_set_self (by simpa using ha)]
  have ts := SST_take (l.set a (GRE x rate dep)) l.length (by simp)
  have cf3 := c_forfeit (l.set a (GRE x rate dep)) ps none none a
  have ch3 := CHK_set h e0 rate dep
  have e3 : (l.set a (GRE x rate dep))[a]? = some (GRE x rate dep) := by rw [List.getElem?_set_self ha]
  have fit : ((l.map stk).all fun e => e.fits 4) = true := by simp [PV.fits, PV.cells]
  have lset : (l.set a (GRE x rate dep)).length = l.length := by simp
  by_cases hk : ((WLS ps m).length : Int) = ps.length
  · by_cases hg2 : OKS (GRE x rate dep)
    · have c3 := ch3.1 hg2
      have ge := FORV_gre ox ok rate dep hg2
      rw [FOR_kt c3 e3] at cf3
      simp (config := { maxSteps := 1000000 }) only [RUN, PATHS, BASE, FA, POL, start_tm, Heap.empty, reduceIte, Nat.reduceLT, Nat.reduceLeDiff, Nat.reduceEqDiff, Nat.reduceAdd, Nat.reduceSub, Nat.reduceMul, Nat.reduceBEq, Int.reduceLT, Int.reduceLE, Int.reduceEq, Int.reduceNeg, Int.reduceAdd, Int.reduceSub, Int.reduceMul, Bool.false_eq_true, Bool.not_true, Bool.not_false, decide_eq_true_eq, and_self, true_and, and_true, reduceCtorEq, ne_eq, not_false_eq_true, not_true_eq_false, decide_true, decide_false, or_false, false_or, fit, or_self, NUM, SST, SPS, SRG, SIN, g0, g1, g2, g4, g5, g13, h15, h16, r1, r2, hn, hd, hf, cf1, cf2, cf3, tw, to, lne, ms, mg, ts, lset, f0, List.length_map, List.length_set, Int.toNat_natCast, Nat.zero_le, Nat.zero_add, Nat.le_refl, (show (a : Int) < l.length by omega), (show (0 : Int) ≤ a by omega), (show l.length ≤ 67108864 by omega), hk, (show ¬ FORV x ps < FORV x (WLS ps m) by omega)]
      rw [if_pos (by kernel_rfl)]
      simp (config := { maxSteps := 1000000 }) only [RUN, PATHS, BASE, FA, POL, start_tm, Heap.empty, reduceIte, Nat.reduceLT, Nat.reduceLeDiff, Nat.reduceEqDiff, Nat.reduceAdd, Nat.reduceSub, Nat.reduceMul, Nat.reduceBEq, Int.reduceLT, Int.reduceLE, Int.reduceEq, Int.reduceNeg, Int.reduceAdd, Int.reduceSub, Int.reduceMul, Bool.false_eq_true, Bool.not_true, Bool.not_false, decide_eq_true_eq, and_self, true_and, and_true, reduceCtorEq, ne_eq, not_false_eq_true, not_true_eq_false, decide_true, decide_false, or_false, false_or, fit, or_self, NUM, SST, SPS, SRG, SIN, g0, g1, g2, g4, g5, g13, h15, h16, r1, r2, hn, hd, hf, cf1, cf2, cf3, tw, to, lne, ms, mg, ts, lset, f0, List.length_map, List.length_set, Int.toNat_natCast, Nat.zero_le, Nat.zero_add, Nat.le_refl, (show (a : Int) < l.length by omega), (show (0 : Int) ≤ a by omega), (show l.length ≤ 67108864 by omega), hk, (show ¬ FORV x ps < FORV x (WLS ps m) by omega), ge]
    · have c3 := ch3.2 hg2
      have fo3 : FOR (l.set a (GRE x rate dep)) ps a = (0, CHK (l.set a (GRE x rate dep)) ps) := by unfold FOR; rw [if_neg c3]
      rw [fo3] at cf3
      have big : 1048576 < rate ∨ 1073741824 < dep := by
        have := ox
        unfold OKS GRE at hg2
        unfold OKS at this
        simp only at hg2
        omega
      simp (config := { maxSteps := 1000000 }) only [RUN, PATHS, BASE, FA, POL, start_tm, Heap.empty, reduceIte, Nat.reduceLT, Nat.reduceLeDiff, Nat.reduceEqDiff, Nat.reduceAdd, Nat.reduceSub, Nat.reduceMul, Nat.reduceBEq, Int.reduceLT, Int.reduceLE, Int.reduceEq, Int.reduceNeg, Int.reduceAdd, Int.reduceSub, Int.reduceMul, Bool.false_eq_true, Bool.not_true, Bool.not_false, decide_eq_true_eq, and_self, true_and, and_true, reduceCtorEq, ne_eq, not_false_eq_true, not_true_eq_false, decide_true, decide_false, or_false, false_or, fit, or_self, NUM, SST, SPS, SRG, SIN, g0, g1, g2, g4, g5, g13, h15, h16, r1, r2, hn, hd, hf, cf1, cf2, cf3, tw, to, lne, ms, mg, ts, lset, f0, List.length_map, List.length_set, Int.toNat_natCast, Nat.zero_le, Nat.zero_add, Nat.le_refl, (show (a : Int) < l.length by omega), (show (0 : Int) ≤ a by omega), (show l.length ≤ 67108864 by omega), hk, (show ¬ FORV x ps < FORV x (WLS ps m) by omega)]
      rw [if_pos (by kernel_rfl)]
      by_cases hb1 : 1048576 < rate
      · simp (config := { maxSteps := 1000000 }) only [RUN, PATHS, BASE, FA, POL, start_tm, Heap.empty, reduceIte, Nat.reduceLT, Nat.reduceLeDiff, Nat.reduceEqDiff, Nat.reduceAdd, Nat.reduceSub, Nat.reduceMul, Nat.reduceBEq, Int.reduceLT, Int.reduceLE, Int.reduceEq, Int.reduceNeg, Int.reduceAdd, Int.reduceSub, Int.reduceMul, Bool.false_eq_true, Bool.not_true, Bool.not_false, decide_eq_true_eq, and_self, true_and, and_true, reduceCtorEq, ne_eq, not_false_eq_true, not_true_eq_false, decide_true, decide_false, or_false, false_or, fit, or_self, NUM, SST, SPS, SRG, SIN, g0, g1, g2, g4, g5, g13, h15, h16, r1, r2, hn, hd, hf, cf1, cf2, cf3, tw, to, lne, ms, mg, ts, lset, f0, List.length_map, List.length_set, Int.toNat_natCast, Nat.zero_le, Nat.zero_add, Nat.le_refl, (show (a : Int) < l.length by omega), (show (0 : Int) ≤ a by omega), (show l.length ≤ 67108864 by omega), hk, (show ¬ FORV x ps < FORV x (WLS ps m) by omega), c3, hb1]
      · simp (config := { maxSteps := 1000000 }) only [RUN, PATHS, BASE, FA, POL, start_tm, Heap.empty, reduceIte, Nat.reduceLT, Nat.reduceLeDiff, Nat.reduceEqDiff, Nat.reduceAdd, Nat.reduceSub, Nat.reduceMul, Nat.reduceBEq, Int.reduceLT, Int.reduceLE, Int.reduceEq, Int.reduceNeg, Int.reduceAdd, Int.reduceSub, Int.reduceMul, Bool.false_eq_true, Bool.not_true, Bool.not_false, decide_eq_true_eq, and_self, true_and, and_true, reduceCtorEq, ne_eq, not_false_eq_true, not_true_eq_false, decide_true, decide_false, or_false, false_or, fit, or_self, NUM, SST, SPS, SRG, SIN, g0, g1, g2, g4, g5, g13, h15, h16, r1, r2, hn, hd, hf, cf1, cf2, cf3, tw, to, lne, ms, mg, ts, lset, f0, List.length_map, List.length_set, Int.toNat_natCast, Nat.zero_le, Nat.zero_add, Nat.le_refl, (show (a : Int) < l.length by omega), (show (0 : Int) ≤ a by omega), (show l.length ≤ 67108864 by omega), hk, (show ¬ FORV x ps < FORV x (WLS ps m) by omega), c3, hb1, (show 1073741824 < dep by omega)]
  · by_cases hg2 : OKS (GRE x rate dep)
    · have c3 := ch3.1 hg2
      have ge := FORV_gre ox ok rate dep hg2
      rw [FOR_kt c3 e3] at cf3
      simp (config := { maxSteps := 1000000 }) only [RUN, PATHS, BASE, FA, POL, start_tm, Heap.empty, reduceIte, Nat.reduceLT, Nat.reduceLeDiff, Nat.reduceEqDiff, Nat.reduceAdd, Nat.reduceSub, Nat.reduceMul, Nat.reduceBEq, Int.reduceLT, Int.reduceLE, Int.reduceEq, Int.reduceNeg, Int.reduceAdd, Int.reduceSub, Int.reduceMul, Bool.false_eq_true, Bool.not_true, Bool.not_false, decide_eq_true_eq, and_self, true_and, and_true, reduceCtorEq, ne_eq, not_false_eq_true, not_true_eq_false, decide_true, decide_false, or_false, false_or, fit, or_self, NUM, SST, SPS, SRG, SIN, g0, g1, g2, g4, g5, g13, h15, h16, r1, r2, hn, hd, hf, cf1, cf2, cf3, tw, to, lne, ms, mg, ts, lset, f0, List.length_map, List.length_set, Int.toNat_natCast, Nat.zero_le, Nat.zero_add, Nat.le_refl, (show (a : Int) < l.length by omega), (show (0 : Int) ≤ a by omega), (show l.length ≤ 67108864 by omega), hk]
      rw [if_pos (by kernel_rfl)]
      simp (config := { maxSteps := 1000000 }) only [RUN, PATHS, BASE, FA, POL, start_tm, Heap.empty, reduceIte, Nat.reduceLT, Nat.reduceLeDiff, Nat.reduceEqDiff, Nat.reduceAdd, Nat.reduceSub, Nat.reduceMul, Nat.reduceBEq, Int.reduceLT, Int.reduceLE, Int.reduceEq, Int.reduceNeg, Int.reduceAdd, Int.reduceSub, Int.reduceMul, Bool.false_eq_true, Bool.not_true, Bool.not_false, decide_eq_true_eq, and_self, true_and, and_true, reduceCtorEq, ne_eq, not_false_eq_true, not_true_eq_false, decide_true, decide_false, or_false, false_or, fit, or_self, NUM, SST, SPS, SRG, SIN, g0, g1, g2, g4, g5, g13, h15, h16, r1, r2, hn, hd, hf, cf1, cf2, cf3, tw, to, lne, ms, mg, ts, lset, f0, List.length_map, List.length_set, Int.toNat_natCast, Nat.zero_le, Nat.zero_add, Nat.le_refl, (show (a : Int) < l.length by omega), (show (0 : Int) ≤ a by omega), (show l.length ≤ 67108864 by omega), hk, ge]
    · have c3 := ch3.2 hg2
      have fo3 : FOR (l.set a (GRE x rate dep)) ps a = (0, CHK (l.set a (GRE x rate dep)) ps) := by unfold FOR; rw [if_neg c3]
      rw [fo3] at cf3
      have big : 1048576 < rate ∨ 1073741824 < dep := by
        have := ox
        unfold OKS GRE at hg2
        unfold OKS at this
        simp only at hg2
        omega
      simp (config := { maxSteps := 1000000 }) only [RUN, PATHS, BASE, FA, POL, start_tm, Heap.empty, reduceIte, Nat.reduceLT, Nat.reduceLeDiff, Nat.reduceEqDiff, Nat.reduceAdd, Nat.reduceSub, Nat.reduceMul, Nat.reduceBEq, Int.reduceLT, Int.reduceLE, Int.reduceEq, Int.reduceNeg, Int.reduceAdd, Int.reduceSub, Int.reduceMul, Bool.false_eq_true, Bool.not_true, Bool.not_false, decide_eq_true_eq, and_self, true_and, and_true, reduceCtorEq, ne_eq, not_false_eq_true, not_true_eq_false, decide_true, decide_false, or_false, false_or, fit, or_self, NUM, SST, SPS, SRG, SIN, g0, g1, g2, g4, g5, g13, h15, h16, r1, r2, hn, hd, hf, cf1, cf2, cf3, tw, to, lne, ms, mg, ts, lset, f0, List.length_map, List.length_set, Int.toNat_natCast, Nat.zero_le, Nat.zero_add, Nat.le_refl, (show (a : Int) < l.length by omega), (show (0 : Int) ≤ a by omega), (show l.length ≤ 67108864 by omega), hk]
      rw [if_pos (by kernel_rfl)]
      by_cases hb1 : 1048576 < rate
      · simp (config := { maxSteps := 1000000 }) only [RUN, PATHS, BASE, FA, POL, start_tm, Heap.empty, reduceIte, Nat.reduceLT, Nat.reduceLeDiff, Nat.reduceEqDiff, Nat.reduceAdd, Nat.reduceSub, Nat.reduceMul, Nat.reduceBEq, Int.reduceLT, Int.reduceLE, Int.reduceEq, Int.reduceNeg, Int.reduceAdd, Int.reduceSub, Int.reduceMul, Bool.false_eq_true, Bool.not_true, Bool.not_false, decide_eq_true_eq, and_self, true_and, and_true, reduceCtorEq, ne_eq, not_false_eq_true, not_true_eq_false, decide_true, decide_false, or_false, false_or, fit, or_self, NUM, SST, SPS, SRG, SIN, g0, g1, g2, g4, g5, g13, h15, h16, r1, r2, hn, hd, hf, cf1, cf2, cf3, tw, to, lne, ms, mg, ts, lset, f0, List.length_map, List.length_set, Int.toNat_natCast, Nat.zero_le, Nat.zero_add, Nat.le_refl, (show (a : Int) < l.length by omega), (show (0 : Int) ≤ a by omega), (show l.length ≤ 67108864 by omega), hk, c3, hb1]
      · simp (config := { maxSteps := 1000000 }) only [RUN, PATHS, BASE, FA, POL, start_tm, Heap.empty, reduceIte, Nat.reduceLT, Nat.reduceLeDiff, Nat.reduceEqDiff, Nat.reduceAdd, Nat.reduceSub, Nat.reduceMul, Nat.reduceBEq, Int.reduceLT, Int.reduceLE, Int.reduceEq, Int.reduceNeg, Int.reduceAdd, Int.reduceSub, Int.reduceMul, Bool.false_eq_true, Bool.not_true, Bool.not_false, decide_eq_true_eq, and_self, true_and, and_true, reduceCtorEq, ne_eq, not_false_eq_true, not_true_eq_false, decide_true, decide_false, or_false, false_or, fit, or_self, NUM, SST, SPS, SRG, SIN, g0, g1, g2, g4, g5, g13, h15, h16, r1, r2, hn, hd, hf, cf1, cf2, cf3, tw, to, lne, ms, mg, ts, lset, f0, List.length_map, List.length_set, Int.toNat_natCast, Nat.zero_le, Nat.zero_add, Nat.le_refl, (show (a : Int) < l.length by omega), (show (0 : Int) ≤ a by omega), (show l.length ≤ 67108864 by omega), hk, c3, hb1, (show 1073741824 < dep by omega)]
end Go.Proofs.Ytnabgahkdomeoaa

