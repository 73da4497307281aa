/-
  Fails; the walk of StakesKept.
-/
import Derived.Test.YtnabgahkdomeoaaC29
set_option linter.unusedSimpArgs false
set_option linter.unusedVariables false
set_option linter.unusedSectionVars false
namespace Go.Proofs.Ytnabgahkdomeoaa
open Go GoV
set_option maxRecDepth 100000

theorem FOR_ku {l : List Stk} {ps : List Pst} (h : CHK l ps = 0) {i : Nat} {x : Stk} (e : l[i]? = some x) : FOR l ps i = (FORV x ps, 0) := by
  have hi := (List.getElem?_eq_some_iff.1 e).1
  unfold FOR
  rw [if_pos h, if_pos (by omega), Int.toNat_natCast, List.getD_eq_getElem?_getD, e]; rfl
abbrev tr (e : Int × Int) : PV := .agg [I e.1, I e.2]
theorem STR2 : (∀ l : List (Int × Int), strip0L (l.map tr) = l.map tr) ∧ (∀ l : List (Int × Int), (l.map tr).map strip0 = l.map tr) ∧ (∀ H (l : List (Int × Int)), (l.map tr).map (strip1 H) = l.map tr) ∧ (∀ H (l : List (Int × Int)), (l.map tr).map (strip2 H) = l.map tr) ∧ (∀ H (l : List (Int × Int)), strip1L H (l.map tr) = l.map tr) ∧ (∀ H (l : List (Int × Int)), strip2L H (l.map tr) = l.map tr) := STR tr (fun _ => rfl) (fun _ _ => rfl) (fun _ _ => rfl)
/-- A period in which a forecast failed. -/
def HITY (y : Pst) (k0 : Nat) (p : Int) : Prop := ∃ k r n, k < k0 ∧ y.bo[k]? = some r ∧ y.se[k]? = some n ∧ 0 < DIST r n ∧ (k : Int) = p
def HIT (ps : List Pst) (b : Int) (j : Nat) (p : Int) : Prop := ∃ i y, i < j ∧ ps[i]? = some y ∧ y.b = b ∧ HITY y y.bo.length p
def FLD (ps : List Pst) (b : Int) (j : Nat) (L : List (Int × Int)) : Prop := ∀ p, (∃ e ∈ L, e.2 = p) ↔ HIT ps b j p
def FLI (ps : List Pst) (b : Int) (j : Nat) (y : Pst) (k : Nat) (L : List (Int × Int)) : Prop := ∀ p, (∃ e ∈ L, e.2 = p) ↔ HIT ps b j p ∨ HITY y k p
theorem HITY_succ {y : Pst} {k : Nat} {p : Int} {r : Rg} {n : Int} (e1 : y.bo[k]? = some r) (e2 : y.se[k]? = some n) : HITY y (k + 1) p ↔ HITY y k p ∨ (0 < DIST r n ∧ (k : Int) = p) := by
  constructor
  · rintro ⟨k', r', n', h1, h2, h3, h4, h5⟩
    by_cases hk : k' = k
    · subst hk
      rw [e1] at h2; cases h2
      rw [e2] at h3; cases h3
      exact .inr ⟨h4, h5⟩
    · exact .inl ⟨k', r', n', by omega, h2, h3, h4, h5⟩
  · rintro (⟨k', r', n', h1, h2, h3, h4, h5⟩ | ⟨h1, h2⟩)
    · exact ⟨k', r', n', by omega, h2, h3, h4, h5⟩
    · exact ⟨k, r, n, by omega, e1, e2, h1, h2⟩
theorem HIT_succ {ps : List Pst} {b : Int} {j : Nat} {p : Int} {y : Pst} (e : ps[j]? = some y) : HIT ps b (j + 1) p ↔ HIT ps b j p ∨ (y.b = b ∧ HITY y y.bo.length p) := by
  constructor
  · rintro ⟨i, z, h1, h2, h3, h4⟩
    by_cases hi : i = j
    · subst hi
      rw [e] at h2; cases h2
      exact .inr ⟨h3, h4⟩
    · exact .inl ⟨i, z, by omega, h2, h3, h4⟩
  · rintro (⟨i, z, h1, h2, h3, h4⟩ | ⟨h1, h2⟩)
    · exact ⟨i, z, by omega, h2, h3, h4⟩
    · exact ⟨j, y, by omega, e, h1, h2⟩
theorem FLI_add {ps : List Pst} {b : Int} {j : Nat} {y : Pst} {k : Nat} {L : List (Int × Int)} {r : Rg} {n : Int} (h : FLI ps b j y k L) (e1 : y.bo[k]? = some r) (e2 : y.se[k]? = some n) (hd : 0 < DIST r n) : FLI ps b j y (k + 1) (L ++ [((j : Int), (k : Int))]) := by
  intro p
  rw [HITY_succ e1 e2, ← or_assoc, ← h p]
  constructor
  · rintro ⟨e, he, hp⟩
    rcases List.mem_append.1 he with he | he
    · exact .inl ⟨e, he, hp⟩
    · simp only [List.mem_singleton] at he
      subst he
      exact .inr ⟨hd, hp⟩
  · rintro (⟨e, he, hp⟩ | ⟨_, hp⟩)
    · exact ⟨e, by simp [he], hp⟩
    · exact ⟨(j, k), by simp, hp⟩
theorem FLI_keep {ps : List Pst} {b : Int} {j : Nat} {y : Pst} {k : Nat} {L : List (Int × Int)} {r : Rg} {n : Int} (h : FLI ps b j y k L) (e1 : y.bo[k]? = some r) (e2 : y.se[k]? = some n) (hd : ¬ 0 < DIST r n) : FLI ps b j y (k + 1) L := by
  intro p
  rw [HITY_succ e1 e2, ← or_assoc, ← h p]
  exact ⟨.inl, fun h => h.elim id fun h => absurd h.1 hd⟩
theorem c_trials (ps : List Pst) (c : Option Nat) (b : Int) : ap Try.prog pol 45 [.vs 3 (ps.map pst) c, I b] = some (.ret (.fn 62 [.rop [.vs 3 (ps.map pst) c], .rop [I b]])) := by
  rw [ap_eq _ Try.func45 rfl Try.ntmps45 Try.results45 (by kernel_rfl) rfl (by exact Nat.le_of_ble_eq_true rfl)]
  simp (config := { maxSteps := 1000000 }) only [RUN, PATHS, BASE, FA, POL, start_tm, Heap.empty, reduceIte, Nat.reduceLT, Nat.reduceLeDiff, Nat.reduceEqDiff, Nat.reduceAdd, Nat.reduceSub, Nat.reduceMul, Nat.reduceBEq, Int.reduceLT, Int.reduceLE, Int.reduceEq, Int.reduceNeg, Int.reduceAdd, Int.reduceSub, Int.reduceMul, Bool.false_eq_true, Bool.not_true, Bool.not_false, decide_eq_true_eq, and_self, true_and, and_true, reduceCtorEq, ne_eq, not_false_eq_true, not_true_eq_false, decide_true, decide_false, or_false, false_or, NUM, SPS]
set_option maxHeartbeats 2000000 in
theorem c_fails (ps : List Pst) (c : Option Nat) (b : Int) (h : CKP ps = 0) (hb : 0 ≤ b ∧ b ≤ 63) : ∃ L : List (Int × Int), ap Try.prog pol 24 [.vs 3 (ps.map pst) c, I b] = some (.ret (.tup [.vs 2 (L.map tr) none, I 0])) ∧ FLD ps b ps.length L ∧ L.length ≤ 16 * ps.length := by
  have ck := c_calcheck ps c
  rw [h] at ck
  have ci := c_cin b 0 63
  rw [decide_eq_true hb] at ci
  have ct := c_trials ps c b
  obtain ⟨hp, ok⟩ := CKP_0.1 h
  rw [ap_eq _ Try.func24 rfl Try.ntmps24 Try.results24 (by kernel_rfl) rfl (by exact Nat.le_of_ble_eq_true rfl)]
  simp (config := { maxSteps := 1000000 }) only [RUN, PATHS, BASE, FA, POL, start_tm, Heap.empty, reduceIte, Nat.reduceLT, Nat.reduceLeDiff, Nat.reduceEqDiff, Nat.reduceAdd, Nat.reduceSub, Nat.reduceMul, Nat.reduceBEq, Int.reduceLT, Int.reduceLE, Int.reduceEq, Int.reduceNeg, Int.reduceAdd, Int.reduceSub, Int.reduceMul, Bool.false_eq_true, Bool.not_true, Bool.not_false, decide_eq_true_eq, and_self, true_and, and_true, reduceCtorEq, ne_eq, not_false_eq_true, not_true_eq_false, decide_true, decide_false, or_false, false_or, NUM, SPS, ck, ci, ct]
  rw [callF_eq _ _ Try.func62 rfl Try.ntmps62 Try.results62 (by kernel_rfl) rfl (by exact Nat.le_of_ble_eq_true rfl)]
  simp (config := { maxSteps := 1000000 }) only [RUN, PATHS, BASE, FA, POL, start_tm, Heap.empty, reduceIte, Nat.reduceLT, Nat.reduceLeDiff, Nat.reduceEqDiff, Nat.reduceAdd, Nat.reduceSub, Nat.reduceMul, Nat.reduceBEq, Int.reduceLT, Int.reduceLE, Int.reduceEq, Int.reduceNeg, Int.reduceAdd, Int.reduceSub, Int.reduceMul, Bool.false_eq_true, Bool.not_true, Bool.not_false, decide_eq_true_eq, and_self, true_and, and_true, reduceCtorEq, ne_eq, not_false_eq_true, not_true_eq_false, decide_true, decide_false, or_false, false_or, NUM, SPS, List.length_map]
  generalize hL : W _ (.loop _) _ = L'
  obtain ⟨ex, s, rfl, rfl, L, fl, ll, r1, r2, r3, r4, hd, hf, hx⟩ := loop_at hL (α := Nat × List (Int × Int)) (fun p => ps.length - p.1)
    (fun s0 p s => p.1 ≤ ps.length ∧ FLD ps b p.1 p.2 ∧ p.2.length ≤ 16 * p.1 ∧ s.tmps 10 = I p.1 ∧ s.tmps 9 = I ps.length ∧ s.tmps 8 = .vs 3 (ps.map pst) c ∧ s.tmps 2 = .rop [I b] ∧ s.tmps 0 = .yield 4 ∧ s.H.rows 1 = some (.gro 2 (p.2.map tr) 0) ∧ s.H.rows 2 = some (.gro 1 [.gsl 2 1 p.2.length 0 p.2.length] 0) ∧
      s.H.rows 3 = s0.H.rows 3 ∧ s.H.rows 4 = s0.H.rows 4 ∧ s.defers = [] ∧ s.fid = 5 ∧ 5 < s.H.next)
    (fun s0 ex s => ex = .exit 0 ∧ ∃ L : List (Int × Int), FLD ps b ps.length L ∧ L.length ≤ 16 * ps.length ∧ s.H.rows 1 = some (.gro 2 (L.map tr) 0) ∧ s.H.rows 2 = some (.gro 1 [.gsl 2 1 L.length 0 L.length] 0) ∧ s.H.rows 3 = s0.H.rows 3 ∧ s.H.rows 4 = s0.H.rows 4 ∧ s.defers = [] ∧ s.fid = 5 ∧ 5 < s.H.next) (0, [])
    (by simp (config := { maxSteps := 1000000 }) only [RUN, PATHS, BASE, FA, POL, start_tm, Heap.empty, reduceIte, Nat.reduceLT, Nat.reduceLeDiff, Nat.reduceEqDiff, Nat.reduceAdd, Nat.reduceSub, Nat.reduceMul, Nat.reduceBEq, Int.reduceLT, Int.reduceLE, Int.reduceEq, Int.reduceNeg, Int.reduceAdd, Int.reduceSub, Int.reduceMul, Bool.false_eq_true, Bool.not_true, Bool.not_false, decide_eq_true_eq, and_self, true_and, and_true, reduceCtorEq, ne_eq, not_false_eq_true, not_true_eq_false, decide_true, decide_false, or_false, false_or]
        refine ⟨Nat.zero_le _, fun p => ⟨fun ⟨e, he, _⟩ => by simp at he, fun ⟨i, y, hi, _⟩ => by omega⟩, by first | rfl | simp⟩) (by
      rintro ⟨j, L⟩ s r0 hW ⟨hj, fl, ll, h10, h9, h8, h2, h0, r1, r2, r3, r4, hd, hf, hx⟩
      dsimp only at hj fl ll h10 r1 r2
      simp (config := { maxSteps := 1000000 }) only [RUN, PATHS, BASE, FA, POL, start_tm, Heap.empty, reduceIte, Nat.reduceLT, Nat.reduceLeDiff, Nat.reduceEqDiff, Nat.reduceAdd, Nat.reduceSub, Nat.reduceMul, Nat.reduceBEq, Int.reduceLT, Int.reduceLE, Int.reduceEq, Int.reduceNeg, Int.reduceAdd, Int.reduceSub, Int.reduceMul, Bool.false_eq_true, Bool.not_true, Bool.not_false, decide_eq_true_eq, and_self, true_and, and_true, reduceCtorEq, ne_eq, not_false_eq_true, not_true_eq_false, decide_true, decide_false, or_false, false_or] at r3
      simp (config := { maxSteps := 1000000 }) only [RUN, PATHS, BASE, FA, POL, start_tm, Heap.empty, reduceIte, Nat.reduceLT, Nat.reduceLeDiff, Nat.reduceEqDiff, Nat.reduceAdd, Nat.reduceSub, Nat.reduceMul, Nat.reduceBEq, Int.reduceLT, Int.reduceLE, Int.reduceEq, Int.reduceNeg, Int.reduceAdd, Int.reduceSub, Int.reduceMul, Bool.false_eq_true, Bool.not_true, Bool.not_false, decide_eq_true_eq, and_self, true_and, and_true, reduceCtorEq, ne_eq, not_false_eq_true, not_true_eq_false, decide_true, decide_false, or_false, false_or] at r4
      by_cases hpj : j < ps.length
      rotate_left
      · simp (config := { maxSteps := 1000000 }) only [RUN, PATHS, BASE, FA, POL, start_tm, Heap.empty, reduceIte, Nat.reduceLT, Nat.reduceLeDiff, Nat.reduceEqDiff, Nat.reduceAdd, Nat.reduceSub, Nat.reduceMul, Nat.reduceBEq, Int.reduceLT, Int.reduceLE, Int.reduceEq, Int.reduceNeg, Int.reduceAdd, Int.reduceSub, Int.reduceMul, Bool.false_eq_true, Bool.not_true, Bool.not_false, decide_eq_true_eq, and_self, true_and, and_true, reduceCtorEq, ne_eq, not_false_eq_true, not_true_eq_false, decide_true, decide_false, or_false, false_or, h10, h9, hd, hf, (show ¬ (j : Int) < ps.length by omega)] at hW
        subst hW
        have : j = ps.length := by omega
        subst this
        refine rd_exit ⟨rfl, L, fl, ll, ?_⟩
        simp (config := { maxSteps := 1000000 }) only [RUN, PATHS, BASE, FA, POL, start_tm, Heap.empty, reduceIte, Nat.reduceLT, Nat.reduceLeDiff, Nat.reduceEqDiff, Nat.reduceAdd, Nat.reduceSub, Nat.reduceMul, Nat.reduceBEq, Int.reduceLT, Int.reduceLE, Int.reduceEq, Int.reduceNeg, Int.reduceAdd, Int.reduceSub, Int.reduceMul, Bool.false_eq_true, Bool.not_true, Bool.not_false, decide_eq_true_eq, and_self, true_and, and_true, reduceCtorEq, ne_eq, not_false_eq_true, not_true_eq_false, decide_true, decide_false, or_false, false_or, r1, r2, r3, r4, hd]
        exact hx
      have e0 : ps[j]? = some ps[j] := List.getElem?_eq_getElem hpj
      have e1 := map_get (f := pst) e0
      have oy := ok _ (List.getElem_mem hpj)
      have hs := fun p => HIT_succ (b := b) (p := p) e0
      generalize ps[j] = y at *
      obtain ⟨yb, ybo, ycb, yse, ycs⟩ := y
      simp only at *
      obtain ⟨oy1, oy2, oy3, oy4⟩ := oy
      simp only at oy1 oy2 oy3 oy4
      by_cases hyb : yb = b
      rotate_left
      · have fn : FLD ps b (j + 1) L := fun p => by rw [hs p, fl p]; exact ⟨.inl, fun h => h.elim id fun h => absurd h.1 hyb⟩
        rcases hbx : s.boxes 5 with _ | ⟨ver, cs⟩
        · simp (config := { maxSteps := 1000000 }) only [RUN, PATHS, BASE, FA, POL, start_tm, Heap.empty, reduceIte, Nat.reduceLT, Nat.reduceLeDiff, Nat.reduceEqDiff, Nat.reduceAdd, Nat.reduceSub, Nat.reduceMul, Nat.reduceBEq, Int.reduceLT, Int.reduceLE, Int.reduceEq, Int.reduceNeg, Int.reduceAdd, Int.reduceSub, Int.reduceMul, Bool.false_eq_true, Bool.not_true, Bool.not_false, decide_eq_true_eq, and_self, true_and, and_true, reduceCtorEq, ne_eq, not_false_eq_true, not_true_eq_false, decide_true, decide_false, or_false, false_or, NUM, SPS, SRG, SIN, h10, h9, h8, h2, h0, r1, r2, r3, r4, hd, hf, hbx, e1, hyb, List.length_map, Int.toNat_natCast, (show (j : Int) < ps.length by omega), (show (0 : Int) ≤ j by omega), i64_in (x := (j : Int) + 1) (by unfold I64; omega)] at hW
          subst hW
          refine rd_next (j + 1, L) ?_ (show ps.length - (j + 1) < ps.length - j by omega)
          simp (config := { maxSteps := 1000000 }) only [RUN, PATHS, BASE, FA, POL, start_tm, Heap.empty, reduceIte, Nat.reduceLT, Nat.reduceLeDiff, Nat.reduceEqDiff, Nat.reduceAdd, Nat.reduceSub, Nat.reduceMul, Nat.reduceBEq, Int.reduceLT, Int.reduceLE, Int.reduceEq, Int.reduceNeg, Int.reduceAdd, Int.reduceSub, Int.reduceMul, Bool.false_eq_true, Bool.not_true, Bool.not_false, decide_eq_true_eq, and_self, true_and, and_true, reduceCtorEq, ne_eq, not_false_eq_true, not_true_eq_false, decide_true, decide_false, or_false, false_or, h9, h8, h2, h0, r1, r2, r3, r4, hx]
          exact ⟨by omega, fn, by omega, by simp⟩
        · simp (config := { maxSteps := 1000000 }) only [RUN, PATHS, BASE, FA, POL, start_tm, Heap.empty, reduceIte, Nat.reduceLT, Nat.reduceLeDiff, Nat.reduceEqDiff, Nat.reduceAdd, Nat.reduceSub, Nat.reduceMul, Nat.reduceBEq, Int.reduceLT, Int.reduceLE, Int.reduceEq, Int.reduceNeg, Int.reduceAdd, Int.reduceSub, Int.reduceMul, Bool.false_eq_true, Bool.not_true, Bool.not_false, decide_eq_true_eq, and_self, true_and, and_true, reduceCtorEq, ne_eq, not_false_eq_true, not_true_eq_false, decide_true, decide_false, or_false, false_or, NUM, SPS, SRG, SIN, h10, h9, h8, h2, h0, r1, r2, r3, r4, hd, hf, hbx, e1, hyb, List.length_map, Int.toNat_natCast, (show (j : Int) < ps.length by omega), (show (0 : Int) ≤ j by omega), i64_in (x := (j : Int) + 1) (by unfold I64; omega)] at hW
          subst hW
          refine rd_next (j + 1, L) ?_ (show ps.length - (j + 1) < ps.length - j by omega)
          simp (config := { maxSteps := 1000000 }) only [RUN, PATHS, BASE, FA, POL, start_tm, Heap.empty, reduceIte, Nat.reduceLT, Nat.reduceLeDiff, Nat.reduceEqDiff, Nat.reduceAdd, Nat.reduceSub, Nat.reduceMul, Nat.reduceBEq, Int.reduceLT, Int.reduceLE, Int.reduceEq, Int.reduceNeg, Int.reduceAdd, Int.reduceSub, Int.reduceMul, Bool.false_eq_true, Bool.not_true, Bool.not_false, decide_eq_true_eq, and_self, true_and, and_true, reduceCtorEq, ne_eq, not_false_eq_true, not_true_eq_false, decide_true, decide_false, or_false, false_or, h9, h8, h2, h0, r1, r2, r3, r4, hx]
          exact ⟨by omega, fn, by omega, by simp⟩
      · rcases hbx : s.boxes 5 with _ | ⟨ver, cs⟩
        · simp (config := { maxSteps := 1000000 }) only [RUN, PATHS, BASE, FA, POL, start_tm, Heap.empty, reduceIte, Nat.reduceLT, Nat.reduceLeDiff, Nat.reduceEqDiff, Nat.reduceAdd, Nat.reduceSub, Nat.reduceMul, Nat.reduceBEq, Int.reduceLT, Int.reduceLE, Int.reduceEq, Int.reduceNeg, Int.reduceAdd, Int.reduceSub, Int.reduceMul, Bool.false_eq_true, Bool.not_true, Bool.not_false, decide_eq_true_eq, and_self, true_and, and_true, reduceCtorEq, ne_eq, not_false_eq_true, not_true_eq_false, decide_true, decide_false, or_false, false_or, NUM, SPS, SRG, SIN, h10, h9, h8, h2, h0, r1, r2, r3, r4, hd, hf, hbx, e1, hyb, List.length_map, Int.toNat_natCast, (show (j : Int) < ps.length by omega), (show (0 : Int) ≤ j by omega)] at hW
          generalize hL2 : W _ (.loop _) _ = L2' at hW
          obtain ⟨ex, s2, rfl, rfl, L2, fl2, ll2, r1, r2, r3', r4', hd, hf, hx, g21, g20, g5, g4, gb5, g10, g9, g8, g2, g0⟩ := loop_at hL2 (α := Nat × List (Int × Int)) (fun p => ybo.length - p.1)
            (fun s0 p s => p.1 ≤ ybo.length ∧ FLI ps b j ⟨yb, ybo, ycb, yse, ycs⟩ p.1 p.2 ∧ p.2.length ≤ 16 * j + p.1 ∧ s.tmps 22 = I p.1 ∧ s.H.rows 1 = some (.gro 2 (p.2.map tr) 0) ∧ s.H.rows 2 = some (.gro 1 [.gsl 2 1 p.2.length 0 p.2.length] 0) ∧ s.H.rows 3 = s0.H.rows 3 ∧ s.H.rows 4 = s0.H.rows 4 ∧ s.defers = [] ∧ s.fid = 5 ∧ 5 < s.H.next ∧ s.tmps 21 = I ybo.length ∧ s.tmps 20 = .vs 2 (ybo.map rg) ycb ∧ s.tmps 5 = .bptr 5 5 0 0 ∧ s.tmps 4 = I j ∧ s.boxes 5 = some (0, [I b, .vs 2 (ybo.map rg) ycb, .vs 1 (yse.map I) ycs]) ∧ s.tmps 10 = I j ∧ s.tmps 9 = I ps.length ∧ s.tmps 8 = .vs 3 (ps.map pst) c ∧ s.tmps 2 = .rop [I b] ∧ s.tmps 0 = .yield 4)
            (fun s0 ex s => ex = .exit 2 ∧ ∃ L2 : List (Int × Int), FLI ps b j ⟨yb, ybo, ycb, yse, ycs⟩ ybo.length L2 ∧ L2.length ≤ 16 * j + ybo.length ∧ s.H.rows 1 = some (.gro 2 (L2.map tr) 0) ∧ s.H.rows 2 = some (.gro 1 [.gsl 2 1 L2.length 0 L2.length] 0) ∧ s.H.rows 3 = s0.H.rows 3 ∧ s.H.rows 4 = s0.H.rows 4 ∧ s.defers = [] ∧ s.fid = 5 ∧ 5 < s.H.next ∧ s.tmps 21 = I ybo.length ∧ s.tmps 20 = .vs 2 (ybo.map rg) ycb ∧ s.tmps 5 = .bptr 5 5 0 0 ∧ s.tmps 4 = I j ∧ s.boxes 5 = some (0, [I b, .vs 2 (ybo.map rg) ycb, .vs 1 (yse.map I) ycs]) ∧ s.tmps 10 = I j ∧ s.tmps 9 = I ps.length ∧ s.tmps 8 = .vs 3 (ps.map pst) c ∧ s.tmps 2 = .rop [I b] ∧ s.tmps 0 = .yield 4) (0, L)
            (by simp (config := { maxSteps := 1000000 }) only [RUN, PATHS, BASE, FA, POL, start_tm, Heap.empty, reduceIte, Nat.reduceLT, Nat.reduceLeDiff, Nat.reduceEqDiff, Nat.reduceAdd, Nat.reduceSub, Nat.reduceMul, Nat.reduceBEq, Int.reduceLT, Int.reduceLE, Int.reduceEq, Int.reduceNeg, Int.reduceAdd, Int.reduceSub, Int.reduceMul, Bool.false_eq_true, Bool.not_true, Bool.not_false, decide_eq_true_eq, and_self, true_and, and_true, reduceCtorEq, ne_eq, not_false_eq_true, not_true_eq_false, decide_true, decide_false, or_false, false_or, h10, h9, h8, h2, h0, r1, r2, r3, r4]
                refine ⟨Nat.zero_le _, fun p => by rw [fl p]; exact ⟨.inl, fun h => h.elim id fun ⟨k, _, _, hk, _⟩ => by omega⟩, by omega, rfl, hx⟩) (by
              rintro ⟨k, L2⟩ s r5 hW2 ⟨hk, fl2, ll2, g22, r1, r2, q3, q4, hd, hf, hx, g21, g20, g5, g4, gb5, g10, g9, g8, g2, g0⟩
              dsimp only at hk fl2 ll2 g22 r1 r2
              simp (config := { maxSteps := 1000000 }) only [RUN, PATHS, BASE, FA, POL, start_tm, Heap.empty, reduceIte, Nat.reduceLT, Nat.reduceLeDiff, Nat.reduceEqDiff, Nat.reduceAdd, Nat.reduceSub, Nat.reduceMul, Nat.reduceBEq, Int.reduceLT, Int.reduceLE, Int.reduceEq, Int.reduceNeg, Int.reduceAdd, Int.reduceSub, Int.reduceMul, Bool.false_eq_true, Bool.not_true, Bool.not_false, decide_eq_true_eq, and_self, true_and, and_true, reduceCtorEq, ne_eq, not_false_eq_true, not_true_eq_false, decide_true, decide_false, or_false, false_or, r3] at q3
              simp (config := { maxSteps := 1000000 }) only [RUN, PATHS, BASE, FA, POL, start_tm, Heap.empty, reduceIte, Nat.reduceLT, Nat.reduceLeDiff, Nat.reduceEqDiff, Nat.reduceAdd, Nat.reduceSub, Nat.reduceMul, Nat.reduceBEq, Int.reduceLT, Int.reduceLE, Int.reduceEq, Int.reduceNeg, Int.reduceAdd, Int.reduceSub, Int.reduceMul, Bool.false_eq_true, Bool.not_true, Bool.not_false, decide_eq_true_eq, and_self, true_and, and_true, reduceCtorEq, ne_eq, not_false_eq_true, not_true_eq_false, decide_true, decide_false, or_false, false_or, r4] at q4
              by_cases hpk : k < ybo.length
              · have f0 : ybo[k]? = some ybo[k] := List.getElem?_eq_getElem hpk
                have n0 : yse[k]? = some (yse[k]'(by omega)) := List.getElem?_eq_getElem _
                have f1 := map_get (f := rg) f0
                have n1 := map_get (f := I) n0
                have or := oy2.2 _ (List.getElem_mem hpk)
                have on := oy4 _ (List.mem_of_getElem? n0)
                have bo16 := oy2.1
                generalize ybo[k] = r at *
                generalize yse[k]'(by omega) = n at *
                have db : max (max 0 (r.lo - n)) (n - r.hi) = DIST r n := by unfold DIST; omega
                have dd := DIST_bd or on
                unfold OKR at or
                unfold OKI at on
                by_cases hD : 0 < DIST r n
                · rcases hb7 : s.boxes 7 with _ | ⟨v7, c7⟩
                  · simp (config := { maxSteps := 1000000 }) only [RUN, PATHS, BASE, FA, POL, start_tm, Heap.empty, reduceIte, Nat.reduceLT, Nat.reduceLeDiff, Nat.reduceEqDiff, Nat.reduceAdd, Nat.reduceSub, Nat.reduceMul, Nat.reduceBEq, Int.reduceLT, Int.reduceLE, Int.reduceEq, Int.reduceNeg, Int.reduceAdd, Int.reduceSub, Int.reduceMul, Bool.false_eq_true, Bool.not_true, Bool.not_false, decide_eq_true_eq, and_self, true_and, and_true, reduceCtorEq, ne_eq, not_false_eq_true, not_true_eq_false, decide_true, decide_false, or_false, false_or, NUM, SPS, SRG, SIN, Try.func24, g22, g21, g20, g5, g4, gb5, g10, g9, g8, g2, g0, r1, r2, q3, q4, hd, hf, hb7, f1, n1, db, hD, List.length_map, Int.toNat_natCast, Nat.zero_le, (show (k : Int) < ybo.length by omega), (show (k : Int) < yse.length by omega), (show (0 : Int) ≤ k by omega), i64_in (x := r.lo - n) (by unfold I64; omega), i64_in (x := n - r.hi) (by unfold I64; omega), i64_in (x := (k : Int) + 1) (by unfold I64; omega), (show L2.length + 1 ≤ 67108864 by omega)] at hW2
                    subst hW2
                    refine rd_next (k + 1, L2 ++ [((j : Int), (k : Int))]) ?_ (show ybo.length - (k + 1) < ybo.length - k by omega)
                    simp (config := { maxSteps := 1000000 }) only [RUN, PATHS, BASE, FA, POL, start_tm, Heap.empty, reduceIte, Nat.reduceLT, Nat.reduceLeDiff, Nat.reduceEqDiff, Nat.reduceAdd, Nat.reduceSub, Nat.reduceMul, Nat.reduceBEq, Int.reduceLT, Int.reduceLE, Int.reduceEq, Int.reduceNeg, Int.reduceAdd, Int.reduceSub, Int.reduceMul, Bool.false_eq_true, Bool.not_true, Bool.not_false, decide_eq_true_eq, and_self, true_and, and_true, reduceCtorEq, ne_eq, not_false_eq_true, not_true_eq_false, decide_true, decide_false, or_false, false_or, g21, g20, g5, g4, gb5, g10, g9, g8, g2, g0, r1, r2, r3, r4, q3, q4, hx, List.map_append]
                    exact ⟨by omega, FLI_add fl2 f0 n0 hD, by simp; omega, by simp, by simp, by omega⟩
                  · simp (config := { maxSteps := 1000000 }) only [RUN, PATHS, BASE, FA, POL, start_tm, Heap.empty, reduceIte, Nat.reduceLT, Nat.reduceLeDiff, Nat.reduceEqDiff, Nat.reduceAdd, Nat.reduceSub, Nat.reduceMul, Nat.reduceBEq, Int.reduceLT, Int.reduceLE, Int.reduceEq, Int.reduceNeg, Int.reduceAdd, Int.reduceSub, Int.reduceMul, Bool.false_eq_true, Bool.not_true, Bool.not_false, decide_eq_true_eq, and_self, true_and, and_true, reduceCtorEq, ne_eq, not_false_eq_true, not_true_eq_false, decide_true, decide_false, or_false, false_or, NUM, SPS, SRG, SIN, Try.func24, g22, g21, g20, g5, g4, gb5, g10, g9, g8, g2, g0, r1, r2, q3, q4, hd, hf, hb7, f1, n1, db, hD, List.length_map, Int.toNat_natCast, Nat.zero_le, (show (k : Int) < ybo.length by omega), (show (k : Int) < yse.length by omega), (show (0 : Int) ≤ k by omega), i64_in (x := r.lo - n) (by unfold I64; omega), i64_in (x := n - r.hi) (by unfold I64; omega), i64_in (x := (k : Int) + 1) (by unfold I64; omega), (show L2.length + 1 ≤ 67108864 by omega)] at hW2
                    subst hW2
                    refine rd_next (k + 1, L2 ++ [((j : Int), (k : Int))]) ?_ (show ybo.length - (k + 1) < ybo.length - k by omega)
                    simp (config := { maxSteps := 1000000 }) only [RUN, PATHS, BASE, FA, POL, start_tm, Heap.empty, reduceIte, Nat.reduceLT, Nat.reduceLeDiff, Nat.reduceEqDiff, Nat.reduceAdd, Nat.reduceSub, Nat.reduceMul, Nat.reduceBEq, Int.reduceLT, Int.reduceLE, Int.reduceEq, Int.reduceNeg, Int.reduceAdd, Int.reduceSub, Int.reduceMul, Bool.false_eq_true, Bool.not_true, Bool.not_false, decide_eq_true_eq, and_self, true_and, and_true, reduceCtorEq, ne_eq, not_false_eq_true, not_true_eq_false, decide_true, decide_false, or_false, false_or, g21, g20, g5, g4, gb5, g10, g9, g8, g2, g0, r1, r2, r3, r4, q3, q4, hx, List.map_append]
                    exact ⟨by omega, FLI_add fl2 f0 n0 hD, by simp; omega, by simp, by simp, by omega⟩
                · rcases hb7 : s.boxes 7 with _ | ⟨v7, c7⟩
                  · simp (config := { maxSteps := 1000000 }) only [RUN, PATHS, BASE, FA, POL, start_tm, Heap.empty, reduceIte, Nat.reduceLT, Nat.reduceLeDiff, Nat.reduceEqDiff, Nat.reduceAdd, Nat.reduceSub, Nat.reduceMul, Nat.reduceBEq, Int.reduceLT, Int.reduceLE, Int.reduceEq, Int.reduceNeg, Int.reduceAdd, Int.reduceSub, Int.reduceMul, Bool.false_eq_true, Bool.not_true, Bool.not_false, decide_eq_true_eq, and_self, true_and, and_true, reduceCtorEq, ne_eq, not_false_eq_true, not_true_eq_false, decide_true, decide_false, or_false, false_or, NUM, SPS, SRG, SIN, Try.func24, g22, g21, g20, g5, g4, gb5, g10, g9, g8, g2, g0, r1, r2, q3, q4, hd, hf, hb7, f1, n1, db, hD, List.length_map, Int.toNat_natCast, Nat.zero_le, (show (k : Int) < ybo.length by omega), (show (k : Int) < yse.length by omega), (show (0 : Int) ≤ k by omega), i64_in (x := r.lo - n) (by unfold I64; omega), i64_in (x := n - r.hi) (by unfold I64; omega), i64_in (x := (k : Int) + 1) (by unfold I64; omega), (show L2.length + 1 ≤ 67108864 by omega)] at hW2
                    subst hW2
                    refine rd_next (k + 1, L2) ?_ (show ybo.length - (k + 1) < ybo.length - k by omega)
                    simp (config := { maxSteps := 1000000 }) only [RUN, PATHS, BASE, FA, POL, start_tm, Heap.empty, reduceIte, Nat.reduceLT, Nat.reduceLeDiff, Nat.reduceEqDiff, Nat.reduceAdd, Nat.reduceSub, Nat.reduceMul, Nat.reduceBEq, Int.reduceLT, Int.reduceLE, Int.reduceEq, Int.reduceNeg, Int.reduceAdd, Int.reduceSub, Int.reduceMul, Bool.false_eq_true, Bool.not_true, Bool.not_false, decide_eq_true_eq, and_self, true_and, and_true, reduceCtorEq, ne_eq, not_false_eq_true, not_true_eq_false, decide_true, decide_false, or_false, false_or, g21, g20, g5, g4, gb5, g10, g9, g8, g2, g0, r1, r2, r3, r4, q3, q4, hx, List.map_append]
                    exact ⟨by omega, FLI_keep fl2 f0 n0 hD, by omega, by simp; omega⟩
                  · simp (config := { maxSteps := 1000000 }) only [RUN, PATHS, BASE, FA, POL, start_tm, Heap.empty, reduceIte, Nat.reduceLT, Nat.reduceLeDiff, Nat.reduceEqDiff, Nat.reduceAdd, Nat.reduceSub, Nat.reduceMul, Nat.reduceBEq, Int.reduceLT, Int.reduceLE, Int.reduceEq, Int.reduceNeg, Int.reduceAdd, Int.reduceSub, Int.reduceMul, Bool.false_eq_true, Bool.not_true, Bool.not_false, decide_eq_true_eq, and_self, true_and, and_true, reduceCtorEq, ne_eq, not_false_eq_true, not_true_eq_false, decide_true, decide_false, or_false, false_or, NUM, SPS, SRG, SIN, Try.func24, g22, g21, g20, g5, g4, gb5, g10, g9, g8, g2, g0, r1, r2, q3, q4, hd, hf, hb7, f1, n1, db, hD, List.length_map, Int.toNat_natCast, Nat.zero_le, (show (k : Int) < ybo.length by omega), (show (k : Int) < yse.length by omega), (show (0 : Int) ≤ k by omega), i64_in (x := r.lo - n) (by unfold I64; omega), i64_in (x := n - r.hi) (by unfold I64; omega), i64_in (x := (k : Int) + 1) (by unfold I64; omega), (show L2.length + 1 ≤ 67108864 by omega)] at hW2
                    subst hW2
                    refine rd_next (k + 1, L2) ?_ (show ybo.length - (k + 1) < ybo.length - k by omega)
                    simp (config := { maxSteps := 1000000 }) only [RUN, PATHS, BASE, FA, POL, start_tm, Heap.empty, reduceIte, Nat.reduceLT, Nat.reduceLeDiff, Nat.reduceEqDiff, Nat.reduceAdd, Nat.reduceSub, Nat.reduceMul, Nat.reduceBEq, Int.reduceLT, Int.reduceLE, Int.reduceEq, Int.reduceNeg, Int.reduceAdd, Int.reduceSub, Int.reduceMul, Bool.false_eq_true, Bool.not_true, Bool.not_false, decide_eq_true_eq, and_self, true_and, and_true, reduceCtorEq, ne_eq, not_false_eq_true, not_true_eq_false, decide_true, decide_false, or_false, false_or, g21, g20, g5, g4, gb5, g10, g9, g8, g2, g0, r1, r2, r3, r4, q3, q4, hx, List.map_append]
                    exact ⟨by omega, FLI_keep fl2 f0 n0 hD, by omega, by simp; omega⟩
              · simp (config := { maxSteps := 1000000 }) only [RUN, PATHS, BASE, FA, POL, start_tm, Heap.empty, reduceIte, Nat.reduceLT, Nat.reduceLeDiff, Nat.reduceEqDiff, Nat.reduceAdd, Nat.reduceSub, Nat.reduceMul, Nat.reduceBEq, Int.reduceLT, Int.reduceLE, Int.reduceEq, Int.reduceNeg, Int.reduceAdd, Int.reduceSub, Int.reduceMul, Bool.false_eq_true, Bool.not_true, Bool.not_false, decide_eq_true_eq, and_self, true_and, and_true, reduceCtorEq, ne_eq, not_false_eq_true, not_true_eq_false, decide_true, decide_false, or_false, false_or, g22, g21, hd, hf, (show ¬ (k : Int) < ybo.length by omega)] at hW2
                subst hW2
                have : k = ybo.length := by omega
                subst this
                refine rd_exit ⟨rfl, L2, fl2, ll2, ?_⟩
                simp (config := { maxSteps := 1000000 }) only [RUN, PATHS, BASE, FA, POL, start_tm, Heap.empty, reduceIte, Nat.reduceLT, Nat.reduceLeDiff, Nat.reduceEqDiff, Nat.reduceAdd, Nat.reduceSub, Nat.reduceMul, Nat.reduceBEq, Int.reduceLT, Int.reduceLE, Int.reduceEq, Int.reduceNeg, Int.reduceAdd, Int.reduceSub, Int.reduceMul, Bool.false_eq_true, Bool.not_true, Bool.not_false, decide_eq_true_eq, and_self, true_and, and_true, reduceCtorEq, ne_eq, not_false_eq_true, not_true_eq_false, decide_true, decide_false, or_false, false_or, g21, g20, g5, g4, gb5, g10, g9, g8, g2, g0, r1, r2, r3, r4, q3, q4, hx])
          simp (config := { maxSteps := 1000000 }) only [RUN, PATHS, BASE, FA, POL, start_tm, Heap.empty, reduceIte, Nat.reduceLT, Nat.reduceLeDiff, Nat.reduceEqDiff, Nat.reduceAdd, Nat.reduceSub, Nat.reduceMul, Nat.reduceBEq, Int.reduceLT, Int.reduceLE, Int.reduceEq, Int.reduceNeg, Int.reduceAdd, Int.reduceSub, Int.reduceMul, Bool.false_eq_true, Bool.not_true, Bool.not_false, decide_eq_true_eq, and_self, true_and, and_true, reduceCtorEq, ne_eq, not_false_eq_true, not_true_eq_false, decide_true, decide_false, or_false, false_or, r3] at r3'
          simp (config := { maxSteps := 1000000 }) only [RUN, PATHS, BASE, FA, POL, start_tm, Heap.empty, reduceIte, Nat.reduceLT, Nat.reduceLeDiff, Nat.reduceEqDiff, Nat.reduceAdd, Nat.reduceSub, Nat.reduceMul, Nat.reduceBEq, Int.reduceLT, Int.reduceLE, Int.reduceEq, Int.reduceNeg, Int.reduceAdd, Int.reduceSub, Int.reduceMul, Bool.false_eq_true, Bool.not_true, Bool.not_false, decide_eq_true_eq, and_self, true_and, and_true, reduceCtorEq, ne_eq, not_false_eq_true, not_true_eq_false, decide_true, decide_false, or_false, false_or, r4] at r4'
          have fn : FLD ps b (j + 1) L2 := fun p => by rw [hs p, fl2 p]; exact ⟨fun h => h.imp id fun h => ⟨hyb, h⟩, fun h => h.imp id And.right⟩
          have bo16 := oy2.1
          simp (config := { maxSteps := 1000000 }) only [RUN, PATHS, BASE, FA, POL, start_tm, Heap.empty, reduceIte, Nat.reduceLT, Nat.reduceLeDiff, Nat.reduceEqDiff, Nat.reduceAdd, Nat.reduceSub, Nat.reduceMul, Nat.reduceBEq, Int.reduceLT, Int.reduceLE, Int.reduceEq, Int.reduceNeg, Int.reduceAdd, Int.reduceSub, Int.reduceMul, Bool.false_eq_true, Bool.not_true, Bool.not_false, decide_eq_true_eq, and_self, true_and, and_true, reduceCtorEq, ne_eq, not_false_eq_true, not_true_eq_false, decide_true, decide_false, or_false, false_or, NUM, g21, g20, g5, g4, gb5, g10, g9, g8, g2, g0, r1, r2, r3', r4', hd, hf, i64_in (x := (j : Int) + 1) (by unfold I64; omega)] at hW
          subst hW
          refine rd_next (j + 1, L2) ?_ (show ps.length - (j + 1) < ps.length - j by omega)
          simp (config := { maxSteps := 1000000 }) only [RUN, PATHS, BASE, FA, POL, start_tm, Heap.empty, reduceIte, Nat.reduceLT, Nat.reduceLeDiff, Nat.reduceEqDiff, Nat.reduceAdd, Nat.reduceSub, Nat.reduceMul, Nat.reduceBEq, Int.reduceLT, Int.reduceLE, Int.reduceEq, Int.reduceNeg, Int.reduceAdd, Int.reduceSub, Int.reduceMul, Bool.false_eq_true, Bool.not_true, Bool.not_false, decide_eq_true_eq, and_self, true_and, and_true, reduceCtorEq, ne_eq, not_false_eq_true, not_true_eq_false, decide_true, decide_false, or_false, false_or, g21, g20, g5, g4, gb5, g10, g9, g8, g2, g0, r1, r2, r3', r4', hx]
          exact ⟨by omega, fn, by omega, by simp⟩
        · simp (config := { maxSteps := 1000000 }) only [RUN, PATHS, BASE, FA, POL, start_tm, Heap.empty, reduceIte, Nat.reduceLT, Nat.reduceLeDiff, Nat.reduceEqDiff, Nat.reduceAdd, Nat.reduceSub, Nat.reduceMul, Nat.reduceBEq, Int.reduceLT, Int.reduceLE, Int.reduceEq, Int.reduceNeg, Int.reduceAdd, Int.reduceSub, Int.reduceMul, Bool.false_eq_true, Bool.not_true, Bool.not_false, decide_eq_true_eq, and_self, true_and, and_true, reduceCtorEq, ne_eq, not_false_eq_true, not_true_eq_false, decide_true, decide_false, or_false, false_or, NUM, SPS, SRG, SIN, h10, h9, h8, h2, h0, r1, r2, r3, r4, hd, hf, hbx, e1, hyb, List.length_map, Int.toNat_natCast, (show (j : Int) < ps.length by omega), (show (0 : Int) ≤ j by omega)] at hW
          generalize hL2 : W _ (.loop _) _ = L2' at hW
          obtain ⟨ex, s2, rfl, rfl, L2, fl2, ll2, r1, r2, r3', r4', hd, hf, hx, g21, g20, g5, g4, gb5, g10, g9, g8, g2, g0⟩ := loop_at hL2 (α := Nat × List (Int × Int)) (fun p => ybo.length - p.1)
            (fun s0 p s => p.1 ≤ ybo.length ∧ FLI ps b j ⟨yb, ybo, ycb, yse, ycs⟩ p.1 p.2 ∧ p.2.length ≤ 16 * j + p.1 ∧ s.tmps 22 = I p.1 ∧ s.H.rows 1 = some (.gro 2 (p.2.map tr) 0) ∧ s.H.rows 2 = some (.gro 1 [.gsl 2 1 p.2.length 0 p.2.length] 0) ∧ s.H.rows 3 = s0.H.rows 3 ∧ s.H.rows 4 = s0.H.rows 4 ∧ s.defers = [] ∧ s.fid = 5 ∧ 5 < s.H.next ∧ s.tmps 21 = I ybo.length ∧ s.tmps 20 = .vs 2 (ybo.map rg) ycb ∧ s.tmps 5 = .bptr 5 5 (ver + 1) 0 ∧ s.tmps 4 = I j ∧ s.boxes 5 = some ((ver + 1), [I b, .vs 2 (ybo.map rg) ycb, .vs 1 (yse.map I) ycs]) ∧ s.tmps 10 = I j ∧ s.tmps 9 = I ps.length ∧ s.tmps 8 = .vs 3 (ps.map pst) c ∧ s.tmps 2 = .rop [I b] ∧ s.tmps 0 = .yield 4)
            (fun s0 ex s => ex = .exit 2 ∧ ∃ L2 : List (Int × Int), FLI ps b j ⟨yb, ybo, ycb, yse, ycs⟩ ybo.length L2 ∧ L2.length ≤ 16 * j + ybo.length ∧ s.H.rows 1 = some (.gro 2 (L2.map tr) 0) ∧ s.H.rows 2 = some (.gro 1 [.gsl 2 1 L2.length 0 L2.length] 0) ∧ s.H.rows 3 = s0.H.rows 3 ∧ s.H.rows 4 = s0.H.rows 4 ∧ s.defers = [] ∧ s.fid = 5 ∧ 5 < s.H.next ∧ s.tmps 21 = I ybo.length ∧ s.tmps 20 = .vs 2 (ybo.map rg) ycb ∧ s.tmps 5 = .bptr 5 5 (ver + 1) 0 ∧ s.tmps 4 = I j ∧ s.boxes 5 = some ((ver + 1), [I b, .vs 2 (ybo.map rg) ycb, .vs 1 (yse.map I) ycs]) ∧ s.tmps 10 = I j ∧ s.tmps 9 = I ps.length ∧ s.tmps 8 = .vs 3 (ps.map pst) c ∧ s.tmps 2 = .rop [I b] ∧ s.tmps 0 = .yield 4) (0, L)
            (by simp (config := { maxSteps := 1000000 }) only [RUN, PATHS, BASE, FA, POL, start_tm, Heap.empty, reduceIte, Nat.reduceLT, Nat.reduceLeDiff, Nat.reduceEqDiff, Nat.reduceAdd, Nat.reduceSub, Nat.reduceMul, Nat.reduceBEq, Int.reduceLT, Int.reduceLE, Int.reduceEq, Int.reduceNeg, Int.reduceAdd, Int.reduceSub, Int.reduceMul, Bool.false_eq_true, Bool.not_true, Bool.not_false, decide_eq_true_eq, and_self, true_and, and_true, reduceCtorEq, ne_eq, not_false_eq_true, not_true_eq_false, decide_true, decide_false, or_false, false_or, h10, h9, h8, h2, h0, r1, r2, r3, r4]
                refine ⟨Nat.zero_le _, fun p => by rw [fl p]; exact ⟨.inl, fun h => h.elim id fun ⟨k, _, _, hk, _⟩ => by omega⟩, by omega, rfl, hx⟩) (by
              rintro ⟨k, L2⟩ s r5 hW2 ⟨hk, fl2, ll2, g22, r1, r2, q3, q4, hd, hf, hx, g21, g20, g5, g4, gb5, g10, g9, g8, g2, g0⟩
              dsimp only at hk fl2 ll2 g22 r1 r2
              simp (config := { maxSteps := 1000000 }) only [RUN, PATHS, BASE, FA, POL, start_tm, Heap.empty, reduceIte, Nat.reduceLT, Nat.reduceLeDiff, Nat.reduceEqDiff, Nat.reduceAdd, Nat.reduceSub, Nat.reduceMul, Nat.reduceBEq, Int.reduceLT, Int.reduceLE, Int.reduceEq, Int.reduceNeg, Int.reduceAdd, Int.reduceSub, Int.reduceMul, Bool.false_eq_true, Bool.not_true, Bool.not_false, decide_eq_true_eq, and_self, true_and, and_true, reduceCtorEq, ne_eq, not_false_eq_true, not_true_eq_false, decide_true, decide_false, or_false, false_or, r3] at q3
              simp (config := { maxSteps := 1000000 }) only [RUN, PATHS, BASE, FA, POL, start_tm, Heap.empty, reduceIte, Nat.reduceLT, Nat.reduceLeDiff, Nat.reduceEqDiff, Nat.reduceAdd, Nat.reduceSub, Nat.reduceMul, Nat.reduceBEq, Int.reduceLT, Int.reduceLE, Int.reduceEq, Int.reduceNeg, Int.reduceAdd, Int.reduceSub, Int.reduceMul, Bool.false_eq_true, Bool.not_true, Bool.not_false, decide_eq_true_eq, and_self, true_and, and_true, reduceCtorEq, ne_eq, not_false_eq_true, not_true_eq_false, decide_true, decide_false, or_false, false_or, r4] at q4
              by_cases hpk : k < ybo.length
              · have f0 : ybo[k]? = some ybo[k] := List.getElem?_eq_getElem hpk
                have n0 : yse[k]? = some (yse[k]'(by omega)) := List.getElem?_eq_getElem _
                have f1 := map_get (f := rg) f0
                have n1 := map_get (f := I) n0
                have or := oy2.2 _ (List.getElem_mem hpk)
                have on := oy4 _ (List.mem_of_getElem? n0)
                have bo16 := oy2.1
                generalize ybo[k] = r at *
                generalize yse[k]'(by omega) = n at *
                have db : max (max 0 (r.lo - n)) (n - r.hi) = DIST r n := by unfold DIST; omega
                have dd := DIST_bd or on
                unfold OKR at or
                unfold OKI at on
                by_cases hD : 0 < DIST r n
                · rcases hb7 : s.boxes 7 with _ | ⟨v7, c7⟩
                  · simp (config := { maxSteps := 1000000 }) only [RUN, PATHS, BASE, FA, POL, start_tm, Heap.empty, reduceIte, Nat.reduceLT, Nat.reduceLeDiff, Nat.reduceEqDiff, Nat.reduceAdd, Nat.reduceSub, Nat.reduceMul, Nat.reduceBEq, Int.reduceLT, Int.reduceLE, Int.reduceEq, Int.reduceNeg, Int.reduceAdd, Int.reduceSub, Int.reduceMul, Bool.false_eq_true, Bool.not_true, Bool.not_false, decide_eq_true_eq, and_self, true_and, and_true, reduceCtorEq, ne_eq, not_false_eq_true, not_true_eq_false, decide_true, decide_false, or_false, false_or, NUM, SPS, SRG, SIN, Try.func24, g22, g21, g20, g5, g4, gb5, g10, g9, g8, g2, g0, r1, r2, q3, q4, hd, hf, hb7, f1, n1, db, hD, List.length_map, Int.toNat_natCast, Nat.zero_le, (show (k : Int) < ybo.length by omega), (show (k : Int) < yse.length by omega), (show (0 : Int) ≤ k by omega), i64_in (x := r.lo - n) (by unfold I64; omega), i64_in (x := n - r.hi) (by unfold I64; omega), i64_in (x := (k : Int) + 1) (by unfold I64; omega), (show L2.length + 1 ≤ 67108864 by omega)] at hW2
                    subst hW2
                    refine rd_next (k + 1, L2 ++ [((j : Int), (k : Int))]) ?_ (show ybo.length - (k + 1) < ybo.length - k by omega)
                    simp (config := { maxSteps := 1000000 }) only [RUN, PATHS, BASE, FA, POL, start_tm, Heap.empty, reduceIte, Nat.reduceLT, Nat.reduceLeDiff, Nat.reduceEqDiff, Nat.reduceAdd, Nat.reduceSub, Nat.reduceMul, Nat.reduceBEq, Int.reduceLT, Int.reduceLE, Int.reduceEq, Int.reduceNeg, Int.reduceAdd, Int.reduceSub, Int.reduceMul, Bool.false_eq_true, Bool.not_true, Bool.not_false, decide_eq_true_eq, and_self, true_and, and_true, reduceCtorEq, ne_eq, not_false_eq_true, not_true_eq_false, decide_true, decide_false, or_false, false_or, g21, g20, g5, g4, gb5, g10, g9, g8, g2, g0, r1, r2, r3, r4, q3, q4, hx, List.map_append]
                    exact ⟨by omega, FLI_add fl2 f0 n0 hD, by simp; omega, by simp, by simp, by omega⟩
                  · simp (config := { maxSteps := 1000000 }) only [RUN, PATHS, BASE, FA, POL, start_tm, Heap.empty, reduceIte, Nat.reduceLT, Nat.reduceLeDiff, Nat.reduceEqDiff, Nat.reduceAdd, Nat.reduceSub, Nat.reduceMul, Nat.reduceBEq, Int.reduceLT, Int.reduceLE, Int.reduceEq, Int.reduceNeg, Int.reduceAdd, Int.reduceSub, Int.reduceMul, Bool.false_eq_true, Bool.not_true, Bool.not_false, decide_eq_true_eq, and_self, true_and, and_true, reduceCtorEq, ne_eq, not_false_eq_true, not_true_eq_false, decide_true, decide_false, or_false, false_or, NUM, SPS, SRG, SIN, Try.func24, g22, g21, g20, g5, g4, gb5, g10, g9, g8, g2, g0, r1, r2, q3, q4, hd, hf, hb7, f1, n1, db, hD, List.length_map, Int.toNat_natCast, Nat.zero_le, (show (k : Int) < ybo.length by omega), (show (k : Int) < yse.length by omega), (show (0 : Int) ≤ k by omega), i64_in (x := r.lo - n) (by unfold I64; omega), i64_in (x := n - r.hi) (by unfold I64; omega), i64_in (x := (k : Int) + 1) (by unfold I64; omega), (show L2.length + 1 ≤ 67108864 by omega)] at hW2
                    subst hW2
                    refine rd_next (k + 1, L2 ++ [((j : Int), (k : Int))]) ?_ (show ybo.length - (k + 1) < ybo.length - k by omega)
                    simp (config := { maxSteps := 1000000 }) only [RUN, PATHS, BASE, FA, POL, start_tm, Heap.empty, reduceIte, Nat.reduceLT, Nat.reduceLeDiff, Nat.reduceEqDiff, Nat.reduceAdd, Nat.reduceSub, Nat.reduceMul, Nat.reduceBEq, Int.reduceLT, Int.reduceLE, Int.reduceEq, Int.reduceNeg, Int.reduceAdd, Int.reduceSub, Int.reduceMul, Bool.false_eq_true, Bool.not_true, Bool.not_false, decide_eq_true_eq, and_self, true_and, and_true, reduceCtorEq, ne_eq, not_false_eq_true, not_true_eq_false, decide_true, decide_false, or_false, false_or, g21, g20, g5, g4, gb5, g10, g9, g8, g2, g0, r1, r2, r3, r4, q3, q4, hx, List.map_append]
                    exact ⟨by omega, FLI_add fl2 f0 n0 hD, by simp; omega, by simp, by simp, by omega⟩
                · rcases hb7 : s.boxes 7 with _ | ⟨v7, c7⟩
                  · simp (config := { maxSteps := 1000000 }) only [RUN, PATHS, BASE, FA, POL, start_tm, Heap.empty, reduceIte, Nat.reduceLT, Nat.reduceLeDiff, Nat.reduceEqDiff, Nat.reduceAdd, Nat.reduceSub, Nat.reduceMul, Nat.reduceBEq, Int.reduceLT, Int.reduceLE, Int.reduceEq, Int.reduceNeg, Int.reduceAdd, Int.reduceSub, Int.reduceMul, Bool.false_eq_true, Bool.not_true, Bool.not_false, decide_eq_true_eq, and_self, true_and, and_true, reduceCtorEq, ne_eq, not_false_eq_true, not_true_eq_false, decide_true, decide_false, or_false, false_or, NUM, SPS, SRG, SIN, Try.func24, g22, g21, g20, g5, g4, gb5, g10, g9, g8, g2, g0, r1, r2, q3, q4, hd, hf, hb7, f1, n1, db, hD, List.length_map, Int.toNat_natCast, Nat.zero_le, (show (k : Int) < ybo.length by omega), (show (k : Int) < yse.length by omega), (show (0 : Int) ≤ k by omega), i64_in (x := r.lo - n) (by unfold I64; omega), i64_in (x := n - r.hi) (by unfold I64; omega), i64_in (x := (k : Int) + 1) (by unfold I64; omega), (show L2.length + 1 ≤ 67108864 by omega)] at hW2
                    subst hW2
                    refine rd_next (k + 1, L2) ?_ (show ybo.length - (k + 1) < ybo.length - k by omega)
                    simp (config := { maxSteps := 1000000 }) only [RUN, PATHS, BASE, FA, POL, start_tm, Heap.empty, reduceIte, Nat.reduceLT, Nat.reduceLeDiff, Nat.reduceEqDiff, Nat.reduceAdd, Nat.reduceSub, Nat.reduceMul, Nat.reduceBEq, Int.reduceLT, Int.reduceLE, Int.reduceEq, Int.reduceNeg, Int.reduceAdd, Int.reduceSub, Int.reduceMul, Bool.false_eq_true, Bool.not_true, Bool.not_false, decide_eq_true_eq, and_self, true_and, and_true, reduceCtorEq, ne_eq, not_false_eq_true, not_true_eq_false, decide_true, decide_false, or_false, false_or, g21, g20, g5, g4, gb5, g10, g9, g8, g2, g0, r1, r2, r3, r4, q3, q4, hx, List.map_append]
                    exact ⟨by omega, FLI_keep fl2 f0 n0 hD, by omega, by simp; omega⟩
                  · simp (config := { maxSteps := 1000000 }) only [RUN, PATHS, BASE, FA, POL, start_tm, Heap.empty, reduceIte, Nat.reduceLT, Nat.reduceLeDiff, Nat.reduceEqDiff, Nat.reduceAdd, Nat.reduceSub, Nat.reduceMul, Nat.reduceBEq, Int.reduceLT, Int.reduceLE, Int.reduceEq, Int.reduceNeg, Int.reduceAdd, Int.reduceSub, Int.reduceMul, Bool.false_eq_true, Bool.not_true, Bool.not_false, decide_eq_true_eq, and_self, true_and, and_true, reduceCtorEq, ne_eq, not_false_eq_true, not_true_eq_false, decide_true, decide_false, or_false, false_or, NUM, SPS, SRG, SIN, Try.func24, g22, g21, g20, g5, g4, gb5, g10, g9, g8, g2, g0, r1, r2, q3, q4, hd, hf, hb7, f1, n1, db, hD, List.length_map, Int.toNat_natCast, Nat.zero_le, (show (k : Int) < ybo.length by omega), (show (k : Int) < yse.length by omega), (show (0 : Int) ≤ k by omega), i64_in (x := r.lo - n) (by unfold I64; omega), i64_in (x := n - r.hi) (by unfold I64; omega), i64_in (x := (k : Int) + 1) (by unfold I64; omega), (show L2.length + 1 ≤ 67108864 by omega)] at hW2
                    subst hW2
                    refine rd_next (k + 1, L2) ?_ (show ybo.length - (k + 1) < ybo.length - k by omega)
                    simp (config := { maxSteps := 1000000 }) only [RUN, PATHS, BASE, FA, POL, start_tm, Heap.empty, reduceIte, Nat.reduceLT, Nat.reduceLeDiff, Nat.reduceEqDiff, Nat.reduceAdd, Nat.reduceSub, Nat.reduceMul, Nat.reduceBEq, Int.reduceLT, Int.reduceLE, Int.reduceEq, Int.reduceNeg, Int.reduceAdd, Int.reduceSub, Int.reduceMul, Bool.false_eq_true, Bool.not_true, Bool.not_false, decide_eq_true_eq, and_self, true_and, and_true, reduceCtorEq, ne_eq, not_false_eq_true, not_true_eq_false, decide_true, decide_false, or_false, false_or, g21, g20, g5, g4, gb5, g10, g9, g8, g2, g0, r1, r2, r3, r4, q3, q4, hx, List.map_append]
                    exact ⟨by omega, FLI_keep fl2 f0 n0 hD, by omega, by simp; omega⟩
              · simp (config := { maxSteps := 1000000 }) only [RUN, PATHS, BASE, FA, POL, start_tm, Heap.empty, reduceIte, Nat.reduceLT, Nat.reduceLeDiff, Nat.reduceEqDiff, Nat.reduceAdd, Nat.reduceSub, Nat.reduceMul, Nat.reduceBEq, Int.reduceLT, Int.reduceLE, Int.reduceEq, Int.reduceNeg, Int.reduceAdd, Int.reduceSub, Int.reduceMul, Bool.false_eq_true, Bool.not_true, Bool.not_false, decide_eq_true_eq, and_self, true_and, and_true, reduceCtorEq, ne_eq, not_false_eq_true, not_true_eq_false, decide_true, decide_false, or_false, false_or, g22, g21, hd, hf, (show ¬ (k : Int) < ybo.length by omega)] at hW2
                subst hW2
                have : k = ybo.length := by omega
                subst this
                refine rd_exit ⟨rfl, L2, fl2, ll2, ?_⟩
                simp (config := { maxSteps := 1000000 }) only [RUN, PATHS, BASE, FA, POL, start_tm, Heap.empty, reduceIte, Nat.reduceLT, Nat.reduceLeDiff, Nat.reduceEqDiff, Nat.reduceAdd, Nat.reduceSub, Nat.reduceMul, Nat.reduceBEq, Int.reduceLT, Int.reduceLE, Int.reduceEq, Int.reduceNeg, Int.reduceAdd, Int.reduceSub, Int.reduceMul, Bool.false_eq_true, Bool.not_true, Bool.not_false, decide_eq_true_eq, and_self, true_and, and_true, reduceCtorEq, ne_eq, not_false_eq_true, not_true_eq_false, decide_true, decide_false, or_false, false_or, g21, g20, g5, g4, gb5, g10, g9, g8, g2, g0, r1, r2, r3, r4, q3, q4, hx])
          simp (config := { maxSteps := 1000000 }) only [RUN, PATHS, BASE, FA, POL, start_tm, Heap.empty, reduceIte, Nat.reduceLT, Nat.reduceLeDiff, Nat.reduceEqDiff, Nat.reduceAdd, Nat.reduceSub, Nat.reduceMul, Nat.reduceBEq, Int.reduceLT, Int.reduceLE, Int.reduceEq, Int.reduceNeg, Int.reduceAdd, Int.reduceSub, Int.reduceMul, Bool.false_eq_true, Bool.not_true, Bool.not_false, decide_eq_true_eq, and_self, true_and, and_true, reduceCtorEq, ne_eq, not_false_eq_true, not_true_eq_false, decide_true, decide_false, or_false, false_or, r3] at r3'
          simp (config := { maxSteps := 1000000 }) only [RUN, PATHS, BASE, FA, POL, start_tm, Heap.empty, reduceIte, Nat.reduceLT, Nat.reduceLeDiff, Nat.reduceEqDiff, Nat.reduceAdd, Nat.reduceSub, Nat.reduceMul, Nat.reduceBEq, Int.reduceLT, Int.reduceLE, Int.reduceEq, Int.reduceNeg, Int.reduceAdd, Int.reduceSub, Int.reduceMul, Bool.false_eq_true, Bool.not_true, Bool.not_false, decide_eq_true_eq, and_self, true_and, and_true, reduceCtorEq, ne_eq, not_false_eq_true, not_true_eq_false, decide_true, decide_false, or_false, false_or, r4] at r4'
          have fn : FLD ps b (j + 1) L2 := fun p => by rw [hs p, fl2 p]; exact ⟨fun h => h.imp id fun h => ⟨hyb, h⟩, fun h => h.imp id And.right⟩
          have bo16 := oy2.1
          simp (config := { maxSteps := 1000000 }) only [RUN, PATHS, BASE, FA, POL, start_tm, Heap.empty, reduceIte, Nat.reduceLT, Nat.reduceLeDiff, Nat.reduceEqDiff, Nat.reduceAdd, Nat.reduceSub, Nat.reduceMul, Nat.reduceBEq, Int.reduceLT, Int.reduceLE, Int.reduceEq, Int.reduceNeg, Int.reduceAdd, Int.reduceSub, Int.reduceMul, Bool.false_eq_true, Bool.not_true, Bool.not_false, decide_eq_true_eq, and_self, true_and, and_true, reduceCtorEq, ne_eq, not_false_eq_true, not_true_eq_false, decide_true, decide_false, or_false, false_or, NUM, g21, g20, g5, g4, gb5, g10, g9, g8, g2, g0, r1, r2, r3', r4', hd, hf, i64_in (x := (j : Int) + 1) (by unfold I64; omega)] at hW
          subst hW
          refine rd_next (j + 1, L2) ?_ (show ps.length - (j + 1) < ps.length - j by omega)
          simp (config := { maxSteps := 1000000 }) only [RUN, PATHS, BASE, FA, POL, start_tm, Heap.empty, reduceIte, Nat.reduceLT, Nat.reduceLeDiff, Nat.reduceEqDiff, Nat.reduceAdd, Nat.reduceSub, Nat.reduceMul, Nat.reduceBEq, Int.reduceLT, Int.reduceLE, Int.reduceEq, Int.reduceNeg, Int.reduceAdd, Int.reduceSub, Int.reduceMul, Bool.false_eq_true, Bool.not_true, Bool.not_false, decide_eq_true_eq, and_self, true_and, and_true, reduceCtorEq, ne_eq, not_false_eq_true, not_true_eq_false, decide_true, decide_false, or_false, false_or, g21, g20, g5, g4, gb5, g10, g9, g8, g2, g0, r1, r2, r3', r4', hx]
          exact ⟨by omega, fn, by omega, by simp⟩)
  simp (config := { maxSteps := 1000000 }) only [RUN, PATHS, BASE, FA, POL, start_tm, Heap.empty, reduceIte, Nat.reduceLT, Nat.reduceLeDiff, Nat.reduceEqDiff, Nat.reduceAdd, Nat.reduceSub, Nat.reduceMul, Nat.reduceBEq, Int.reduceLT, Int.reduceLE, Int.reduceEq, Int.reduceNeg, Int.reduceAdd, Int.reduceSub, Int.reduceMul, Bool.false_eq_true, Bool.not_true, Bool.not_false, decide_eq_true_eq, and_self, true_and, and_true, reduceCtorEq, ne_eq, not_false_eq_true, not_true_eq_false, decide_true, decide_false, or_false, false_or] at r3
  simp (config := { maxSteps := 1000000 }) only [RUN, PATHS, BASE, FA, POL, start_tm, Heap.empty, reduceIte, Nat.reduceLT, Nat.reduceLeDiff, Nat.reduceEqDiff, Nat.reduceAdd, Nat.reduceSub, Nat.reduceMul, Nat.reduceBEq, Int.reduceLT, Int.reduceLE, Int.reduceEq, Int.reduceNeg, Int.reduceAdd, Int.reduceSub, Int.reduceMul, Bool.false_eq_true, Bool.not_true, Bool.not_false, decide_eq_true_eq, and_self, true_and, and_true, reduceCtorEq, ne_eq, not_false_eq_true, not_true_eq_false, decide_true, decide_false, or_false, false_or] at r4
  refine ⟨L, ?_, fl, ll⟩
  simp (config := { maxSteps := 1000000 }) only [RUN, PATHS, BASE, FA, POL, start_tm, Heap.empty, reduceIte, Nat.reduceLT, Nat.reduceLeDiff, Nat.reduceEqDiff, Nat.reduceAdd, Nat.reduceSub, Nat.reduceMul, Nat.reduceBEq, Int.reduceLT, Int.reduceLE, Int.reduceEq, Int.reduceNeg, Int.reduceAdd, Int.reduceSub, Int.reduceMul, Bool.false_eq_true, Bool.not_true, Bool.not_false, decide_eq_true_eq, and_self, true_and, and_true, reduceCtorEq, ne_eq, not_false_eq_true, not_true_eq_false, decide_true, decide_false, or_false, false_or, NUM, r1, r2, r3, r4, hd, hf, List.length_map, Nat.zero_add, Nat.le_refl]
  rw [List.take_of_length_le (by simp), STR2.2.2.1]
def BRK (L : List (Int × Int)) (p : Int) : Bool := L.any fun e => decide (e.2 = p)
theorem BRK_take {L : List (Int × Int)} {j : Nat} {e : Int × Int} (he : L[j]? = some e) (p : Int) : BRK (L.take (j + 1)) p = (BRK (L.take j) p || decide (e.2 = p)) := by
  rw [List.take_add_one, he]; simp [BRK]
theorem BRK_iff {L : List (Int × Int)} {p : Int} : BRK L p = true ↔ ∃ e ∈ L, e.2 = p := by simp [BRK]
theorem FORV_hit {x : Stk} {ps : List Pst} (hx : OKS x) (ok : ∀ y ∈ ps, OKP y) (hi : INC ps) : (¬ HIT ps x.b ps.length x.p → FORV x ps = 0) ∧ (HIT ps x.b ps.length x.p → 0 < x.r → 0 < x.d → 1 ≤ FORV x ps) := by
  constructor
  · intro nh
    unfold FORV
    cases hf : FND x.b ps with
    | none => rfl
    | some y =>
      have hm := List.mem_of_find?_eq_some hf
      have hb' := List.find?_some hf
      simp only [decide_eq_true_eq] at hb'
      obtain ⟨i, ei⟩ := List.mem_iff_getElem?.1 hm
      show AMT x y = 0
      by_cases hp : x.p < y.bo.length
      · obtain ⟨r, n, e1, e2, o1, o2, ea, _⟩ := AMT_in hx (ok y hm) hp
        have d0 : DIST r n = 0 := by
          have := DIST_bd o1 o2
          rcases Int.lt_or_le 0 (DIST r n) with h | h
          · have hp0 := hx.2.1.1
            exact absurd ⟨i, y, (List.getElem?_eq_some_iff.1 ei).1, ei, hb', x.p.toNat, r, n, by omega, e1, e2, h, by omega⟩ nh
          · omega
        have := hx.2.2.1
        rw [ea, d0, Int.mul_zero]; omega
      · unfold AMT; rw [if_neg hp]
  · rintro ⟨i, y, hi', ei, hb', k, r, n, hk, e1, e2, hd, hkp⟩ hr hdp
    have fa := FND_at hi (b := x.b) ei hb'
    unfold FORV
    rw [fa]
    show 1 ≤ AMT x y
    have hp : x.p < y.bo.length := by omega
    obtain ⟨r', n', e1', e2', o1, o2, ea, _⟩ := AMT_in hx (ok y (List.mem_of_getElem? ei)) hp
    rw [show x.p.toNat = k by omega] at e1' e2'
    rw [e1] at e1'; cases e1'
    rw [e2] at e2'; cases e2'
    have : 1 * 1 ≤ x.r * DIST r n := Int.mul_le_mul (by omega) (by omega) (by omega) (by omega)
    rw [ea]; omega
set_option maxHeartbeats 2000000 in
theorem w_kept (l : List Stk) (ps : List Pst) : ap Try.prog pol 9 [.vs 4 (l.map stk) none, .vs 3 (ps.map pst) none] = some (.ret (.bool true)) := by
  obtain ⟨b, hb, hbl⟩ := c_few0 l ps none none
  cases b
  · rw [ap_eq _ Try.func9 rfl Try.ntmps9 Try.results9 (by kernel_rfl) rfl (by exact Nat.le_of_ble_eq_true rfl)]
    simp (config := { maxSteps := 1000000 }) only [RUN, PATHS, BASE, FA, POL, start_tm, Heap.empty, reduceIte, Nat.reduceLT, Nat.reduceLeDiff, Nat.reduceEqDiff, Nat.reduceAdd, Nat.reduceSub, Nat.reduceMul, Nat.reduceBEq, Int.reduceLT, Int.reduceLE, Int.reduceEq, Int.reduceNeg, Int.reduceAdd, Int.reduceSub, Int.reduceMul, Bool.false_eq_true, Bool.not_true, Bool.not_false, decide_eq_true_eq, and_self, true_and, and_true, reduceCtorEq, ne_eq, not_false_eq_true, not_true_eq_false, decide_true, decide_false, or_false, false_or, NUM, SST, SPS, c_saneV, hb]
  have hl0 := (hbl rfl).1
  by_cases h : CHK l ps = 0
  rotate_left
  · have cf := c_forfeit l ps none none ((0 : Nat) : Int)
    have fo : FOR l ps ((0 : Nat) : Int) = (0, CHK l ps) := by unfold FOR; rw [if_neg h]
    rw [fo, Int.natCast_zero] at cf
    rw [ap_eq _ Try.func9 rfl Try.ntmps9 Try.results9 (by kernel_rfl) rfl (by exact Nat.le_of_ble_eq_true rfl)]
    simp (config := { maxSteps := 1000000 }) only [RUN, PATHS, BASE, FA, POL, start_tm, Heap.empty, reduceIte, Nat.reduceLT, Nat.reduceLeDiff, Nat.reduceEqDiff, Nat.reduceAdd, Nat.reduceSub, Nat.reduceMul, Nat.reduceBEq, Int.reduceLT, Int.reduceLE, Int.reduceEq, Int.reduceNeg, Int.reduceAdd, Int.reduceSub, Int.reduceMul, Bool.false_eq_true, Bool.not_true, Bool.not_false, decide_eq_true_eq, and_self, true_and, and_true, reduceCtorEq, ne_eq, not_false_eq_true, not_true_eq_false, decide_true, decide_false, or_false, false_or, NUM, SST, SPS, c_saneV, hb, List.length_map]
    cases l with
    | nil => simp (config := { maxSteps := 1000000 }) only [RUN, PATHS, BASE, FA, POL, start_tm, Heap.empty, reduceIte, Nat.reduceLT, Nat.reduceLeDiff, Nat.reduceEqDiff, Nat.reduceAdd, Nat.reduceSub, Nat.reduceMul, Nat.reduceBEq, Int.reduceLT, Int.reduceLE, Int.reduceEq, Int.reduceNeg, Int.reduceAdd, Int.reduceSub, Int.reduceMul, Bool.false_eq_true, Bool.not_true, Bool.not_false, decide_eq_true_eq, and_self, true_and, and_true, reduceCtorEq, ne_eq, not_false_eq_true, not_true_eq_false, decide_true, decide_false, or_false, false_or, NUM, WW_loop, List.length_nil, Int.natCast_zero]
    | cons x l =>
      rw [List.map_cons] at cf
      simp (config := { maxSteps := 1000000 }) only [RUN, PATHS, BASE, FA, POL, start_tm, Heap.empty, reduceIte, Nat.reduceLT, Nat.reduceLeDiff, Nat.reduceEqDiff, Nat.reduceAdd, Nat.reduceSub, Nat.reduceMul, Nat.reduceBEq, Int.reduceLT, Int.reduceLE, Int.reduceEq, Int.reduceNeg, Int.reduceAdd, Int.reduceSub, Int.reduceMul, Bool.false_eq_true, Bool.not_true, Bool.not_false, decide_eq_true_eq, and_self, true_and, and_true, reduceCtorEq, ne_eq, not_false_eq_true, not_true_eq_false, decide_true, decide_false, or_false, false_or, NUM, SST, SPS, WW_loop, List.map_cons, List.length_cons, List.length_map, (show (0 : Int) < ((l.length + 1 : Nat) : Int) by omega), cf, h]
  obtain ⟨⟨hl, hg⟩, ⟨hp, ok⟩, hi⟩ := CHK_0 h
  have ckp : CKP ps = 0 := CKP_0.2 ⟨hp, ok⟩
  rw [ap_eq _ Try.func9 rfl Try.ntmps9 Try.results9 (by kernel_rfl) rfl (by exact Nat.le_of_ble_eq_true rfl)]
  simp (config := { maxSteps := 1000000 }) only [RUN, PATHS, BASE, FA, POL, start_tm, Heap.empty, reduceIte, Nat.reduceLT, Nat.reduceLeDiff, Nat.reduceEqDiff, Nat.reduceAdd, Nat.reduceSub, Nat.reduceMul, Nat.reduceBEq, Int.reduceLT, Int.reduceLE, Int.reduceEq, Int.reduceNeg, Int.reduceAdd, Int.reduceSub, Int.reduceMul, Bool.false_eq_true, Bool.not_true, Bool.not_false, decide_eq_true_eq, and_self, true_and, and_true, reduceCtorEq, ne_eq, not_false_eq_true, not_true_eq_false, decide_true, decide_false, or_false, false_or, NUM, SST, SPS, c_saneV, hb, List.length_map]
  generalize hL : W _ (.loop _) _ = L'
  obtain ⟨ex, s, rfl, rfl, hd⟩ := loop_at hL (α := Nat) (fun j => l.length - j)
    (fun s0 j s => j ≤ l.length ∧ s.tmps 22 = I j ∧ s.tmps 21 = I l.length ∧ s.tmps 20 = .vs 4 (l.map stk) none ∧ s.tmps 0 = .vs 4 (l.map stk) none ∧ s.tmps 1 = .vs 3 (ps.map pst) none ∧ s.defers = [] ∧ s.fid = 0)
    (fun s0 ex s => ex = .exit 0 ∧ s.defers = []) 0
    (by simp (config := { maxSteps := 1000000 }) only [RUN, PATHS, BASE, FA, POL, start_tm, Heap.empty, reduceIte, Nat.reduceLT, Nat.reduceLeDiff, Nat.reduceEqDiff, Nat.reduceAdd, Nat.reduceSub, Nat.reduceMul, Nat.reduceBEq, Int.reduceLT, Int.reduceLE, Int.reduceEq, Int.reduceNeg, Int.reduceAdd, Int.reduceSub, Int.reduceMul, Bool.false_eq_true, Bool.not_true, Bool.not_false, decide_eq_true_eq, and_self, true_and, and_true, reduceCtorEq, ne_eq, not_false_eq_true, not_true_eq_false, decide_true, decide_false, or_false, false_or]; exact ⟨Nat.zero_le _, rfl⟩) (by
      rintro j s r hW ⟨hj, h22, h21, h20, h0, h1, hd, hf⟩
      by_cases hpl : j < l.length
      rotate_left
      · simp (config := { maxSteps := 1000000 }) only [RUN, PATHS, BASE, FA, POL, start_tm, Heap.empty, reduceIte, Nat.reduceLT, Nat.reduceLeDiff, Nat.reduceEqDiff, Nat.reduceAdd, Nat.reduceSub, Nat.reduceMul, Nat.reduceBEq, Int.reduceLT, Int.reduceLE, Int.reduceEq, Int.reduceNeg, Int.reduceAdd, Int.reduceSub, Int.reduceMul, Bool.false_eq_true, Bool.not_true, Bool.not_false, decide_eq_true_eq, and_self, true_and, and_true, reduceCtorEq, ne_eq, not_false_eq_true, not_true_eq_false, decide_true, decide_false, or_false, false_or, h22, h21, hd, hf, (show ¬ (j : Int) < l.length by omega)] at hW
        subst hW
        exact rd_exit ⟨rfl, by simp (config := { maxSteps := 1000000 }) only [RUN, PATHS, BASE, FA, POL, start_tm, Heap.empty, reduceIte, Nat.reduceLT, Nat.reduceLeDiff, Nat.reduceEqDiff, Nat.reduceAdd, Nat.reduceSub, Nat.reduceMul, Nat.reduceBEq, Int.reduceLT, Int.reduceLE, Int.reduceEq, Int.reduceNeg, Int.reduceAdd, Int.reduceSub, Int.reduceMul, Bool.false_eq_true, Bool.not_true, Bool.not_false, decide_eq_true_eq, and_self, true_and, and_true, reduceCtorEq, ne_eq, not_false_eq_true, not_true_eq_false, decide_true, decide_false, or_false, false_or, hd]⟩
      have e0 : l[j]? = some l[j] := List.getElem?_eq_getElem hpl
      have e1 := map_get (f := stk) e0
      have ox := GOOD_in hg e0
      have cf := c_forfeit l ps none none j
      rw [FOR_ku h e0] at cf
      have fh := FORV_hit ox ok hi
      have fb := FORV_bd ox ok
      generalize l[j] = x at *
      obtain ⟨xb, xp, xd, xr⟩ := x
      simp only at *
      obtain ⟨L, cl, fl, ll⟩ := c_fails ps none xb ckp ox.1
      have bk := (BRK_iff (L := L) (p := xp)).trans (fl xp)
      rcases hbx : s.boxes 6 with _ | ⟨ver, cs⟩
      · simp (config := { maxSteps := 1000000 }) only [RUN, PATHS, BASE, FA, POL, start_tm, Heap.empty, reduceIte, Nat.reduceLT, Nat.reduceLeDiff, Nat.reduceEqDiff, Nat.reduceAdd, Nat.reduceSub, Nat.reduceMul, Nat.reduceBEq, Int.reduceLT, Int.reduceLE, Int.reduceEq, Int.reduceNeg, Int.reduceAdd, Int.reduceSub, Int.reduceMul, Bool.false_eq_true, Bool.not_true, Bool.not_false, decide_eq_true_eq, and_self, true_and, and_true, reduceCtorEq, ne_eq, not_false_eq_true, not_true_eq_false, decide_true, decide_false, or_false, false_or, NUM, SST, SPS, h22, h21, h20, h0, h1, hd, hf, hbx, e1, cf, cl, List.length_map, Int.toNat_natCast, (show (j : Int) < l.length by omega), (show (0 : Int) ≤ j by omega)] at hW
        generalize hL2 : W _ (.loop _) _ = L2' at hW
        obtain ⟨ex, s2, rfl, rfl, g11, g48, g47, g7, g6, gb6, g22, g21, g20, g0, g1, hd, hf⟩ := loop_at hL2 (α := Nat) (fun k => L.length - k)
          (fun s0 k s => k ≤ L.length ∧ s.tmps 49 = I k ∧ s.tmps 11 = .bool (BRK (L.take k) xp) ∧ s.tmps 48 = I L.length ∧ s.tmps 47 = .vs 2 (L.map tr) none ∧ s.tmps 7 = I (FORV ⟨xb, xp, xd, xr⟩ ps) ∧ s.tmps 6 = .bptr 0 6 0 0 ∧ s.boxes 6 = some (0, [I xb, I xp, I xd, I xr]) ∧ s.tmps 22 = I j ∧ s.tmps 21 = I l.length ∧ s.tmps 20 = .vs 4 (l.map stk) none ∧ s.tmps 0 = .vs 4 (l.map stk) none ∧ s.tmps 1 = .vs 3 (ps.map pst) none ∧ s.defers = [] ∧ s.fid = 0)
          (fun s0 ex s => ex = .exit 2 ∧ s.tmps 11 = .bool (BRK L xp) ∧ s.tmps 48 = I L.length ∧ s.tmps 47 = .vs 2 (L.map tr) none ∧ s.tmps 7 = I (FORV ⟨xb, xp, xd, xr⟩ ps) ∧ s.tmps 6 = .bptr 0 6 0 0 ∧ s.boxes 6 = some (0, [I xb, I xp, I xd, I xr]) ∧ s.tmps 22 = I j ∧ s.tmps 21 = I l.length ∧ s.tmps 20 = .vs 4 (l.map stk) none ∧ s.tmps 0 = .vs 4 (l.map stk) none ∧ s.tmps 1 = .vs 3 (ps.map pst) none ∧ s.defers = [] ∧ s.fid = 0) 0
          (by simp (config := { maxSteps := 1000000 }) only [RUN, PATHS, BASE, FA, POL, start_tm, Heap.empty, reduceIte, Nat.reduceLT, Nat.reduceLeDiff, Nat.reduceEqDiff, Nat.reduceAdd, Nat.reduceSub, Nat.reduceMul, Nat.reduceBEq, Int.reduceLT, Int.reduceLE, Int.reduceEq, Int.reduceNeg, Int.reduceAdd, Int.reduceSub, Int.reduceMul, Bool.false_eq_true, Bool.not_true, Bool.not_false, decide_eq_true_eq, and_self, true_and, and_true, reduceCtorEq, ne_eq, not_false_eq_true, not_true_eq_false, decide_true, decide_false, or_false, false_or, h22, h21, h20, h0, h1, List.take_zero]; first | exact ⟨Nat.zero_le _, rfl, rfl⟩ | exact ⟨Nat.zero_le _, rfl⟩) (by
            rintro k s r5 hW2 ⟨hk, g49, g11, g48, g47, g7, g6, gb6, g22, g21, g20, g0, g1, hd, hf⟩
            by_cases hpk : k < L.length
            · have f0 : L[k]? = some L[k] := List.getElem?_eq_getElem hpk
              have f1 := map_get (f := tr) f0
              have bt := BRK_take f0 xp
              generalize L[k] = e at *
              rcases hb13 : s.boxes 13 with _ | ⟨v13, c13⟩
              · cases hB : BRK (L.take k) xp
                · rw [hB] at g11 bt
                  simp (config := { maxSteps := 1000000 }) only [RUN, PATHS, BASE, FA, POL, start_tm, Heap.empty, reduceIte, Nat.reduceLT, Nat.reduceLeDiff, Nat.reduceEqDiff, Nat.reduceAdd, Nat.reduceSub, Nat.reduceMul, Nat.reduceBEq, Int.reduceLT, Int.reduceLE, Int.reduceEq, Int.reduceNeg, Int.reduceAdd, Int.reduceSub, Int.reduceMul, Bool.false_eq_true, Bool.not_true, Bool.not_false, decide_eq_true_eq, and_self, true_and, and_true, reduceCtorEq, ne_eq, not_false_eq_true, not_true_eq_false, decide_true, decide_false, or_false, false_or, NUM, g49, g11, g48, g47, g7, g6, gb6, g22, g21, g20, g0, g1, hd, hf, hb13, f1, hB, List.length_map, Int.toNat_natCast, (show (k : Int) < L.length by omega), (show (0 : Int) ≤ k by omega), i64_in (x := (k : Int) + 1) (by unfold I64; omega)] at hW2
                  subst hW2
                  refine rd_next (k + 1) ?_ (show L.length - (k + 1) < L.length - k by omega)
                  simp (config := { maxSteps := 1000000 }) only [RUN, PATHS, BASE, FA, POL, start_tm, Heap.empty, reduceIte, Nat.reduceLT, Nat.reduceLeDiff, Nat.reduceEqDiff, Nat.reduceAdd, Nat.reduceSub, Nat.reduceMul, Nat.reduceBEq, Int.reduceLT, Int.reduceLE, Int.reduceEq, Int.reduceNeg, Int.reduceAdd, Int.reduceSub, Int.reduceMul, Bool.false_eq_true, Bool.not_true, Bool.not_false, decide_eq_true_eq, and_self, true_and, and_true, reduceCtorEq, ne_eq, not_false_eq_true, not_true_eq_false, decide_true, decide_false, or_false, false_or, g48, g47, g7, g6, gb6, g22, g21, g20, g0, g1, bt]
                  exact ⟨by omega, by simp⟩
                · rw [hB] at g11 bt
                  simp (config := { maxSteps := 1000000 }) only [RUN, PATHS, BASE, FA, POL, start_tm, Heap.empty, reduceIte, Nat.reduceLT, Nat.reduceLeDiff, Nat.reduceEqDiff, Nat.reduceAdd, Nat.reduceSub, Nat.reduceMul, Nat.reduceBEq, Int.reduceLT, Int.reduceLE, Int.reduceEq, Int.reduceNeg, Int.reduceAdd, Int.reduceSub, Int.reduceMul, Bool.false_eq_true, Bool.not_true, Bool.not_false, decide_eq_true_eq, and_self, true_and, and_true, reduceCtorEq, ne_eq, not_false_eq_true, not_true_eq_false, decide_true, decide_false, or_false, false_or, NUM, g49, g11, g48, g47, g7, g6, gb6, g22, g21, g20, g0, g1, hd, hf, hb13, f1, hB, List.length_map, Int.toNat_natCast, (show (k : Int) < L.length by omega), (show (0 : Int) ≤ k by omega), i64_in (x := (k : Int) + 1) (by unfold I64; omega)] at hW2
                  subst hW2
                  refine rd_next (k + 1) ?_ (show L.length - (k + 1) < L.length - k by omega)
                  simp (config := { maxSteps := 1000000 }) only [RUN, PATHS, BASE, FA, POL, start_tm, Heap.empty, reduceIte, Nat.reduceLT, Nat.reduceLeDiff, Nat.reduceEqDiff, Nat.reduceAdd, Nat.reduceSub, Nat.reduceMul, Nat.reduceBEq, Int.reduceLT, Int.reduceLE, Int.reduceEq, Int.reduceNeg, Int.reduceAdd, Int.reduceSub, Int.reduceMul, Bool.false_eq_true, Bool.not_true, Bool.not_false, decide_eq_true_eq, and_self, true_and, and_true, reduceCtorEq, ne_eq, not_false_eq_true, not_true_eq_false, decide_true, decide_false, or_false, false_or, g48, g47, g7, g6, gb6, g22, g21, g20, g0, g1, bt]
                  exact ⟨by omega, by simp⟩
              · cases hB : BRK (L.take k) xp
                · rw [hB] at g11 bt
                  simp (config := { maxSteps := 1000000 }) only [RUN, PATHS, BASE, FA, POL, start_tm, Heap.empty, reduceIte, Nat.reduceLT, Nat.reduceLeDiff, Nat.reduceEqDiff, Nat.reduceAdd, Nat.reduceSub, Nat.reduceMul, Nat.reduceBEq, Int.reduceLT, Int.reduceLE, Int.reduceEq, Int.reduceNeg, Int.reduceAdd, Int.reduceSub, Int.reduceMul, Bool.false_eq_true, Bool.not_true, Bool.not_false, decide_eq_true_eq, and_self, true_and, and_true, reduceCtorEq, ne_eq, not_false_eq_true, not_true_eq_false, decide_true, decide_false, or_false, false_or, NUM, g49, g11, g48, g47, g7, g6, gb6, g22, g21, g20, g0, g1, hd, hf, hb13, f1, hB, List.length_map, Int.toNat_natCast, (show (k : Int) < L.length by omega), (show (0 : Int) ≤ k by omega), i64_in (x := (k : Int) + 1) (by unfold I64; omega)] at hW2
                  subst hW2
                  refine rd_next (k + 1) ?_ (show L.length - (k + 1) < L.length - k by omega)
                  simp (config := { maxSteps := 1000000 }) only [RUN, PATHS, BASE, FA, POL, start_tm, Heap.empty, reduceIte, Nat.reduceLT, Nat.reduceLeDiff, Nat.reduceEqDiff, Nat.reduceAdd, Nat.reduceSub, Nat.reduceMul, Nat.reduceBEq, Int.reduceLT, Int.reduceLE, Int.reduceEq, Int.reduceNeg, Int.reduceAdd, Int.reduceSub, Int.reduceMul, Bool.false_eq_true, Bool.not_true, Bool.not_false, decide_eq_true_eq, and_self, true_and, and_true, reduceCtorEq, ne_eq, not_false_eq_true, not_true_eq_false, decide_true, decide_false, or_false, false_or, g48, g47, g7, g6, gb6, g22, g21, g20, g0, g1, bt]
                  exact ⟨by omega, by simp⟩
                · rw [hB] at g11 bt
                  simp (config := { maxSteps := 1000000 }) only [RUN, PATHS, BASE, FA, POL, start_tm, Heap.empty, reduceIte, Nat.reduceLT, Nat.reduceLeDiff, Nat.reduceEqDiff, Nat.reduceAdd, Nat.reduceSub, Nat.reduceMul, Nat.reduceBEq, Int.reduceLT, Int.reduceLE, Int.reduceEq, Int.reduceNeg, Int.reduceAdd, Int.reduceSub, Int.reduceMul, Bool.false_eq_true, Bool.not_true, Bool.not_false, decide_eq_true_eq, and_self, true_and, and_true, reduceCtorEq, ne_eq, not_false_eq_true, not_true_eq_false, decide_true, decide_false, or_false, false_or, NUM, g49, g11, g48, g47, g7, g6, gb6, g22, g21, g20, g0, g1, hd, hf, hb13, f1, hB, List.length_map, Int.toNat_natCast, (show (k : Int) < L.length by omega), (show (0 : Int) ≤ k by omega), i64_in (x := (k : Int) + 1) (by unfold I64; omega)] at hW2
                  subst hW2
                  refine rd_next (k + 1) ?_ (show L.length - (k + 1) < L.length - k by omega)
                  simp (config := { maxSteps := 1000000 }) only [RUN, PATHS, BASE, FA, POL, start_tm, Heap.empty, reduceIte, Nat.reduceLT, Nat.reduceLeDiff, Nat.reduceEqDiff, Nat.reduceAdd, Nat.reduceSub, Nat.reduceMul, Nat.reduceBEq, Int.reduceLT, Int.reduceLE, Int.reduceEq, Int.reduceNeg, Int.reduceAdd, Int.reduceSub, Int.reduceMul, Bool.false_eq_true, Bool.not_true, Bool.not_false, decide_eq_true_eq, and_self, true_and, and_true, reduceCtorEq, ne_eq, not_false_eq_true, not_true_eq_false, decide_true, decide_false, or_false, false_or, g48, g47, g7, g6, gb6, g22, g21, g20, g0, g1, bt]
                  exact ⟨by omega, by simp⟩
            · simp (config := { maxSteps := 1000000 }) only [RUN, PATHS, BASE, FA, POL, start_tm, Heap.empty, reduceIte, Nat.reduceLT, Nat.reduceLeDiff, Nat.reduceEqDiff, Nat.reduceAdd, Nat.reduceSub, Nat.reduceMul, Nat.reduceBEq, Int.reduceLT, Int.reduceLE, Int.reduceEq, Int.reduceNeg, Int.reduceAdd, Int.reduceSub, Int.reduceMul, Bool.false_eq_true, Bool.not_true, Bool.not_false, decide_eq_true_eq, and_self, true_and, and_true, reduceCtorEq, ne_eq, not_false_eq_true, not_true_eq_false, decide_true, decide_false, or_false, false_or, g49, g48, hd, hf, (show ¬ (k : Int) < L.length by omega)] at hW2
              subst hW2
              have : k = L.length := by omega
              subst this
              rw [List.take_length] at g11
              refine rd_exit ⟨rfl, ?_⟩
              simp (config := { maxSteps := 1000000 }) only [RUN, PATHS, BASE, FA, POL, start_tm, Heap.empty, reduceIte, Nat.reduceLT, Nat.reduceLeDiff, Nat.reduceEqDiff, Nat.reduceAdd, Nat.reduceSub, Nat.reduceMul, Nat.reduceBEq, Int.reduceLT, Int.reduceLE, Int.reduceEq, Int.reduceNeg, Int.reduceAdd, Int.reduceSub, Int.reduceMul, Bool.false_eq_true, Bool.not_true, Bool.not_false, decide_eq_true_eq, and_self, true_and, and_true, reduceCtorEq, ne_eq, not_false_eq_true, not_true_eq_false, decide_true, decide_false, or_false, false_or, g11, g48, g47, g7, g6, gb6, g22, g21, g20, g0, g1])
        cases hB : BRK L xp
        · rw [hB] at g11
          have n0 := fh.1 (fun hh => by rw [bk.2 hh] at hB; cases hB)
          rw [n0] at g7
          simp (config := { maxSteps := 1000000 }) only [RUN, PATHS, BASE, FA, POL, start_tm, Heap.empty, reduceIte, Nat.reduceLT, Nat.reduceLeDiff, Nat.reduceEqDiff, Nat.reduceAdd, Nat.reduceSub, Nat.reduceMul, Nat.reduceBEq, Int.reduceLT, Int.reduceLE, Int.reduceEq, Int.reduceNeg, Int.reduceAdd, Int.reduceSub, Int.reduceMul, Bool.false_eq_true, Bool.not_true, Bool.not_false, decide_eq_true_eq, and_self, true_and, and_true, reduceCtorEq, ne_eq, not_false_eq_true, not_true_eq_false, decide_true, decide_false, or_false, false_or, NUM, g48, g47, g7, g6, gb6, g22, g21, g20, g0, g1, hd, hf, i64_in (x := (j : Int) + 1) (by unfold I64; omega), g11] at hW
          subst hW
          refine rd_next (j + 1) ?_ (show l.length - (j + 1) < l.length - j by omega)
          simp (config := { maxSteps := 1000000 }) only [RUN, PATHS, BASE, FA, POL, start_tm, Heap.empty, reduceIte, Nat.reduceLT, Nat.reduceLeDiff, Nat.reduceEqDiff, Nat.reduceAdd, Nat.reduceSub, Nat.reduceMul, Nat.reduceBEq, Int.reduceLT, Int.reduceLE, Int.reduceEq, Int.reduceNeg, Int.reduceAdd, Int.reduceSub, Int.reduceMul, Bool.false_eq_true, Bool.not_true, Bool.not_false, decide_eq_true_eq, and_self, true_and, and_true, reduceCtorEq, ne_eq, not_false_eq_true, not_true_eq_false, decide_true, decide_false, or_false, false_or, g48, g47, g7, g6, gb6, g22, g21, g20, g0, g1]
          exact ⟨by omega, by simp⟩
        · rw [hB] at g11
          have n1 := fh.2 (bk.1 hB)
          by_cases hr0 : 0 < xr
          · by_cases hd0 : 0 < xd
            · have := n1 hr0 hd0
              simp (config := { maxSteps := 1000000 }) only [RUN, PATHS, BASE, FA, POL, start_tm, Heap.empty, reduceIte, Nat.reduceLT, Nat.reduceLeDiff, Nat.reduceEqDiff, Nat.reduceAdd, Nat.reduceSub, Nat.reduceMul, Nat.reduceBEq, Int.reduceLT, Int.reduceLE, Int.reduceEq, Int.reduceNeg, Int.reduceAdd, Int.reduceSub, Int.reduceMul, Bool.false_eq_true, Bool.not_true, Bool.not_false, decide_eq_true_eq, and_self, true_and, and_true, reduceCtorEq, ne_eq, not_false_eq_true, not_true_eq_false, decide_true, decide_false, or_false, false_or, NUM, g48, g47, g7, g6, gb6, g22, g21, g20, g0, g1, hd, hf, i64_in (x := (j : Int) + 1) (by unfold I64; omega), g11, hr0, hd0, (show ¬ FORV ⟨xb, xp, xd, xr⟩ ps < 1 by omega)] at hW
              subst hW
              refine rd_next (j + 1) ?_ (show l.length - (j + 1) < l.length - j by omega)
              simp (config := { maxSteps := 1000000 }) only [RUN, PATHS, BASE, FA, POL, start_tm, Heap.empty, reduceIte, Nat.reduceLT, Nat.reduceLeDiff, Nat.reduceEqDiff, Nat.reduceAdd, Nat.reduceSub, Nat.reduceMul, Nat.reduceBEq, Int.reduceLT, Int.reduceLE, Int.reduceEq, Int.reduceNeg, Int.reduceAdd, Int.reduceSub, Int.reduceMul, Bool.false_eq_true, Bool.not_true, Bool.not_false, decide_eq_true_eq, and_self, true_and, and_true, reduceCtorEq, ne_eq, not_false_eq_true, not_true_eq_false, decide_true, decide_false, or_false, false_or, g48, g47, g7, g6, gb6, g22, g21, g20, g0, g1]
              exact ⟨by omega, by simp⟩
            · simp (config := { maxSteps := 1000000 }) only [RUN, PATHS, BASE, FA, POL, start_tm, Heap.empty, reduceIte, Nat.reduceLT, Nat.reduceLeDiff, Nat.reduceEqDiff, Nat.reduceAdd, Nat.reduceSub, Nat.reduceMul, Nat.reduceBEq, Int.reduceLT, Int.reduceLE, Int.reduceEq, Int.reduceNeg, Int.reduceAdd, Int.reduceSub, Int.reduceMul, Bool.false_eq_true, Bool.not_true, Bool.not_false, decide_eq_true_eq, and_self, true_and, and_true, reduceCtorEq, ne_eq, not_false_eq_true, not_true_eq_false, decide_true, decide_false, or_false, false_or, NUM, g48, g47, g7, g6, gb6, g22, g21, g20, g0, g1, hd, hf, i64_in (x := (j : Int) + 1) (by unfold I64; omega), g11, hr0, hd0] at hW
              subst hW
              refine rd_next (j + 1) ?_ (show l.length - (j + 1) < l.length - j by omega)
              simp (config := { maxSteps := 1000000 }) only [RUN, PATHS, BASE, FA, POL, start_tm, Heap.empty, reduceIte, Nat.reduceLT, Nat.reduceLeDiff, Nat.reduceEqDiff, Nat.reduceAdd, Nat.reduceSub, Nat.reduceMul, Nat.reduceBEq, Int.reduceLT, Int.reduceLE, Int.reduceEq, Int.reduceNeg, Int.reduceAdd, Int.reduceSub, Int.reduceMul, Bool.false_eq_true, Bool.not_true, Bool.not_false, decide_eq_true_eq, and_self, true_and, and_true, reduceCtorEq, ne_eq, not_false_eq_true, not_true_eq_false, decide_true, decide_false, or_false, false_or, g48, g47, g7, g6, gb6, g22, g21, g20, g0, g1]
              exact ⟨by omega, by simp⟩
          · simp (config := { maxSteps := 1000000 }) only [RUN, PATHS, BASE, FA, POL, start_tm, Heap.empty, reduceIte, Nat.reduceLT, Nat.reduceLeDiff, Nat.reduceEqDiff, Nat.reduceAdd, Nat.reduceSub, Nat.reduceMul, Nat.reduceBEq, Int.reduceLT, Int.reduceLE, Int.reduceEq, Int.reduceNeg, Int.reduceAdd, Int.reduceSub, Int.reduceMul, Bool.false_eq_true, Bool.not_true, Bool.not_false, decide_eq_true_eq, and_self, true_and, and_true, reduceCtorEq, ne_eq, not_false_eq_true, not_true_eq_false, decide_true, decide_false, or_false, false_or, NUM, g48, g47, g7, g6, gb6, g22, g21, g20, g0, g1, hd, hf, i64_in (x := (j : Int) + 1) (by unfold I64; omega), g11, hr0] at hW
            subst hW
            refine rd_next (j + 1) ?_ (show l.length - (j + 1) < l.length - j by omega)
            simp (config := { maxSteps := 1000000 }) only [RUN, PATHS, BASE, FA, POL, start_tm, Heap.empty, reduceIte, Nat.reduceLT, Nat.reduceLeDiff, Nat.reduceEqDiff, Nat.reduceAdd, Nat.reduceSub, Nat.reduceMul, Nat.reduceBEq, Int.reduceLT, Int.reduceLE, Int.reduceEq, Int.reduceNeg, Int.reduceAdd, Int.reduceSub, Int.reduceMul, Bool.false_eq_true, Bool.not_true, Bool.not_false, decide_eq_true_eq, and_self, true_and, and_true, reduceCtorEq, ne_eq, not_false_eq_true, not_true_eq_false, decide_true, decide_false, or_false, false_or, g48, g47, g7, g6, gb6, g22, g21, g20, g0, g1]
            exact ⟨by omega, by simp⟩
      · simp (config := { maxSteps := 1000000 }) only [RUN, PATHS, BASE, FA, POL, start_tm, Heap.empty, reduceIte, Nat.reduceLT, Nat.reduceLeDiff, Nat.reduceEqDiff, Nat.reduceAdd, Nat.reduceSub, Nat.reduceMul, Nat.reduceBEq, Int.reduceLT, Int.reduceLE, Int.reduceEq, Int.reduceNeg, Int.reduceAdd, Int.reduceSub, Int.reduceMul, Bool.false_eq_true, Bool.not_true, Bool.not_false, decide_eq_true_eq, and_self, true_and, and_true, reduceCtorEq, ne_eq, not_false_eq_true, not_true_eq_false, decide_true, decide_false, or_false, false_or, NUM, SST, SPS, h22, h21, h20, h0, h1, hd, hf, hbx, e1, cf, cl, List.length_map, Int.toNat_natCast, (show (j : Int) < l.length by omega), (show (0 : Int) ≤ j by omega)] at hW
        generalize hL2 : W _ (.loop _) _ = L2' at hW
        obtain ⟨ex, s2, rfl, rfl, g11, g48, g47, g7, g6, gb6, g22, g21, g20, g0, g1, hd, hf⟩ := loop_at hL2 (α := Nat) (fun k => L.length - k)
          (fun s0 k s => k ≤ L.length ∧ s.tmps 49 = I k ∧ s.tmps 11 = .bool (BRK (L.take k) xp) ∧ s.tmps 48 = I L.length ∧ s.tmps 47 = .vs 2 (L.map tr) none ∧ s.tmps 7 = I (FORV ⟨xb, xp, xd, xr⟩ ps) ∧ s.tmps 6 = .bptr 0 6 (ver + 1) 0 ∧ s.boxes 6 = some ((ver + 1), [I xb, I xp, I xd, I xr]) ∧ s.tmps 22 = I j ∧ s.tmps 21 = I l.length ∧ s.tmps 20 = .vs 4 (l.map stk) none ∧ s.tmps 0 = .vs 4 (l.map stk) none ∧ s.tmps 1 = .vs 3 (ps.map pst) none ∧ s.defers = [] ∧ s.fid = 0)
          (fun s0 ex s => ex = .exit 2 ∧ s.tmps 11 = .bool (BRK L xp) ∧ s.tmps 48 = I L.length ∧ s.tmps 47 = .vs 2 (L.map tr) none ∧ s.tmps 7 = I (FORV ⟨xb, xp, xd, xr⟩ ps) ∧ s.tmps 6 = .bptr 0 6 (ver + 1) 0 ∧ s.boxes 6 = some ((ver + 1), [I xb, I xp, I xd, I xr]) ∧ s.tmps 22 = I j ∧ s.tmps 21 = I l.length ∧ s.tmps 20 = .vs 4 (l.map stk) none ∧ s.tmps 0 = .vs 4 (l.map stk) none ∧ s.tmps 1 = .vs 3 (ps.map pst) none ∧ s.defers = [] ∧ s.fid = 0) 0
          (by simp (config := { maxSteps := 1000000 }) only [RUN, PATHS, BASE, FA, POL, start_tm, Heap.empty, reduceIte, Nat.reduceLT, Nat.reduceLeDiff, Nat.reduceEqDiff, Nat.reduceAdd, Nat.reduceSub, Nat.reduceMul, Nat.reduceBEq, Int.reduceLT, Int.reduceLE, Int.reduceEq, Int.reduceNeg, Int.reduceAdd, Int.reduceSub, Int.reduceMul, Bool.false_eq_true, Bool.not_true, Bool.not_false, decide_eq_true_eq, and_self, true_and, and_true, reduceCtorEq, ne_eq, not_false_eq_true, not_true_eq_false, decide_true, decide_false, or_false, false_or, h22, h21, h20, h0, h1, List.take_zero]; first | exact ⟨Nat.zero_le _, rfl, rfl⟩ | exact ⟨Nat.zero_le _, rfl⟩) (by
            rintro k s r5 hW2 ⟨hk, g49, g11, g48, g47, g7, g6, gb6, g22, g21, g20, g0, g1, hd, hf⟩
            by_cases hpk : k < L.length
            · have f0 : L[k]? = some L[k] := List.getElem?_eq_getElem hpk
              have f1 := map_get (f := tr) f0
              have bt := BRK_take f0 xp
              generalize L[k] = e at *
              rcases hb13 : s.boxes 13 with _ | ⟨v13, c13⟩
              · cases hB : BRK (L.take k) xp
                · rw [hB] at g11 bt
                  simp (config := { maxSteps := 1000000 }) only [RUN, PATHS, BASE, FA, POL, start_tm, Heap.empty, reduceIte, Nat.reduceLT, Nat.reduceLeDiff, Nat.reduceEqDiff, Nat.reduceAdd, Nat.reduceSub, Nat.reduceMul, Nat.reduceBEq, Int.reduceLT, Int.reduceLE, Int.reduceEq, Int.reduceNeg, Int.reduceAdd, Int.reduceSub, Int.reduceMul, Bool.false_eq_true, Bool.not_true, Bool.not_false, decide_eq_true_eq, and_self, true_and, and_true, reduceCtorEq, ne_eq, not_false_eq_true, not_true_eq_false, decide_true, decide_false, or_false, false_or, NUM, g49, g11, g48, g47, g7, g6, gb6, g22, g21, g20, g0, g1, hd, hf, hb13, f1, hB, List.length_map, Int.toNat_natCast, (show (k : Int) < L.length by omega), (show (0 : Int) ≤ k by omega), i64_in (x := (k : Int) + 1) (by unfold I64; omega)] at hW2
                  subst hW2
                  refine rd_next (k + 1) ?_ (show L.length - (k + 1) < L.length - k by omega)
                  simp (config := { maxSteps := 1000000 }) only [RUN, PATHS, BASE, FA, POL, start_tm, Heap.empty, reduceIte, Nat.reduceLT, Nat.reduceLeDiff, Nat.reduceEqDiff, Nat.reduceAdd, Nat.reduceSub, Nat.reduceMul, Nat.reduceBEq, Int.reduceLT, Int.reduceLE, Int.reduceEq, Int.reduceNeg, Int.reduceAdd, Int.reduceSub, Int.reduceMul, Bool.false_eq_true, Bool.not_true, Bool.not_false, decide_eq_true_eq, and_self, true_and, and_true, reduceCtorEq, ne_eq, not_false_eq_true, not_true_eq_false, decide_true, decide_false, or_false, false_or, g48, g47, g7, g6, gb6, g22, g21, g20, g0, g1, bt]
                  exact ⟨by omega, by simp⟩
                · rw [hB] at g11 bt
                  simp (config := { maxSteps := 1000000 }) only [RUN, PATHS, BASE, FA, POL, start_tm, Heap.empty, reduceIte, Nat.reduceLT, Nat.reduceLeDiff, Nat.reduceEqDiff, Nat.reduceAdd, Nat.reduceSub, Nat.reduceMul, Nat.reduceBEq, Int.reduceLT, Int.reduceLE, Int.reduceEq, Int.reduceNeg, Int.reduceAdd, Int.reduceSub, Int.reduceMul, Bool.false_eq_true, Bool.not_true, Bool.not_false, decide_eq_true_eq, and_self, true_and, and_true, reduceCtorEq, ne_eq, not_false_eq_true, not_true_eq_false, decide_true, decide_false, or_false, false_or, NUM, g49, g11, g48, g47, g7, g6, gb6, g22, g21, g20, g0, g1, hd, hf, hb13, f1, hB, List.length_map, Int.toNat_natCast, (show (k : Int) < L.length by omega), (show (0 : Int) ≤ k by omega), i64_in (x := (k : Int) + 1) (by unfold I64; omega)] at hW2
                  subst hW2
                  refine rd_next (k + 1) ?_ (show L.length - (k + 1) < L.length - k by omega)
                  simp (config := { maxSteps := 1000000 }) only [RUN, PATHS, BASE, FA, POL, start_tm, Heap.empty, reduceIte, Nat.reduceLT, Nat.reduceLeDiff, Nat.reduceEqDiff, Nat.reduceAdd, Nat.reduceSub, Nat.reduceMul, Nat.reduceBEq, Int.reduceLT, Int.reduceLE, Int.reduceEq, Int.reduceNeg, Int.reduceAdd, Int.reduceSub, Int.reduceMul, Bool.false_eq_true, Bool.not_true, Bool.not_false, decide_eq_true_eq, and_self, true_and, and_true, reduceCtorEq, ne_eq, not_false_eq_true, not_true_eq_false, decide_true, decide_false, or_false, false_or, g48, g47, g7, g6, gb6, g22, g21, g20, g0, g1, bt]
                  exact ⟨by omega, by simp⟩
              · cases hB : BRK (L.take k) xp
                · rw [hB] at g11 bt
                  simp (config := { maxSteps := 1000000 }) only [RUN, PATHS, BASE, FA, POL, start_tm, Heap.empty, reduceIte, Nat.reduceLT, Nat.reduceLeDiff, Nat.reduceEqDiff, Nat.reduceAdd, Nat.reduceSub, Nat.reduceMul, Nat.reduceBEq, Int.reduceLT, Int.reduceLE, Int.reduceEq, Int.reduceNeg, Int.reduceAdd, Int.reduceSub, Int.reduceMul, Bool.false_eq_true, Bool.not_true, Bool.not_false, decide_eq_true_eq, and_self, true_and, and_true, reduceCtorEq, ne_eq, not_false_eq_true, not_true_eq_false, decide_true, decide_false, or_false, false_or, NUM, g49, g11, g48, g47, g7, g6, gb6, g22, g21, g20, g0, g1, hd, hf, hb13, f1, hB, List.length_map, Int.toNat_natCast, (show (k : Int) < L.length by omega), (show (0 : Int) ≤ k by omega), i64_in (x := (k : Int) + 1) (by unfold I64; omega)] at hW2
                  subst hW2
                  refine rd_next (k + 1) ?_ (show L.length - (k + 1) < L.length - k by omega)
                  simp (config := { maxSteps := 1000000 }) only [RUN, PATHS, BASE, FA, POL, start_tm, Heap.empty, reduceIte, Nat.reduceLT, Nat.reduceLeDiff, Nat.reduceEqDiff, Nat.reduceAdd, Nat.reduceSub, Nat.reduceMul, Nat.reduceBEq, Int.reduceLT, Int.reduceLE, Int.reduceEq, Int.reduceNeg, Int.reduceAdd, Int.reduceSub, Int.reduceMul, Bool.false_eq_true, Bool.not_true, Bool.not_false, decide_eq_true_eq, and_self, true_and, and_true, reduceCtorEq, ne_eq, not_false_eq_true, not_true_eq_false, decide_true, decide_false, or_false, false_or, g48, g47, g7, g6, gb6, g22, g21, g20, g0, g1, bt]
                  exact ⟨by omega, by simp⟩
                · rw [hB] at g11 bt
                  simp (config := { maxSteps := 1000000 }) only [RUN, PATHS, BASE, FA, POL, start_tm, Heap.empty, reduceIte, Nat.reduceLT, Nat.reduceLeDiff, Nat.reduceEqDiff, Nat.reduceAdd, Nat.reduceSub, Nat.reduceMul, Nat.reduceBEq, Int.reduceLT, Int.reduceLE, Int.reduceEq, Int.reduceNeg, Int.reduceAdd, Int.reduceSub, Int.reduceMul, Bool.false_eq_true, Bool.not_true, Bool.not_false, decide_eq_true_eq, and_self, true_and, and_true, reduceCtorEq, ne_eq, not_false_eq_true, not_true_eq_false, decide_true, decide_false, or_false, false_or, NUM, g49, g11, g48, g47, g7, g6, gb6, g22, g21, g20, g0, g1, hd, hf, hb13, f1, hB, List.length_map, Int.toNat_natCast, (show (k : Int) < L.length by omega), (show (0 : Int) ≤ k by omega), i64_in (x := (k : Int) + 1) (by unfold I64; omega)] at hW2
                  subst hW2
                  refine rd_next (k + 1) ?_ (show L.length - (k + 1) < L.length - k by omega)
                  simp (config := { maxSteps := 1000000 }) only [RUN, PATHS, BASE, FA, POL, start_tm, Heap.empty, reduceIte, Nat.reduceLT, Nat.reduceLeDiff, Nat.reduceEqDiff, Nat.reduceAdd, Nat.reduceSub, Nat.reduceMul, Nat.reduceBEq, Int.reduceLT, Int.reduceLE, Int.reduceEq, Int.reduceNeg, Int.reduceAdd, Int.reduceSub, Int.reduceMul, Bool.false_eq_true, Bool.not_true, Bool.not_false, decide_eq_true_eq, and_self, true_and, and_true, reduceCtorEq, ne_eq, not_false_eq_true, not_true_eq_false, decide_true, decide_false, or_false, false_or, g48, g47, g7, g6, gb6, g22, g21, g20, g0, g1, bt]
                  exact ⟨by omega, by simp⟩
            · simp (config := { maxSteps := 1000000 }) only [RUN, PATHS, BASE, FA, POL, start_tm, Heap.empty, reduceIte, Nat.reduceLT, Nat.reduceLeDiff, Nat.reduceEqDiff, Nat.reduceAdd, Nat.reduceSub, Nat.reduceMul, Nat.reduceBEq, Int.reduceLT, Int.reduceLE, Int.reduceEq, Int.reduceNeg, Int.reduceAdd, Int.reduceSub, Int.reduceMul, Bool.false_eq_true, Bool.not_true, Bool.not_false, decide_eq_true_eq, and_self, true_and, and_true, reduceCtorEq, ne_eq, not_false_eq_true, not_true_eq_false, decide_true, decide_false, or_false, false_or, g49, g48, hd, hf, (show ¬ (k : Int) < L.length by omega)] at hW2
              subst hW2
              have : k = L.length := by omega
              subst this
              rw [List.take_length] at g11
              refine rd_exit ⟨rfl, ?_⟩
              simp (config := { maxSteps := 1000000 }) only [RUN, PATHS, BASE, FA, POL, start_tm, Heap.empty, reduceIte, Nat.reduceLT, Nat.reduceLeDiff, Nat.reduceEqDiff, Nat.reduceAdd, Nat.reduceSub, Nat.reduceMul, Nat.reduceBEq, Int.reduceLT, Int.reduceLE, Int.reduceEq, Int.reduceNeg, Int.reduceAdd, Int.reduceSub, Int.reduceMul, Bool.false_eq_true, Bool.not_true, Bool.not_false, decide_eq_true_eq, and_self, true_and, and_true, reduceCtorEq, ne_eq, not_false_eq_true, not_true_eq_false, decide_true, decide_false, or_false, false_or, g11, g48, g47, g7, g6, gb6, g22, g21, g20, g0, g1])
        cases hB : BRK L xp
        · rw [hB] at g11
          have n0 := fh.1 (fun hh => by rw [bk.2 hh] at hB; cases hB)
          rw [n0] at g7
          simp (config := { maxSteps := 1000000 }) only [RUN, PATHS, BASE, FA, POL, start_tm, Heap.empty, reduceIte, Nat.reduceLT, Nat.reduceLeDiff, Nat.reduceEqDiff, Nat.reduceAdd, Nat.reduceSub, Nat.reduceMul, Nat.reduceBEq, Int.reduceLT, Int.reduceLE, Int.reduceEq, Int.reduceNeg, Int.reduceAdd, Int.reduceSub, Int.reduceMul, Bool.false_eq_true, Bool.not_true, Bool.not_false, decide_eq_true_eq, and_self, true_and, and_true, reduceCtorEq, ne_eq, not_false_eq_true, not_true_eq_false, decide_true, decide_false, or_false, false_or, NUM, g48, g47, g7, g6, gb6, g22, g21, g20, g0, g1, hd, hf, i64_in (x := (j : Int) + 1) (by unfold I64; omega), g11] at hW
          subst hW
          refine rd_next (j + 1) ?_ (show l.length - (j + 1) < l.length - j by omega)
          simp (config := { maxSteps := 1000000 }) only [RUN, PATHS, BASE, FA, POL, start_tm, Heap.empty, reduceIte, Nat.reduceLT, Nat.reduceLeDiff, Nat.reduceEqDiff, Nat.reduceAdd, Nat.reduceSub, Nat.reduceMul, Nat.reduceBEq, Int.reduceLT, Int.reduceLE, Int.reduceEq, Int.reduceNeg, Int.reduceAdd, Int.reduceSub, Int.reduceMul, Bool.false_eq_true, Bool.not_true, Bool.not_false, decide_eq_true_eq, and_self, true_and, and_true, reduceCtorEq, ne_eq, not_false_eq_true, not_true_eq_false, decide_true, decide_false, or_false, false_or, g48, g47, g7, g6, gb6, g22, g21, g20, g0, g1]
          exact ⟨by omega, by simp⟩
        · rw [hB] at g11
          have n1 := fh.2 (bk.1 hB)
          by_cases hr0 : 0 < xr
          · by_cases hd0 : 0 < xd
            · have := n1 hr0 hd0
              simp (config := { maxSteps := 1000000 }) only [RUN, PATHS, BASE, FA, POL, start_tm, Heap.empty, reduceIte, Nat.reduceLT, Nat.reduceLeDiff, Nat.reduceEqDiff, Nat.reduceAdd, Nat.reduceSub, Nat.reduceMul, Nat.reduceBEq, Int.reduceLT, Int.reduceLE, Int.reduceEq, Int.reduceNeg, Int.reduceAdd, Int.reduceSub, Int.reduceMul, Bool.false_eq_true, Bool.not_true, Bool.not_false, decide_eq_true_eq, and_self, true_and, and_true, reduceCtorEq, ne_eq, not_false_eq_true, not_true_eq_false, decide_true, decide_false, or_false, false_or, NUM, g48, g47, g7, g6, gb6, g22, g21, g20, g0, g1, hd, hf, i64_in (x := (j : Int) + 1) (by unfold I64; omega), g11, hr0, hd0, (show ¬ FORV ⟨xb, xp, xd, xr⟩ ps < 1 by omega)] at hW
              subst hW
              refine rd_next (j + 1) ?_ (show l.length - (j + 1) < l.length - j by omega)
              simp (config := { maxSteps := 1000000 }) only [RUN, PATHS, BASE, FA, POL, start_tm, Heap.empty, reduceIte, Nat.reduceLT, Nat.reduceLeDiff, Nat.reduceEqDiff, Nat.reduceAdd, Nat.reduceSub, Nat.reduceMul, Nat.reduceBEq, Int.reduceLT, Int.reduceLE, Int.reduceEq, Int.reduceNeg, Int.reduceAdd, Int.reduceSub, Int.reduceMul, Bool.false_eq_true, Bool.not_true, Bool.not_false, decide_eq_true_eq, and_self, true_and, and_true, reduceCtorEq, ne_eq, not_false_eq_true, not_true_eq_false, decide_true, decide_false, or_false, false_or, g48, g47, g7, g6, gb6, g22, g21, g20, g0, g1]
              exact ⟨by omega, by simp⟩
            · simp (config := { maxSteps := 1000000 }) only [RUN, PATHS, BASE, FA, POL, start_tm, Heap.empty, reduceIte, Nat.reduceLT, Nat.reduceLeDiff, Nat.reduceEqDiff, Nat.reduceAdd, Nat.reduceSub, Nat.reduceMul, Nat.reduceBEq, Int.reduceLT, Int.reduceLE, Int.reduceEq, Int.reduceNeg, Int.reduceAdd, Int.reduceSub, Int.reduceMul, Bool.false_eq_true, Bool.not_true, Bool.not_false, decide_eq_true_eq, and_self, true_and, and_true, reduceCtorEq, ne_eq, not_false_eq_true, not_true_eq_false, decide_true, decide_false, or_false, false_or, NUM, g48, g47, g7, g6, gb6, g22, g21, g20, g0, g1, hd, hf, i64_in (x := (j : Int) + 1) (by unfold I64; omega), g11, hr0, hd0] at hW
              subst hW
              refine rd_next (j + 1) ?_ (show l.length - (j + 1) < l.length - j by omega)
              simp (config := { maxSteps := 1000000 }) only [RUN, PATHS, BASE, FA, POL, start_tm, Heap.empty, reduceIte, Nat.reduceLT, Nat.reduceLeDiff, Nat.reduceEqDiff, Nat.reduceAdd, Nat.reduceSub, Nat.reduceMul, Nat.reduceBEq, Int.reduceLT, Int.reduceLE, Int.reduceEq, Int.reduceNeg, Int.reduceAdd, Int.reduceSub, Int.reduceMul, Bool.false_eq_true, Bool.not_true, Bool.not_false, decide_eq_true_eq, and_self, true_and, and_true, reduceCtorEq, ne_eq, not_false_eq_true, not_true_eq_false, decide_true, decide_false, or_false, false_or, g48, g47, g7, g6, gb6, g22, g21, g20, g0, g1]
              exact ⟨by omega, by simp⟩
          · simp (config := { maxSteps := 1000000 }) only [RUN, PATHS, BASE, FA, POL, start_tm, Heap.empty, reduceIte, Nat.reduceLT, Nat.reduceLeDiff, Nat.reduceEqDiff, Nat.reduceAdd, Nat.reduceSub, Nat.reduceMul, Nat.reduceBEq, Int.reduceLT, Int.reduceLE, Int.reduceEq, Int.reduceNeg, Int.reduceAdd, Int.reduceSub, Int.reduceMul, Bool.false_eq_true, Bool.not_true, Bool.not_false, decide_eq_true_eq, and_self, true_and, and_true, reduceCtorEq, ne_eq, not_false_eq_true, not_true_eq_false, decide_true, decide_false, or_false, false_or, NUM, g48, g47, g7, g6, gb6, g22, g21, g20, g0, g1, hd, hf, i64_in (x := (j : Int) + 1) (by unfold I64; omega), g11, hr0] at hW
            subst hW
            refine rd_next (j + 1) ?_ (show l.length - (j + 1) < l.length - j by omega)
            simp (config := { maxSteps := 1000000 }) only [RUN, PATHS, BASE, FA, POL, start_tm, Heap.empty, reduceIte, Nat.reduceLT, Nat.reduceLeDiff, Nat.reduceEqDiff, Nat.reduceAdd, Nat.reduceSub, Nat.reduceMul, Nat.reduceBEq, Int.reduceLT, Int.reduceLE, Int.reduceEq, Int.reduceNeg, Int.reduceAdd, Int.reduceSub, Int.reduceMul, Bool.false_eq_true, Bool.not_true, Bool.not_false, decide_eq_true_eq, and_self, true_and, and_true, reduceCtorEq, ne_eq, not_false_eq_true, not_true_eq_false, decide_true, decide_false, or_false, false_or, g48, g47, g7, g6, gb6, g22, g21, g20, g0, g1]
            exact ⟨by omega, by simp⟩)
  simp (config := { maxSteps := 1000000 }) only [RUN, PATHS, BASE, FA, POL, start_tm, Heap.empty, reduceIte, Nat.reduceLT, Nat.reduceLeDiff, Nat.reduceEqDiff, Nat.reduceAdd, Nat.reduceSub, Nat.reduceMul, Nat.reduceBEq, Int.reduceLT, Int.reduceLE, Int.reduceEq, Int.reduceNeg, Int.reduceAdd, Int.reduceSub, Int.reduceMul, Bool.false_eq_true, Bool.not_true, Bool.not_false, decide_eq_true_eq, and_self, true_and, and_true, reduceCtorEq, ne_eq, not_false_eq_true, not_true_eq_false, decide_true, decide_false, or_false, false_or, hd]
end Go.Proofs.Ytnabgahkdomeoaa

