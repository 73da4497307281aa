/-
  The whole order: stretches of twenty, merged.
-/
import Derived.Test.YtnabgahkdomeoaaC13
set_option linter.unusedSimpArgs false
set_option linter.unusedVariables false
set_option linter.unusedSectionVars false
namespace Go.Proofs.Ytnabgahkdomeoaa
open Go GoV
set_option maxRecDepth 100000

/-- Places within bounds. -/
def QW (o k : Nat) (l : List Qu) : Prop := ∀ x ∈ l, (o : Int) ≤ x.ix ∧ x.ix < (o : Int) + k
/-- In order stretch by stretch. -/
inductive SB (s : Nat) : Nat → List Qu → Prop
  | last (o : Nat) (d : List Qu) : d.length ≤ s → QS d → QW o s d → SB s o d
  | more (o : Nat) (c d : List Qu) : c.length = s → QS c → QW o s c → SB s (o + s) d → SB s o (c ++ d)
theorem SB_split {s o : Nat} {d : List Qu} (h : SB s o d) (hl : s ≤ d.length) : ∃ c d', d = c ++ d' ∧ c.length = s ∧ QS c ∧ QW o s c ∧ SB s (o + s) d' := by
  cases h with
  | last _ _ h1 h2 h3 => exact ⟨d, [], by simp, by omega, h2, h3, .last _ _ (by simp) (by simp) (fun x hx => by simp at hx)⟩
  | more _ c d' h1 h2 h3 h4 => exact ⟨c, d', rfl, h1, h2, h3, h4⟩
theorem SB_last {s o : Nat} {d : List Qu} (h : SB s o d) (hl : d.length ≤ s) (hs : 0 < s) : QS d ∧ QW o s d := by
  cases h with
  | last _ _ h1 h2 h3 => exact ⟨h2, h3⟩
  | more _ c d' h1 h2 h3 h4 =>
    have : d' = [] := List.eq_nil_of_length_eq_zero (by simp at hl; omega)
    subst this
    simpa using ⟨h2, h3⟩
theorem QW.wide {o k k' : Nat} {l : List Qu} (h : QW o k l) (hk : k ≤ k') : QW o k' l := fun x hx => by have := h x hx; omega
theorem QW.perm {o k : Nat} {l m : List Qu} (h : QW o k l) (p : m.Perm l) : QW o k m := fun x hx => h x (p.mem_iff.1 hx)
theorem QW.two {o s k : Nat} {c d p : List Qu} (h : QW o s c) (h' : QW (o + s) k d) (q : p.Perm (c ++ d)) : QW o (s + k) p := fun x hx => by
  rcases List.mem_append.1 (q.mem_iff.1 hx) with hx | hx
  · have := h x hx; omega
  · have := h' x hx; omega
theorem QW.before {o s k : Nat} {c d : List Qu} (h : QW o s c) (h' : QW (o + s) k d) : QI c d := fun x hx y hy => by
  have := h x hx; have := h' y hy; omega
/-- The places are the members' own. -/
def OWN (o : Nat) (d : List Qu) : Prop := ∀ (i : Nat) (x : Qu), d[i]? = some x → x.ix = (o : Int) + i
theorem OWN.split {o : Nat} {c d : List Qu} (h : OWN o (c ++ d)) : OWN o c ∧ OWN (o + c.length) d :=
  ⟨fun i x e => h i x (by rw [List.getElem?_append_left (List.getElem?_eq_some_iff.1 e).1]; exact e), fun i x e => by
    have := h (c.length + i) x (by rw [List.getElem?_append_right (by omega)]; simpa using e)
    omega⟩
theorem OWN.w {o : Nat} {d : List Qu} (h : OWN o d) : QW o d.length d := fun x hx => by
  obtain ⟨i, e⟩ := List.mem_iff_getElem?.1 hx
  have := h i x e
  have := (List.getElem?_eq_some_iff.1 e).1
  omega
theorem OWN.x {o : Nat} {d : List Qu} (h : OWN o d) : QX d := by
  refine List.pairwise_iff_getElem.2 fun i j hi hj hij => ?_
  have h1 := h i _ (List.getElem?_eq_getElem hi)
  have h2 := h j _ (List.getElem?_eq_getElem hj)
  omega
theorem perm_mid {A B X Y : List Qu} (h : X.Perm Y) : (A ++ (X ++ B)).Perm (A ++ (Y ++ B)) := List.Perm.append_left A (List.Perm.append_right B h)
theorem c_stable (S : List Qu) (n : Nat) (ho : OWN 0 S) (hn : n = S.length) (hl : n ≤ 1000000) (H : Heap) (hr : H.rows 2 = some (RW S)) :
    ∃ M, M.Perm S ∧ QS M ∧ ∃ k, callF G Try.prog pol 54 [QG n, I n, CF] H = some (.ret (.tup []), ⟨upd H.rows 2 (some (RW M)), k⟩) ∧ H.next ≤ k := by
  rw [callF_eq _ _ Try.func54 rfl Try.ntmps54 Try.results54 (by kernel_rfl) rfl (by exact Nat.le_of_ble_eq_true rfl)]
  simp (config := { maxSteps := 1000000 }) only [RUN, PATHS, BASE, FA, POL, start_tm, Heap.empty, reduceIte, Nat.reduceLT, Nat.reduceLeDiff, Nat.reduceEqDiff, Nat.reduceAdd, Nat.reduceSub, Nat.reduceMul, Nat.reduceBEq, Int.reduceLT, Int.reduceLE, Int.reduceEq, Int.reduceNeg, Int.reduceAdd, Int.reduceSub, Int.reduceMul, Bool.false_eq_true, Bool.not_true, Bool.not_false, decide_eq_true_eq, and_self, true_and, and_true, reduceCtorEq, ne_eq, not_false_eq_true, not_true_eq_false, decide_true, decide_false, or_false, false_or]
  generalize hL : W _ (.loop _) _ = L
  obtain ⟨ex, s, rfl, rfl, M, d, h1, h2, h3, h4, h5, hrow, h6, h7, h0, h1', h2', hd, hf, hnx⟩ := loop_at hL (α := List Qu × List Qu) (fun p => p.2.length)
    (fun s0 p s => (p.1 ++ p.2).Perm S ∧ OWN p.1.length p.2 ∧ (∀ d', SB 20 p.1.length d' → SB 20 0 (p.1 ++ d')) ∧ s.H.rows = upd H.rows 2 (some (RW (p.1 ++ p.2))) ∧ s.tmps 6 = I 20 ∧ s.tmps 7 = I p.1.length ∧ s.tmps 8 = I (p.1.length + 20) ∧ s.tmps 0 = QG n ∧ s.tmps 1 = I n ∧ s.tmps 2 = CF ∧ s.defers = [] ∧ s.fid = H.next ∧ H.next ≤ s.H.next)
    (fun s0 ex s => ex = .exit 0 ∧ ∃ M d : List Qu, (M ++ d).Perm S ∧ d.length < 20 ∧ OWN M.length d ∧ (∀ d', SB 20 M.length d' → SB 20 0 (M ++ d')) ∧ M.length + d.length = n ∧ s.H.rows = upd H.rows 2 (some (RW (M ++ d))) ∧ s.tmps 6 = I 20 ∧ s.tmps 7 = I M.length ∧ s.tmps 0 = QG n ∧ s.tmps 1 = I n ∧ s.tmps 2 = CF ∧ s.defers = [] ∧ s.fid = H.next ∧ H.next ≤ s.H.next) ([], S)
    (by simp (config := { maxSteps := 1000000 }) only [RUN, PATHS, BASE, FA, POL, start_tm, Heap.empty, reduceIte, Nat.reduceLT, Nat.reduceLeDiff, Nat.reduceEqDiff, Nat.reduceAdd, Nat.reduceSub, Nat.reduceMul, Nat.reduceBEq, Int.reduceLT, Int.reduceLE, Int.reduceEq, Int.reduceNeg, Int.reduceAdd, Int.reduceSub, Int.reduceMul, Bool.false_eq_true, Bool.not_true, Bool.not_false, decide_eq_true_eq, and_self, true_and, and_true, reduceCtorEq, ne_eq, not_false_eq_true, not_true_eq_false, decide_true, decide_false, or_false, false_or]
        refine ⟨.refl _, ho, fun d' h => h, by rw [← hr, upd_same], by simp, by simp, by omega⟩) (by
      rintro ⟨M, d⟩ s r hW ⟨hp, hw, hb, hrow, h6, h7, h8, h0, h1, h2, hd, hf, hnx⟩
      dsimp only at hp hw hb hrow h7 h8
      have hlen := hp.length_eq
      rw [List.length_append] at hlen
      by_cases hlt : M.length + 20 ≤ n
      rotate_left
      · simp (config := { maxSteps := 1000000 }) only [RUN, PATHS, BASE, FA, POL, start_tm, Heap.empty, reduceIte, Nat.reduceLT, Nat.reduceLeDiff, Nat.reduceEqDiff, Nat.reduceAdd, Nat.reduceSub, Nat.reduceMul, Nat.reduceBEq, Int.reduceLT, Int.reduceLE, Int.reduceEq, Int.reduceNeg, Int.reduceAdd, Int.reduceSub, Int.reduceMul, Bool.false_eq_true, Bool.not_true, Bool.not_false, decide_eq_true_eq, and_self, true_and, and_true, reduceCtorEq, ne_eq, not_false_eq_true, not_true_eq_false, decide_true, decide_false, or_false, false_or, h8, h1, hd, hf, (show ¬ (M.length : Int) + 20 ≤ n by omega)] at hW
        subst hW
        refine rd_exit ⟨rfl, M, d, hp, by omega, hw, hb, by omega, ?_⟩
        simp (config := { maxSteps := 1000000 }) only [RUN, PATHS, BASE, FA, POL, start_tm, Heap.empty, reduceIte, Nat.reduceLT, Nat.reduceLeDiff, Nat.reduceEqDiff, Nat.reduceAdd, Nat.reduceSub, Nat.reduceMul, Nat.reduceBEq, Int.reduceLT, Int.reduceLE, Int.reduceEq, Int.reduceNeg, Int.reduceAdd, Int.reduceSub, Int.reduceMul, Bool.false_eq_true, Bool.not_true, Bool.not_false, decide_eq_true_eq, and_self, true_and, and_true, reduceCtorEq, ne_eq, not_false_eq_true, not_true_eq_false, decide_true, decide_false, or_false, false_or, hrow, h6, h7, h0, h1, h2]
        exact hnx
      obtain ⟨c, d', rfl, hc⟩ := part_at d 20 (by omega)
      obtain ⟨w1, w2⟩ := hw.split
      rw [List.length_append] at hlen
      obtain ⟨z, hz⟩ : ∃ z, z = M.length + 20 := ⟨_, rfl⟩
      have h8' : s.tmps 8 = I z := by rw [h8, hz]; simp
      obtain ⟨C, p1, s1, k, cs, hk⟩ := c_insertion M c d' M.length z n rfl (by omega) w1.x (by simp; omega) hl s.H (by rw [hrow]; simp)
      simp (config := { maxSteps := 1000000 }) only [RUN, PATHS, BASE, FA, POL, start_tm, Heap.empty, reduceIte, Nat.reduceLT, Nat.reduceLeDiff, Nat.reduceEqDiff, Nat.reduceAdd, Nat.reduceSub, Nat.reduceMul, Nat.reduceBEq, Int.reduceLT, Int.reduceLE, Int.reduceEq, Int.reduceNeg, Int.reduceAdd, Int.reduceSub, Int.reduceMul, Bool.false_eq_true, Bool.not_true, Bool.not_false, decide_eq_true_eq, and_self, true_and, and_true, reduceCtorEq, ne_eq, not_false_eq_true, not_true_eq_false, decide_true, decide_false, or_false, false_or, NUM, h6, h7, h8', h0, h1, h2, hd, hf, (show (z : Int) ≤ n by omega), i64_in (x := (z : Int) + 20) (by unfold I64; omega), cs] at hW
      subst hW
      have lC := p1.length_eq
      refine rd_next (M ++ C, d') ?_ (show d'.length < (c ++ d').length by simp; omega)
      simp (config := { maxSteps := 1000000 }) only [RUN, PATHS, BASE, FA, POL, start_tm, Heap.empty, reduceIte, Nat.reduceLT, Nat.reduceLeDiff, Nat.reduceEqDiff, Nat.reduceAdd, Nat.reduceSub, Nat.reduceMul, Nat.reduceBEq, Int.reduceLT, Int.reduceLE, Int.reduceEq, Int.reduceNeg, Int.reduceAdd, Int.reduceSub, Int.reduceMul, Bool.false_eq_true, Bool.not_true, Bool.not_false, decide_eq_true_eq, and_self, true_and, and_true, reduceCtorEq, ne_eq, not_false_eq_true, not_true_eq_false, decide_true, decide_false, or_false, false_or, h6, h0, h1, h2, hrow, List.length_append]
      refine ⟨?_, ?_, fun e he => ?_, ?_, ?_, ?_, by omega⟩
      · rw [List.append_assoc]; exact (perm_mid p1).trans hp
      · rw [lC]; exact w2
      · rw [List.append_assoc]
        refine hb _ (.more _ _ _ (by omega) s1 ?_ (by rw [show M.length + 20 = M.length + C.length by omega]; exact he))
        have := w1.w.perm p1
        rw [hc] at this; exact this
      · rw [upd_upd, List.append_assoc]
      · rw [hz, lC, hc]
      · rw [hz, lC, hc])
  obtain ⟨C, p1, s1, k, cs, hk⟩ := c_insertion M d [] M.length n n rfl (by omega) h3.x (by simp; omega) hl s.H (by rw [hrow]; simp)
  have lC := p1.length_eq
  have sb : SB 20 0 (M ++ C) := h4 _ (.last _ _ (by omega) s1 ((h3.w.perm p1).wide (by omega)))
  have pm : (M ++ C).Perm S := (List.Perm.append_left M p1).trans h1
  simp (config := { maxSteps := 1000000 }) only [RUN, PATHS, BASE, FA, POL, start_tm, Heap.empty, reduceIte, Nat.reduceLT, Nat.reduceLeDiff, Nat.reduceEqDiff, Nat.reduceAdd, Nat.reduceSub, Nat.reduceMul, Nat.reduceBEq, Int.reduceLT, Int.reduceLE, Int.reduceEq, Int.reduceNeg, Int.reduceAdd, Int.reduceSub, Int.reduceMul, Bool.false_eq_true, Bool.not_true, Bool.not_false, decide_eq_true_eq, and_self, true_and, and_true, reduceCtorEq, ne_eq, not_false_eq_true, not_true_eq_false, decide_true, decide_false, or_false, false_or, h6, h7, h0, h1', h2', hd, hf, cs]
  generalize hL2 : W _ (.loop _) _ = L2
  obtain ⟨ex, s2, rfl, rfl, M', pm', sm', hrow', hd', hnx'⟩ := loop_at hL2 (α := Nat × List Qu) (fun p => n - p.1)
    (fun s0 p s => 20 ≤ p.1 ∧ p.1 ≤ 4000000 ∧ p.2.Perm S ∧ SB p.1 0 p.2 ∧ s.H.rows = upd H.rows 2 (some (RW p.2)) ∧ s.tmps 6 = I p.1 ∧ s.tmps 0 = QG n ∧ s.tmps 1 = I n ∧ s.tmps 2 = CF ∧ s.defers = [] ∧ s.fid = H.next ∧ H.next ≤ s.H.next)
    (fun s0 ex s => ex = .exit 2 ∧ ∃ M : List Qu, M.Perm S ∧ QS M ∧ s.H.rows = upd H.rows 2 (some (RW M)) ∧ s.defers = [] ∧ H.next ≤ s.H.next) (20, M ++ C)
    (by simp (config := { maxSteps := 1000000 }) only [RUN, PATHS, BASE, FA, POL, start_tm, Heap.empty, reduceIte, Nat.reduceLT, Nat.reduceLeDiff, Nat.reduceEqDiff, Nat.reduceAdd, Nat.reduceSub, Nat.reduceMul, Nat.reduceBEq, Int.reduceLT, Int.reduceLE, Int.reduceEq, Int.reduceNeg, Int.reduceAdd, Int.reduceSub, Int.reduceMul, Bool.false_eq_true, Bool.not_true, Bool.not_false, decide_eq_true_eq, and_self, true_and, and_true, reduceCtorEq, ne_eq, not_false_eq_true, not_true_eq_false, decide_true, decide_false, or_false, false_or, h6, h0, h1', h2', hrow, List.append_nil]
        exact ⟨pm, sb, by rw [upd_upd], rfl, Nat.le_trans hnx hk⟩) (by
      rintro ⟨z, M⟩ s r hW ⟨hz, hz', pm, sb, hrow, h6, h0, h1, h2, hd, hf, hnx⟩
      dsimp only at hz hz' pm sb hrow h6
      have lM := pm.length_eq
      by_cases hlt : z < n
      rotate_left
      · simp (config := { maxSteps := 1000000 }) only [RUN, PATHS, BASE, FA, POL, start_tm, Heap.empty, reduceIte, Nat.reduceLT, Nat.reduceLeDiff, Nat.reduceEqDiff, Nat.reduceAdd, Nat.reduceSub, Nat.reduceMul, Nat.reduceBEq, Int.reduceLT, Int.reduceLE, Int.reduceEq, Int.reduceNeg, Int.reduceAdd, Int.reduceSub, Int.reduceMul, Bool.false_eq_true, Bool.not_true, Bool.not_false, decide_eq_true_eq, and_self, true_and, and_true, reduceCtorEq, ne_eq, not_false_eq_true, not_true_eq_false, decide_true, decide_false, or_false, false_or, h6, h1, hd, hf, (show ¬ (z : Int) < n by omega)] at hW
        subst hW
        refine rd_exit ⟨rfl, M, pm, (SB_last sb (by omega) (by omega)).1, ?_⟩
        simp (config := { maxSteps := 1000000 }) only [RUN, PATHS, BASE, FA, POL, start_tm, Heap.empty, reduceIte, Nat.reduceLT, Nat.reduceLeDiff, Nat.reduceEqDiff, Nat.reduceAdd, Nat.reduceSub, Nat.reduceMul, Nat.reduceBEq, Int.reduceLT, Int.reduceLE, Int.reduceEq, Int.reduceNeg, Int.reduceAdd, Int.reduceSub, Int.reduceMul, Bool.false_eq_true, Bool.not_true, Bool.not_false, decide_eq_true_eq, and_self, true_and, and_true, reduceCtorEq, ne_eq, not_false_eq_true, not_true_eq_false, decide_true, decide_false, or_false, false_or, hrow]
        exact hnx
      simp (config := { maxSteps := 1000000 }) only [RUN, PATHS, BASE, FA, POL, start_tm, Heap.empty, reduceIte, Nat.reduceLT, Nat.reduceLeDiff, Nat.reduceEqDiff, Nat.reduceAdd, Nat.reduceSub, Nat.reduceMul, Nat.reduceBEq, Int.reduceLT, Int.reduceLE, Int.reduceEq, Int.reduceNeg, Int.reduceAdd, Int.reduceSub, Int.reduceMul, Bool.false_eq_true, Bool.not_true, Bool.not_false, decide_eq_true_eq, and_self, true_and, and_true, reduceCtorEq, ne_eq, not_false_eq_true, not_true_eq_false, decide_true, decide_false, or_false, false_or, h6, h1, hd, hf, (show (z : Int) < n by omega), i64_in (x := 2 * (z : Int)) (by unfold I64; omega)] at hW
      generalize hL3 : W _ (.loop _) _ = L3 at hW
      obtain ⟨ex, s3, rfl, rfl, P, d, pm, ld, sd, hb, hn, hrow, h6, h7, h0, h1, h2, hd, hf, hnx⟩ := loop_at hL3 (α := List Qu × List Qu) (fun p => p.2.length)
        (fun s0 p s => (p.1 ++ p.2).Perm S ∧ SB z p.1.length p.2 ∧ (∀ d', SB (2 * z) p.1.length d' → SB (2 * z) 0 (p.1 ++ d')) ∧ s.H.rows = upd H.rows 2 (some (RW (p.1 ++ p.2))) ∧ s.tmps 6 = I z ∧ s.tmps 7 = I p.1.length ∧ s.tmps 8 = I (p.1.length + 2 * z) ∧ s.tmps 0 = QG n ∧ s.tmps 1 = I n ∧ s.tmps 2 = CF ∧ s.defers = [] ∧ s.fid = H.next ∧ H.next ≤ s.H.next)
        (fun s0 ex s => ex = .exit 4 ∧ ∃ P d : List Qu, (P ++ d).Perm S ∧ d.length < 2 * z ∧ SB z P.length d ∧ (∀ d', SB (2 * z) P.length d' → SB (2 * z) 0 (P ++ d')) ∧ P.length + d.length = n ∧ s.H.rows = upd H.rows 2 (some (RW (P ++ d))) ∧ s.tmps 6 = I z ∧ s.tmps 7 = I P.length ∧ s.tmps 0 = QG n ∧ s.tmps 1 = I n ∧ s.tmps 2 = CF ∧ s.defers = [] ∧ s.fid = H.next ∧ H.next ≤ s.H.next) ([], M)
        (by simp (config := { maxSteps := 1000000 }) only [RUN, PATHS, BASE, FA, POL, start_tm, Heap.empty, reduceIte, Nat.reduceLT, Nat.reduceLeDiff, Nat.reduceEqDiff, Nat.reduceAdd, Nat.reduceSub, Nat.reduceMul, Nat.reduceBEq, Int.reduceLT, Int.reduceLE, Int.reduceEq, Int.reduceNeg, Int.reduceAdd, Int.reduceSub, Int.reduceMul, Bool.false_eq_true, Bool.not_true, Bool.not_false, decide_eq_true_eq, and_self, true_and, and_true, reduceCtorEq, ne_eq, not_false_eq_true, not_true_eq_false, decide_true, decide_false, or_false, false_or, h6, h0, h1, h2, hrow]
            exact ⟨pm, sb, fun d' h => h, by simp, by simp, hnx⟩) (by
          rintro ⟨P, d⟩ s r hW ⟨pm, sd, hb, hrow, h6, h7, h8, h0, h1, h2, hd, hf, hnx⟩
          dsimp only at pm sd hb hrow h7 h8
          have hlen := pm.length_eq
          rw [List.length_append] at hlen
          by_cases hlt : P.length + 2 * z ≤ n
          rotate_left
          · simp (config := { maxSteps := 1000000 }) only [RUN, PATHS, BASE, FA, POL, start_tm, Heap.empty, reduceIte, Nat.reduceLT, Nat.reduceLeDiff, Nat.reduceEqDiff, Nat.reduceAdd, Nat.reduceSub, Nat.reduceMul, Nat.reduceBEq, Int.reduceLT, Int.reduceLE, Int.reduceEq, Int.reduceNeg, Int.reduceAdd, Int.reduceSub, Int.reduceMul, Bool.false_eq_true, Bool.not_true, Bool.not_false, decide_eq_true_eq, and_self, true_and, and_true, reduceCtorEq, ne_eq, not_false_eq_true, not_true_eq_false, decide_true, decide_false, or_false, false_or, h8, h1, hd, hf, (show ¬ (P.length : Int) + 2 * z ≤ n by omega)] at hW
            subst hW
            refine rd_exit ⟨rfl, P, d, pm, by omega, sd, hb, by omega, ?_⟩
            simp (config := { maxSteps := 1000000 }) only [RUN, PATHS, BASE, FA, POL, start_tm, Heap.empty, reduceIte, Nat.reduceLT, Nat.reduceLeDiff, Nat.reduceEqDiff, Nat.reduceAdd, Nat.reduceSub, Nat.reduceMul, Nat.reduceBEq, Int.reduceLT, Int.reduceLE, Int.reduceEq, Int.reduceNeg, Int.reduceAdd, Int.reduceSub, Int.reduceMul, Bool.false_eq_true, Bool.not_true, Bool.not_false, decide_eq_true_eq, and_self, true_and, and_true, reduceCtorEq, ne_eq, not_false_eq_true, not_true_eq_false, decide_true, decide_false, or_false, false_or, hrow, h6, h7, h0, h1, h2]
            exact hnx
          obtain ⟨c, d1, rfl, lc, sc, wc, sd1⟩ := SB_split sd (by omega)
          rw [List.length_append] at hlen
          obtain ⟨c', d2, rfl, lc', sc', wc', sd2⟩ := SB_split sd1 (by omega)
          rw [List.length_append] at hlen
          obtain ⟨q, hq⟩ : ∃ q, q = P.length + z := ⟨_, rfl⟩
          obtain ⟨e, he⟩ : ∃ e, e = P.length + 2 * z := ⟨_, rfl⟩
          have h8' : s.tmps 8 = I e := by rw [h8, he]; simp
          obtain ⟨C, p1, s1, k, cs, hk⟩ := c_sym (c.length + c'.length) P c c' d2 P.length q e n rfl (by omega) (by omega) (by omega) (by omega) sc sc' (wc.before wc') (by simp; omega) hl (Nat.le_refl _) s.H (by rw [hrow]; simp)
          have lC := p1.length_eq
          rw [List.length_append] at lC
          simp (config := { maxSteps := 1000000 }) only [RUN, PATHS, BASE, FA, POL, start_tm, Heap.empty, reduceIte, Nat.reduceLT, Nat.reduceLeDiff, Nat.reduceEqDiff, Nat.reduceAdd, Nat.reduceSub, Nat.reduceMul, Nat.reduceBEq, Int.reduceLT, Int.reduceLE, Int.reduceEq, Int.reduceNeg, Int.reduceAdd, Int.reduceSub, Int.reduceMul, Bool.false_eq_true, Bool.not_true, Bool.not_false, decide_eq_true_eq, and_self, true_and, and_true, reduceCtorEq, ne_eq, not_false_eq_true, not_true_eq_false, decide_true, decide_false, or_false, false_or, NUM, h6, h7, h8', h0, h1, h2, hd, hf, (show (e : Int) ≤ n by omega), i64_in (x := 2 * (z : Int)) (by unfold I64; omega), i64_in (x := (e : Int) + 2 * z) (by unfold I64; omega), (show (P.length : Int) + z = q by omega), i64_in (x := (q : Int)) (by unfold I64; omega), cs] at hW
          subst hW
          refine rd_next (P ++ C, d2) ?_ (show d2.length < (c ++ (c' ++ d2)).length by simp; omega)
          simp (config := { maxSteps := 1000000 }) only [RUN, PATHS, BASE, FA, POL, start_tm, Heap.empty, reduceIte, Nat.reduceLT, Nat.reduceLeDiff, Nat.reduceEqDiff, Nat.reduceAdd, Nat.reduceSub, Nat.reduceMul, Nat.reduceBEq, Int.reduceLT, Int.reduceLE, Int.reduceEq, Int.reduceNeg, Int.reduceAdd, Int.reduceSub, Int.reduceMul, Bool.false_eq_true, Bool.not_true, Bool.not_false, decide_eq_true_eq, and_self, true_and, and_true, reduceCtorEq, ne_eq, not_false_eq_true, not_true_eq_false, decide_true, decide_false, or_false, false_or, h6, h0, h1, h2, hrow, List.length_append]
          refine ⟨?_, ?_, fun f hf => ?_, ?_, ?_, ?_, by omega⟩
          · rw [List.append_assoc]; exact (perm_mid (B := d2) p1).trans (by simpa using pm)
          · rw [show P.length + C.length = P.length + z + z by omega]; exact sd2
          · rw [List.append_assoc]
            refine hb _ (.more _ _ _ (by omega) s1 ?_ (by rw [show P.length + 2 * z = P.length + C.length by omega]; exact hf))
            rw [show 2 * z = z + z by omega]; exact wc.two wc' p1
          · rw [upd_upd, List.append_assoc]
          · congr 1; omega
          · congr 1; omega)
      obtain ⟨m, hm⟩ : ∃ m, m = P.length + z := ⟨_, rfl⟩
      by_cases hmn : m < n
      rotate_left
      · simp (config := { maxSteps := 1000000 }) only [RUN, PATHS, BASE, FA, POL, start_tm, Heap.empty, reduceIte, Nat.reduceLT, Nat.reduceLeDiff, Nat.reduceEqDiff, Nat.reduceAdd, Nat.reduceSub, Nat.reduceMul, Nat.reduceBEq, Int.reduceLT, Int.reduceLE, Int.reduceEq, Int.reduceNeg, Int.reduceAdd, Int.reduceSub, Int.reduceMul, Bool.false_eq_true, Bool.not_true, Bool.not_false, decide_eq_true_eq, and_self, true_and, and_true, reduceCtorEq, ne_eq, not_false_eq_true, not_true_eq_false, decide_true, decide_false, or_false, false_or, NUM, h6, h7, h0, h1, h2, hd, hf, (show (P.length : Int) + z = m by omega), i64_in (x := (m : Int)) (by unfold I64; omega), (show ¬ (m : Int) < n by omega), i64_in (x := (z : Int) * 2) (by unfold I64; omega)] at hW
        subst hW
        have := SB_last sd (by omega) (by omega)
        refine rd_next (2 * z, P ++ d) ?_ (show n - 2 * z < n - z by omega)
        simp (config := { maxSteps := 1000000 }) only [RUN, PATHS, BASE, FA, POL, start_tm, Heap.empty, reduceIte, Nat.reduceLT, Nat.reduceLeDiff, Nat.reduceEqDiff, Nat.reduceAdd, Nat.reduceSub, Nat.reduceMul, Nat.reduceBEq, Int.reduceLT, Int.reduceLE, Int.reduceEq, Int.reduceNeg, Int.reduceAdd, Int.reduceSub, Int.reduceMul, Bool.false_eq_true, Bool.not_true, Bool.not_false, decide_eq_true_eq, and_self, true_and, and_true, reduceCtorEq, ne_eq, not_false_eq_true, not_true_eq_false, decide_true, decide_false, or_false, false_or, h0, h1, h2, hrow]
        exact ⟨by omega, by omega, pm, hb _ (.last _ _ (by omega) this.1 (this.2.wide (by omega))), by congr 1; omega, hnx⟩
      obtain ⟨c, d1, rfl, lc, sc, wc, sd1⟩ := SB_split sd (by omega)
      rw [List.length_append] at hn ld
      obtain ⟨t1, t2⟩ := SB_last sd1 (by omega) (by omega)
      obtain ⟨C, p1, s1, k, cs, hk⟩ := c_sym (c.length + d1.length) P c d1 [] P.length m n n rfl (by omega) (by omega) (by omega) (by omega) sc t1 (wc.before t2) (by simp; omega) hl (Nat.le_refl _) s3.H (by rw [hrow]; simp)
      have lC := p1.length_eq
      rw [List.length_append] at lC
      simp (config := { maxSteps := 1000000 }) only [RUN, PATHS, BASE, FA, POL, start_tm, Heap.empty, reduceIte, Nat.reduceLT, Nat.reduceLeDiff, Nat.reduceEqDiff, Nat.reduceAdd, Nat.reduceSub, Nat.reduceMul, Nat.reduceBEq, Int.reduceLT, Int.reduceLE, Int.reduceEq, Int.reduceNeg, Int.reduceAdd, Int.reduceSub, Int.reduceMul, Bool.false_eq_true, Bool.not_true, Bool.not_false, decide_eq_true_eq, and_self, true_and, and_true, reduceCtorEq, ne_eq, not_false_eq_true, not_true_eq_false, decide_true, decide_false, or_false, false_or, NUM, h6, h7, h0, h1, h2, hd, hf, (show (P.length : Int) + z = m by omega), i64_in (x := (m : Int)) (by unfold I64; omega), (show (m : Int) < n by omega), i64_in (x := (z : Int) * 2) (by unfold I64; omega), cs] at hW
      subst hW
      refine rd_next (2 * z, P ++ C) ?_ (show n - 2 * z < n - z by omega)
      simp (config := { maxSteps := 1000000 }) only [RUN, PATHS, BASE, FA, POL, start_tm, Heap.empty, reduceIte, Nat.reduceLT, Nat.reduceLeDiff, Nat.reduceEqDiff, Nat.reduceAdd, Nat.reduceSub, Nat.reduceMul, Nat.reduceBEq, Int.reduceLT, Int.reduceLE, Int.reduceEq, Int.reduceNeg, Int.reduceAdd, Int.reduceSub, Int.reduceMul, Bool.false_eq_true, Bool.not_true, Bool.not_false, decide_eq_true_eq, and_self, true_and, and_true, reduceCtorEq, ne_eq, not_false_eq_true, not_true_eq_false, decide_true, decide_false, or_false, false_or, h0, h1, h2, hrow]
      refine ⟨by omega, by omega, (List.Perm.append_left P p1).trans pm, hb _ (.last _ _ (by omega) s1 ?_), by rw [upd_upd], by congr 1; omega, by omega⟩
      rw [show 2 * z = z + z by omega]; exact wc.two t2 p1)
  simp (config := { maxSteps := 1000000 }) only [RUN, PATHS, BASE, FA, POL, start_tm, Heap.empty, reduceIte, Nat.reduceLT, Nat.reduceLeDiff, Nat.reduceEqDiff, Nat.reduceAdd, Nat.reduceSub, Nat.reduceMul, Nat.reduceBEq, Int.reduceLT, Int.reduceLE, Int.reduceEq, Int.reduceNeg, Int.reduceAdd, Int.reduceSub, Int.reduceMul, Bool.false_eq_true, Bool.not_true, Bool.not_false, decide_eq_true_eq, and_self, true_and, and_true, reduceCtorEq, ne_eq, not_false_eq_true, not_true_eq_false, decide_true, decide_false, or_false, false_or, hd']
  exact ⟨M', pm', sm', s2.H.next, by rw [← hrow'], hnx'⟩
theorem c_sort (S : List Qu) (n : Nat) (ho : OWN 0 S) (hn : n = S.length) (hl : n ≤ 1000000) (H : Heap) (hr : H.rows 2 = some (RW S)) :
    ∃ M, M.Perm S ∧ QS M ∧ ∃ k, callF G Try.prog pol 34 [QG n, CF] H = some (.ret (.tup []), ⟨upd H.rows 2 (some (RW M)), k⟩) ∧ H.next ≤ k := by
  obtain ⟨M, pm, sm, k, cs, hk⟩ := c_stable S n ho hn hl ⟨H.rows, H.next + 1⟩ hr
  refine ⟨M, pm, sm, k, ?_, by have : H.next + 1 ≤ k := hk; omega⟩
  rw [callF_eq _ _ Try.func34 rfl Try.ntmps34 Try.results34 (by kernel_rfl) rfl (by exact Nat.le_of_ble_eq_true rfl)]
  simp (config := { maxSteps := 1000000 }) only [RUN, PATHS, BASE, FA, POL, start_tm, Heap.empty, reduceIte, Nat.reduceLT, Nat.reduceLeDiff, Nat.reduceEqDiff, Nat.reduceAdd, Nat.reduceSub, Nat.reduceMul, Nat.reduceBEq, Int.reduceLT, Int.reduceLE, Int.reduceEq, Int.reduceNeg, Int.reduceAdd, Int.reduceSub, Int.reduceMul, Bool.false_eq_true, Bool.not_true, Bool.not_false, decide_eq_true_eq, and_self, true_and, and_true, reduceCtorEq, ne_eq, not_false_eq_true, not_true_eq_false, decide_true, decide_false, or_false, false_or, cs]
end Go.Proofs.Ytnabgahkdomeoaa
