/-
  What a stake forfeits, walked.
-/
import Derived.Test.YtnabgahkdomeoaaC6
set_option linter.unusedSimpArgs false
set_option linter.unusedVariables false
set_option linter.unusedSectionVars false
namespace Go.Proofs.Ytnabgahkdomeoaa
open Go GoV
set_option maxRecDepth 100000

theorem DIST_bd {x : Rg} {n : Int} (hx : OKR x) (hn : OKI n) : 0 ≤ DIST x n ∧ DIST x n ≤ 1099511627776 := by
  unfold OKR at hx
  unfold OKI at hn
  unfold DIST
  omega
theorem mul_bd {a b : Int} (ha : 0 ≤ a ∧ a ≤ 1048576) (hb : 0 ≤ b ∧ b ≤ 1099511627776) : 0 ≤ a * b ∧ a * b ≤ 1152921504606846976 := by
  have h1 : a * b ≤ 1048576 * 1099511627776 := Int.mul_le_mul ha.2 hb.2 hb.1 (by decide)
  exact ⟨Int.mul_nonneg ha.1 hb.1, by omega⟩
theorem AMT_in {x : Stk} {y : Pst} (hx : OKS x) (hy : OKP y) (hp : x.p < y.bo.length) : ∃ r n, y.bo[x.p.toNat]? = some r ∧ y.se[x.p.toNat]? = some n ∧ OKR r ∧ OKI n ∧ AMT x y = min x.d (x.r * DIST r n) ∧ I64 (x.r * DIST r n) := by
  have p0 := hx.2.1.1
  have h1 : x.p.toNat < y.bo.length := by omega
  have h2 : x.p.toNat < y.se.length := by rw [hy.2.2.1]; exact h1
  have e1 : y.bo[x.p.toNat]? = some y.bo[x.p.toNat] := List.getElem?_eq_getElem h1
  have e2 : y.se[x.p.toNat]? = some y.se[x.p.toNat] := List.getElem?_eq_getElem h2
  have o1 := hy.2.1.2 _ (List.getElem_mem h1)
  have o2 := hy.2.2.2 _ (List.getElem_mem h2)
  refine ⟨_, _, e1, e2, o1, o2, ?_, ?_⟩
  · unfold AMT; rw [if_pos hp, e1, e2]
  · have := mul_bd hx.2.2.2 (DIST_bd o1 o2); unfold I64; omega
theorem c_refforfeit (x : Stk) (hx : OKS x) (l : List Pst) (c : Option Nat) (hi : INC l) (ok : ∀ x ∈ l, OKP x) (hl : l.length ≤ 256) : ap Try.prog pol 31 [stk x, .vs 3 (l.map pst) c] = some (.ret (I (FORV x l))) := by
  rw [ap_eq _ Try.func31 rfl Try.ntmps31 Try.results31 (by kernel_rfl) rfl (by exact Nat.le_of_ble_eq_true rfl)]
  simp (config := { maxSteps := 1000000 }) only [RUN, PATHS, BASE, FA, POL, start_tm, Heap.empty, reduceIte, Nat.reduceLT, Nat.reduceLeDiff, Nat.reduceEqDiff, Nat.reduceAdd, Nat.reduceSub, Nat.reduceMul, Nat.reduceBEq, Int.reduceLT, Int.reduceLE, Int.reduceEq, Int.reduceNeg, Int.reduceAdd, Int.reduceSub, Int.reduceMul, Bool.false_eq_true, Bool.not_true, Bool.not_false, decide_eq_true_eq, and_self, true_and, and_true, reduceCtorEq, ne_eq, not_false_eq_true, not_true_eq_false, decide_true, decide_false, or_false, false_or, NUM]
  generalize hL : W _ (.loop _) _ = L
  obtain ⟨ex, s, rfl, hex, hd⟩ := loop_at hL (α := Nat) (fun j => l.length - j)
    (fun s0 j s => j ≤ l.length ∧ (∀ (i : Nat) (y : Pst), i < j → l[i]? = some y → y.b = x.b → ¬ x.p < y.bo.length) ∧ s.tmps 5 = I j ∧ s.tmps 1 = .vs 3 (l.map pst) c ∧ s.tmps 2 = .bptr 0 2 0 0 ∧ s.boxes 2 = some (0, [I x.b, I x.p, I x.d, I x.r]) ∧ s.defers = [] ∧ s.fid = 0)
    (fun s0 ex s => ((ex = .exit 0 ∧ FORV x l = 0) ∨ (ex = .ret ∧ s.tmps 4 = I (FORV x l))) ∧ s.defers = []) 0
    (by simp (config := { maxSteps := 1000000 }) only [RUN, PATHS, BASE, FA, POL, start_tm, Heap.empty, reduceIte, Nat.reduceLT, Nat.reduceLeDiff, Nat.reduceEqDiff, Nat.reduceAdd, Nat.reduceSub, Nat.reduceMul, Nat.reduceBEq, Int.reduceLT, Int.reduceLE, Int.reduceEq, Int.reduceNeg, Int.reduceAdd, Int.reduceSub, Int.reduceMul, Bool.false_eq_true, Bool.not_true, Bool.not_false, decide_eq_true_eq, and_self, true_and, and_true, reduceCtorEq, ne_eq, not_false_eq_true, not_true_eq_false, decide_true, decide_false, or_false, false_or]; exact ⟨by omega, fun i y h => by omega, by simp⟩) (by
      rintro j s r hW ⟨hj, no, h5, h1, h2, hb2, hd, hf⟩
      by_cases hp : j < l.length
      · have e0 : l[j]? = some l[j] := List.getElem?_eq_getElem hp
        have e1 := map_get (f := pst) e0
        have oy := ok _ (List.getElem_mem hp)
        have fa := fun h => FND_at hi (b := x.b) e0 h
        generalize l[j] = y at *
        have next : ¬ (y.b = x.b ∧ x.p < y.bo.length) → ∀ (i : Nat) (z : Pst), i < j + 1 → l[i]? = some z → z.b = x.b → ¬ x.p < z.bo.length := by
          intro h i z hi' e hz
          by_cases ij : i = j
          · subst ij; rw [e0] at e; cases e; exact fun h' => h ⟨hz, h'⟩
          · exact no i z (by omega) e hz
        by_cases q1 : y.b = x.b
        rotate_left
        · simp (config := { maxSteps := 1000000 }) only [RUN, PATHS, BASE, FA, POL, start_tm, Heap.empty, reduceIte, Nat.reduceLT, Nat.reduceLeDiff, Nat.reduceEqDiff, Nat.reduceAdd, Nat.reduceSub, Nat.reduceMul, Nat.reduceBEq, Int.reduceLT, Int.reduceLE, Int.reduceEq, Int.reduceNeg, Int.reduceAdd, Int.reduceSub, Int.reduceMul, Bool.false_eq_true, Bool.not_true, Bool.not_false, decide_eq_true_eq, and_self, true_and, and_true, reduceCtorEq, ne_eq, not_false_eq_true, not_true_eq_false, decide_true, decide_false, or_false, false_or, NUM, h5, h1, h2, hb2, hd, hf, e1, List.length_map, Int.toNat_natCast, (show (j : Int) < l.length by omega), (show (0 : Int) ≤ j by omega), (i64_in (x := (j : Int) + 1) (by unfold I64; omega)), q1] at hW
          subst hW
          refine rd_next (j + 1) ?_ (show l.length - (j + 1) < l.length - j by omega)
          simp (config := { maxSteps := 1000000 }) only [RUN, PATHS, BASE, FA, POL, start_tm, Heap.empty, reduceIte, Nat.reduceLT, Nat.reduceLeDiff, Nat.reduceEqDiff, Nat.reduceAdd, Nat.reduceSub, Nat.reduceMul, Nat.reduceBEq, Int.reduceLT, Int.reduceLE, Int.reduceEq, Int.reduceNeg, Int.reduceAdd, Int.reduceSub, Int.reduceMul, Bool.false_eq_true, Bool.not_true, Bool.not_false, decide_eq_true_eq, and_self, true_and, and_true, reduceCtorEq, ne_eq, not_false_eq_true, not_true_eq_false, decide_true, decide_false, or_false, false_or, h1, h2, hb2, hd]
          exact ⟨by omega, next (fun h => q1 h.1), by simp⟩
        by_cases q2 : x.p < y.bo.length
        rotate_left
        · simp (config := { maxSteps := 1000000 }) only [RUN, PATHS, BASE, FA, POL, start_tm, Heap.empty, reduceIte, Nat.reduceLT, Nat.reduceLeDiff, Nat.reduceEqDiff, Nat.reduceAdd, Nat.reduceSub, Nat.reduceMul, Nat.reduceBEq, Int.reduceLT, Int.reduceLE, Int.reduceEq, Int.reduceNeg, Int.reduceAdd, Int.reduceSub, Int.reduceMul, Bool.false_eq_true, Bool.not_true, Bool.not_false, decide_eq_true_eq, and_self, true_and, and_true, reduceCtorEq, ne_eq, not_false_eq_true, not_true_eq_false, decide_true, decide_false, or_false, false_or, NUM, h5, h1, h2, hb2, hd, hf, e1, List.length_map, Int.toNat_natCast, (show (j : Int) < l.length by omega), (show (0 : Int) ≤ j by omega), (i64_in (x := (j : Int) + 1) (by unfold I64; omega)), q1, q2] at hW
          subst hW
          refine rd_next (j + 1) ?_ (show l.length - (j + 1) < l.length - j by omega)
          simp (config := { maxSteps := 1000000 }) only [RUN, PATHS, BASE, FA, POL, start_tm, Heap.empty, reduceIte, Nat.reduceLT, Nat.reduceLeDiff, Nat.reduceEqDiff, Nat.reduceAdd, Nat.reduceSub, Nat.reduceMul, Nat.reduceBEq, Int.reduceLT, Int.reduceLE, Int.reduceEq, Int.reduceNeg, Int.reduceAdd, Int.reduceSub, Int.reduceMul, Bool.false_eq_true, Bool.not_true, Bool.not_false, decide_eq_true_eq, and_self, true_and, and_true, reduceCtorEq, ne_eq, not_false_eq_true, not_true_eq_false, decide_true, decide_false, or_false, false_or, h1, h2, hb2, hd]
          exact ⟨by omega, next (fun h => q2 h.2), by simp⟩
        obtain ⟨r, n, er, en, or, on, ea, ei⟩ := AMT_in hx oy q2
        have cd := c_distance r n or on
        have fv : FORV x l = min x.d (x.r * DIST r n) := by unfold FORV; rw [fa q1]; exact ea
        have hxp := hx.2.1
        simp (config := { maxSteps := 1000000 }) only [RUN, PATHS, BASE, FA, POL, start_tm, Heap.empty, reduceIte, Nat.reduceLT, Nat.reduceLeDiff, Nat.reduceEqDiff, Nat.reduceAdd, Nat.reduceSub, Nat.reduceMul, Nat.reduceBEq, Int.reduceLT, Int.reduceLE, Int.reduceEq, Int.reduceNeg, Int.reduceAdd, Int.reduceSub, Int.reduceMul, Bool.false_eq_true, Bool.not_true, Bool.not_false, decide_eq_true_eq, and_self, true_and, and_true, reduceCtorEq, ne_eq, not_false_eq_true, not_true_eq_false, decide_true, decide_false, or_false, false_or, NUM, h5, h1, h2, hb2, hd, hf, e1, List.length_map, Int.toNat_natCast, (show (j : Int) < l.length by omega), (show (0 : Int) ≤ j by omega), q1, q2, hxp.1, map_get (f := rg) er, map_get (f := I) en, cd, i64_in ei, (show x.p < y.se.length by have := oy.2.2.1; omega)] at hW
        subst hW
        refine rd_ret ⟨.inr ⟨rfl, ?_⟩, by simp (config := { maxSteps := 1000000 }) only [RUN, PATHS, BASE, FA, POL, start_tm, Heap.empty, reduceIte, Nat.reduceLT, Nat.reduceLeDiff, Nat.reduceEqDiff, Nat.reduceAdd, Nat.reduceSub, Nat.reduceMul, Nat.reduceBEq, Int.reduceLT, Int.reduceLE, Int.reduceEq, Int.reduceNeg, Int.reduceAdd, Int.reduceSub, Int.reduceMul, Bool.false_eq_true, Bool.not_true, Bool.not_false, decide_eq_true_eq, and_self, true_and, and_true, reduceCtorEq, ne_eq, not_false_eq_true, not_true_eq_false, decide_true, decide_false, or_false, false_or, hd]⟩
        rw [fv]; simp (config := { maxSteps := 1000000 }) only [RUN, PATHS, BASE, FA, POL, start_tm, Heap.empty, reduceIte, Nat.reduceLT, Nat.reduceLeDiff, Nat.reduceEqDiff, Nat.reduceAdd, Nat.reduceSub, Nat.reduceMul, Nat.reduceBEq, Int.reduceLT, Int.reduceLE, Int.reduceEq, Int.reduceNeg, Int.reduceAdd, Int.reduceSub, Int.reduceMul, Bool.false_eq_true, Bool.not_true, Bool.not_false, decide_eq_true_eq, and_self, true_and, and_true, reduceCtorEq, ne_eq, not_false_eq_true, not_true_eq_false, decide_true, decide_false, or_false, false_or]
      · simp (config := { maxSteps := 1000000 }) only [RUN, PATHS, BASE, FA, POL, start_tm, Heap.empty, reduceIte, Nat.reduceLT, Nat.reduceLeDiff, Nat.reduceEqDiff, Nat.reduceAdd, Nat.reduceSub, Nat.reduceMul, Nat.reduceBEq, Int.reduceLT, Int.reduceLE, Int.reduceEq, Int.reduceNeg, Int.reduceAdd, Int.reduceSub, Int.reduceMul, Bool.false_eq_true, Bool.not_true, Bool.not_false, decide_eq_true_eq, and_self, true_and, and_true, reduceCtorEq, ne_eq, not_false_eq_true, not_true_eq_false, decide_true, decide_false, or_false, false_or, h5, h1, hd, hf, List.length_map, (show ¬ (j : Int) < l.length by omega)] at hW
        subst hW
        refine rd_exit ⟨.inl ⟨rfl, ?_⟩, by simp (config := { maxSteps := 1000000 }) only [RUN, PATHS, BASE, FA, POL, start_tm, Heap.empty, reduceIte, Nat.reduceLT, Nat.reduceLeDiff, Nat.reduceEqDiff, Nat.reduceAdd, Nat.reduceSub, Nat.reduceMul, Nat.reduceBEq, Int.reduceLT, Int.reduceLE, Int.reduceEq, Int.reduceNeg, Int.reduceAdd, Int.reduceSub, Int.reduceMul, Bool.false_eq_true, Bool.not_true, Bool.not_false, decide_eq_true_eq, and_self, true_and, and_true, reduceCtorEq, ne_eq, not_false_eq_true, not_true_eq_false, decide_true, decide_false, or_false, false_or, hd]⟩
        unfold FORV
        cases hfd : FND x.b l with
        | none => rfl
        | some y =>
          have hy := List.mem_of_find?_eq_some hfd
          have hy' := List.find?_some hfd
          simp only [decide_eq_true_eq] at hy'
          obtain ⟨i, ei⟩ := List.mem_iff_getElem?.1 hy
          have hil : i < l.length := by
            rcases Nat.lt_or_ge i l.length with h | h
            · exact h
            · rw [List.getElem?_eq_none h] at ei; cases ei
          show AMT x y = 0
          unfold AMT
          rw [if_neg (no i y (by omega) ei hy')])
  rcases hex with ⟨rfl, hg⟩ | ⟨rfl, h4⟩
  · simp (config := { maxSteps := 1000000 }) only [RUN, PATHS, BASE, FA, POL, start_tm, Heap.empty, reduceIte, Nat.reduceLT, Nat.reduceLeDiff, Nat.reduceEqDiff, Nat.reduceAdd, Nat.reduceSub, Nat.reduceMul, Nat.reduceBEq, Int.reduceLT, Int.reduceLE, Int.reduceEq, Int.reduceNeg, Int.reduceAdd, Int.reduceSub, Int.reduceMul, Bool.false_eq_true, Bool.not_true, Bool.not_false, decide_eq_true_eq, and_self, true_and, and_true, reduceCtorEq, ne_eq, not_false_eq_true, not_true_eq_false, decide_true, decide_false, or_false, false_or, hd, hg]
  · simp (config := { maxSteps := 1000000 }) only [RUN, PATHS, BASE, FA, POL, start_tm, Heap.empty, reduceIte, Nat.reduceLT, Nat.reduceLeDiff, Nat.reduceEqDiff, Nat.reduceAdd, Nat.reduceSub, Nat.reduceMul, Nat.reduceBEq, Int.reduceLT, Int.reduceLE, Int.reduceEq, Int.reduceNeg, Int.reduceAdd, Int.reduceSub, Int.reduceMul, Bool.false_eq_true, Bool.not_true, Bool.not_false, decide_eq_true_eq, and_self, true_and, and_true, reduceCtorEq, ne_eq, not_false_eq_true, not_true_eq_false, decide_true, decide_false, or_false, false_or, hd, h4]
theorem CHK_0 {l : List Stk} {ps : List Pst} (h : CHK l ps = 0) : (l.length ≤ 256 ∧ GOOD l) ∧ (ps.length ≤ 256 ∧ ∀ x ∈ ps, OKP x) ∧ INC ps := by
  unfold CHK at h
  split at h
  · next h1 =>
    split at h
    · next h2 =>
      split at h
      · next h3 =>
        refine ⟨?_, CKP_0.1 h2, h3⟩
        unfold CKS at h1
        split at h1
        · omega
        · split at h1
          · next a b => exact ⟨by omega, b⟩
          · omega
      · omega
    · next h2 => exact absurd h h2
  · next h1 => exact absurd h h1
theorem GOOD_in {l : List Stk} (h : GOOD l) {i : Nat} {x : Stk} (e : l[i]? = some x) : OKS x := by
  refine (h i ?_ x e).1
  rcases Nat.lt_or_ge i l.length with h | h
  · exact h
  · rw [List.getElem?_eq_none h] at e; cases e
/-- What Forfeit answers. -/
noncomputable def FOR (l : List Stk) (ps : List Pst) (i : Int) : Int × Int := if CHK l ps = 0 then (if 0 ≤ i ∧ i < l.length then (FORV (l.getD i.toNat ⟨0, 0, 0, 0⟩) ps, 0) else (0, 1)) else (0, CHK l ps)
theorem c_refForfeit (l : List Stk) (ps : List Pst) (c c' : Option Nat) (i : Int) : ap Try.prog pol 13 [.vs 4 (l.map stk) c, .vs 3 (ps.map pst) c', I i] = some (.ret (.tup [I (FOR l ps i).1, I (FOR l ps i).2])) := by
  have ck := c_refchk l ps c c'
  rw [ap_eq _ Try.func13 rfl Try.ntmps13 Try.results13 (by kernel_rfl) rfl (by exact Nat.le_of_ble_eq_true rfl)]
  by_cases h : CHK l ps = 0
  rotate_left
  · have fo : FOR l ps i = (0, CHK l ps) := by unfold FOR; rw [if_neg h]
    rw [fo]
    simp (config := { maxSteps := 1000000 }) only [RUN, PATHS, BASE, FA, POL, start_tm, Heap.empty, reduceIte, Nat.reduceLT, Nat.reduceLeDiff, Nat.reduceEqDiff, Nat.reduceAdd, Nat.reduceSub, Nat.reduceMul, Nat.reduceBEq, Int.reduceLT, Int.reduceLE, Int.reduceEq, Int.reduceNeg, Int.reduceAdd, Int.reduceSub, Int.reduceMul, Bool.false_eq_true, Bool.not_true, Bool.not_false, decide_eq_true_eq, and_self, true_and, and_true, reduceCtorEq, ne_eq, not_false_eq_true, not_true_eq_false, decide_true, decide_false, or_false, false_or, NUM, SST, SPS, ck, h]
  obtain ⟨⟨hl, hg⟩, ⟨hp, ok⟩, hi⟩ := CHK_0 h
  by_cases h1 : i < 0
  · have fo : FOR l ps i = (0, 1) := by unfold FOR; rw [if_pos h, if_neg (by omega)]
    rw [fo]
    simp (config := { maxSteps := 1000000 }) only [RUN, PATHS, BASE, FA, POL, start_tm, Heap.empty, reduceIte, Nat.reduceLT, Nat.reduceLeDiff, Nat.reduceEqDiff, Nat.reduceAdd, Nat.reduceSub, Nat.reduceMul, Nat.reduceBEq, Int.reduceLT, Int.reduceLE, Int.reduceEq, Int.reduceNeg, Int.reduceAdd, Int.reduceSub, Int.reduceMul, Bool.false_eq_true, Bool.not_true, Bool.not_false, decide_eq_true_eq, and_self, true_and, and_true, reduceCtorEq, ne_eq, not_false_eq_true, not_true_eq_false, decide_true, decide_false, or_false, false_or, NUM, SST, SPS, ck, h, h1]
  by_cases h2 : i < l.length
  rotate_left
  · have fo : FOR l ps i = (0, 1) := by unfold FOR; rw [if_pos h, if_neg (by omega)]
    rw [fo]
    simp (config := { maxSteps := 1000000 }) only [RUN, PATHS, BASE, FA, POL, start_tm, Heap.empty, reduceIte, Nat.reduceLT, Nat.reduceLeDiff, Nat.reduceEqDiff, Nat.reduceAdd, Nat.reduceSub, Nat.reduceMul, Nat.reduceBEq, Int.reduceLT, Int.reduceLE, Int.reduceEq, Int.reduceNeg, Int.reduceAdd, Int.reduceSub, Int.reduceMul, Bool.false_eq_true, Bool.not_true, Bool.not_false, decide_eq_true_eq, and_self, true_and, and_true, reduceCtorEq, ne_eq, not_false_eq_true, not_true_eq_false, decide_true, decide_false, or_false, false_or, NUM, SST, SPS, ck, h, h1, List.length_map, (show (l.length : Int) ≤ i by omega)]
  have e0 : l[i.toNat]? = some (l[i.toNat]'(by omega)) := List.getElem?_eq_getElem _
  have ed : l.getD i.toNat ⟨0, 0, 0, 0⟩ = (l[i.toNat]'(by omega)) := by rw [List.getD_eq_getElem?_getD, e0]; rfl
  have e1 := map_get (f := stk) e0
  have ox := GOOD_in hg e0
  have fo : FOR l ps i = (FORV (l[i.toNat]'(by omega)) ps, 0) := by unfold FOR; rw [if_pos h, if_pos (by omega), ed]
  rw [fo]
  generalize (l[i.toNat]'(by omega)) = x at *
  have cf := c_refforfeit x ox ps c' hi ok hp
  simp (config := { maxSteps := 1000000 }) only [RUN, PATHS, BASE, FA, POL, start_tm, Heap.empty, reduceIte, Nat.reduceLT, Nat.reduceLeDiff, Nat.reduceEqDiff, Nat.reduceAdd, Nat.reduceSub, Nat.reduceMul, Nat.reduceBEq, Int.reduceLT, Int.reduceLE, Int.reduceEq, Int.reduceNeg, Int.reduceAdd, Int.reduceSub, Int.reduceMul, Bool.false_eq_true, Bool.not_true, Bool.not_false, decide_eq_true_eq, and_self, true_and, and_true, reduceCtorEq, ne_eq, not_false_eq_true, not_true_eq_false, decide_true, decide_false, or_false, false_or, NUM, SST, SPS, ck, h, h1, List.length_map, (show ¬ (l.length : Int) ≤ i by omega), h2, (show 0 ≤ i by omega), e1, cf]
theorem c_forfeit (l : List Stk) (ps : List Pst) (c c' : Option Nat) (i : Int) : ap Try.prog pol 12 [.vs 4 (l.map stk) c, .vs 3 (ps.map pst) c', I i] = some (.ret (.tup [I (FOR l ps i).1, I (FOR l ps i).2])) := by
  have ck := c_chk l ps c c'
  have cf := c_forfeits l ps c c'
  rw [ap_eq _ Try.func12 rfl Try.ntmps12 Try.results12 (by kernel_rfl) rfl (by exact Nat.le_of_ble_eq_true rfl)]
  by_cases h : CHK l ps = 0
  rotate_left
  · have fo : FOR l ps i = (0, CHK l ps) := by unfold FOR; rw [if_neg h]
    rw [fo]
    simp (config := { maxSteps := 1000000 }) only [RUN, PATHS, BASE, FA, POL, start_tm, Heap.empty, reduceIte, Nat.reduceLT, Nat.reduceLeDiff, Nat.reduceEqDiff, Nat.reduceAdd, Nat.reduceSub, Nat.reduceMul, Nat.reduceBEq, Int.reduceLT, Int.reduceLE, Int.reduceEq, Int.reduceNeg, Int.reduceAdd, Int.reduceSub, Int.reduceMul, Bool.false_eq_true, Bool.not_true, Bool.not_false, decide_eq_true_eq, and_self, true_and, and_true, reduceCtorEq, ne_eq, not_false_eq_true, not_true_eq_false, decide_true, decide_false, or_false, false_or, NUM, SST, SPS, ck, h]
  obtain ⟨⟨hl, hg⟩, ⟨hp, ok⟩, hi⟩ := CHK_0 h
  have ci := c_in i ((l.length : Int) - 1)
  by_cases h1 : 0 ≤ i ∧ i < l.length
  rotate_left
  · have fo : FOR l ps i = (0, 1) := by unfold FOR; rw [if_pos h, if_neg h1]
    rw [fo]
    rw [decide_eq_false (show ¬ (0 ≤ i ∧ i ≤ (l.length : Int) - 1) by omega)] at ci
    simp (config := { maxSteps := 1000000 }) only [RUN, PATHS, BASE, FA, POL, start_tm, Heap.empty, reduceIte, Nat.reduceLT, Nat.reduceLeDiff, Nat.reduceEqDiff, Nat.reduceAdd, Nat.reduceSub, Nat.reduceMul, Nat.reduceBEq, Int.reduceLT, Int.reduceLE, Int.reduceEq, Int.reduceNeg, Int.reduceAdd, Int.reduceSub, Int.reduceMul, Bool.false_eq_true, Bool.not_true, Bool.not_false, decide_eq_true_eq, and_self, true_and, and_true, reduceCtorEq, ne_eq, not_false_eq_true, not_true_eq_false, decide_true, decide_false, or_false, false_or, NUM, SST, SPS, ck, h, List.length_map, ci, i64_in (x := (l.length : Int) - 1) (by unfold I64; omega)]
  have e0 : l[i.toNat]? = some (l[i.toNat]'(by omega)) := List.getElem?_eq_getElem _
  have ed : l.getD i.toNat ⟨0, 0, 0, 0⟩ = (l[i.toNat]'(by omega)) := by rw [List.getD_eq_getElem?_getD, e0]; rfl
  have fo : FOR l ps i = (FORV (l[i.toNat]'(by omega)) ps, 0) := by unfold FOR; rw [if_pos h, if_pos h1, ed]
  rw [fo]
  have e00 := e0
  generalize (l[i.toNat]'(by omega)) = x0 at *
  have hp' := hp
  rw [decide_eq_true (show (0 ≤ i ∧ i ≤ (l.length : Int) - 1) by omega)] at ci
  simp (config := { maxSteps := 1000000 }) only [RUN, PATHS, BASE, FA, POL, start_tm, Heap.empty, reduceIte, Nat.reduceLT, Nat.reduceLeDiff, Nat.reduceEqDiff, Nat.reduceAdd, Nat.reduceSub, Nat.reduceMul, Nat.reduceBEq, Int.reduceLT, Int.reduceLE, Int.reduceEq, Int.reduceNeg, Int.reduceAdd, Int.reduceSub, Int.reduceMul, Bool.false_eq_true, Bool.not_true, Bool.not_false, decide_eq_true_eq, and_self, true_and, and_true, reduceCtorEq, ne_eq, not_false_eq_true, not_true_eq_false, decide_true, decide_false, or_false, false_or, NUM, SST, SPS, ck, cf, h, List.length_map, ci, i64_in (x := (l.length : Int) - 1) (by unfold I64; omega)]
  rw [callF_eq _ _ Try.func46 rfl Try.ntmps46 Try.results46 (by kernel_rfl) rfl (by exact Nat.le_of_ble_eq_true rfl)]
  simp (config := { maxSteps := 1000000 }) only [RUN, PATHS, BASE, FA, POL, start_tm, Heap.empty, reduceIte, Nat.reduceLT, Nat.reduceLeDiff, Nat.reduceEqDiff, Nat.reduceAdd, Nat.reduceSub, Nat.reduceMul, Nat.reduceBEq, Int.reduceLT, Int.reduceLE, Int.reduceEq, Int.reduceNeg, Int.reduceAdd, Int.reduceSub, Int.reduceMul, Bool.false_eq_true, Bool.not_true, Bool.not_false, decide_eq_true_eq, and_self, true_and, and_true, reduceCtorEq, ne_eq, not_false_eq_true, not_true_eq_false, decide_true, decide_false, or_false, false_or, NUM, SST, SPS, List.length_map]
  generalize hL : W _ (.loop _) _ = L
  obtain ⟨ex, s, rfl, rfl, r1, r2, r3, r4, hd, hf, hx⟩ := loop_at hL (α := Nat) (fun j => l.length - j)
    (fun s0 j s => j ≤ l.length ∧ s.tmps 13 = I j ∧ s.tmps 12 = I l.length ∧ s.tmps 11 = .vs 4 (l.map stk) c ∧ s.tmps 2 = .rop [.vs 3 (ps.map pst) c'] ∧ s.tmps 0 = .yield 4 ∧ s.H.rows 1 = some (.gro 1 [I i] 0) ∧ s.H.rows 2 = some (.gro 1 [I (if i < j then FORV x0 ps else 0)] 0) ∧ s.H.rows 3 = s0.H.rows 3 ∧ s.H.rows 4 = s0.H.rows 4 ∧ s.defers = [] ∧ s.fid = 5 ∧ 5 < s.H.next)
    (fun s0 ex s => ex = .exit 0 ∧ s.H.rows 1 = some (.gro 1 [I i] 0) ∧ s.H.rows 2 = some (.gro 1 [I (FORV x0 ps)] 0) ∧ s.H.rows 3 = s0.H.rows 3 ∧ s.H.rows 4 = s0.H.rows 4 ∧ s.defers = [] ∧ s.fid = 5 ∧ 5 < s.H.next) 0
    (by simp (config := { maxSteps := 1000000 }) only [RUN, PATHS, BASE, FA, POL, start_tm, Heap.empty, reduceIte, Nat.reduceLT, Nat.reduceLeDiff, Nat.reduceEqDiff, Nat.reduceAdd, Nat.reduceSub, Nat.reduceMul, Nat.reduceBEq, Int.reduceLT, Int.reduceLE, Int.reduceEq, Int.reduceNeg, Int.reduceAdd, Int.reduceSub, Int.reduceMul, Bool.false_eq_true, Bool.not_true, Bool.not_false, decide_eq_true_eq, and_self, true_and, and_true, reduceCtorEq, ne_eq, not_false_eq_true, not_true_eq_false, decide_true, decide_false, or_false, false_or]; exact ⟨Nat.zero_le _, by simp, by rw [if_neg (by omega)]⟩) (by
      rintro j s r0 hW ⟨hj, h13, h12, h11, h2, h0, r1, r2, r3, r4, hd, hf, hx⟩
      simp (config := { maxSteps := 1000000 }) only [RUN, PATHS, BASE, FA, POL, start_tm, Heap.empty, reduceIte, Nat.reduceLT, Nat.reduceLeDiff, Nat.reduceEqDiff, Nat.reduceAdd, Nat.reduceSub, Nat.reduceMul, Nat.reduceBEq, Int.reduceLT, Int.reduceLE, Int.reduceEq, Int.reduceNeg, Int.reduceAdd, Int.reduceSub, Int.reduceMul, Bool.false_eq_true, Bool.not_true, Bool.not_false, decide_eq_true_eq, and_self, true_and, and_true, reduceCtorEq, ne_eq, not_false_eq_true, not_true_eq_false, decide_true, decide_false, or_false, false_or] at r3
      simp (config := { maxSteps := 1000000 }) only [RUN, PATHS, BASE, FA, POL, start_tm, Heap.empty, reduceIte, Nat.reduceLT, Nat.reduceLeDiff, Nat.reduceEqDiff, Nat.reduceAdd, Nat.reduceSub, Nat.reduceMul, Nat.reduceBEq, Int.reduceLT, Int.reduceLE, Int.reduceEq, Int.reduceNeg, Int.reduceAdd, Int.reduceSub, Int.reduceMul, Bool.false_eq_true, Bool.not_true, Bool.not_false, decide_eq_true_eq, and_self, true_and, and_true, reduceCtorEq, ne_eq, not_false_eq_true, not_true_eq_false, decide_true, decide_false, or_false, false_or] at r4
      by_cases hp : j < l.length
      · have e0 : l[j]? = some l[j] := List.getElem?_eq_getElem hp
        have e1 := map_get (f := stk) e0
        have ex0 : (j : Int) = i → l[j] = x0 := by
          intro e
          have : i.toNat = j := by omega
          rw [this, e0] at e00
          exact Option.some.inj e00
        have ox := GOOD_in hg e0
        have hxb := ox.1
        have hxp := ox.2.1
        generalize l[j] = x at *
        obtain ⟨k, t, cb, ht, hno⟩ := c_bsearch ps c' hi ok hp' x.b hxb
        have w1 : ∀ z : Int, ((j : Int) = i → z = FORV x ps) → ((j : Int) ≠ i → z = if i < (j : Int) then FORV x0 ps else 0) → z = if i < ((j + 1 : Nat) : Int) then FORV x0 ps else 0 := by
          intro z z1 z2
          by_cases e : (j : Int) = i
          · rw [if_pos (by omega), z1 e, ex0 e]
          · rw [z2 e]
            by_cases g : i < (j : Int)
            · rw [if_pos g, if_pos (by omega)]
            · rw [if_neg g, if_neg (by omega)]
        cases t with
        | false =>
          have fv : FORV x ps = 0 := by unfold FORV; rw [hno rfl]
          by_cases ij : (j : Int) = i
          · subst ij
            simp (config := { maxSteps := 1000000 }) only [RUN, PATHS, BASE, FA, POL, start_tm, Heap.empty, reduceIte, Nat.reduceLT, Nat.reduceLeDiff, Nat.reduceEqDiff, Nat.reduceAdd, Nat.reduceSub, Nat.reduceMul, Nat.reduceBEq, Int.reduceLT, Int.reduceLE, Int.reduceEq, Int.reduceNeg, Int.reduceAdd, Int.reduceSub, Int.reduceMul, Bool.false_eq_true, Bool.not_true, Bool.not_false, decide_eq_true_eq, and_self, true_and, and_true, reduceCtorEq, ne_eq, not_false_eq_true, not_true_eq_false, decide_true, decide_false, or_false, false_or, NUM, SST, SPS, SRG, SIN, Try.func12, h13, h12, h11, h2, h0, r1, r2, r3, r4, hd, hf, e1, cb, List.length_map, Int.toNat_natCast, (show (j : Int) < l.length by omega), (show (0 : Int) ≤ j by omega), (i64_in (x := (j : Int) + 1) (by unfold I64; omega))] at hW
            subst hW
            refine rd_next (j + 1) ?_ (show l.length - (j + 1) < l.length - j by omega)
            simp (config := { maxSteps := 1000000 }) only [RUN, PATHS, BASE, FA, POL, start_tm, Heap.empty, reduceIte, Nat.reduceLT, Nat.reduceLeDiff, Nat.reduceEqDiff, Nat.reduceAdd, Nat.reduceSub, Nat.reduceMul, Nat.reduceBEq, Int.reduceLT, Int.reduceLE, Int.reduceEq, Int.reduceNeg, Int.reduceAdd, Int.reduceSub, Int.reduceMul, Bool.false_eq_true, Bool.not_true, Bool.not_false, decide_eq_true_eq, and_self, true_and, and_true, reduceCtorEq, ne_eq, not_false_eq_true, not_true_eq_false, decide_true, decide_false, or_false, false_or, h12, h11, h2, h0, r1, r2, r3, r4, hx]
            exact ⟨by omega, by simp, by rw [← w1 _ (fun _ => fv.symm) (fun e => absurd rfl e)], by omega⟩
          · simp (config := { maxSteps := 1000000 }) only [RUN, PATHS, BASE, FA, POL, start_tm, Heap.empty, reduceIte, Nat.reduceLT, Nat.reduceLeDiff, Nat.reduceEqDiff, Nat.reduceAdd, Nat.reduceSub, Nat.reduceMul, Nat.reduceBEq, Int.reduceLT, Int.reduceLE, Int.reduceEq, Int.reduceNeg, Int.reduceAdd, Int.reduceSub, Int.reduceMul, Bool.false_eq_true, Bool.not_true, Bool.not_false, decide_eq_true_eq, and_self, true_and, and_true, reduceCtorEq, ne_eq, not_false_eq_true, not_true_eq_false, decide_true, decide_false, or_false, false_or, NUM, SST, SPS, SRG, SIN, Try.func12, h13, h12, h11, h2, h0, r1, r2, r3, r4, hd, hf, e1, cb, List.length_map, Int.toNat_natCast, (show (j : Int) < l.length by omega), (show (0 : Int) ≤ j by omega), (i64_in (x := (j : Int) + 1) (by unfold I64; omega)), ij] at hW
            subst hW
            refine rd_next (j + 1) ?_ (show l.length - (j + 1) < l.length - j by omega)
            simp (config := { maxSteps := 1000000 }) only [RUN, PATHS, BASE, FA, POL, start_tm, Heap.empty, reduceIte, Nat.reduceLT, Nat.reduceLeDiff, Nat.reduceEqDiff, Nat.reduceAdd, Nat.reduceSub, Nat.reduceMul, Nat.reduceBEq, Int.reduceLT, Int.reduceLE, Int.reduceEq, Int.reduceNeg, Int.reduceAdd, Int.reduceSub, Int.reduceMul, Bool.false_eq_true, Bool.not_true, Bool.not_false, decide_eq_true_eq, and_self, true_and, and_true, reduceCtorEq, ne_eq, not_false_eq_true, not_true_eq_false, decide_true, decide_false, or_false, false_or, h12, h11, h2, h0, r1, r2, r3, r4, hx]
            exact ⟨by omega, by simp, by rw [← w1 _ (fun e => absurd e ij) (fun _ => rfl)], by omega⟩
        | true =>
          obtain ⟨y, ey, hb⟩ := ht rfl
          have ey1 := map_get (f := pst) ey
          have oy := ok _ (List.mem_of_getElem? ey)
          have fa := FND_at hi (b := x.b) ey hb
          have hk : k < ps.length := by
            rcases Nat.lt_or_ge k ps.length with h | h
            · exact h
            · rw [List.getElem?_eq_none h] at ey; cases ey
          by_cases q2 : x.p < y.bo.length
          rotate_left
          · have fv : FORV x ps = 0 := by unfold FORV; rw [fa]; show AMT x y = 0; unfold AMT; rw [if_neg q2]
            by_cases ij : (j : Int) = i
            · subst ij
              simp (config := { maxSteps := 1000000 }) only [RUN, PATHS, BASE, FA, POL, start_tm, Heap.empty, reduceIte, Nat.reduceLT, Nat.reduceLeDiff, Nat.reduceEqDiff, Nat.reduceAdd, Nat.reduceSub, Nat.reduceMul, Nat.reduceBEq, Int.reduceLT, Int.reduceLE, Int.reduceEq, Int.reduceNeg, Int.reduceAdd, Int.reduceSub, Int.reduceMul, Bool.false_eq_true, Bool.not_true, Bool.not_false, decide_eq_true_eq, and_self, true_and, and_true, reduceCtorEq, ne_eq, not_false_eq_true, not_true_eq_false, decide_true, decide_false, or_false, false_or, NUM, SST, SPS, SRG, SIN, Try.func12, h13, h12, h11, h2, h0, r1, r2, r3, r4, hd, hf, e1, cb, List.length_map, Int.toNat_natCast, (show (j : Int) < l.length by omega), (show (0 : Int) ≤ j by omega), (i64_in (x := (j : Int) + 1) (by unfold I64; omega)), ey1, (show (0 : Int) ≤ k by omega), (show (k : Int) < ps.length by omega), q2] at hW
              subst hW
              refine rd_next (j + 1) ?_ (show l.length - (j + 1) < l.length - j by omega)
              simp (config := { maxSteps := 1000000 }) only [RUN, PATHS, BASE, FA, POL, start_tm, Heap.empty, reduceIte, Nat.reduceLT, Nat.reduceLeDiff, Nat.reduceEqDiff, Nat.reduceAdd, Nat.reduceSub, Nat.reduceMul, Nat.reduceBEq, Int.reduceLT, Int.reduceLE, Int.reduceEq, Int.reduceNeg, Int.reduceAdd, Int.reduceSub, Int.reduceMul, Bool.false_eq_true, Bool.not_true, Bool.not_false, decide_eq_true_eq, and_self, true_and, and_true, reduceCtorEq, ne_eq, not_false_eq_true, not_true_eq_false, decide_true, decide_false, or_false, false_or, h12, h11, h2, h0, r1, r2, r3, r4, hx]
              exact ⟨by omega, by simp, by rw [← w1 _ (fun _ => fv.symm) (fun e => absurd rfl e)], by omega⟩
            · simp (config := { maxSteps := 1000000 }) only [RUN, PATHS, BASE, FA, POL, start_tm, Heap.empty, reduceIte, Nat.reduceLT, Nat.reduceLeDiff, Nat.reduceEqDiff, Nat.reduceAdd, Nat.reduceSub, Nat.reduceMul, Nat.reduceBEq, Int.reduceLT, Int.reduceLE, Int.reduceEq, Int.reduceNeg, Int.reduceAdd, Int.reduceSub, Int.reduceMul, Bool.false_eq_true, Bool.not_true, Bool.not_false, decide_eq_true_eq, and_self, true_and, and_true, reduceCtorEq, ne_eq, not_false_eq_true, not_true_eq_false, decide_true, decide_false, or_false, false_or, NUM, SST, SPS, SRG, SIN, Try.func12, h13, h12, h11, h2, h0, r1, r2, r3, r4, hd, hf, e1, cb, List.length_map, Int.toNat_natCast, (show (j : Int) < l.length by omega), (show (0 : Int) ≤ j by omega), (i64_in (x := (j : Int) + 1) (by unfold I64; omega)), ey1, (show (0 : Int) ≤ k by omega), (show (k : Int) < ps.length by omega), q2, ij] at hW
              subst hW
              refine rd_next (j + 1) ?_ (show l.length - (j + 1) < l.length - j by omega)
              simp (config := { maxSteps := 1000000 }) only [RUN, PATHS, BASE, FA, POL, start_tm, Heap.empty, reduceIte, Nat.reduceLT, Nat.reduceLeDiff, Nat.reduceEqDiff, Nat.reduceAdd, Nat.reduceSub, Nat.reduceMul, Nat.reduceBEq, Int.reduceLT, Int.reduceLE, Int.reduceEq, Int.reduceNeg, Int.reduceAdd, Int.reduceSub, Int.reduceMul, Bool.false_eq_true, Bool.not_true, Bool.not_false, decide_eq_true_eq, and_self, true_and, and_true, reduceCtorEq, ne_eq, not_false_eq_true, not_true_eq_false, decide_true, decide_false, or_false, false_or, h12, h11, h2, h0, r1, r2, r3, r4, hx]
              exact ⟨by omega, by simp, by rw [← w1 _ (fun e => absurd e ij) (fun _ => rfl)], by omega⟩
          · obtain ⟨r, n, er, en, or, on, ea, ei⟩ := AMT_in ox oy q2
            have fv : FORV x ps = min x.d (x.r * DIST r n) := by unfold FORV; rw [fa]; exact ea
            have cl := c_least x.d (x.r * DIST r n)
            have db : max (max (r.lo - n) (n - r.hi)) 0 = DIST r n := rfl
            unfold OKR at or
            unfold OKI at on
            by_cases ij : (j : Int) = i
            · subst ij
              simp (config := { maxSteps := 1000000 }) only [RUN, PATHS, BASE, FA, POL, start_tm, Heap.empty, reduceIte, Nat.reduceLT, Nat.reduceLeDiff, Nat.reduceEqDiff, Nat.reduceAdd, Nat.reduceSub, Nat.reduceMul, Nat.reduceBEq, Int.reduceLT, Int.reduceLE, Int.reduceEq, Int.reduceNeg, Int.reduceAdd, Int.reduceSub, Int.reduceMul, Bool.false_eq_true, Bool.not_true, Bool.not_false, decide_eq_true_eq, and_self, true_and, and_true, reduceCtorEq, ne_eq, not_false_eq_true, not_true_eq_false, decide_true, decide_false, or_false, false_or, NUM, SST, SPS, SRG, SIN, Try.func12, h13, h12, h11, h2, h0, r1, r2, r3, r4, hd, hf, e1, cb, List.length_map, Int.toNat_natCast, (show (j : Int) < l.length by omega), (show (0 : Int) ≤ j by omega), (i64_in (x := (j : Int) + 1) (by unfold I64; omega)), ey1, (show (0 : Int) ≤ k by omega), (show (k : Int) < ps.length by omega), q2, hxp.1, map_get (f := rg) er, map_get (f := I) en, (show x.p < y.se.length by have := oy.2.2.1; omega), i64_in (x := r.lo - n) (by unfold I64; omega), i64_in (x := n - r.hi) (by unfold I64; omega), db, i64_in ei, cl] at hW
              subst hW
              refine rd_next (j + 1) ?_ (show l.length - (j + 1) < l.length - j by omega)
              simp (config := { maxSteps := 1000000 }) only [RUN, PATHS, BASE, FA, POL, start_tm, Heap.empty, reduceIte, Nat.reduceLT, Nat.reduceLeDiff, Nat.reduceEqDiff, Nat.reduceAdd, Nat.reduceSub, Nat.reduceMul, Nat.reduceBEq, Int.reduceLT, Int.reduceLE, Int.reduceEq, Int.reduceNeg, Int.reduceAdd, Int.reduceSub, Int.reduceMul, Bool.false_eq_true, Bool.not_true, Bool.not_false, decide_eq_true_eq, and_self, true_and, and_true, reduceCtorEq, ne_eq, not_false_eq_true, not_true_eq_false, decide_true, decide_false, or_false, false_or, h12, h11, h2, h0, r1, r2, r3, r4, hx]
              exact ⟨by omega, by simp, by rw [← w1 _ (fun _ => fv.symm) (fun e => absurd rfl e)], by omega⟩
            · simp (config := { maxSteps := 1000000 }) only [RUN, PATHS, BASE, FA, POL, start_tm, Heap.empty, reduceIte, Nat.reduceLT, Nat.reduceLeDiff, Nat.reduceEqDiff, Nat.reduceAdd, Nat.reduceSub, Nat.reduceMul, Nat.reduceBEq, Int.reduceLT, Int.reduceLE, Int.reduceEq, Int.reduceNeg, Int.reduceAdd, Int.reduceSub, Int.reduceMul, Bool.false_eq_true, Bool.not_true, Bool.not_false, decide_eq_true_eq, and_self, true_and, and_true, reduceCtorEq, ne_eq, not_false_eq_true, not_true_eq_false, decide_true, decide_false, or_false, false_or, NUM, SST, SPS, SRG, SIN, Try.func12, h13, h12, h11, h2, h0, r1, r2, r3, r4, hd, hf, e1, cb, List.length_map, Int.toNat_natCast, (show (j : Int) < l.length by omega), (show (0 : Int) ≤ j by omega), (i64_in (x := (j : Int) + 1) (by unfold I64; omega)), ey1, (show (0 : Int) ≤ k by omega), (show (k : Int) < ps.length by omega), q2, hxp.1, map_get (f := rg) er, map_get (f := I) en, (show x.p < y.se.length by have := oy.2.2.1; omega), i64_in (x := r.lo - n) (by unfold I64; omega), i64_in (x := n - r.hi) (by unfold I64; omega), db, i64_in ei, cl, ij] at hW
              subst hW
              refine rd_next (j + 1) ?_ (show l.length - (j + 1) < l.length - j by omega)
              simp (config := { maxSteps := 1000000 }) only [RUN, PATHS, BASE, FA, POL, start_tm, Heap.empty, reduceIte, Nat.reduceLT, Nat.reduceLeDiff, Nat.reduceEqDiff, Nat.reduceAdd, Nat.reduceSub, Nat.reduceMul, Nat.reduceBEq, Int.reduceLT, Int.reduceLE, Int.reduceEq, Int.reduceNeg, Int.reduceAdd, Int.reduceSub, Int.reduceMul, Bool.false_eq_true, Bool.not_true, Bool.not_false, decide_eq_true_eq, and_self, true_and, and_true, reduceCtorEq, ne_eq, not_false_eq_true, not_true_eq_false, decide_true, decide_false, or_false, false_or, h12, h11, h2, h0, r1, r2, r3, r4, hx]
              exact ⟨by omega, by simp, by rw [← w1 _ (fun e => absurd e ij) (fun _ => rfl)], by omega⟩
      · simp (config := { maxSteps := 1000000 }) only [RUN, PATHS, BASE, FA, POL, start_tm, Heap.empty, reduceIte, Nat.reduceLT, Nat.reduceLeDiff, Nat.reduceEqDiff, Nat.reduceAdd, Nat.reduceSub, Nat.reduceMul, Nat.reduceBEq, Int.reduceLT, Int.reduceLE, Int.reduceEq, Int.reduceNeg, Int.reduceAdd, Int.reduceSub, Int.reduceMul, Bool.false_eq_true, Bool.not_true, Bool.not_false, decide_eq_true_eq, and_self, true_and, and_true, reduceCtorEq, ne_eq, not_false_eq_true, not_true_eq_false, decide_true, decide_false, or_false, false_or, List.length_map, h13, h12, h11, h0, r1, r2, r3, r4, hd, hf, (show ¬ (j : Int) < l.length by omega)] at hW
        subst hW
        have : j = l.length := by omega
        subst this
        rw [if_pos h1.2] at r2
        refine rd_exit ⟨rfl, ?_⟩
        simp (config := { maxSteps := 1000000 }) only [RUN, PATHS, BASE, FA, POL, start_tm, Heap.empty, reduceIte, Nat.reduceLT, Nat.reduceLeDiff, Nat.reduceEqDiff, Nat.reduceAdd, Nat.reduceSub, Nat.reduceMul, Nat.reduceBEq, Int.reduceLT, Int.reduceLE, Int.reduceEq, Int.reduceNeg, Int.reduceAdd, Int.reduceSub, Int.reduceMul, Bool.false_eq_true, Bool.not_true, Bool.not_false, decide_eq_true_eq, and_self, true_and, and_true, reduceCtorEq, ne_eq, not_false_eq_true, not_true_eq_false, decide_true, decide_false, or_false, false_or, r1, r2, r3, r4, hx])
  simp (config := { maxSteps := 1000000 }) only [RUN, PATHS, BASE, FA, POL, start_tm, Heap.empty, reduceIte, Nat.reduceLT, Nat.reduceLeDiff, Nat.reduceEqDiff, Nat.reduceAdd, Nat.reduceSub, Nat.reduceMul, Nat.reduceBEq, Int.reduceLT, Int.reduceLE, Int.reduceEq, Int.reduceNeg, Int.reduceAdd, Int.reduceSub, Int.reduceMul, Bool.false_eq_true, Bool.not_true, Bool.not_false, decide_eq_true_eq, and_self, true_and, and_true, reduceCtorEq, ne_eq, not_false_eq_true, not_true_eq_false, decide_true, decide_false, or_false, false_or] at r3
  simp (config := { maxSteps := 1000000 }) only [RUN, PATHS, BASE, FA, POL, start_tm, Heap.empty, reduceIte, Nat.reduceLT, Nat.reduceLeDiff, Nat.reduceEqDiff, Nat.reduceAdd, Nat.reduceSub, Nat.reduceMul, Nat.reduceBEq, Int.reduceLT, Int.reduceLE, Int.reduceEq, Int.reduceNeg, Int.reduceAdd, Int.reduceSub, Int.reduceMul, Bool.false_eq_true, Bool.not_true, Bool.not_false, decide_eq_true_eq, and_self, true_and, and_true, reduceCtorEq, ne_eq, not_false_eq_true, not_true_eq_false, decide_true, decide_false, or_false, false_or] at r4
  simp (config := { maxSteps := 1000000 }) only [RUN, PATHS, BASE, FA, POL, start_tm, Heap.empty, reduceIte, Nat.reduceLT, Nat.reduceLeDiff, Nat.reduceEqDiff, Nat.reduceAdd, Nat.reduceSub, Nat.reduceMul, Nat.reduceBEq, Int.reduceLT, Int.reduceLE, Int.reduceEq, Int.reduceNeg, Int.reduceAdd, Int.reduceSub, Int.reduceMul, Bool.false_eq_true, Bool.not_true, Bool.not_false, decide_eq_true_eq, and_self, true_and, and_true, reduceCtorEq, ne_eq, not_false_eq_true, not_true_eq_false, decide_true, decide_false, or_false, false_or, NUM, r1, r2, r3, r4, hd, hf]
end Go.Proofs.Ytnabgahkdomeoaa
