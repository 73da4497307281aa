/-
  Whoever performs in time keeps its claims and pays nothing: what the law computes.
-/
import Derived.Test.YtaggpjlkapnonaaC26
set_option linter.unusedSimpArgs false
set_option linter.unusedVariables false
set_option linter.unusedSectionVars false
namespace Go.Proofs.Ytaggpjlkapnonaa
open Go GoV
set_option maxRecDepth 100000

/-- The duty is another farm's, or performed in time. -/
def TIM (D : Dis) (l : List Don) (f kn : Int) (i : Nat) : Prop := ∀ x, D.ds[i]? = some x → x.fm = f → ∃ y ∈ l, y.du = i ∧ y.at_ ≤ x.due ∧ y.kn ≤ kn
theorem TIM_end {D : Dis} {l : List Don} {f kn : Int} {i : Nat} {x : Dty} (h : TIM D l f kn i) (e : D.ds[i]? = some x) (hf : x.fm = f) : ENDP D l kn i ≤ x.due := by
  obtain ⟨y, hy, h1, h2, h3⟩ := h x e hf
  unfold ENDP
  cases hq : PERF l kn (i : Int) with
  | none => exact absurd ⟨h3, h1⟩ (PERF_none hq y hy)
  | some a =>
    have := (PERF_some hq).2 y hy h3 h1
    simp only
    omega
theorem TIM_FH {D : Dis} {l : List Don} {f kn : Int} : ∀ n, (∀ i, i < n → TIM D l f kn i) → FH D l f kn n = 0
  | 0, _ => rfl
  | n + 1, h => by
    have ih := TIM_FH n fun i hi => h i (by omega)
    cases e : D.ds[n]? with
    | none =>
      show FH D l f kn n + _ = _
      rw [e, ih]; rfl
    | some x =>
      rw [FH_succ e, ih]
      split
      · next hf => have := TIM_end (h n (by omega)) e hf; omega
      · rfl
theorem TIM_free {D : Dis} {l : List Don} {f h kn : Int} (ht : ∀ i, i < D.ds.length → TIM D l f kn i) : FREE D l f h kn := by
  rintro i hi ⟨⟨x, e, h1, h2⟩, y, e', hf⟩
  rw [e] at e'
  cases e'
  have := TIM_end (ht i hi) e hf
  omega
/-- The flag of a duty, after some entries. -/
def TQ (l : List Don) (f kn : Int) (i : Nat) (x : Dty) (k : Nat) : Prop := x.fm ≠ f ∨ ∃ y ∈ l.take k, y.du = i ∧ y.at_ ≤ x.due ∧ y.kn ≤ kn
noncomputable instance (l : List Don) (f kn : Int) (i : Nat) (x : Dty) (k : Nat) : Decidable (TQ l f kn i x k) := Classical.propDecidable _
theorem TQ_succ {l : List Don} {f kn : Int} {i : Nat} {x : Dty} {k : Nat} {y : Don} (e : l[k]? = some y) : TQ l f kn i x (k + 1) ↔ TQ l f kn i x k ∨ (y.du = i ∧ y.at_ ≤ x.due ∧ y.kn ≤ kn) := by
  unfold TQ
  rw [List.take_add_one, e]
  simp only [Option.toList_some, List.mem_append, List.mem_singleton]
  constructor
  · rintro (h | ⟨z, hz | rfl, h⟩)
    · exact .inl (.inl h)
    · exact .inl (.inr ⟨z, hz, h⟩)
    · exact .inr h
  · rintro ((h | ⟨z, hz, h⟩) | h)
    · exact .inl h
    · exact .inr ⟨z, .inl hz, h⟩
    · exact .inr ⟨y, .inr rfl, h⟩
/-- A set of claims as a map. -/
def CSET (A : List Clm) (m : List (Clm × PV)) : Prop := ∀ k, aget m k = if k ∈ A then some (.bool true) else none
theorem CSET_set {A : List Clm} {m : List (Clm × PV)} {j : Nat} {x : Clm} (h : CSET (A.take j) m) (e : A[j]? = some x) : CSET (A.take (j + 1)) (aset m x (.bool true)) := by
  intro k
  rw [aget_aset, h k, List.take_add_one, e]
  simp only [Option.toList_some, List.mem_append, List.mem_singleton]
  by_cases hk : k = x <;> simp [hk]
def CROW (A : List Clm) (r : Option Row) : Prop := ∃ m, r = some (.map (kmap clm m)) ∧ CSET A m
section
variable (D : Dis) (ws : List Wel) (hr : ∀ x ∈ D.rs, x.OK) (l : List Don)
include hr
set_option maxHeartbeats 8000000 in
theorem w_intime (cl : List Clm) (f kn rate : Int) : ap Try.prog pol 6 [dv D ws, .vs 4 (l.map don) none, .vs 5 (cl.map clm) none, I f, I kn, I rate] = some (.ret (.bool true)) := by
  obtain ⟨b, eb, hb⟩ := c_few D ws l
  obtain ⟨b', eb', hb'⟩ := c_fewc D ws cl
  have c1 := d_active D ws hr l cl kn
  have c3 := d_fine D ws hr l f kn rate
  have hF : (∀ i, i < D.ds.length → TIM D l f kn i) → (FINE D l f kn rate).1 = 0 := by
    intro ht
    have := TIM_FH D.ds.length ht
    rcases FINE_cases D l f kn rate with ⟨_, _, _, _, hf⟩ | ⟨e, he, hf⟩
    · rw [hf, this, Int.mul_zero]
    · rw [hf]
  generalize (FINE D l f kn rate).1 = fn at *
  generalize (FINE D l f kn rate).2 = fe at *
  rw [ap_eq _ Try.func6 rfl Try.ntmps6 Try.results6 (by kernel_rfl) rfl (by exact Nat.le_of_ble_eq_true rfl)]
  cases b with
  | false => simp (config := { maxSteps := 1000000 }) only [RUN, PATHS, BASE, FA, POL, start_tm, Heap.empty, reduceIte, Nat.reduceLT, Nat.reduceLeDiff, Nat.reduceEqDiff, Nat.reduceAdd, Nat.reduceSub, Nat.reduceMul, Nat.reduceBEq, Int.reduceLT, Int.reduceLE, Int.reduceEq, Int.reduceNeg, Int.reduceAdd, Int.reduceSub, Int.reduceMul, Bool.false_eq_true, Bool.not_true, Bool.not_false, decide_eq_true_eq, and_self, true_and, and_true, reduceCtorEq, ne_eq, not_false_eq_true, not_true_eq_false, decide_true, decide_false, or_false, false_or, NUM, SRCH, SFRM, SCRP, SRGT, SDTY, SWEL, SDON, SCLM, c_sane, eb]
  | true =>
  cases b' with
  | false => simp (config := { maxSteps := 1000000 }) only [RUN, PATHS, BASE, FA, POL, start_tm, Heap.empty, reduceIte, Nat.reduceLT, Nat.reduceLeDiff, Nat.reduceEqDiff, Nat.reduceAdd, Nat.reduceSub, Nat.reduceMul, Nat.reduceBEq, Int.reduceLT, Int.reduceLE, Int.reduceEq, Int.reduceNeg, Int.reduceAdd, Int.reduceSub, Int.reduceMul, Bool.false_eq_true, Bool.not_true, Bool.not_false, decide_eq_true_eq, and_self, true_and, and_true, reduceCtorEq, ne_eq, not_false_eq_true, not_true_eq_false, decide_true, decide_false, or_false, false_or, NUM, SRCH, SFRM, SCRP, SRGT, SDTY, SWEL, SDON, SCLM, c_sane, eb, eb']
  | true =>
  have hb := hb rfl
  have hb' := hb' rfl
  rcases ACT_cases D l cl kn with ⟨hd0, hc0, hk, hA⟩ | ⟨e, he, hA⟩
  all_goals
    rw [hA] at c1
    simp only [ovc] at c1
    simp (config := { maxSteps := 1000000 }) only [RUN, PATHS, BASE, FA, POL, start_tm, Heap.empty, reduceIte, Nat.reduceLT, Nat.reduceLeDiff, Nat.reduceEqDiff, Nat.reduceAdd, Nat.reduceSub, Nat.reduceMul, Nat.reduceBEq, Int.reduceLT, Int.reduceLE, Int.reduceEq, Int.reduceNeg, Int.reduceAdd, Int.reduceSub, Int.reduceMul, Bool.false_eq_true, Bool.not_true, Bool.not_false, decide_eq_true_eq, and_self, true_and, and_true, reduceCtorEq, ne_eq, not_false_eq_true, not_true_eq_false, decide_true, decide_false, or_false, false_or, NUM, SRCH, SFRM, SCRP, SRGT, SDTY, SWEL, SDON, SCLM, c_sane, eb, eb', c1, c3, List.length_map]
    generalize hL : W _ (.loop _) _ = L
    obtain ⟨ex, s, rfl, hex, g2, g3, g13, g14, g15, g16, gn, hd, hf⟩ := loop_at hL (α := Nat) (fun j => D.ds.length - j)
      (fun s0 j s => j ≤ D.ds.length ∧ (∀ i, i < j → TIM D l f kn i) ∧ s.tmps 59 = I j ∧ s.tmps 58 = I D.ds.length ∧ s.tmps 57 = .vs 4 (D.ds.map dty) none ∧ s.tmps 1 = .vs 4 (l.map don) none ∧ s.tmps 2 = s0.tmps 2 ∧ s.tmps 3 = I f ∧ s.tmps 4 = I kn ∧ s.tmps 13 = s0.tmps 13 ∧ s.tmps 14 = s0.tmps 14 ∧ s.tmps 15 = s0.tmps 15 ∧ s.tmps 16 = s0.tmps 16 ∧ s.H.next = 1 ∧ s.defers = [] ∧ s.fid = 0)
      (fun s0 ex s => ((ex = .exit 0 ∧ ∀ i, i < D.ds.length → TIM D l f kn i) ∨ (ex = .ret ∧ s.tmps 12 = .bool true)) ∧ s.tmps 2 = s0.tmps 2 ∧ s.tmps 3 = I f ∧ s.tmps 13 = s0.tmps 13 ∧ s.tmps 14 = s0.tmps 14 ∧ s.tmps 15 = s0.tmps 15 ∧ s.tmps 16 = s0.tmps 16 ∧ s.H.next = 1 ∧ s.defers = [] ∧ s.fid = 0) 0
      (by simp (config := { maxSteps := 1000000 }) only [RUN, PATHS, BASE, FA, POL, start_tm, Heap.empty, reduceIte, Nat.reduceLT, Nat.reduceLeDiff, Nat.reduceEqDiff, Nat.reduceAdd, Nat.reduceSub, Nat.reduceMul, Nat.reduceBEq, Int.reduceLT, Int.reduceLE, Int.reduceEq, Int.reduceNeg, Int.reduceAdd, Int.reduceSub, Int.reduceMul, Bool.false_eq_true, Bool.not_true, Bool.not_false, decide_eq_true_eq, and_self, true_and, and_true, reduceCtorEq, ne_eq, not_false_eq_true, not_true_eq_false, decide_true, decide_false, or_false, false_or]; exact ⟨by omega, by simp⟩) (by
        rintro j s r hW ⟨hj, ht, h59, h58, h57, h1, h2, h3, h4, h13, h14, h15, h16, hn, hd, hf⟩
        by_cases hp : j < D.ds.length
        rotate_left
        · simp (config := { maxSteps := 1000000 }) only [RUN, PATHS, BASE, FA, POL, start_tm, Heap.empty, reduceIte, Nat.reduceLT, Nat.reduceLeDiff, Nat.reduceEqDiff, Nat.reduceAdd, Nat.reduceSub, Nat.reduceMul, Nat.reduceBEq, Int.reduceLT, Int.reduceLE, Int.reduceEq, Int.reduceNeg, Int.reduceAdd, Int.reduceSub, Int.reduceMul, Bool.false_eq_true, Bool.not_true, Bool.not_false, decide_eq_true_eq, and_self, true_and, and_true, reduceCtorEq, ne_eq, not_false_eq_true, not_true_eq_false, decide_true, decide_false, or_false, false_or, NUM, h59, h58, hd, hf, (show ¬ (j : Int) < D.ds.length by omega)] at hW
          subst hW
          have : j = D.ds.length := by omega
          subst this
          refine rd_exit ⟨.inl ⟨rfl, ht⟩, ?_⟩
          simp (config := { maxSteps := 1000000 }) only [RUN, PATHS, BASE, FA, POL, start_tm, Heap.empty, reduceIte, Nat.reduceLT, Nat.reduceLeDiff, Nat.reduceEqDiff, Nat.reduceAdd, Nat.reduceSub, Nat.reduceMul, Nat.reduceBEq, Int.reduceLT, Int.reduceLE, Int.reduceEq, Int.reduceNeg, Int.reduceAdd, Int.reduceSub, Int.reduceMul, Bool.false_eq_true, Bool.not_true, Bool.not_false, decide_eq_true_eq, and_self, true_and, and_true, reduceCtorEq, ne_eq, not_false_eq_true, not_true_eq_false, decide_true, decide_false, or_false, false_or, h2, h3, h13, h14, h15, h16, hn, hd]
        have e0 : D.ds[j]? = some D.ds[j] := List.getElem?_eq_getElem hp
        have e1 := map_get (f := dty) e0
        generalize D.ds[j] = x at *
        have fl : x.fm = f ∨ x.fm ≠ f := Classical.em _
        rcases hb18 : s.boxes 18 with _ | ⟨v18, c18⟩
        all_goals
          simp (config := { maxSteps := 1000000 }) only [RUN, PATHS, BASE, FA, POL, start_tm, Heap.empty, reduceIte, Nat.reduceLT, Nat.reduceLeDiff, Nat.reduceEqDiff, Nat.reduceAdd, Nat.reduceSub, Nat.reduceMul, Nat.reduceBEq, Int.reduceLT, Int.reduceLE, Int.reduceEq, Int.reduceNeg, Int.reduceAdd, Int.reduceSub, Int.reduceMul, Bool.false_eq_true, Bool.not_true, Bool.not_false, decide_eq_true_eq, and_self, true_and, and_true, reduceCtorEq, ne_eq, not_false_eq_true, not_true_eq_false, decide_true, decide_false, or_false, false_or, NUM, h59, h58, h57, h1, h2, h3, h4, hd, hf, hb18, e1, List.length_map, Int.toNat_natCast, (show (j : Int) < D.ds.length by omega), (show (0 : Int) ≤ j by omega)] at hW
          generalize hL2 : W _ (.loop _) _ = L2' at hW
          obtain ⟨ex, s2, rfl, rfl, k19, k59, k58, k57, k1, k2, k3, k4, k13, k14, k15, k16, kn', kd, kf⟩ := loop_at hL2 (α := Nat) (fun k => l.length - k)
            (fun s0 k s => k ≤ l.length ∧ s.tmps 70 = I k ∧ s.tmps 69 = I l.length ∧ s.tmps 68 = .vs 4 (l.map don) none ∧ s.tmps 19 = .bool (decide (TQ l f kn j x k)) ∧ s.tmps 17 = I j ∧ (∃ v, s.tmps 18 = .bptr 0 18 v 0 ∧ s.boxes 18 = some (v, [.str x.nm, I x.fm, I x.rc, I x.due])) ∧ s.tmps 59 = I j ∧ s.tmps 58 = I D.ds.length ∧ s.tmps 57 = .vs 4 (D.ds.map dty) none ∧ s.tmps 1 = .vs 4 (l.map don) none ∧ s.tmps 2 = s0.tmps 2 ∧ s.tmps 3 = I f ∧ s.tmps 4 = I kn ∧ s.tmps 13 = s0.tmps 13 ∧ s.tmps 14 = s0.tmps 14 ∧ s.tmps 15 = s0.tmps 15 ∧ s.tmps 16 = s0.tmps 16 ∧ s.H.next = 1 ∧ s.defers = [] ∧ s.fid = 0)
            (fun s0 ex s => ex = .exit 2 ∧ s.tmps 19 = .bool (decide (TQ l f kn j x l.length)) ∧ s.tmps 59 = I j ∧ s.tmps 58 = I D.ds.length ∧ s.tmps 57 = .vs 4 (D.ds.map dty) none ∧ s.tmps 1 = .vs 4 (l.map don) none ∧ s.tmps 2 = s0.tmps 2 ∧ s.tmps 3 = I f ∧ s.tmps 4 = I kn ∧ s.tmps 13 = s0.tmps 13 ∧ s.tmps 14 = s0.tmps 14 ∧ s.tmps 15 = s0.tmps 15 ∧ s.tmps 16 = s0.tmps 16 ∧ s.H.next = 1 ∧ s.defers = [] ∧ s.fid = 0) 0
            (by
              have q0 : TQ l f kn j x 0 ↔ ¬ x.fm = f := by unfold TQ; simp
              rcases fl with fl | fl
              · rw [decide_eq_false (fun g => q0.1 g fl)]
                simp (config := { maxSteps := 1000000 }) only [RUN, PATHS, BASE, FA, POL, start_tm, Heap.empty, reduceIte, Nat.reduceLT, Nat.reduceLeDiff, Nat.reduceEqDiff, Nat.reduceAdd, Nat.reduceSub, Nat.reduceMul, Nat.reduceBEq, Int.reduceLT, Int.reduceLE, Int.reduceEq, Int.reduceNeg, Int.reduceAdd, Int.reduceSub, Int.reduceMul, Bool.false_eq_true, Bool.not_true, Bool.not_false, decide_eq_true_eq, and_self, true_and, and_true, reduceCtorEq, ne_eq, not_false_eq_true, not_true_eq_false, decide_true, decide_false, or_false, false_or, h2, h3, h4, h57, h58, h59, h1, hn, fl]
                first | exact ⟨Nat.zero_le _, rfl⟩ | exact ⟨Nat.zero_le _, rfl, rfl⟩ | exact ⟨Nat.zero_le _, by simp⟩
              · rw [decide_eq_true (q0.2 fl)]
                simp (config := { maxSteps := 1000000 }) only [RUN, PATHS, BASE, FA, POL, start_tm, Heap.empty, reduceIte, Nat.reduceLT, Nat.reduceLeDiff, Nat.reduceEqDiff, Nat.reduceAdd, Nat.reduceSub, Nat.reduceMul, Nat.reduceBEq, Int.reduceLT, Int.reduceLE, Int.reduceEq, Int.reduceNeg, Int.reduceAdd, Int.reduceSub, Int.reduceMul, Bool.false_eq_true, Bool.not_true, Bool.not_false, decide_eq_true_eq, and_self, true_and, and_true, reduceCtorEq, ne_eq, not_false_eq_true, not_true_eq_false, decide_true, decide_false, or_false, false_or, h2, h3, h4, h57, h58, h59, h1, hn, fl]
                first | exact ⟨Nat.zero_le _, rfl⟩ | exact ⟨Nat.zero_le _, rfl, rfl⟩ | exact ⟨Nat.zero_le _, by simp⟩) (by
              rintro k s r hW2 ⟨hk, k70, k69, k68, k19, k17, ⟨v, k18, kb18⟩, k59, k58, k57, k1, k2, k3, k4, k13, k14, k15, k16, kn', kd, kf⟩
              by_cases hpk : k < l.length
              rotate_left
              · simp (config := { maxSteps := 1000000 }) only [RUN, PATHS, BASE, FA, POL, start_tm, Heap.empty, reduceIte, Nat.reduceLT, Nat.reduceLeDiff, Nat.reduceEqDiff, Nat.reduceAdd, Nat.reduceSub, Nat.reduceMul, Nat.reduceBEq, Int.reduceLT, Int.reduceLE, Int.reduceEq, Int.reduceNeg, Int.reduceAdd, Int.reduceSub, Int.reduceMul, Bool.false_eq_true, Bool.not_true, Bool.not_false, decide_eq_true_eq, and_self, true_and, and_true, reduceCtorEq, ne_eq, not_false_eq_true, not_true_eq_false, decide_true, decide_false, or_false, false_or, NUM, k70, k69, kd, kf, (show ¬ (k : Int) < l.length by omega)] at hW2
                subst hW2
                have : k = l.length := by omega
                subst this
                refine rd_exit ⟨rfl, ?_⟩
                simp (config := { maxSteps := 1000000 }) only [RUN, PATHS, BASE, FA, POL, start_tm, Heap.empty, reduceIte, Nat.reduceLT, Nat.reduceLeDiff, Nat.reduceEqDiff, Nat.reduceAdd, Nat.reduceSub, Nat.reduceMul, Nat.reduceBEq, Int.reduceLT, Int.reduceLE, Int.reduceEq, Int.reduceNeg, Int.reduceAdd, Int.reduceSub, Int.reduceMul, Bool.false_eq_true, Bool.not_true, Bool.not_false, decide_eq_true_eq, and_self, true_and, and_true, reduceCtorEq, ne_eq, not_false_eq_true, not_true_eq_false, decide_true, decide_false, or_false, false_or, k19, k59, k58, k57, k1, k2, k3, k4, k13, k14, k15, k16, kn', kd]
              have f0 : l[k]? = some l[k] := List.getElem?_eq_getElem hpk
              have f1 := map_get (f := don) f0
              have ts := TQ_succ (f := f) (kn := kn) (i := j) (x := x) f0
              generalize l[k] = y at *
              rcases hb21 : s.boxes 21 with _ | ⟨v21, c21⟩
              all_goals
                by_cases hT : TQ l f kn j x k
                · rw [decide_eq_true hT] at k19
                  have hT' := ts.2 (.inl hT)
                  simp (config := { maxSteps := 1000000 }) only [RUN, PATHS, BASE, FA, POL, start_tm, Heap.empty, reduceIte, Nat.reduceLT, Nat.reduceLeDiff, Nat.reduceEqDiff, Nat.reduceAdd, Nat.reduceSub, Nat.reduceMul, Nat.reduceBEq, Int.reduceLT, Int.reduceLE, Int.reduceEq, Int.reduceNeg, Int.reduceAdd, Int.reduceSub, Int.reduceMul, Bool.false_eq_true, Bool.not_true, Bool.not_false, decide_eq_true_eq, and_self, true_and, and_true, reduceCtorEq, ne_eq, not_false_eq_true, not_true_eq_false, decide_true, decide_false, or_false, false_or, NUM, k70, k69, k68, k19, k17, k18, kb18, k4, kd, kf, hb21, f1, List.length_map, Int.toNat_natCast, (show (k : Int) < l.length by omega), (show (0 : Int) ≤ k by omega), (i64_in (x := (k : Int) + 1) (by unfold I64; omega))] at hW2
                  subst hW2
                  refine rd_next (k + 1) ?_ (show l.length - (k + 1) < l.length - k by omega)
                  rw [decide_eq_true hT']
                  simp (config := { maxSteps := 1000000 }) only [RUN, PATHS, BASE, FA, POL, start_tm, Heap.empty, reduceIte, Nat.reduceLT, Nat.reduceLeDiff, Nat.reduceEqDiff, Nat.reduceAdd, Nat.reduceSub, Nat.reduceMul, Nat.reduceBEq, Int.reduceLT, Int.reduceLE, Int.reduceEq, Int.reduceNeg, Int.reduceAdd, Int.reduceSub, Int.reduceMul, Bool.false_eq_true, Bool.not_true, Bool.not_false, decide_eq_true_eq, and_self, true_and, and_true, reduceCtorEq, ne_eq, not_false_eq_true, not_true_eq_false, decide_true, decide_false, or_false, false_or, k69, k68, k17, k18, kb18, k59, k58, k57, k1, k2, k3, k4, k13, k14, k15, k16, kn', kd]
                  exact ⟨by omega, by simp, _, rfl, rfl⟩
                · rw [decide_eq_false hT] at k19
                  by_cases q1 : y.du = j
                  · by_cases q2 : y.at_ ≤ x.due
                    · by_cases q3 : y.kn ≤ kn
                      · have hT' := ts.2 (.inr ⟨q1, q2, q3⟩)
                        simp (config := { maxSteps := 1000000 }) only [RUN, PATHS, BASE, FA, POL, start_tm, Heap.empty, reduceIte, Nat.reduceLT, Nat.reduceLeDiff, Nat.reduceEqDiff, Nat.reduceAdd, Nat.reduceSub, Nat.reduceMul, Nat.reduceBEq, Int.reduceLT, Int.reduceLE, Int.reduceEq, Int.reduceNeg, Int.reduceAdd, Int.reduceSub, Int.reduceMul, Bool.false_eq_true, Bool.not_true, Bool.not_false, decide_eq_true_eq, and_self, true_and, and_true, reduceCtorEq, ne_eq, not_false_eq_true, not_true_eq_false, decide_true, decide_false, or_false, false_or, NUM, k70, k69, k68, k19, k17, k18, kb18, k4, kd, kf, hb21, f1, q1, q2, q3, List.length_map, Int.toNat_natCast, (show (k : Int) < l.length by omega), (show (0 : Int) ≤ k by omega), (i64_in (x := (k : Int) + 1) (by unfold I64; omega))] at hW2
                        subst hW2
                        refine rd_next (k + 1) ?_ (show l.length - (k + 1) < l.length - k by omega)
                        rw [decide_eq_true hT']
                        simp (config := { maxSteps := 1000000 }) only [RUN, PATHS, BASE, FA, POL, start_tm, Heap.empty, reduceIte, Nat.reduceLT, Nat.reduceLeDiff, Nat.reduceEqDiff, Nat.reduceAdd, Nat.reduceSub, Nat.reduceMul, Nat.reduceBEq, Int.reduceLT, Int.reduceLE, Int.reduceEq, Int.reduceNeg, Int.reduceAdd, Int.reduceSub, Int.reduceMul, Bool.false_eq_true, Bool.not_true, Bool.not_false, decide_eq_true_eq, and_self, true_and, and_true, reduceCtorEq, ne_eq, not_false_eq_true, not_true_eq_false, decide_true, decide_false, or_false, false_or, k69, k68, k17, k18, kb18, k59, k58, k57, k1, k2, k3, k4, k13, k14, k15, k16, kn', kd]
                        exact ⟨by omega, by simp, _, rfl, rfl⟩
                      · have hT' : ¬ TQ l f kn j x (k + 1) := fun g => (ts.1 g).elim hT (fun g => q3 g.2.2)
                        simp (config := { maxSteps := 1000000 }) only [RUN, PATHS, BASE, FA, POL, start_tm, Heap.empty, reduceIte, Nat.reduceLT, Nat.reduceLeDiff, Nat.reduceEqDiff, Nat.reduceAdd, Nat.reduceSub, Nat.reduceMul, Nat.reduceBEq, Int.reduceLT, Int.reduceLE, Int.reduceEq, Int.reduceNeg, Int.reduceAdd, Int.reduceSub, Int.reduceMul, Bool.false_eq_true, Bool.not_true, Bool.not_false, decide_eq_true_eq, and_self, true_and, and_true, reduceCtorEq, ne_eq, not_false_eq_true, not_true_eq_false, decide_true, decide_false, or_false, false_or, NUM, k70, k69, k68, k19, k17, k18, kb18, k4, kd, kf, hb21, f1, q1, q2, q3, List.length_map, Int.toNat_natCast, (show (k : Int) < l.length by omega), (show (0 : Int) ≤ k by omega), (i64_in (x := (k : Int) + 1) (by unfold I64; omega))] at hW2
                        subst hW2
                        refine rd_next (k + 1) ?_ (show l.length - (k + 1) < l.length - k by omega)
                        rw [decide_eq_false hT']
                        simp (config := { maxSteps := 1000000 }) only [RUN, PATHS, BASE, FA, POL, start_tm, Heap.empty, reduceIte, Nat.reduceLT, Nat.reduceLeDiff, Nat.reduceEqDiff, Nat.reduceAdd, Nat.reduceSub, Nat.reduceMul, Nat.reduceBEq, Int.reduceLT, Int.reduceLE, Int.reduceEq, Int.reduceNeg, Int.reduceAdd, Int.reduceSub, Int.reduceMul, Bool.false_eq_true, Bool.not_true, Bool.not_false, decide_eq_true_eq, and_self, true_and, and_true, reduceCtorEq, ne_eq, not_false_eq_true, not_true_eq_false, decide_true, decide_false, or_false, false_or, k69, k68, k17, k18, kb18, k59, k58, k57, k1, k2, k3, k4, k13, k14, k15, k16, kn', kd]
                        exact ⟨by omega, by simp, _, rfl, rfl⟩
                    · have hT' : ¬ TQ l f kn j x (k + 1) := fun g => (ts.1 g).elim hT (fun g => q2 g.2.1)
                      simp (config := { maxSteps := 1000000 }) only [RUN, PATHS, BASE, FA, POL, start_tm, Heap.empty, reduceIte, Nat.reduceLT, Nat.reduceLeDiff, Nat.reduceEqDiff, Nat.reduceAdd, Nat.reduceSub, Nat.reduceMul, Nat.reduceBEq, Int.reduceLT, Int.reduceLE, Int.reduceEq, Int.reduceNeg, Int.reduceAdd, Int.reduceSub, Int.reduceMul, Bool.false_eq_true, Bool.not_true, Bool.not_false, decide_eq_true_eq, and_self, true_and, and_true, reduceCtorEq, ne_eq, not_false_eq_true, not_true_eq_false, decide_true, decide_false, or_false, false_or, NUM, k70, k69, k68, k19, k17, k18, kb18, k4, kd, kf, hb21, f1, q1, q2, List.length_map, Int.toNat_natCast, (show (k : Int) < l.length by omega), (show (0 : Int) ≤ k by omega), (i64_in (x := (k : Int) + 1) (by unfold I64; omega))] at hW2
                      subst hW2
                      refine rd_next (k + 1) ?_ (show l.length - (k + 1) < l.length - k by omega)
                      rw [decide_eq_false hT']
                      simp (config := { maxSteps := 1000000 }) only [RUN, PATHS, BASE, FA, POL, start_tm, Heap.empty, reduceIte, Nat.reduceLT, Nat.reduceLeDiff, Nat.reduceEqDiff, Nat.reduceAdd, Nat.reduceSub, Nat.reduceMul, Nat.reduceBEq, Int.reduceLT, Int.reduceLE, Int.reduceEq, Int.reduceNeg, Int.reduceAdd, Int.reduceSub, Int.reduceMul, Bool.false_eq_true, Bool.not_true, Bool.not_false, decide_eq_true_eq, and_self, true_and, and_true, reduceCtorEq, ne_eq, not_false_eq_true, not_true_eq_false, decide_true, decide_false, or_false, false_or, k69, k68, k17, k18, kb18, k59, k58, k57, k1, k2, k3, k4, k13, k14, k15, k16, kn', kd]
                      exact ⟨by omega, by simp, _, rfl, rfl⟩
                  · have hT' : ¬ TQ l f kn j x (k + 1) := fun g => (ts.1 g).elim hT (fun g => q1 g.1)
                    simp (config := { maxSteps := 1000000 }) only [RUN, PATHS, BASE, FA, POL, start_tm, Heap.empty, reduceIte, Nat.reduceLT, Nat.reduceLeDiff, Nat.reduceEqDiff, Nat.reduceAdd, Nat.reduceSub, Nat.reduceMul, Nat.reduceBEq, Int.reduceLT, Int.reduceLE, Int.reduceEq, Int.reduceNeg, Int.reduceAdd, Int.reduceSub, Int.reduceMul, Bool.false_eq_true, Bool.not_true, Bool.not_false, decide_eq_true_eq, and_self, true_and, and_true, reduceCtorEq, ne_eq, not_false_eq_true, not_true_eq_false, decide_true, decide_false, or_false, false_or, NUM, k70, k69, k68, k19, k17, k18, kb18, k4, kd, kf, hb21, f1, q1, List.length_map, Int.toNat_natCast, (show (k : Int) < l.length by omega), (show (0 : Int) ≤ k by omega), (i64_in (x := (k : Int) + 1) (by unfold I64; omega))] at hW2
                    subst hW2
                    refine rd_next (k + 1) ?_ (show l.length - (k + 1) < l.length - k by omega)
                    rw [decide_eq_false hT']
                    simp (config := { maxSteps := 1000000 }) only [RUN, PATHS, BASE, FA, POL, start_tm, Heap.empty, reduceIte, Nat.reduceLT, Nat.reduceLeDiff, Nat.reduceEqDiff, Nat.reduceAdd, Nat.reduceSub, Nat.reduceMul, Nat.reduceBEq, Int.reduceLT, Int.reduceLE, Int.reduceEq, Int.reduceNeg, Int.reduceAdd, Int.reduceSub, Int.reduceMul, Bool.false_eq_true, Bool.not_true, Bool.not_false, decide_eq_true_eq, and_self, true_and, and_true, reduceCtorEq, ne_eq, not_false_eq_true, not_true_eq_false, decide_true, decide_false, or_false, false_or, k69, k68, k17, k18, kb18, k59, k58, k57, k1, k2, k3, k4, k13, k14, k15, k16, kn', kd]
                    exact ⟨by omega, by simp, _, rfl, rfl⟩)
          simp (config := { maxSteps := 1000000 }) only [RUN, PATHS, BASE, FA, POL, start_tm, Heap.empty, reduceIte, Nat.reduceLT, Nat.reduceLeDiff, Nat.reduceEqDiff, Nat.reduceAdd, Nat.reduceSub, Nat.reduceMul, Nat.reduceBEq, Int.reduceLT, Int.reduceLE, Int.reduceEq, Int.reduceNeg, Int.reduceAdd, Int.reduceSub, Int.reduceMul, Bool.false_eq_true, Bool.not_true, Bool.not_false, decide_eq_true_eq, and_self, true_and, and_true, reduceCtorEq, ne_eq, not_false_eq_true, not_true_eq_false, decide_true, decide_false, or_false, false_or, h2] at k2
          simp (config := { maxSteps := 1000000 }) only [RUN, PATHS, BASE, FA, POL, start_tm, Heap.empty, reduceIte, Nat.reduceLT, Nat.reduceLeDiff, Nat.reduceEqDiff, Nat.reduceAdd, Nat.reduceSub, Nat.reduceMul, Nat.reduceBEq, Int.reduceLT, Int.reduceLE, Int.reduceEq, Int.reduceNeg, Int.reduceAdd, Int.reduceSub, Int.reduceMul, Bool.false_eq_true, Bool.not_true, Bool.not_false, decide_eq_true_eq, and_self, true_and, and_true, reduceCtorEq, ne_eq, not_false_eq_true, not_true_eq_false, decide_true, decide_false, or_false, false_or, h13] at k13
          simp (config := { maxSteps := 1000000 }) only [RUN, PATHS, BASE, FA, POL, start_tm, Heap.empty, reduceIte, Nat.reduceLT, Nat.reduceLeDiff, Nat.reduceEqDiff, Nat.reduceAdd, Nat.reduceSub, Nat.reduceMul, Nat.reduceBEq, Int.reduceLT, Int.reduceLE, Int.reduceEq, Int.reduceNeg, Int.reduceAdd, Int.reduceSub, Int.reduceMul, Bool.false_eq_true, Bool.not_true, Bool.not_false, decide_eq_true_eq, and_self, true_and, and_true, reduceCtorEq, ne_eq, not_false_eq_true, not_true_eq_false, decide_true, decide_false, or_false, false_or, h14] at k14
          simp (config := { maxSteps := 1000000 }) only [RUN, PATHS, BASE, FA, POL, start_tm, Heap.empty, reduceIte, Nat.reduceLT, Nat.reduceLeDiff, Nat.reduceEqDiff, Nat.reduceAdd, Nat.reduceSub, Nat.reduceMul, Nat.reduceBEq, Int.reduceLT, Int.reduceLE, Int.reduceEq, Int.reduceNeg, Int.reduceAdd, Int.reduceSub, Int.reduceMul, Bool.false_eq_true, Bool.not_true, Bool.not_false, decide_eq_true_eq, and_self, true_and, and_true, reduceCtorEq, ne_eq, not_false_eq_true, not_true_eq_false, decide_true, decide_false, or_false, false_or, h15] at k15
          simp (config := { maxSteps := 1000000 }) only [RUN, PATHS, BASE, FA, POL, start_tm, Heap.empty, reduceIte, Nat.reduceLT, Nat.reduceLeDiff, Nat.reduceEqDiff, Nat.reduceAdd, Nat.reduceSub, Nat.reduceMul, Nat.reduceBEq, Int.reduceLT, Int.reduceLE, Int.reduceEq, Int.reduceNeg, Int.reduceAdd, Int.reduceSub, Int.reduceMul, Bool.false_eq_true, Bool.not_true, Bool.not_false, decide_eq_true_eq, and_self, true_and, and_true, reduceCtorEq, ne_eq, not_false_eq_true, not_true_eq_false, decide_true, decide_false, or_false, false_or, h16] at k16
          by_cases hT : TQ l f kn j x l.length
          · rw [decide_eq_true hT] at k19
            have tm : TIM D l f kn j := by
              intro z ez hz
              rw [e0] at ez
              cases ez
              rcases hT with h | h
              · exact absurd hz h
              · rw [List.take_length] at h; exact h
            simp (config := { maxSteps := 1000000 }) only [RUN, PATHS, BASE, FA, POL, start_tm, Heap.empty, reduceIte, Nat.reduceLT, Nat.reduceLeDiff, Nat.reduceEqDiff, Nat.reduceAdd, Nat.reduceSub, Nat.reduceMul, Nat.reduceBEq, Int.reduceLT, Int.reduceLE, Int.reduceEq, Int.reduceNeg, Int.reduceAdd, Int.reduceSub, Int.reduceMul, Bool.false_eq_true, Bool.not_true, Bool.not_false, decide_eq_true_eq, and_self, true_and, and_true, reduceCtorEq, ne_eq, not_false_eq_true, not_true_eq_false, decide_true, decide_false, or_false, false_or, NUM, k19, k59, kd, kf, (i64_in (x := (j : Int) + 1) (by unfold I64; omega))] at hW
            subst hW
            refine rd_next (j + 1) ?_ (show D.ds.length - (j + 1) < D.ds.length - j by omega)
            simp (config := { maxSteps := 1000000 }) only [RUN, PATHS, BASE, FA, POL, start_tm, Heap.empty, reduceIte, Nat.reduceLT, Nat.reduceLeDiff, Nat.reduceEqDiff, Nat.reduceAdd, Nat.reduceSub, Nat.reduceMul, Nat.reduceBEq, Int.reduceLT, Int.reduceLE, Int.reduceEq, Int.reduceNeg, Int.reduceAdd, Int.reduceSub, Int.reduceMul, Bool.false_eq_true, Bool.not_true, Bool.not_false, decide_eq_true_eq, and_self, true_and, and_true, reduceCtorEq, ne_eq, not_false_eq_true, not_true_eq_false, decide_true, decide_false, or_false, false_or, k58, k57, k1, k2, k3, k4, k13, k14, k15, k16, kn', kd]
            exact ⟨by omega, fun i hi => by
              by_cases hij : i = j
              · subst hij; exact tm
              · exact ht i (by omega), by simp⟩
          · rw [decide_eq_false hT] at k19
            simp (config := { maxSteps := 1000000 }) only [RUN, PATHS, BASE, FA, POL, start_tm, Heap.empty, reduceIte, Nat.reduceLT, Nat.reduceLeDiff, Nat.reduceEqDiff, Nat.reduceAdd, Nat.reduceSub, Nat.reduceMul, Nat.reduceBEq, Int.reduceLT, Int.reduceLE, Int.reduceEq, Int.reduceNeg, Int.reduceAdd, Int.reduceSub, Int.reduceMul, Bool.false_eq_true, Bool.not_true, Bool.not_false, decide_eq_true_eq, and_self, true_and, and_true, reduceCtorEq, ne_eq, not_false_eq_true, not_true_eq_false, decide_true, decide_false, or_false, false_or, NUM, k19, k59, kd, kf] at hW
            subst hW
            refine rd_ret ⟨.inr ⟨rfl, ?_⟩, ?_⟩
            · simp (config := { maxSteps := 1000000 }) only [RUN, PATHS, BASE, FA, POL, start_tm, Heap.empty, reduceIte, Nat.reduceLT, Nat.reduceLeDiff, Nat.reduceEqDiff, Nat.reduceAdd, Nat.reduceSub, Nat.reduceMul, Nat.reduceBEq, Int.reduceLT, Int.reduceLE, Int.reduceEq, Int.reduceNeg, Int.reduceAdd, Int.reduceSub, Int.reduceMul, Bool.false_eq_true, Bool.not_true, Bool.not_false, decide_eq_true_eq, and_self, true_and, and_true, reduceCtorEq, ne_eq, not_false_eq_true, not_true_eq_false, decide_true, decide_false, or_false, false_or]
            · simp (config := { maxSteps := 1000000 }) only [RUN, PATHS, BASE, FA, POL, start_tm, Heap.empty, reduceIte, Nat.reduceLT, Nat.reduceLeDiff, Nat.reduceEqDiff, Nat.reduceAdd, Nat.reduceSub, Nat.reduceMul, Nat.reduceBEq, Int.reduceLT, Int.reduceLE, Int.reduceEq, Int.reduceNeg, Int.reduceAdd, Int.reduceSub, Int.reduceMul, Bool.false_eq_true, Bool.not_true, Bool.not_false, decide_eq_true_eq, and_self, true_and, and_true, reduceCtorEq, ne_eq, not_false_eq_true, not_true_eq_false, decide_true, decide_false, or_false, false_or, k2, k3, k13, k14, k15, k16, kn', kd])
    simp (config := { maxSteps := 1000000 }) only [RUN, PATHS, BASE, FA, POL, start_tm, Heap.empty, reduceIte, Nat.reduceLT, Nat.reduceLeDiff, Nat.reduceEqDiff, Nat.reduceAdd, Nat.reduceSub, Nat.reduceMul, Nat.reduceBEq, Int.reduceLT, Int.reduceLE, Int.reduceEq, Int.reduceNeg, Int.reduceAdd, Int.reduceSub, Int.reduceMul, Bool.false_eq_true, Bool.not_true, Bool.not_false, decide_eq_true_eq, and_self, true_and, and_true, reduceCtorEq, ne_eq, not_false_eq_true, not_true_eq_false, decide_true, decide_false, or_false, false_or] at g2
    simp (config := { maxSteps := 1000000 }) only [RUN, PATHS, BASE, FA, POL, start_tm, Heap.empty, reduceIte, Nat.reduceLT, Nat.reduceLeDiff, Nat.reduceEqDiff, Nat.reduceAdd, Nat.reduceSub, Nat.reduceMul, Nat.reduceBEq, Int.reduceLT, Int.reduceLE, Int.reduceEq, Int.reduceNeg, Int.reduceAdd, Int.reduceSub, Int.reduceMul, Bool.false_eq_true, Bool.not_true, Bool.not_false, decide_eq_true_eq, and_self, true_and, and_true, reduceCtorEq, ne_eq, not_false_eq_true, not_true_eq_false, decide_true, decide_false, or_false, false_or] at g13
    simp (config := { maxSteps := 1000000 }) only [RUN, PATHS, BASE, FA, POL, start_tm, Heap.empty, reduceIte, Nat.reduceLT, Nat.reduceLeDiff, Nat.reduceEqDiff, Nat.reduceAdd, Nat.reduceSub, Nat.reduceMul, Nat.reduceBEq, Int.reduceLT, Int.reduceLE, Int.reduceEq, Int.reduceNeg, Int.reduceAdd, Int.reduceSub, Int.reduceMul, Bool.false_eq_true, Bool.not_true, Bool.not_false, decide_eq_true_eq, and_self, true_and, and_true, reduceCtorEq, ne_eq, not_false_eq_true, not_true_eq_false, decide_true, decide_false, or_false, false_or] at g14
    simp (config := { maxSteps := 1000000 }) only [RUN, PATHS, BASE, FA, POL, start_tm, Heap.empty, reduceIte, Nat.reduceLT, Nat.reduceLeDiff, Nat.reduceEqDiff, Nat.reduceAdd, Nat.reduceSub, Nat.reduceMul, Nat.reduceBEq, Int.reduceLT, Int.reduceLE, Int.reduceEq, Int.reduceNeg, Int.reduceAdd, Int.reduceSub, Int.reduceMul, Bool.false_eq_true, Bool.not_true, Bool.not_false, decide_eq_true_eq, and_self, true_and, and_true, reduceCtorEq, ne_eq, not_false_eq_true, not_true_eq_false, decide_true, decide_false, or_false, false_or] at g15
    simp (config := { maxSteps := 1000000 }) only [RUN, PATHS, BASE, FA, POL, start_tm, Heap.empty, reduceIte, Nat.reduceLT, Nat.reduceLeDiff, Nat.reduceEqDiff, Nat.reduceAdd, Nat.reduceSub, Nat.reduceMul, Nat.reduceBEq, Int.reduceLT, Int.reduceLE, Int.reduceEq, Int.reduceNeg, Int.reduceAdd, Int.reduceSub, Int.reduceMul, Bool.false_eq_true, Bool.not_true, Bool.not_false, decide_eq_true_eq, and_self, true_and, and_true, reduceCtorEq, ne_eq, not_false_eq_true, not_true_eq_false, decide_true, decide_false, or_false, false_or] at g16
    rcases hex with ⟨rfl, ht⟩ | ⟨rfl, h12⟩
    rotate_left
    · simp (config := { maxSteps := 1000000 }) only [RUN, PATHS, BASE, FA, POL, start_tm, Heap.empty, reduceIte, Nat.reduceLT, Nat.reduceLeDiff, Nat.reduceEqDiff, Nat.reduceAdd, Nat.reduceSub, Nat.reduceMul, Nat.reduceBEq, Int.reduceLT, Int.reduceLE, Int.reduceEq, Int.reduceNeg, Int.reduceAdd, Int.reduceSub, Int.reduceMul, Bool.false_eq_true, Bool.not_true, Bool.not_false, decide_eq_true_eq, and_self, true_and, and_true, reduceCtorEq, ne_eq, not_false_eq_true, not_true_eq_false, decide_true, decide_false, or_false, false_or, h12, hd]
    have hF := hF ht
    subst hF
  · obtain ⟨_, lc, cok⟩ := CC_0 hc0
    have kll := KEPT_le hc0 l kn D.ds.length
    have hm : ∀ x ∈ cl, x.f = f → x ∈ KEPT D l kn D.ds.length cl := by
      intro x hx hxf
      unfold KEPT
      refine List.mem_filter.2 ⟨hx, decide_eq_true (KEEP_iff.2 ?_)⟩
      rw [hxf]
      exact TIM_free ht
    generalize KEPT D l kn D.ds.length cl = A at *
    by_cases hfe : fe = 0
    all_goals
      simp (config := { maxSteps := 1000000 }) only [RUN, PATHS, BASE, FA, POL, start_tm, Heap.empty, reduceIte, Nat.reduceLT, Nat.reduceLeDiff, Nat.reduceEqDiff, Nat.reduceAdd, Nat.reduceSub, Nat.reduceMul, Nat.reduceBEq, Int.reduceLT, Int.reduceLE, Int.reduceEq, Int.reduceNeg, Int.reduceAdd, Int.reduceSub, Int.reduceMul, Bool.false_eq_true, Bool.not_true, Bool.not_false, decide_eq_true_eq, and_self, true_and, and_true, reduceCtorEq, ne_eq, not_false_eq_true, not_true_eq_false, decide_true, decide_false, or_false, false_or, NUM, SRCH, SFRM, SCRP, SRGT, SDTY, SWEL, SDON, SCLM, g2, g3, g13, g14, g15, g16, gn, hd, hf, hfe, List.length_map]
      generalize hL : W _ (.loop _) _ = L
      obtain ⟨ex, s2, rfl, rfl, k2, k3, k22, kr, kd, kf⟩ := loop_at hL (α := Nat) (fun j => A.length - j)
        (fun s0 j s => j ≤ A.length ∧ s.tmps 109 = I j ∧ s.tmps 108 = I A.length ∧ s.tmps 107 = .vs 5 (A.map clm) none ∧ s.tmps 2 = .vs 5 (cl.map clm) none ∧ s.tmps 3 = I f ∧ s.tmps 22 = .map 1 ∧ CROW (A.take j) (s.H.rows 1) ∧ s.defers = [] ∧ s.fid = 0)
        (fun s0 ex s => ex = .exit 4 ∧ s.tmps 2 = .vs 5 (cl.map clm) none ∧ s.tmps 3 = I f ∧ s.tmps 22 = .map 1 ∧ CROW A (s.H.rows 1) ∧ s.defers = [] ∧ s.fid = 0) 0
        (by simp (config := { maxSteps := 1000000 }) only [RUN, PATHS, BASE, FA, POL, start_tm, Heap.empty, reduceIte, Nat.reduceLT, Nat.reduceLeDiff, Nat.reduceEqDiff, Nat.reduceAdd, Nat.reduceSub, Nat.reduceMul, Nat.reduceBEq, Int.reduceLT, Int.reduceLE, Int.reduceEq, Int.reduceNeg, Int.reduceAdd, Int.reduceSub, Int.reduceMul, Bool.false_eq_true, Bool.not_true, Bool.not_false, decide_eq_true_eq, and_self, true_and, and_true, reduceCtorEq, ne_eq, not_false_eq_true, not_true_eq_false, decide_true, decide_false, or_false, false_or, g2, g3, gn, hd, hf]; exact ⟨Nat.zero_le _, by simp, [], rfl, fun k => by simp [aget]⟩) (by
          rintro j s r hW ⟨hj, h109, h108, h107, h2, h3, h22, ⟨m, hrow, hset⟩, hd, hf⟩
          by_cases hp : j < A.length
          rotate_left
          · simp (config := { maxSteps := 1000000 }) only [RUN, PATHS, BASE, FA, POL, start_tm, Heap.empty, reduceIte, Nat.reduceLT, Nat.reduceLeDiff, Nat.reduceEqDiff, Nat.reduceAdd, Nat.reduceSub, Nat.reduceMul, Nat.reduceBEq, Int.reduceLT, Int.reduceLE, Int.reduceEq, Int.reduceNeg, Int.reduceAdd, Int.reduceSub, Int.reduceMul, Bool.false_eq_true, Bool.not_true, Bool.not_false, decide_eq_true_eq, and_self, true_and, and_true, reduceCtorEq, ne_eq, not_false_eq_true, not_true_eq_false, decide_true, decide_false, or_false, false_or, NUM, h109, h108, hd, hf, (show ¬ (j : Int) < A.length by omega)] at hW
            subst hW
            have : j = A.length := by omega
            subst this
            rw [List.take_length] at hset
            refine rd_exit ⟨rfl, ?_⟩
            simp (config := { maxSteps := 1000000 }) only [RUN, PATHS, BASE, FA, POL, start_tm, Heap.empty, reduceIte, Nat.reduceLT, Nat.reduceLeDiff, Nat.reduceEqDiff, Nat.reduceAdd, Nat.reduceSub, Nat.reduceMul, Nat.reduceBEq, Int.reduceLT, Int.reduceLE, Int.reduceEq, Int.reduceNeg, Int.reduceAdd, Int.reduceSub, Int.reduceMul, Bool.false_eq_true, Bool.not_true, Bool.not_false, decide_eq_true_eq, and_self, true_and, and_true, reduceCtorEq, ne_eq, not_false_eq_true, not_true_eq_false, decide_true, decide_false, or_false, false_or, h2, h3, h22, hd, hrow]
            exact ⟨m, rfl, hset⟩
          have e0 : A[j]? = some A[j] := List.getElem?_eq_getElem hp
          have e1 := map_get (f := clm) e0
          have hset2 := CSET_set hset e0
          generalize A[j] = x at *
          rcases hb24 : s.boxes 24 with _ | ⟨v24, c24⟩
          all_goals
            simp (config := { maxSteps := 1000000 }) only [RUN, PATHS, BASE, FA, POL, start_tm, Heap.empty, reduceIte, Nat.reduceLT, Nat.reduceLeDiff, Nat.reduceEqDiff, Nat.reduceAdd, Nat.reduceSub, Nat.reduceMul, Nat.reduceBEq, Int.reduceLT, Int.reduceLE, Int.reduceEq, Int.reduceNeg, Int.reduceAdd, Int.reduceSub, Int.reduceMul, Bool.false_eq_true, Bool.not_true, Bool.not_false, decide_eq_true_eq, and_self, true_and, and_true, reduceCtorEq, ne_eq, not_false_eq_true, not_true_eq_false, decide_true, decide_false, or_false, false_or, NUM, MAPC, h109, h108, h107, h22, hrow, hd, hf, hb24, e1, List.length_map, Int.toNat_natCast, (show (j : Int) < A.length by omega), (show (0 : Int) ≤ j by omega), (i64_in (x := (j : Int) + 1) (by unfold I64; omega))] at hW
            subst hW
            refine rd_next (j + 1) ?_ (show A.length - (j + 1) < A.length - j by omega)
            simp (config := { maxSteps := 1000000 }) only [RUN, PATHS, BASE, FA, POL, start_tm, Heap.empty, reduceIte, Nat.reduceLT, Nat.reduceLeDiff, Nat.reduceEqDiff, Nat.reduceAdd, Nat.reduceSub, Nat.reduceMul, Nat.reduceBEq, Int.reduceLT, Int.reduceLE, Int.reduceEq, Int.reduceNeg, Int.reduceAdd, Int.reduceSub, Int.reduceMul, Bool.false_eq_true, Bool.not_true, Bool.not_false, decide_eq_true_eq, and_self, true_and, and_true, reduceCtorEq, ne_eq, not_false_eq_true, not_true_eq_false, decide_true, decide_false, or_false, false_or, h108, h107, h2, h3, h22]
            exact ⟨by omega, by simp, _, rfl, hset2⟩)
      obtain ⟨m, hrow, hset⟩ := kr
      simp (config := { maxSteps := 1000000 }) only [RUN, PATHS, BASE, FA, POL, start_tm, Heap.empty, reduceIte, Nat.reduceLT, Nat.reduceLeDiff, Nat.reduceEqDiff, Nat.reduceAdd, Nat.reduceSub, Nat.reduceMul, Nat.reduceBEq, Int.reduceLT, Int.reduceLE, Int.reduceEq, Int.reduceNeg, Int.reduceAdd, Int.reduceSub, Int.reduceMul, Bool.false_eq_true, Bool.not_true, Bool.not_false, decide_eq_true_eq, and_self, true_and, and_true, reduceCtorEq, ne_eq, not_false_eq_true, not_true_eq_false, decide_true, decide_false, or_false, false_or, NUM, k2, k3, k22, kd, kf, List.length_map]
      generalize hL : W _ (.loop _) _ = L
      obtain ⟨ex, s3, rfl, rfl, kd⟩ := loop_at hL (α := Nat) (fun j => cl.length - j)
        (fun s0 j s => j ≤ cl.length ∧ s.tmps 118 = I j ∧ s.tmps 117 = I cl.length ∧ s.tmps 116 = .vs 5 (cl.map clm) none ∧ s.tmps 3 = I f ∧ s.tmps 22 = .map 1 ∧ s.H.rows 1 = some (.map (kmap clm m)) ∧ s.defers = [] ∧ s.fid = 0)
        (fun s0 ex s => ex = .exit 6 ∧ s.defers = []) 0
        (by simp (config := { maxSteps := 1000000 }) only [RUN, PATHS, BASE, FA, POL, start_tm, Heap.empty, reduceIte, Nat.reduceLT, Nat.reduceLeDiff, Nat.reduceEqDiff, Nat.reduceAdd, Nat.reduceSub, Nat.reduceMul, Nat.reduceBEq, Int.reduceLT, Int.reduceLE, Int.reduceEq, Int.reduceNeg, Int.reduceAdd, Int.reduceSub, Int.reduceMul, Bool.false_eq_true, Bool.not_true, Bool.not_false, decide_eq_true_eq, and_self, true_and, and_true, reduceCtorEq, ne_eq, not_false_eq_true, not_true_eq_false, decide_true, decide_false, or_false, false_or, k3, k22, hrow, kd]; exact ⟨Nat.zero_le _, by simp⟩) (by
          rintro j s r hW ⟨hj, h118, h117, h116, h3, h22, hrow, hd, hf⟩
          by_cases hp : j < cl.length
          rotate_left
          · simp (config := { maxSteps := 1000000 }) only [RUN, PATHS, BASE, FA, POL, start_tm, Heap.empty, reduceIte, Nat.reduceLT, Nat.reduceLeDiff, Nat.reduceEqDiff, Nat.reduceAdd, Nat.reduceSub, Nat.reduceMul, Nat.reduceBEq, Int.reduceLT, Int.reduceLE, Int.reduceEq, Int.reduceNeg, Int.reduceAdd, Int.reduceSub, Int.reduceMul, Bool.false_eq_true, Bool.not_true, Bool.not_false, decide_eq_true_eq, and_self, true_and, and_true, reduceCtorEq, ne_eq, not_false_eq_true, not_true_eq_false, decide_true, decide_false, or_false, false_or, NUM, h118, h117, hd, hf, (show ¬ (j : Int) < cl.length by omega)] at hW
            subst hW
            refine rd_exit ⟨rfl, ?_⟩
            simp (config := { maxSteps := 1000000 }) only [RUN, PATHS, BASE, FA, POL, start_tm, Heap.empty, reduceIte, Nat.reduceLT, Nat.reduceLeDiff, Nat.reduceEqDiff, Nat.reduceAdd, Nat.reduceSub, Nat.reduceMul, Nat.reduceBEq, Int.reduceLT, Int.reduceLE, Int.reduceEq, Int.reduceNeg, Int.reduceAdd, Int.reduceSub, Int.reduceMul, Bool.false_eq_true, Bool.not_true, Bool.not_false, decide_eq_true_eq, and_self, true_and, and_true, reduceCtorEq, ne_eq, not_false_eq_true, not_true_eq_false, decide_true, decide_false, or_false, false_or, hd]
          have e0 : cl[j]? = some cl[j] := List.getElem?_eq_getElem hp
          have e1 := map_get (f := clm) e0
          have hm' := hm _ (List.getElem_mem hp)
          generalize cl[j] = x at *
          have gx := hset x
          rcases hb26 : s.boxes 26 with _ | ⟨v26, c26⟩
          all_goals
            by_cases hxf : x.f = f
            · rw [if_pos (hm' hxf)] at gx
              simp (config := { maxSteps := 1000000 }) only [RUN, PATHS, BASE, FA, POL, start_tm, Heap.empty, reduceIte, Nat.reduceLT, Nat.reduceLeDiff, Nat.reduceEqDiff, Nat.reduceAdd, Nat.reduceSub, Nat.reduceMul, Nat.reduceBEq, Int.reduceLT, Int.reduceLE, Int.reduceEq, Int.reduceNeg, Int.reduceAdd, Int.reduceSub, Int.reduceMul, Bool.false_eq_true, Bool.not_true, Bool.not_false, decide_eq_true_eq, and_self, true_and, and_true, reduceCtorEq, ne_eq, not_false_eq_true, not_true_eq_false, decide_true, decide_false, or_false, false_or, NUM, MAPC, h118, h117, h116, h3, h22, hrow, hd, hf, hb26, e1, eq_true hxf, gx, List.length_map, Int.toNat_natCast, (show (j : Int) < cl.length by omega), (show (0 : Int) ≤ j by omega), (i64_in (x := (j : Int) + 1) (by unfold I64; omega))] at hW
              subst hW
              refine rd_next (j + 1) ?_ (show cl.length - (j + 1) < cl.length - j by omega)
              simp (config := { maxSteps := 1000000 }) only [RUN, PATHS, BASE, FA, POL, start_tm, Heap.empty, reduceIte, Nat.reduceLT, Nat.reduceLeDiff, Nat.reduceEqDiff, Nat.reduceAdd, Nat.reduceSub, Nat.reduceMul, Nat.reduceBEq, Int.reduceLT, Int.reduceLE, Int.reduceEq, Int.reduceNeg, Int.reduceAdd, Int.reduceSub, Int.reduceMul, Bool.false_eq_true, Bool.not_true, Bool.not_false, decide_eq_true_eq, and_self, true_and, and_true, reduceCtorEq, ne_eq, not_false_eq_true, not_true_eq_false, decide_true, decide_false, or_false, false_or, h117, h116, h3, h22, hrow]
              exact ⟨by omega, by simp⟩
            · simp (config := { maxSteps := 1000000 }) only [RUN, PATHS, BASE, FA, POL, start_tm, Heap.empty, reduceIte, Nat.reduceLT, Nat.reduceLeDiff, Nat.reduceEqDiff, Nat.reduceAdd, Nat.reduceSub, Nat.reduceMul, Nat.reduceBEq, Int.reduceLT, Int.reduceLE, Int.reduceEq, Int.reduceNeg, Int.reduceAdd, Int.reduceSub, Int.reduceMul, Bool.false_eq_true, Bool.not_true, Bool.not_false, decide_eq_true_eq, and_self, true_and, and_true, reduceCtorEq, ne_eq, not_false_eq_true, not_true_eq_false, decide_true, decide_false, or_false, false_or, NUM, MAPC, h118, h117, h116, h3, h22, hrow, hd, hf, hb26, e1, hxf, List.length_map, Int.toNat_natCast, (show (j : Int) < cl.length by omega), (show (0 : Int) ≤ j by omega), (i64_in (x := (j : Int) + 1) (by unfold I64; omega))] at hW
              subst hW
              refine rd_next (j + 1) ?_ (show cl.length - (j + 1) < cl.length - j by omega)
              simp (config := { maxSteps := 1000000 }) only [RUN, PATHS, BASE, FA, POL, start_tm, Heap.empty, reduceIte, Nat.reduceLT, Nat.reduceLeDiff, Nat.reduceEqDiff, Nat.reduceAdd, Nat.reduceSub, Nat.reduceMul, Nat.reduceBEq, Int.reduceLT, Int.reduceLE, Int.reduceEq, Int.reduceNeg, Int.reduceAdd, Int.reduceSub, Int.reduceMul, Bool.false_eq_true, Bool.not_true, Bool.not_false, decide_eq_true_eq, and_self, true_and, and_true, reduceCtorEq, ne_eq, not_false_eq_true, not_true_eq_false, decide_true, decide_false, or_false, false_or, h117, h116, h3, h22, hrow]
              exact ⟨by omega, by simp⟩)
      simp (config := { maxSteps := 1000000 }) only [RUN, PATHS, BASE, FA, POL, start_tm, Heap.empty, reduceIte, Nat.reduceLT, Nat.reduceLeDiff, Nat.reduceEqDiff, Nat.reduceAdd, Nat.reduceSub, Nat.reduceMul, Nat.reduceBEq, Int.reduceLT, Int.reduceLE, Int.reduceEq, Int.reduceNeg, Int.reduceAdd, Int.reduceSub, Int.reduceMul, Bool.false_eq_true, Bool.not_true, Bool.not_false, decide_eq_true_eq, and_self, true_and, and_true, reduceCtorEq, ne_eq, not_false_eq_true, not_true_eq_false, decide_true, decide_false, or_false, false_or, kd]
  · by_cases hfe : fe = 0
    all_goals simp (config := { maxSteps := 1000000 }) only [RUN, PATHS, BASE, FA, POL, start_tm, Heap.empty, reduceIte, Nat.reduceLT, Nat.reduceLeDiff, Nat.reduceEqDiff, Nat.reduceAdd, Nat.reduceSub, Nat.reduceMul, Nat.reduceBEq, Int.reduceLT, Int.reduceLE, Int.reduceEq, Int.reduceNeg, Int.reduceAdd, Int.reduceSub, Int.reduceMul, Bool.false_eq_true, Bool.not_true, Bool.not_false, decide_eq_true_eq, and_self, true_and, and_true, reduceCtorEq, ne_eq, not_false_eq_true, not_true_eq_false, decide_true, decide_false, or_false, false_or, NUM, SRCH, SFRM, SCRP, SRGT, SDTY, SWEL, SDON, SCLM, g2, g3, g13, g14, g15, g16, gn, hd, hf, hfe, he]
end
end Go.Proofs.Ytaggpjlkapnonaa
