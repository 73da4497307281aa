/-
  The reference: what is performed and overdue, how many duties.
-/
import Derived.Test.YtaggpjlkapnonaaC16
set_option linter.unusedSimpArgs false
set_option linter.unusedVariables false
set_option linter.unusedSectionVars false
namespace Go.Proofs.Ytaggpjlkapnonaa
open Go GoV
set_option maxRecDepth 100000

def RPERF (l : List Don) (i h kn : Int) : Prop := ∃ x ∈ l, x.du = i ∧ x.at_ ≤ h ∧ x.kn ≤ kn
noncomputable instance (l : List Don) (i h kn : Int) : Decidable (RPERF l i h kn) := Classical.propDecidable _
theorem c_rperf (l : List Don) (i h kn : Int) (hl : l.length ≤ 1000000) : ap Try.prog pol 41 [.vs 4 (l.map don) none, I i, I h, I kn] = some (.ret (.bool (decide (RPERF l i h kn)))) := by
  rw [ap_eq _ Try.func41 rfl Try.ntmps41 Try.results41 (by kernel_rfl) rfl (by exact Nat.le_of_ble_eq_true rfl)]
  simp (config := { maxSteps := 1000000 }) only [RUN, PATHS, BASE, FA, POL, start_tm, Heap.empty, reduceIte, Nat.reduceLT, Nat.reduceLeDiff, Nat.reduceEqDiff, Nat.reduceAdd, Nat.reduceSub, Nat.reduceMul, Nat.reduceBEq, Int.reduceLT, Int.reduceLE, Int.reduceEq, Int.reduceNeg, Int.reduceAdd, Int.reduceSub, Int.reduceMul, Bool.false_eq_true, Bool.not_true, Bool.not_false, decide_eq_true_eq, and_self, true_and, and_true, reduceCtorEq, ne_eq, not_false_eq_true, not_true_eq_false, decide_true, decide_false, or_false, false_or, NUM]
  generalize hL : W _ (.loop _) _ = L
  obtain ⟨ex, s, rfl, hex, hd⟩ := loop_at hL (α := Nat) (fun j => l.length - j)
    (fun s0 j s => j ≤ l.length ∧ (∀ x ∈ l.take j, ¬ (x.du = i ∧ x.at_ ≤ h ∧ x.kn ≤ kn)) ∧ s.tmps 9 = I j ∧ s.tmps 0 = .vs 4 (l.map don) none ∧ s.tmps 1 = I i ∧ s.tmps 2 = I h ∧ s.tmps 3 = I kn ∧ s.defers = [] ∧ s.fid = 0)
    (fun s0 ex s => ((ex = .exit 0 ∧ ¬ RPERF l i h kn) ∨ (ex = .ret ∧ RPERF l i h kn ∧ s.tmps 8 = .bool true)) ∧ s.defers = []) 0
    (by simp (config := { maxSteps := 1000000 }) only [RUN, PATHS, BASE, FA, POL, start_tm, Heap.empty, reduceIte, Nat.reduceLT, Nat.reduceLeDiff, Nat.reduceEqDiff, Nat.reduceAdd, Nat.reduceSub, Nat.reduceMul, Nat.reduceBEq, Int.reduceLT, Int.reduceLE, Int.reduceEq, Int.reduceNeg, Int.reduceAdd, Int.reduceSub, Int.reduceMul, Bool.false_eq_true, Bool.not_true, Bool.not_false, decide_eq_true_eq, and_self, true_and, and_true, reduceCtorEq, ne_eq, not_false_eq_true, not_true_eq_false, decide_true, decide_false, or_false, false_or]; exact ⟨by omega, by simp, by simp⟩) (by
      rintro j s r hW ⟨hj, ht, h9, h0, h1, h2, h3, hd, hf⟩
      by_cases hp : j < l.length
      · have e0 : l[j]? = some l[j] := List.getElem?_eq_getElem hp
        have e1 := map_get (f := don) e0
        have hm := List.getElem_mem hp
        have htk : ∀ P : Don → Prop, (∀ y ∈ l.take j, P y) → P l[j] → ∀ y ∈ l.take (j + 1), P y := by
          intro P a b y hy
          rw [List.take_add_one, e0] at hy
          rcases List.mem_append.1 hy with hy | hy
          · exact a y hy
          · simp only [Option.toList_some, List.mem_singleton] at hy; rw [hy]; exact b
        generalize l[j] = x at *
        simp (config := { maxSteps := 1000000 }) only [RUN, PATHS, BASE, FA, POL, start_tm, Heap.empty, reduceIte, Nat.reduceLT, Nat.reduceLeDiff, Nat.reduceEqDiff, Nat.reduceAdd, Nat.reduceSub, Nat.reduceMul, Nat.reduceBEq, Int.reduceLT, Int.reduceLE, Int.reduceEq, Int.reduceNeg, Int.reduceAdd, Int.reduceSub, Int.reduceMul, Bool.false_eq_true, Bool.not_true, Bool.not_false, decide_eq_true_eq, and_self, true_and, and_true, reduceCtorEq, ne_eq, not_false_eq_true, not_true_eq_false, decide_true, decide_false, or_false, false_or, NUM, h9, h0, h1, h2, h3, hd, hf, e1, List.length_map, Int.toNat_natCast, (show (j : Int) < l.length by omega), (show (0 : Int) ≤ j by omega), (i64_in (x := (j : Int) + 1) (by unfold I64; omega))] at hW
        subst hW
        repeat' refine rd_ite (fun _ => ?_) (fun _ => ?_)
        all_goals first
          | (refine rd_ret ⟨.inr ⟨rfl, ⟨x, hm, by omega, by omega, by omega⟩, by simp (config := { maxSteps := 1000000 }) only [RUN, PATHS, BASE, FA, POL, start_tm, Heap.empty, reduceIte, Nat.reduceLT, Nat.reduceLeDiff, Nat.reduceEqDiff, Nat.reduceAdd, Nat.reduceSub, Nat.reduceMul, Nat.reduceBEq, Int.reduceLT, Int.reduceLE, Int.reduceEq, Int.reduceNeg, Int.reduceAdd, Int.reduceSub, Int.reduceMul, Bool.false_eq_true, Bool.not_true, Bool.not_false, decide_eq_true_eq, and_self, true_and, and_true, reduceCtorEq, ne_eq, not_false_eq_true, not_true_eq_false, decide_true, decide_false, or_false, false_or]⟩, by simp (config := { maxSteps := 1000000 }) only [RUN, PATHS, BASE, FA, POL, start_tm, Heap.empty, reduceIte, Nat.reduceLT, Nat.reduceLeDiff, Nat.reduceEqDiff, Nat.reduceAdd, Nat.reduceSub, Nat.reduceMul, Nat.reduceBEq, Int.reduceLT, Int.reduceLE, Int.reduceEq, Int.reduceNeg, Int.reduceAdd, Int.reduceSub, Int.reduceMul, Bool.false_eq_true, Bool.not_true, Bool.not_false, decide_eq_true_eq, and_self, true_and, and_true, reduceCtorEq, ne_eq, not_false_eq_true, not_true_eq_false, decide_true, decide_false, or_false, false_or, hd]⟩)
          | (refine rd_next (j + 1) ?_ (show l.length - (j + 1) < l.length - j by omega)
             simp (config := { maxSteps := 1000000 }) only [RUN, PATHS, BASE, FA, POL, start_tm, Heap.empty, reduceIte, Nat.reduceLT, Nat.reduceLeDiff, Nat.reduceEqDiff, Nat.reduceAdd, Nat.reduceSub, Nat.reduceMul, Nat.reduceBEq, Int.reduceLT, Int.reduceLE, Int.reduceEq, Int.reduceNeg, Int.reduceAdd, Int.reduceSub, Int.reduceMul, Bool.false_eq_true, Bool.not_true, Bool.not_false, decide_eq_true_eq, and_self, true_and, and_true, reduceCtorEq, ne_eq, not_false_eq_true, not_true_eq_false, decide_true, decide_false, or_false, false_or, h0, h1, h2, h3, hd]
             exact ⟨by omega, htk _ ht (by omega), by simp⟩)
      · simp (config := { maxSteps := 1000000 }) only [RUN, PATHS, BASE, FA, POL, start_tm, Heap.empty, reduceIte, Nat.reduceLT, Nat.reduceLeDiff, Nat.reduceEqDiff, Nat.reduceAdd, Nat.reduceSub, Nat.reduceMul, Nat.reduceBEq, Int.reduceLT, Int.reduceLE, Int.reduceEq, Int.reduceNeg, Int.reduceAdd, Int.reduceSub, Int.reduceMul, Bool.false_eq_true, Bool.not_true, Bool.not_false, decide_eq_true_eq, and_self, true_and, and_true, reduceCtorEq, ne_eq, not_false_eq_true, not_true_eq_false, decide_true, decide_false, or_false, false_or, h9, h0, hd, hf, List.length_map, (show ¬ (j : Int) < l.length by omega)] at hW
        subst hW
        rw [List.take_of_length_le (by omega)] at ht
        exact rd_exit ⟨.inl ⟨rfl, fun ⟨x, hx, g⟩ => ht x hx g⟩, by simp (config := { maxSteps := 1000000 }) only [RUN, PATHS, BASE, FA, POL, start_tm, Heap.empty, reduceIte, Nat.reduceLT, Nat.reduceLeDiff, Nat.reduceEqDiff, Nat.reduceAdd, Nat.reduceSub, Nat.reduceMul, Nat.reduceBEq, Int.reduceLT, Int.reduceLE, Int.reduceEq, Int.reduceNeg, Int.reduceAdd, Int.reduceSub, Int.reduceMul, Bool.false_eq_true, Bool.not_true, Bool.not_false, decide_eq_true_eq, and_self, true_and, and_true, reduceCtorEq, ne_eq, not_false_eq_true, not_true_eq_false, decide_true, decide_false, or_false, false_or, hd]⟩)
  rcases hex with ⟨rfl, hg⟩ | ⟨rfl, hg, h4⟩
  · rw [decide_eq_false hg]; simp (config := { maxSteps := 1000000 }) only [RUN, PATHS, BASE, FA, POL, start_tm, Heap.empty, reduceIte, Nat.reduceLT, Nat.reduceLeDiff, Nat.reduceEqDiff, Nat.reduceAdd, Nat.reduceSub, Nat.reduceMul, Nat.reduceBEq, Int.reduceLT, Int.reduceLE, Int.reduceEq, Int.reduceNeg, Int.reduceAdd, Int.reduceSub, Int.reduceMul, Bool.false_eq_true, Bool.not_true, Bool.not_false, decide_eq_true_eq, and_self, true_and, and_true, reduceCtorEq, ne_eq, not_false_eq_true, not_true_eq_false, decide_true, decide_false, or_false, false_or, hd]
  · rw [decide_eq_true hg]; simp (config := { maxSteps := 1000000 }) only [RUN, PATHS, BASE, FA, POL, start_tm, Heap.empty, reduceIte, Nat.reduceLT, Nat.reduceLeDiff, Nat.reduceEqDiff, Nat.reduceAdd, Nat.reduceSub, Nat.reduceMul, Nat.reduceBEq, Int.reduceLT, Int.reduceLE, Int.reduceEq, Int.reduceNeg, Int.reduceAdd, Int.reduceSub, Int.reduceMul, Bool.false_eq_true, Bool.not_true, Bool.not_false, decide_eq_true_eq, and_self, true_and, and_true, reduceCtorEq, ne_eq, not_false_eq_true, not_true_eq_false, decide_true, decide_false, or_false, false_or, hd, h4]
theorem RPERF_iff {D : Dis} {l : List Don} {h kn : Int} (hh : h ≤ D.hours - 1) (i : Nat) : h ≤ ENDP D l kn i - 1 ↔ ¬ RPERF l i h kn := by
  unfold ENDP
  cases e : PERF l kn (i : Int) with
  | none =>
    simp only
    refine ⟨fun _ => ?_, fun _ => hh⟩
    rintro ⟨x, hx, a, b, c⟩
    exact PERF_none e x hx ⟨c, a⟩
  | some a =>
    simp only
    obtain ⟨⟨y, hy, y1, y2, y3⟩, h2⟩ := PERF_some e
    constructor
    · rintro g ⟨x, hx, p1, p2, p3⟩
      have := h2 x hx p3 p1
      omega
    · intro g
      rcases Int.lt_or_le h a with q | q
      · omega
      · exact absurd ⟨y, hy, y2, by omega, y1⟩ g
theorem c_roverdue (D : Dis) (ws : List Wel) (l : List Don) (i : Nat) (h kn : Int) (hl : l.length ≤ 1000000) (hh : h ≤ D.hours - 1) (hi : i < D.ds.length) : ap Try.prog pol 30 [dv D ws, .vs 4 (l.map don) none, I i, I h, I kn] = some (.ret (.bool (decide (OVP D l h kn i)))) := by
  have e0 : D.ds[i]? = some D.ds[i] := List.getElem?_eq_getElem hi
  have e1 := map_get (f := dty) e0
  have oi := OVP_iff (l := l) (h := h) (kn := kn) e0
  have cp := c_rperf l i h kn hl
  have rp := RPERF_iff (l := l) (kn := kn) hh i
  generalize D.ds[i] = x at *
  rw [ap_eq _ Try.func30 rfl Try.ntmps30 Try.results30 (by kernel_rfl) rfl (by exact Nat.le_of_ble_eq_true rfl)]
  by_cases hr : RPERF l i h kn
  · rw [decide_eq_true hr] at cp
    have hn : ¬ OVP D l h kn i := fun g => rp.1 (oi.1 g).2 hr
    rw [decide_eq_false hn]
    by_cases hx : x.due ≤ h
    · simp (config := { maxSteps := 1000000 }) only [RUN, PATHS, BASE, FA, POL, start_tm, Heap.empty, reduceIte, Nat.reduceLT, Nat.reduceLeDiff, Nat.reduceEqDiff, Nat.reduceAdd, Nat.reduceSub, Nat.reduceMul, Nat.reduceBEq, Int.reduceLT, Int.reduceLE, Int.reduceEq, Int.reduceNeg, Int.reduceAdd, Int.reduceSub, Int.reduceMul, Bool.false_eq_true, Bool.not_true, Bool.not_false, decide_eq_true_eq, and_self, true_and, and_true, reduceCtorEq, ne_eq, not_false_eq_true, not_true_eq_false, decide_true, decide_false, or_false, false_or, NUM, SDON, cp, e1, List.length_map, Int.toNat_natCast, (show (0 : Int) ≤ i by omega), (show (i : Int) < D.ds.length by omega), hx]
    · simp (config := { maxSteps := 1000000 }) only [RUN, PATHS, BASE, FA, POL, start_tm, Heap.empty, reduceIte, Nat.reduceLT, Nat.reduceLeDiff, Nat.reduceEqDiff, Nat.reduceAdd, Nat.reduceSub, Nat.reduceMul, Nat.reduceBEq, Int.reduceLT, Int.reduceLE, Int.reduceEq, Int.reduceNeg, Int.reduceAdd, Int.reduceSub, Int.reduceMul, Bool.false_eq_true, Bool.not_true, Bool.not_false, decide_eq_true_eq, and_self, true_and, and_true, reduceCtorEq, ne_eq, not_false_eq_true, not_true_eq_false, decide_true, decide_false, or_false, false_or, NUM, SDON, cp, e1, List.length_map, Int.toNat_natCast, (show (0 : Int) ≤ i by omega), (show (i : Int) < D.ds.length by omega), hx]
  · rw [decide_eq_false hr] at cp
    by_cases hx : x.due ≤ h
    · have hn : OVP D l h kn i := oi.2 ⟨hx, rp.2 hr⟩
      rw [decide_eq_true hn]
      simp (config := { maxSteps := 1000000 }) only [RUN, PATHS, BASE, FA, POL, start_tm, Heap.empty, reduceIte, Nat.reduceLT, Nat.reduceLeDiff, Nat.reduceEqDiff, Nat.reduceAdd, Nat.reduceSub, Nat.reduceMul, Nat.reduceBEq, Int.reduceLT, Int.reduceLE, Int.reduceEq, Int.reduceNeg, Int.reduceAdd, Int.reduceSub, Int.reduceMul, Bool.false_eq_true, Bool.not_true, Bool.not_false, decide_eq_true_eq, and_self, true_and, and_true, reduceCtorEq, ne_eq, not_false_eq_true, not_true_eq_false, decide_true, decide_false, or_false, false_or, NUM, SDON, cp, e1, List.length_map, Int.toNat_natCast, (show (0 : Int) ≤ i by omega), (show (i : Int) < D.ds.length by omega), hx]
    · have hn : ¬ OVP D l h kn i := fun g => hx (oi.1 g).1
      rw [decide_eq_false hn]
      simp (config := { maxSteps := 1000000 }) only [RUN, PATHS, BASE, FA, POL, start_tm, Heap.empty, reduceIte, Nat.reduceLT, Nat.reduceLeDiff, Nat.reduceEqDiff, Nat.reduceAdd, Nat.reduceSub, Nat.reduceMul, Nat.reduceBEq, Int.reduceLT, Int.reduceLE, Int.reduceEq, Int.reduceNeg, Int.reduceAdd, Int.reduceSub, Int.reduceMul, Bool.false_eq_true, Bool.not_true, Bool.not_false, decide_eq_true_eq, and_self, true_and, and_true, reduceCtorEq, ne_eq, not_false_eq_true, not_true_eq_false, decide_true, decide_false, or_false, false_or, NUM, SDON, cp, e1, List.length_map, Int.toNat_natCast, (show (0 : Int) ≤ i by omega), (show (i : Int) < D.ds.length by omega), hx]
/-- A duty of a farm that is overdue. -/
def OVF (D : Dis) (l : List Don) (f h kn : Int) (i : Nat) : Prop := OVP D l h kn i ∧ ∃ x, D.ds[i]? = some x ∧ x.fm = f
noncomputable instance (D : Dis) (l : List Don) (f h kn : Int) (i : Nat) : Decidable (OVF D l f h kn i) := Classical.propDecidable _
noncomputable def CNT (D : Dis) (l : List Don) (f h kn : Int) : Nat → Int
  | 0 => 0
  | j + 1 => CNT D l f h kn j + if OVF D l f h kn j then 1 else 0
theorem CNT_bd (D : Dis) (l : List Don) (f h kn : Int) : ∀ j, 0 ≤ CNT D l f h kn j ∧ CNT D l f h kn j ≤ j
  | 0 => by simp [CNT]
  | j + 1 => by
    have := CNT_bd D l f h kn j
    show 0 ≤ CNT D l f h kn j + _ ∧ CNT D l f h kn j + _ ≤ _
    split <;> omega
theorem c_rcount (D : Dis) (ws : List Wel) (l : List Don) (f h kn : Int) (hl : l.length ≤ 1000000) (hn : D.ds.length ≤ 10000) (hh : h ≤ D.hours - 1) : ap Try.prog pol 37 [dv D ws, .vs 4 (l.map don) none, I f, I h, I kn] = some (.ret (I (CNT D l f h kn D.ds.length))) := by
  rw [ap_eq _ Try.func37 rfl Try.ntmps37 Try.results37 (by kernel_rfl) rfl (by exact Nat.le_of_ble_eq_true rfl)]
  simp (config := { maxSteps := 1000000 }) only [RUN, PATHS, BASE, FA, POL, start_tm, Heap.empty, reduceIte, Nat.reduceLT, Nat.reduceLeDiff, Nat.reduceEqDiff, Nat.reduceAdd, Nat.reduceSub, Nat.reduceMul, Nat.reduceBEq, Int.reduceLT, Int.reduceLE, Int.reduceEq, Int.reduceNeg, Int.reduceAdd, Int.reduceSub, Int.reduceMul, Bool.false_eq_true, Bool.not_true, Bool.not_false, decide_eq_true_eq, and_self, true_and, and_true, reduceCtorEq, ne_eq, not_false_eq_true, not_true_eq_false, decide_true, decide_false, or_false, false_or, NUM]
  generalize hL : W _ (.loop _) _ = L
  obtain ⟨ex, s, rfl, rfl, h11, hd⟩ := loop_at hL (α := Nat) (fun j => D.ds.length - j)
    (fun s0 j s => j ≤ D.ds.length ∧ s.tmps 12 = I j ∧ s.tmps 11 = I (CNT D l f h kn j) ∧ s.tmps 5 = .bptr 0 5 0 0 ∧ s.boxes 5 = some (0, dc D ws) ∧ s.tmps 1 = .vs 4 (l.map don) none ∧ s.tmps 2 = I f ∧ s.tmps 3 = I h ∧ s.tmps 4 = I kn ∧ s.defers = [] ∧ s.fid = 0)
    (fun s0 ex s => ex = .exit 0 ∧ s.tmps 11 = I (CNT D l f h kn D.ds.length) ∧ s.defers = []) 0
    (by simp (config := { maxSteps := 1000000 }) only [RUN, PATHS, BASE, FA, POL, start_tm, Heap.empty, reduceIte, Nat.reduceLT, Nat.reduceLeDiff, Nat.reduceEqDiff, Nat.reduceAdd, Nat.reduceSub, Nat.reduceMul, Nat.reduceBEq, Int.reduceLT, Int.reduceLE, Int.reduceEq, Int.reduceNeg, Int.reduceAdd, Int.reduceSub, Int.reduceMul, Bool.false_eq_true, Bool.not_true, Bool.not_false, decide_eq_true_eq, and_self, true_and, and_true, reduceCtorEq, ne_eq, not_false_eq_true, not_true_eq_false, decide_true, decide_false, or_false, false_or]; exact ⟨by omega, by simp, by simp [CNT]⟩) (by
      rintro j s r hW ⟨hj, h12, h11, h5, hb, h1, h2, h3, h4, hd, hf⟩
      by_cases hp : j < D.ds.length
      rotate_left
      · simp (config := { maxSteps := 1000000 }) only [RUN, PATHS, BASE, FA, POL, start_tm, Heap.empty, reduceIte, Nat.reduceLT, Nat.reduceLeDiff, Nat.reduceEqDiff, Nat.reduceAdd, Nat.reduceSub, Nat.reduceMul, Nat.reduceBEq, Int.reduceLT, Int.reduceLE, Int.reduceEq, Int.reduceNeg, Int.reduceAdd, Int.reduceSub, Int.reduceMul, Bool.false_eq_true, Bool.not_true, Bool.not_false, decide_eq_true_eq, and_self, true_and, and_true, reduceCtorEq, ne_eq, not_false_eq_true, not_true_eq_false, decide_true, decide_false, or_false, false_or, h12, h5, hb, hd, hf, List.length_map, (show ¬ (j : Int) < D.ds.length by omega)] at hW
        subst hW
        have : j = D.ds.length := by omega
        subst this
        refine rd_exit ⟨rfl, ?_⟩
        simp (config := { maxSteps := 1000000 }) only [RUN, PATHS, BASE, FA, POL, start_tm, Heap.empty, reduceIte, Nat.reduceLT, Nat.reduceLeDiff, Nat.reduceEqDiff, Nat.reduceAdd, Nat.reduceSub, Nat.reduceMul, Nat.reduceBEq, Int.reduceLT, Int.reduceLE, Int.reduceEq, Int.reduceNeg, Int.reduceAdd, Int.reduceSub, Int.reduceMul, Bool.false_eq_true, Bool.not_true, Bool.not_false, decide_eq_true_eq, and_self, true_and, and_true, reduceCtorEq, ne_eq, not_false_eq_true, not_true_eq_false, decide_true, decide_false, or_false, false_or, h11, hd]
      have e0 : D.ds[j]? = some D.ds[j] := List.getElem?_eq_getElem hp
      have e1 := map_get (f := dty) e0
      have co := c_roverdue D ws l j h kn hl hh hp
      have cb := CNT_bd D l f h kn j
      have cs : CNT D l f h kn (j + 1) = CNT D l f h kn j + if OVF D l f h kn j then 1 else 0 := rfl
      have of : OVF D l f h kn j ↔ OVP D l h kn j ∧ D.ds[j].fm = f := by
        unfold OVF
        rw [e0]
        simp
      generalize D.ds[j] = x at *
      by_cases ho : OVP D l h kn j
      rotate_left
      · rw [decide_eq_false ho] at co
        rw [if_neg (fun g => ho (of.1 g).1), Int.add_zero] at cs
        simp (config := { maxSteps := 1000000 }) only [RUN, PATHS, BASE, FA, POL, start_tm, Heap.empty, reduceIte, Nat.reduceLT, Nat.reduceLeDiff, Nat.reduceEqDiff, Nat.reduceAdd, Nat.reduceSub, Nat.reduceMul, Nat.reduceBEq, Int.reduceLT, Int.reduceLE, Int.reduceEq, Int.reduceNeg, Int.reduceAdd, Int.reduceSub, Int.reduceMul, Bool.false_eq_true, Bool.not_true, Bool.not_false, decide_eq_true_eq, and_self, true_and, and_true, reduceCtorEq, ne_eq, not_false_eq_true, not_true_eq_false, decide_true, decide_false, or_false, false_or, NUM, SRCH, SFRM, SCRP, SRGT, SDTY, SWEL, SDON, h12, h11, h5, hb, h1, h2, h3, h4, hd, hf, co, e1, List.length_map, Int.toNat_natCast, (show (j : Int) < D.ds.length by omega), (show (0 : Int) ≤ j by omega), (i64_in (x := (j : Int) + 1) (by unfold I64; omega))] at hW
        subst hW
        refine rd_next (j + 1) ?_ (show D.ds.length - (j + 1) < D.ds.length - j by omega)
        simp (config := { maxSteps := 1000000 }) only [RUN, PATHS, BASE, FA, POL, start_tm, Heap.empty, reduceIte, Nat.reduceLT, Nat.reduceLeDiff, Nat.reduceEqDiff, Nat.reduceAdd, Nat.reduceSub, Nat.reduceMul, Nat.reduceBEq, Int.reduceLT, Int.reduceLE, Int.reduceEq, Int.reduceNeg, Int.reduceAdd, Int.reduceSub, Int.reduceMul, Bool.false_eq_true, Bool.not_true, Bool.not_false, decide_eq_true_eq, and_self, true_and, and_true, reduceCtorEq, ne_eq, not_false_eq_true, not_true_eq_false, decide_true, decide_false, or_false, false_or, h11, h5, hb, h1, h2, h3, h4, hd, cs]
        exact ⟨by omega, by simp⟩
      rw [decide_eq_true ho] at co
      by_cases hx : x.fm = f
      · rw [if_pos (of.2 ⟨ho, hx⟩)] at cs
        simp (config := { maxSteps := 1000000 }) only [RUN, PATHS, BASE, FA, POL, start_tm, Heap.empty, reduceIte, Nat.reduceLT, Nat.reduceLeDiff, Nat.reduceEqDiff, Nat.reduceAdd, Nat.reduceSub, Nat.reduceMul, Nat.reduceBEq, Int.reduceLT, Int.reduceLE, Int.reduceEq, Int.reduceNeg, Int.reduceAdd, Int.reduceSub, Int.reduceMul, Bool.false_eq_true, Bool.not_true, Bool.not_false, decide_eq_true_eq, and_self, true_and, and_true, reduceCtorEq, ne_eq, not_false_eq_true, not_true_eq_false, decide_true, decide_false, or_false, false_or, NUM, SRCH, SFRM, SCRP, SRGT, SDTY, SWEL, SDON, h12, h11, h5, hb, h1, h2, h3, h4, hd, hf, co, e1, hx, List.length_map, Int.toNat_natCast, (show (j : Int) < D.ds.length by omega), (show (0 : Int) ≤ j by omega), (i64_in (x := (j : Int) + 1) (by unfold I64; omega)), (i64_in (x := CNT D l f h kn j + 1) (by unfold I64; omega))] at hW
        subst hW
        refine rd_next (j + 1) ?_ (show D.ds.length - (j + 1) < D.ds.length - j by omega)
        simp (config := { maxSteps := 1000000 }) only [RUN, PATHS, BASE, FA, POL, start_tm, Heap.empty, reduceIte, Nat.reduceLT, Nat.reduceLeDiff, Nat.reduceEqDiff, Nat.reduceAdd, Nat.reduceSub, Nat.reduceMul, Nat.reduceBEq, Int.reduceLT, Int.reduceLE, Int.reduceEq, Int.reduceNeg, Int.reduceAdd, Int.reduceSub, Int.reduceMul, Bool.false_eq_true, Bool.not_true, Bool.not_false, decide_eq_true_eq, and_self, true_and, and_true, reduceCtorEq, ne_eq, not_false_eq_true, not_true_eq_false, decide_true, decide_false, or_false, false_or, h11, h5, hb, h1, h2, h3, h4, hd, cs]
        exact ⟨by omega, by simp⟩
      · rw [if_neg (fun g => hx (of.1 g).2), Int.add_zero] at cs
        simp (config := { maxSteps := 1000000 }) only [RUN, PATHS, BASE, FA, POL, start_tm, Heap.empty, reduceIte, Nat.reduceLT, Nat.reduceLeDiff, Nat.reduceEqDiff, Nat.reduceAdd, Nat.reduceSub, Nat.reduceMul, Nat.reduceBEq, Int.reduceLT, Int.reduceLE, Int.reduceEq, Int.reduceNeg, Int.reduceAdd, Int.reduceSub, Int.reduceMul, Bool.false_eq_true, Bool.not_true, Bool.not_false, decide_eq_true_eq, and_self, true_and, and_true, reduceCtorEq, ne_eq, not_false_eq_true, not_true_eq_false, decide_true, decide_false, or_false, false_or, NUM, SRCH, SFRM, SCRP, SRGT, SDTY, SWEL, SDON, h12, h11, h5, hb, h1, h2, h3, h4, hd, hf, co, e1, hx, List.length_map, Int.toNat_natCast, (show (j : Int) < D.ds.length by omega), (show (0 : Int) ≤ j by omega), (i64_in (x := (j : Int) + 1) (by unfold I64; omega))] at hW
        subst hW
        refine rd_next (j + 1) ?_ (show D.ds.length - (j + 1) < D.ds.length - j by omega)
        simp (config := { maxSteps := 1000000 }) only [RUN, PATHS, BASE, FA, POL, start_tm, Heap.empty, reduceIte, Nat.reduceLT, Nat.reduceLeDiff, Nat.reduceEqDiff, Nat.reduceAdd, Nat.reduceSub, Nat.reduceMul, Nat.reduceBEq, Int.reduceLT, Int.reduceLE, Int.reduceEq, Int.reduceNeg, Int.reduceAdd, Int.reduceSub, Int.reduceMul, Bool.false_eq_true, Bool.not_true, Bool.not_false, decide_eq_true_eq, and_self, true_and, and_true, reduceCtorEq, ne_eq, not_false_eq_true, not_true_eq_false, decide_true, decide_false, or_false, false_or, h11, h5, hb, h1, h2, h3, h4, hd, cs]
        exact ⟨by omega, by simp⟩)
  simp (config := { maxSteps := 1000000 }) only [RUN, PATHS, BASE, FA, POL, start_tm, Heap.empty, reduceIte, Nat.reduceLT, Nat.reduceLeDiff, Nat.reduceEqDiff, Nat.reduceAdd, Nat.reduceSub, Nat.reduceMul, Nat.reduceBEq, Int.reduceLT, Int.reduceLE, Int.reduceEq, Int.reduceNeg, Int.reduceAdd, Int.reduceSub, Int.reduceMul, Bool.false_eq_true, Bool.not_true, Bool.not_false, decide_eq_true_eq, and_self, true_and, and_true, reduceCtorEq, ne_eq, not_false_eq_true, not_true_eq_false, decide_true, decide_false, or_false, false_or, h11, hd]
end Go.Proofs.Ytaggpjlkapnonaa
