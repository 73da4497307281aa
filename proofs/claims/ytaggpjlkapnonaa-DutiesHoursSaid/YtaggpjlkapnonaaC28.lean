/-
  A further entry: what the law computes.
-/
import Derived.Test.YtaggpjlkapnonaaC27
set_option linter.unusedSimpArgs false
set_option linter.unusedVariables false
set_option linter.unusedSectionVars false
namespace Go.Proofs.Ytaggpjlkapnonaa
open Go GoV
set_option maxRecDepth 100000

section
variable {D : Dis} {l m : List Don} (hs : ∀ y ∈ l, y ∈ m)
include hs
theorem PERF_mor {kn i a : Int} (e : PERF l kn i = some a) : ∃ b, PERF m kn i = some b ∧ b ≤ a := by
  obtain ⟨⟨y, hy, h1, h2, h3⟩, _⟩ := PERF_some e
  cases q : PERF m kn i with
  | none => exact absurd ⟨h1, h2⟩ (PERF_none q y (hs y hy))
  | some b => exact ⟨b, rfl, by rw [← h3]; exact (PERF_some q).2 y (hs y hy) h1 h2⟩
theorem ENDP_mor (kn : Int) (i : Nat) : ENDP D m kn i ≤ ENDP D l kn i := by
  unfold ENDP
  cases e : PERF l kn (i : Int) with
  | none =>
    simp only
    split <;> omega
  | some a =>
    obtain ⟨b, q, hb⟩ := PERF_mor hs e
    rw [q]
    simp only
    omega
theorem OVP_mor {h kn : Int} {i : Nat} (g : OVP D m h kn i) : OVP D l h kn i := by
  obtain ⟨x, e, h1, h2⟩ := g
  have := ENDP_mor (D := D) hs kn i
  exact ⟨x, e, h1, by omega⟩
theorem LTK_mor {h kn i : Int} {n : Nat} (g : i ∈ LTK D m h kn n) : i ∈ LTK D l h kn n := by
  obtain ⟨k, rfl, h1, h2⟩ := (LTK_mem D m).1 g
  exact (LTK_mem D l).2 ⟨k, rfl, h1, OVP_mor hs h2⟩
theorem KEPT_mor {kn : Int} {cl : List Clm} {x : Clm} (g : x ∈ KEPT D l kn D.ds.length cl) : x ∈ KEPT D m kn D.ds.length cl := by
  unfold KEPT at *
  obtain ⟨h1, h2⟩ := List.mem_filter.1 g
  refine List.mem_filter.2 ⟨h1, decide_eq_true (KEEP_iff.2 ?_)⟩
  have := KEEP_iff.1 (of_decide_eq_true h2)
  rintro i hi ⟨h3, h4⟩
  exact this i hi ⟨OVP_mor hs h3, h4⟩
theorem FH_mor (f kn : Int) : ∀ n, FH D m f kn n ≤ FH D l f kn n
  | 0 => Int.le_refl _
  | n + 1 => by
    have ih := FH_mor f kn n
    have eb := ENDP_mor (D := D) hs kn n
    cases e : D.ds[n]? with
    | none =>
      have e1 : FH D m f kn (n + 1) = FH D m f kn n := by
        show FH D m f kn n + _ = _
        rw [e]; simp
      have e2 : FH D l f kn (n + 1) = FH D l f kn n := by
        show FH D l f kn n + _ = _
        rw [e]; simp
      rw [e1, e2]; exact ih
    | some x =>
      rw [FH_succ e, FH_succ e]
      split <;> omega
end
/-- A value that is a list of numbers, as far as loops look at it. -/
def VL (v : PV) (A : List Int) : Prop := lenK (some (.slice 3)) v = some (I A.length) ∧ (0 < A.length → v = .vs 1 (A.map I) none) ∧ A.length ≤ 4096
def VC (v : PV) (A : List Clm) : Prop := lenK (some (.slice 52)) v = some (I A.length) ∧ (0 < A.length → v = .vs 5 (A.map clm) none) ∧ A.length ≤ 4096
theorem VL_nils : VL .nils [] := ⟨rfl, fun h => absurd h (by simp), by simp⟩
theorem VC_nils : VC .nils [] := ⟨rfl, fun h => absurd h (by simp), by simp⟩
theorem VL_ints {A : List Int} (h : A.length ≤ 4096) : VL (.vs 1 (A.map I) none) A := ⟨by rw [lenK_vs, List.length_map], fun _ => rfl, h⟩
theorem VC_clms {A : List Clm} (h : A.length ≤ 4096) : VC (.vs 5 (A.map clm) none) A := ⟨by rw [lenK_vs, List.length_map], fun _ => rfl, h⟩
theorem late_v (D : Dis) (l m : List Don) (hd : DC D l = 0) (hm : DC D m = 0) (hs : ∀ y ∈ l, y ∈ m) (h kn : Int) : ∃ (e : Int) (A B : List Int) (vA vB : PV), ov (LATE D l h kn).1 = vA ∧ (LATE D l h kn).2 = e ∧ ov (LATE D m h kn).1 = vB ∧ (LATE D m h kn).2 = e ∧ VL vA A ∧ VL vB B ∧ ∀ i ∈ B, i ∈ A := by
  unfold LATE
  rw [if_pos hd, if_pos hm]
  by_cases hc : (0 ≤ h ∧ h ≤ D.hours - 1) ∧ (0 ≤ kn ∧ kn ≤ 1048576)
  · rw [if_pos hc, if_pos hc]
    exact ⟨0, _, _, _, _, rfl, rfl, rfl, rfl, VL_ints (by have := LTK_le hd h kn; omega), VL_ints (by have := LTK_le hm h kn; omega), fun i hi => LTK_mor hs hi⟩
  · rw [if_neg hc, if_neg hc]
    exact ⟨1, [], [], _, _, rfl, rfl, rfl, rfl, VL_nils, VL_nils, fun i hi => hi⟩
theorem act_v (D : Dis) (l m : List Don) (hd : DC D l = 0) (hm : DC D m = 0) (hs : ∀ y ∈ l, y ∈ m) (cl : List Clm) (kn : Int) : ∃ (e : Int) (A B : List Clm) (vA vB : PV), ovc (ACT D l cl kn).1 = vA ∧ (ACT D l cl kn).2 = e ∧ ovc (ACT D m cl kn).1 = vB ∧ (ACT D m cl kn).2 = e ∧ VC vA A ∧ VC vB B ∧ ∀ i ∈ A, i ∈ B := by
  unfold ACT
  rw [if_pos hd, if_pos hm]
  by_cases hc : CC D cl = 0
  · rw [if_pos hc, if_pos hc]
    by_cases hk : 0 ≤ kn ∧ kn ≤ 1048576
    · rw [if_pos hk, if_pos hk]
      exact ⟨0, _, _, _, _, rfl, rfl, rfl, rfl, VC_clms (KEPT_le hc l kn _), VC_clms (KEPT_le hc m kn _), fun i hi => KEPT_mor hs hi⟩
    · rw [if_neg hk, if_neg hk]
      exact ⟨1, [], [], _, _, rfl, rfl, rfl, rfl, VC_nils, VC_nils, fun i hi => hi⟩
  · rw [if_neg hc, if_neg hc]
    exact ⟨_, [], [], _, _, rfl, rfl, rfl, rfl, VC_nils, VC_nils, fun i hi => hi⟩
theorem fine_v (D : Dis) (l m : List Don) (hd : DC D l = 0) (hm : DC D m = 0) (hs : ∀ y ∈ l, y ∈ m) (f kn rate : Int) : (FINE D m f kn rate).2 = (FINE D l f kn rate).2 ∧ (FINE D m f kn rate).1 ≤ (FINE D l f kn rate).1 := by
  unfold FINE
  rw [if_pos hd, if_pos hm]
  split
  · next hc => exact ⟨rfl, Int.mul_le_mul_of_nonneg_left (FH_mor hs f kn _) hc.2.2.1⟩
  · exact ⟨rfl, Int.le_refl _⟩
/-- A set of numbers as a map. -/
def ISET (A : List Int) (m : List (Int × PV)) : Prop := ∀ k, aget m k = if k ∈ A then some (.bool true) else none
theorem ISET_set {A : List Int} {m : List (Int × PV)} {j : Nat} {x : Int} (h : ISET (A.take j) m) (e : A[j]? = some x) : ISET (A.take (j + 1)) (aset m x (.bool true)) := by
  intro k
  rw [aget_aset, h k, List.take_add_one, e]
  simp only [Option.toList_some, List.mem_append, List.mem_singleton]
  by_cases hk : k = x <;> simp [hk]
def IROW (A : List Int) (r : Option Row) : Prop := ∃ m, r = some (.map (kmap (PV.int .i64) m)) ∧ ISET A m
theorem take_don (l : List Don) (k : Nat) : (l.map don).take k = (l.take k).map don := (List.map_take).symm
theorem drop_don (l : List Don) (k : Nat) : (l.map don).drop k = (l.drop k).map don := (List.map_drop).symm
theorem take_len (l : List Don) : (l.map don).take l.length = l.map don := List.take_of_length_le (by simp)
theorem fits_don (l : List Don) : ((l.map don).all fun e => e.fits 4) = true := List.all_eq_true.2 fun v hv => by
  obtain ⟨y, _, rfl⟩ := List.mem_map.1 hv
  rfl
section
variable (D : Dis) (ws : List Wel) (hr : ∀ x ∈ D.rs, x.OK) (l : List Don)
include hr
set_option maxHeartbeats 8000000 in
theorem w_more (x : Don) (cl : List Clm) (f h kn rate : Int) : ap Try.prog pol 8 [dv D ws, .vs 4 (l.map don) none, don x, .vs 5 (cl.map clm) none, I f, I h, I kn, I rate] = some (.ret (.bool true)) := by
  obtain ⟨b, eb, hb⟩ := c_few D ws l
  obtain ⟨b', eb', hb'⟩ := c_fewc D ws cl
  have c0 := d_check D ws hr l
  rw [ap_eq _ Try.func8 rfl Try.ntmps8 Try.results8 (by kernel_rfl) rfl (by exact Nat.le_of_ble_eq_true rfl)]
  cases b with
  | false => simp (config := { maxSteps := 1000000 }) only [RUN, PATHS, BASE, FA, POL, start_tm, Heap.empty, reduceIte, Nat.reduceLT, Nat.reduceLeDiff, Nat.reduceEqDiff, Nat.reduceAdd, Nat.reduceSub, Nat.reduceMul, Nat.reduceBEq, Int.reduceLT, Int.reduceLE, Int.reduceEq, Int.reduceNeg, Int.reduceAdd, Int.reduceSub, Int.reduceMul, Bool.false_eq_true, Bool.not_true, Bool.not_false, decide_eq_true_eq, and_self, true_and, and_true, reduceCtorEq, ne_eq, not_false_eq_true, not_true_eq_false, decide_true, decide_false, or_false, false_or, NUM, SRCH, SFRM, SCRP, SRGT, SDTY, SWEL, SDON, SCLM, c_sane, eb]
  | true =>
  cases b' with
  | false => simp (config := { maxSteps := 1000000 }) only [RUN, PATHS, BASE, FA, POL, start_tm, Heap.empty, reduceIte, Nat.reduceLT, Nat.reduceLeDiff, Nat.reduceEqDiff, Nat.reduceAdd, Nat.reduceSub, Nat.reduceMul, Nat.reduceBEq, Int.reduceLT, Int.reduceLE, Int.reduceEq, Int.reduceNeg, Int.reduceAdd, Int.reduceSub, Int.reduceMul, Bool.false_eq_true, Bool.not_true, Bool.not_false, decide_eq_true_eq, and_self, true_and, and_true, reduceCtorEq, ne_eq, not_false_eq_true, not_true_eq_false, decide_true, decide_false, or_false, false_or, NUM, SRCH, SFRM, SCRP, SRGT, SDTY, SWEL, SDON, SCLM, c_sane, eb, eb']
  | true =>
  have hb := (hb rfl).1
  have hb' := hb' rfl
  simp (config := { maxSteps := 1000000 }) only [RUN, PATHS, BASE, FA, POL, start_tm, Heap.empty, reduceIte, Nat.reduceLT, Nat.reduceLeDiff, Nat.reduceEqDiff, Nat.reduceAdd, Nat.reduceSub, Nat.reduceMul, Nat.reduceBEq, Int.reduceLT, Int.reduceLE, Int.reduceEq, Int.reduceNeg, Int.reduceAdd, Int.reduceSub, Int.reduceMul, Bool.false_eq_true, Bool.not_true, Bool.not_false, decide_eq_true_eq, and_self, true_and, and_true, reduceCtorEq, ne_eq, not_false_eq_true, not_true_eq_false, decide_true, decide_false, or_false, false_or, NUM, SRCH, SFRM, SCRP, SRGT, SDTY, SWEL, SDON, SCLM, c_sane, eb, eb', List.length_map]
  generalize hL : W _ (.loop _) _ = L
  obtain ⟨ex, s, rfl, rfl, ⟨k, h17, hk⟩, g1, g3, g4, g5, g6, g7, g8, g10, gb8, gb10, gn, gr, hd, hf⟩ := loop_at hL (α := Nat) (fun j => l.length - j)
    (fun s0 j s => j ≤ l.length ∧ s.tmps 17 = I j ∧ s.tmps 1 = .vs 4 (l.map don) none ∧ s.tmps 3 = .vs 5 (cl.map clm) none ∧ s.tmps 4 = I f ∧ s.tmps 5 = I h ∧ s.tmps 6 = I kn ∧ s.tmps 7 = I rate ∧ s.tmps 8 = .bptr 0 8 0 0 ∧ s.tmps 10 = .bptr 0 10 0 0 ∧ s.boxes 8 = some (0, dc D ws) ∧ s.boxes 10 = some (0, [I x.no, I x.du, I x.at_, I x.kn]) ∧ s.H.next = 1 ∧ s.H.rows = s0.H.rows ∧ s.defers = [] ∧ s.fid = 0)
    (fun s0 ex s => ex = .exit 0 ∧ (∃ k : Nat, s.tmps 17 = I k ∧ k ≤ l.length) ∧ s.tmps 1 = .vs 4 (l.map don) none ∧ s.tmps 3 = .vs 5 (cl.map clm) none ∧ s.tmps 4 = I f ∧ s.tmps 5 = I h ∧ s.tmps 6 = I kn ∧ s.tmps 7 = I rate ∧ s.tmps 8 = .bptr 0 8 0 0 ∧ s.tmps 10 = .bptr 0 10 0 0 ∧ s.boxes 8 = some (0, dc D ws) ∧ s.boxes 10 = some (0, [I x.no, I x.du, I x.at_, I x.kn]) ∧ s.H.next = 1 ∧ s.H.rows = s0.H.rows ∧ s.defers = [] ∧ s.fid = 0) 0
    (by simp (config := { maxSteps := 1000000 }) only [RUN, PATHS, BASE, FA, POL, start_tm, Heap.empty, reduceIte, Nat.reduceLT, Nat.reduceLeDiff, Nat.reduceEqDiff, Nat.reduceAdd, Nat.reduceSub, Nat.reduceMul, Nat.reduceBEq, Int.reduceLT, Int.reduceLE, Int.reduceEq, Int.reduceNeg, Int.reduceAdd, Int.reduceSub, Int.reduceMul, Bool.false_eq_true, Bool.not_true, Bool.not_false, decide_eq_true_eq, and_self, true_and, and_true, reduceCtorEq, ne_eq, not_false_eq_true, not_true_eq_false, decide_true, decide_false, or_false, false_or]; exact ⟨Nat.zero_le _, by simp⟩) (by
      rintro j s r hW ⟨hj, h17, h1, h3, h4, h5, h6, h7, h8, h10, hb8, hb10, hn, hrr, hd, hf⟩
      by_cases hp : j < l.length
      rotate_left
      · simp (config := { maxSteps := 1000000 }) only [RUN, PATHS, BASE, FA, POL, start_tm, Heap.empty, reduceIte, Nat.reduceLT, Nat.reduceLeDiff, Nat.reduceEqDiff, Nat.reduceAdd, Nat.reduceSub, Nat.reduceMul, Nat.reduceBEq, Int.reduceLT, Int.reduceLE, Int.reduceEq, Int.reduceNeg, Int.reduceAdd, Int.reduceSub, Int.reduceMul, Bool.false_eq_true, Bool.not_true, Bool.not_false, decide_eq_true_eq, and_self, true_and, and_true, reduceCtorEq, ne_eq, not_false_eq_true, not_true_eq_false, decide_true, decide_false, or_false, false_or, NUM, h17, h1, h10, hb10, hd, hf, List.length_map, (show ¬ (j : Int) < l.length by omega)] at hW
        subst hW
        refine rd_exit ⟨rfl, ⟨j, ?_, hj⟩, ?_⟩
        · simp (config := { maxSteps := 1000000 }) only [RUN, PATHS, BASE, FA, POL, start_tm, Heap.empty, reduceIte, Nat.reduceLT, Nat.reduceLeDiff, Nat.reduceEqDiff, Nat.reduceAdd, Nat.reduceSub, Nat.reduceMul, Nat.reduceBEq, Int.reduceLT, Int.reduceLE, Int.reduceEq, Int.reduceNeg, Int.reduceAdd, Int.reduceSub, Int.reduceMul, Bool.false_eq_true, Bool.not_true, Bool.not_false, decide_eq_true_eq, and_self, true_and, and_true, reduceCtorEq, ne_eq, not_false_eq_true, not_true_eq_false, decide_true, decide_false, or_false, false_or, h17]
        · simp (config := { maxSteps := 1000000 }) only [RUN, PATHS, BASE, FA, POL, start_tm, Heap.empty, reduceIte, Nat.reduceLT, Nat.reduceLeDiff, Nat.reduceEqDiff, Nat.reduceAdd, Nat.reduceSub, Nat.reduceMul, Nat.reduceBEq, Int.reduceLT, Int.reduceLE, Int.reduceEq, Int.reduceNeg, Int.reduceAdd, Int.reduceSub, Int.reduceMul, Bool.false_eq_true, Bool.not_true, Bool.not_false, decide_eq_true_eq, and_self, true_and, and_true, reduceCtorEq, ne_eq, not_false_eq_true, not_true_eq_false, decide_true, decide_false, or_false, false_or, h1, h3, h4, h5, h6, h7, h8, h10, hb8, hb10, hn, hrr, hd]
      have e0 : l[j]? = some l[j] := List.getElem?_eq_getElem hp
      have e1 := map_get (f := don) e0
      generalize l[j] = y at *
      by_cases hy : y.no < x.no
      · simp (config := { maxSteps := 1000000 }) only [RUN, PATHS, BASE, FA, POL, start_tm, Heap.empty, reduceIte, Nat.reduceLT, Nat.reduceLeDiff, Nat.reduceEqDiff, Nat.reduceAdd, Nat.reduceSub, Nat.reduceMul, Nat.reduceBEq, Int.reduceLT, Int.reduceLE, Int.reduceEq, Int.reduceNeg, Int.reduceAdd, Int.reduceSub, Int.reduceMul, Bool.false_eq_true, Bool.not_true, Bool.not_false, decide_eq_true_eq, and_self, true_and, and_true, reduceCtorEq, ne_eq, not_false_eq_true, not_true_eq_false, decide_true, decide_false, or_false, false_or, NUM, h17, h1, h10, hb10, hd, hf, e1, hy, List.length_map, Int.toNat_natCast, (show (j : Int) < l.length by omega), (show (0 : Int) ≤ j by omega), (i64_in (x := (j : Int) + 1) (by unfold I64; omega))] at hW
        subst hW
        refine rd_next (j + 1) ?_ (show l.length - (j + 1) < l.length - j by omega)
        simp (config := { maxSteps := 1000000 }) only [RUN, PATHS, BASE, FA, POL, start_tm, Heap.empty, reduceIte, Nat.reduceLT, Nat.reduceLeDiff, Nat.reduceEqDiff, Nat.reduceAdd, Nat.reduceSub, Nat.reduceMul, Nat.reduceBEq, Int.reduceLT, Int.reduceLE, Int.reduceEq, Int.reduceNeg, Int.reduceAdd, Int.reduceSub, Int.reduceMul, Bool.false_eq_true, Bool.not_true, Bool.not_false, decide_eq_true_eq, and_self, true_and, and_true, reduceCtorEq, ne_eq, not_false_eq_true, not_true_eq_false, decide_true, decide_false, or_false, false_or, h1, h3, h4, h5, h6, h7, h8, h10, hb8, hb10, hn, hrr, hd]
        exact ⟨by omega, by simp⟩
      · simp (config := { maxSteps := 1000000 }) only [RUN, PATHS, BASE, FA, POL, start_tm, Heap.empty, reduceIte, Nat.reduceLT, Nat.reduceLeDiff, Nat.reduceEqDiff, Nat.reduceAdd, Nat.reduceSub, Nat.reduceMul, Nat.reduceBEq, Int.reduceLT, Int.reduceLE, Int.reduceEq, Int.reduceNeg, Int.reduceAdd, Int.reduceSub, Int.reduceMul, Bool.false_eq_true, Bool.not_true, Bool.not_false, decide_eq_true_eq, and_self, true_and, and_true, reduceCtorEq, ne_eq, not_false_eq_true, not_true_eq_false, decide_true, decide_false, or_false, false_or, NUM, h17, h1, h10, hb10, hd, hf, e1, hy, List.length_map, Int.toNat_natCast, (show (j : Int) < l.length by omega), (show (0 : Int) ≤ j by omega)] at hW
        subst hW
        refine rd_exit ⟨rfl, ⟨j, ?_, hj⟩, ?_⟩
        · simp (config := { maxSteps := 1000000 }) only [RUN, PATHS, BASE, FA, POL, start_tm, Heap.empty, reduceIte, Nat.reduceLT, Nat.reduceLeDiff, Nat.reduceEqDiff, Nat.reduceAdd, Nat.reduceSub, Nat.reduceMul, Nat.reduceBEq, Int.reduceLT, Int.reduceLE, Int.reduceEq, Int.reduceNeg, Int.reduceAdd, Int.reduceSub, Int.reduceMul, Bool.false_eq_true, Bool.not_true, Bool.not_false, decide_eq_true_eq, and_self, true_and, and_true, reduceCtorEq, ne_eq, not_false_eq_true, not_true_eq_false, decide_true, decide_false, or_false, false_or, h17]
        · simp (config := { maxSteps := 1000000 }) only [RUN, PATHS, BASE, FA, POL, start_tm, Heap.empty, reduceIte, Nat.reduceLT, Nat.reduceLeDiff, Nat.reduceEqDiff, Nat.reduceAdd, Nat.reduceSub, Nat.reduceMul, Nat.reduceBEq, Int.reduceLT, Int.reduceLE, Int.reduceEq, Int.reduceNeg, Int.reduceAdd, Int.reduceSub, Int.reduceMul, Bool.false_eq_true, Bool.not_true, Bool.not_false, decide_eq_true_eq, and_self, true_and, and_true, reduceCtorEq, ne_eq, not_false_eq_true, not_true_eq_false, decide_true, decide_false, or_false, false_or, h1, h3, h4, h5, h6, h7, h8, h10, hb8, hb10, hn, hrr, hd])
  simp (config := { maxSteps := 1000000 }) only [RUN, PATHS, BASE, FA, POL, start_tm, Heap.empty, reduceIte, Nat.reduceLT, Nat.reduceLeDiff, Nat.reduceEqDiff, Nat.reduceAdd, Nat.reduceSub, Nat.reduceMul, Nat.reduceBEq, Int.reduceLT, Int.reduceLE, Int.reduceEq, Int.reduceNeg, Int.reduceAdd, Int.reduceSub, Int.reduceMul, Bool.false_eq_true, Bool.not_true, Bool.not_false, decide_eq_true_eq, and_self, true_and, and_true, reduceCtorEq, ne_eq, not_false_eq_true, not_true_eq_false, decide_true, decide_false, or_false, false_or] at gr
  have hlk : (l.take k).length = k := by simp; omega
  have hld : (l.drop k).length = l.length - k := by simp
  have hM : ∀ y ∈ l, y ∈ l.take k ++ x :: l.drop k := by
    intro y hy
    rw [← List.take_append_drop k l] at hy
    rcases List.mem_append.1 hy with h | h
    · exact List.mem_append_left _ h
    · exact List.mem_append_right _ (List.mem_cons_of_mem _ h)
  have qB : (l.take l.length).drop k = l.drop k := by rw [List.take_length]
  obtain ⟨M, eM⟩ : ∃ M, l.take k ++ x :: l.drop k = M := ⟨_, rfl⟩
  rw [eM] at hM
  have lM : M.length = l.length + 1 := by rw [← eM]; simp; omega
  have gA : (l.take k).length ≤ 1000 := by omega
  have gB : (l.drop k).length ≤ 1000 := by omega
  obtain ⟨A, hA⟩ : ∃ A, l.take k = A := ⟨_, rfl⟩
  obtain ⟨B, hB⟩ : ∃ B, l.drop k = B := ⟨_, rfl⟩
  rw [hA] at gA hlk eM
  rw [hB] at gB hld eM qB
  obtain ⟨bA, eA⟩ : ∃ b, (A.map don).isEmpty = b := ⟨_, rfl⟩
  obtain ⟨bB, eB⟩ : ∃ b, (B.map don).isEmpty = b := ⟨_, rfl⟩
  have hadd : ∀ r r' : Row, (s.H.add r).set 1 r' = s.H.add r' := by
    intro r r'
    unfold Heap.add Heap.set
    rw [gn]
    congr 1
    funext i
    simp only [upd_apply]
    split <;> rfl
  cases bA <;> cases bB
  all_goals
    simp (config := { maxSteps := 1000000 }) only [RUN, PATHS, BASE, FA, POL, start_tm, Heap.empty, reduceIte, Nat.reduceLT, Nat.reduceLeDiff, Nat.reduceEqDiff, Nat.reduceAdd, Nat.reduceSub, Nat.reduceMul, Nat.reduceBEq, Int.reduceLT, Int.reduceLE, Int.reduceEq, Int.reduceNeg, Int.reduceAdd, Int.reduceSub, Int.reduceMul, Bool.false_eq_true, Bool.not_true, Bool.not_false, decide_eq_true_eq, and_self, true_and, and_true, reduceCtorEq, ne_eq, not_false_eq_true, not_true_eq_false, decide_true, decide_false, or_false, false_or, NUM, h17, g1, g10, gb10, gn, gr, hd, hf, take_don, drop_don, take_len, hA, qB, eA, eB, Int.toNat_natCast, List.length_map, Option.getD_some, Option.getD_none, Option.isSome_none, Option.map_none, (show (0 : Int) ≤ k by omega), (show (k : Int) ≤ l.length by omega), imp_self, implies_true, Int.le_refl, or_self, fits_don, Nat.zero_add, List.length_cons, List.map_nil, List.map_cons, Nat.zero_le, List.length_append, (show A.length ≤ 67108864 by omega), (show A.length ≤ 67108863 by omega), (show A.length + 1 + B.length ≤ 67108864 by omega), (show 1 + B.length ≤ 67108864 by omega)]
    rw [if_pos (by kernel_rfl)]
    try simp only [hadd]
  all_goals first
    | rw [show A.map don ++ [don x] ++ B.map don = M.map don by rw [← eM]; simp, show PV.gsl 4 1 (A.length + 1 + B.length) 0 (A.length + 1 + B.length) = .gsl 4 1 M.length 0 M.length by rw [← eM]; simp [Nat.add_assoc, Nat.add_comm 1]]
    | (have b0 : B = [] := by simpa using eB
       subst b0
       rw [show A.map don ++ [don x] = M.map don by rw [← eM]; simp, show PV.gsl 4 1 (A.length + 1) 0 (A.length + 1) = .gsl 4 1 M.length 0 M.length by rw [← eM]; simp])
    | (have b0 : A = [] := by simpa using eA
       subst b0
       rw [show don x :: B.map don = M.map don by rw [← eM]; simp, show PV.gsl 4 1 (1 + B.length) 0 (1 + B.length) = .gsl 4 1 M.length 0 M.length by rw [← eM]; simp [Nat.add_comm 1]])
    | (have b0 : B = [] := by simpa using eB
       subst b0
       have b0 : A = [] := by simpa using eA
       subst b0
       rw [show [don x] = M.map don by rw [← eM]; simp, show PV.gsl 4 1 1 0 1 = .gsl 4 1 M.length 0 M.length by rw [← eM]; simp])
  all_goals
    have gn0 := gn
    have cm := d_check D ws hr M
    have tkM : (M.map don).take M.length = M.map don := List.take_of_length_le (by simp)
    by_cases hd0 : DC D l = 0
    rotate_left
    · simp (config := { maxSteps := 1000000 }) only [RUN, PATHS, BASE, FA, POL, start_tm, Heap.empty, reduceIte, Nat.reduceLT, Nat.reduceLeDiff, Nat.reduceEqDiff, Nat.reduceAdd, Nat.reduceSub, Nat.reduceMul, Nat.reduceBEq, Int.reduceLT, Int.reduceLE, Int.reduceEq, Int.reduceNeg, Int.reduceAdd, Int.reduceSub, Int.reduceMul, Bool.false_eq_true, Bool.not_true, Bool.not_false, decide_eq_true_eq, and_self, true_and, and_true, reduceCtorEq, ne_eq, not_false_eq_true, not_true_eq_false, decide_true, decide_false, or_false, false_or, NUM, SRCH, SFRM, SCRP, SRGT, SDTY, SWEL, SDON, SCLM, g1, g8, gb8, gn, gr, hd, hf, c0, hd0, List.length_map]
    by_cases hm0 : DC D M = 0
    rotate_left
    · simp (config := { maxSteps := 1000000 }) only [RUN, PATHS, BASE, FA, POL, start_tm, Heap.empty, reduceIte, Nat.reduceLT, Nat.reduceLeDiff, Nat.reduceEqDiff, Nat.reduceAdd, Nat.reduceSub, Nat.reduceMul, Nat.reduceBEq, Int.reduceLT, Int.reduceLE, Int.reduceEq, Int.reduceNeg, Int.reduceAdd, Int.reduceSub, Int.reduceMul, Bool.false_eq_true, Bool.not_true, Bool.not_false, decide_eq_true_eq, and_self, true_and, and_true, reduceCtorEq, ne_eq, not_false_eq_true, not_true_eq_false, decide_true, decide_false, or_false, false_or, NUM, SRCH, SFRM, SCRP, SRGT, SDTY, SWEL, SDON, SCLM, g1, g8, gb8, gn, gr, hd, hf, c0, hd0, cm, hm0, tkM, List.length_map, Nat.zero_add, Nat.le_refl]
    obtain ⟨e, A1, B1, vA, vB, l1, l2, l3, l4, ⟨la, lb, lc⟩, ⟨ka, kb, kc⟩, hsub⟩ := late_v D l M hd0 hm0 hM h kn
    obtain ⟨e', A2, B2, wA, wB, m1, m2, m3, m4, ⟨na, nb, nc⟩, ⟨oa, ob, oc⟩, hsub2⟩ := act_v D l M hd0 hm0 hM cl kn
    obtain ⟨fe, fle⟩ := fine_v D l M hd0 hm0 hM f kn rate
    have c1 := d_late D ws hr l h kn
    have c2 := d_late D ws hr M h kn
    have c3 := d_active D ws hr l cl kn
    have c4 := d_active D ws hr M cl kn
    have c5 := d_fine D ws hr l f kn rate
    have c6 := d_fine D ws hr M f kn rate
    rw [l1, l2] at c1
    rw [l3, l4] at c2
    rw [m1, m2] at c3
    rw [m3, m4] at c4
    rw [fe] at c6
    generalize (FINE D l f kn rate).1 = n1 at *
    generalize (FINE D M f kn rate).1 = n2 at *
    generalize (FINE D l f kn rate).2 = e'' at *
    simp (config := { maxSteps := 1000000 }) only [RUN, PATHS, BASE, FA, POL, start_tm, Heap.empty, reduceIte, Nat.reduceLT, Nat.reduceLeDiff, Nat.reduceEqDiff, Nat.reduceAdd, Nat.reduceSub, Nat.reduceMul, Nat.reduceBEq, Int.reduceLT, Int.reduceLE, Int.reduceEq, Int.reduceNeg, Int.reduceAdd, Int.reduceSub, Int.reduceMul, Bool.false_eq_true, Bool.not_true, Bool.not_false, decide_eq_true_eq, and_self, true_and, and_true, reduceCtorEq, ne_eq, not_false_eq_true, not_true_eq_false, decide_true, decide_false, or_false, false_or, NUM, SRCH, SFRM, SCRP, SRGT, SDTY, SWEL, SDON, SCLM, g1, g3, g4, g5, g6, g7, g8, gb8, gn, gr, hd, hf, c0, hd0, cm, hm0, c1, c2, la, tkM, List.length_map, Nat.zero_add, Nat.le_refl]
    generalize hL : W _ (.loop _) _ = L
    obtain ⟨ex, s1, rfl, rfl, g23, hir, g21, gn, g1, g3, g4, g6, g7, g8, g18, gb8, gr1, hd, hf⟩ := loop_at hL (α := Nat) (fun j => A1.length - j)
      (fun s0 j s => j ≤ A1.length ∧ s.tmps 113 = I j ∧ s.tmps 112 = I A1.length ∧ s.tmps 111 = vA ∧ s.tmps 23 = .map 2 ∧ IROW (A1.take j) (s.H.rows 2) ∧ s.tmps 21 = vB ∧ s.H.next = 3 ∧ s.tmps 1 = .vs 4 (l.map don) none ∧ s.tmps 3 = .vs 5 (cl.map clm) none ∧ s.tmps 4 = I f ∧ s.tmps 6 = I kn ∧ s.tmps 7 = I rate ∧ s.tmps 8 = .bptr 0 8 0 0 ∧ s.tmps 18 = .gsl 4 1 M.length 0 M.length ∧ s.boxes 8 = some (0, dc D ws) ∧ s.H.rows 1 = s0.H.rows 1 ∧ s.defers = [] ∧ s.fid = 0)
      (fun s0 ex s => ex = .exit 2 ∧ s.tmps 23 = .map 2 ∧ IROW A1 (s.H.rows 2) ∧ s.tmps 21 = vB ∧ s.H.next = 3 ∧ s.tmps 1 = .vs 4 (l.map don) none ∧ s.tmps 3 = .vs 5 (cl.map clm) none ∧ s.tmps 4 = I f ∧ s.tmps 6 = I kn ∧ s.tmps 7 = I rate ∧ s.tmps 8 = .bptr 0 8 0 0 ∧ s.tmps 18 = .gsl 4 1 M.length 0 M.length ∧ s.boxes 8 = some (0, dc D ws) ∧ s.H.rows 1 = s0.H.rows 1 ∧ s.defers = [] ∧ s.fid = 0) 0
      (by simp (config := { maxSteps := 1000000 }) only [RUN, PATHS, BASE, FA, POL, start_tm, Heap.empty, reduceIte, Nat.reduceLT, Nat.reduceLeDiff, Nat.reduceEqDiff, Nat.reduceAdd, Nat.reduceSub, Nat.reduceMul, Nat.reduceBEq, Int.reduceLT, Int.reduceLE, Int.reduceEq, Int.reduceNeg, Int.reduceAdd, Int.reduceSub, Int.reduceMul, Bool.false_eq_true, Bool.not_true, Bool.not_false, decide_eq_true_eq, and_self, true_and, and_true, reduceCtorEq, ne_eq, not_false_eq_true, not_true_eq_false, decide_true, decide_false, or_false, false_or, gn, g1, g3, g4, g6, g7, g8, gb8]; exact ⟨Nat.zero_le _, by simp, [], rfl, fun k => by simp [aget]⟩) (by
        rintro j s r hW ⟨hj, h113, h112, h111, h23, ⟨m, hrow, hset⟩, h21, hn, g1, g3, g4, g6, g7, g8, g18, gb8, gr1, hd, hf⟩
        by_cases hp : j < A1.length
        rotate_left
        · simp (config := { maxSteps := 1000000 }) only [RUN, PATHS, BASE, FA, POL, start_tm, Heap.empty, reduceIte, Nat.reduceLT, Nat.reduceLeDiff, Nat.reduceEqDiff, Nat.reduceAdd, Nat.reduceSub, Nat.reduceMul, Nat.reduceBEq, Int.reduceLT, Int.reduceLE, Int.reduceEq, Int.reduceNeg, Int.reduceAdd, Int.reduceSub, Int.reduceMul, Bool.false_eq_true, Bool.not_true, Bool.not_false, decide_eq_true_eq, and_self, true_and, and_true, reduceCtorEq, ne_eq, not_false_eq_true, not_true_eq_false, decide_true, decide_false, or_false, false_or, NUM, h113, h112, hd, hf, (show ¬ (j : Int) < A1.length by omega)] at hW
          subst hW
          have : j = A1.length := by omega
          subst this
          rw [List.take_length] at hset
          refine rd_exit ⟨rfl, ?_⟩
          simp (config := { maxSteps := 1000000 }) only [RUN, PATHS, BASE, FA, POL, start_tm, Heap.empty, reduceIte, Nat.reduceLT, Nat.reduceLeDiff, Nat.reduceEqDiff, Nat.reduceAdd, Nat.reduceSub, Nat.reduceMul, Nat.reduceBEq, Int.reduceLT, Int.reduceLE, Int.reduceEq, Int.reduceNeg, Int.reduceAdd, Int.reduceSub, Int.reduceMul, Bool.false_eq_true, Bool.not_true, Bool.not_false, decide_eq_true_eq, and_self, true_and, and_true, reduceCtorEq, ne_eq, not_false_eq_true, not_true_eq_false, decide_true, decide_false, or_false, false_or, h23, h21, hn, hrow, g1, g3, g4, g6, g7, g8, g18, gb8, gr1, hd]
          exact ⟨m, rfl, hset⟩
        have e0 : A1[j]? = some A1[j] := List.getElem?_eq_getElem hp
        have e1 := ints_get e0
        have hset2 := ISET_set hset e0
        rw [lb (by omega)] at h111
        generalize A1[j] = y at *
        simp (config := { maxSteps := 1000000 }) only [RUN, PATHS, BASE, FA, POL, start_tm, Heap.empty, reduceIte, Nat.reduceLT, Nat.reduceLeDiff, Nat.reduceEqDiff, Nat.reduceAdd, Nat.reduceSub, Nat.reduceMul, Nat.reduceBEq, Int.reduceLT, Int.reduceLE, Int.reduceEq, Int.reduceNeg, Int.reduceAdd, Int.reduceSub, Int.reduceMul, Bool.false_eq_true, Bool.not_true, Bool.not_false, decide_eq_true_eq, and_self, true_and, and_true, reduceCtorEq, ne_eq, not_false_eq_true, not_true_eq_false, decide_true, decide_false, or_false, false_or, NUM, INTS, MAPI, h113, h112, h111, h23, hrow, hd, hf, e1, List.length_map, Int.toNat_natCast, (show (j : Int) < A1.length by omega), (show (0 : Int) ≤ j by omega), (i64_in (x := (j : Int) + 1) (by unfold I64; omega))] at hW
        subst hW
        refine rd_next (j + 1) ?_ (show A1.length - (j + 1) < A1.length - j by omega)
        simp (config := { maxSteps := 1000000 }) only [RUN, PATHS, BASE, FA, POL, start_tm, Heap.empty, reduceIte, Nat.reduceLT, Nat.reduceLeDiff, Nat.reduceEqDiff, Nat.reduceAdd, Nat.reduceSub, Nat.reduceMul, Nat.reduceBEq, Int.reduceLT, Int.reduceLE, Int.reduceEq, Int.reduceNeg, Int.reduceAdd, Int.reduceSub, Int.reduceMul, Bool.false_eq_true, Bool.not_true, Bool.not_false, decide_eq_true_eq, and_self, true_and, and_true, reduceCtorEq, ne_eq, not_false_eq_true, not_true_eq_false, decide_true, decide_false, or_false, false_or, h112, h111, h23, h21, hn, g1, g3, g4, g6, g7, g8, g18, gb8, gr1, hd, lb (show 0 < A1.length by omega)]
        exact ⟨by omega, by simp, _, rfl, hset2⟩)
    obtain ⟨mm, hrow, hset⟩ := hir
    simp (config := { maxSteps := 1000000 }) only [RUN, PATHS, BASE, FA, POL, start_tm, Heap.empty, reduceIte, Nat.reduceLT, Nat.reduceLeDiff, Nat.reduceEqDiff, Nat.reduceAdd, Nat.reduceSub, Nat.reduceMul, Nat.reduceBEq, Int.reduceLT, Int.reduceLE, Int.reduceEq, Int.reduceNeg, Int.reduceAdd, Int.reduceSub, Int.reduceMul, Bool.false_eq_true, Bool.not_true, Bool.not_false, decide_eq_true_eq, and_self, true_and, and_true, reduceCtorEq, ne_eq, not_false_eq_true, not_true_eq_false, decide_true, decide_false, or_false, false_or, gn0] at gr1
    simp (config := { maxSteps := 1000000 }) only [RUN, PATHS, BASE, FA, POL, start_tm, Heap.empty, reduceIte, Nat.reduceLT, Nat.reduceLeDiff, Nat.reduceEqDiff, Nat.reduceAdd, Nat.reduceSub, Nat.reduceMul, Nat.reduceBEq, Int.reduceLT, Int.reduceLE, Int.reduceEq, Int.reduceNeg, Int.reduceAdd, Int.reduceSub, Int.reduceMul, Bool.false_eq_true, Bool.not_true, Bool.not_false, decide_eq_true_eq, and_self, true_and, and_true, reduceCtorEq, ne_eq, not_false_eq_true, not_true_eq_false, decide_true, decide_false, or_false, false_or, NUM, g23, g21, hd, hf, ka]
    generalize hL : W _ (.loop _) _ = L
    obtain ⟨ex, s2, rfl, rfl, gn, g1, g3, g4, g6, g7, g8, g18, gb8, gr2, hd, hf⟩ := loop_at hL (α := Nat) (fun j => B1.length - j)
      (fun s0 j s => j ≤ B1.length ∧ s.tmps 122 = I j ∧ s.tmps 121 = I B1.length ∧ s.tmps 120 = vB ∧ s.tmps 23 = .map 2 ∧ s.H.rows 2 = some (.map (kmap (PV.int .i64) mm)) ∧ s.H.next = 3 ∧ s.tmps 1 = .vs 4 (l.map don) none ∧ s.tmps 3 = .vs 5 (cl.map clm) none ∧ s.tmps 4 = I f ∧ s.tmps 6 = I kn ∧ s.tmps 7 = I rate ∧ s.tmps 8 = .bptr 0 8 0 0 ∧ s.tmps 18 = .gsl 4 1 M.length 0 M.length ∧ s.boxes 8 = some (0, dc D ws) ∧ s.H.rows 1 = s0.H.rows 1 ∧ s.defers = [] ∧ s.fid = 0)
      (fun s0 ex s => ex = .exit 4 ∧ s.H.next = 3 ∧ s.tmps 1 = .vs 4 (l.map don) none ∧ s.tmps 3 = .vs 5 (cl.map clm) none ∧ s.tmps 4 = I f ∧ s.tmps 6 = I kn ∧ s.tmps 7 = I rate ∧ s.tmps 8 = .bptr 0 8 0 0 ∧ s.tmps 18 = .gsl 4 1 M.length 0 M.length ∧ s.boxes 8 = some (0, dc D ws) ∧ s.H.rows 1 = s0.H.rows 1 ∧ s.defers = [] ∧ s.fid = 0) 0
      (by simp (config := { maxSteps := 1000000 }) only [RUN, PATHS, BASE, FA, POL, start_tm, Heap.empty, reduceIte, Nat.reduceLT, Nat.reduceLeDiff, Nat.reduceEqDiff, Nat.reduceAdd, Nat.reduceSub, Nat.reduceMul, Nat.reduceBEq, Int.reduceLT, Int.reduceLE, Int.reduceEq, Int.reduceNeg, Int.reduceAdd, Int.reduceSub, Int.reduceMul, Bool.false_eq_true, Bool.not_true, Bool.not_false, decide_eq_true_eq, and_self, true_and, and_true, reduceCtorEq, ne_eq, not_false_eq_true, not_true_eq_false, decide_true, decide_false, or_false, false_or, gn, g1, g3, g4, g6, g7, g8, g18, gb8, g23, hrow]; exact ⟨Nat.zero_le _, by simp⟩) (by
        rintro j s r hW ⟨hj, h122, h121, h120, h23, hrow, hn, g1, g3, g4, g6, g7, g8, g18, gb8, gr1, hd, hf⟩
        by_cases hp : j < B1.length
        rotate_left
        · simp (config := { maxSteps := 1000000 }) only [RUN, PATHS, BASE, FA, POL, start_tm, Heap.empty, reduceIte, Nat.reduceLT, Nat.reduceLeDiff, Nat.reduceEqDiff, Nat.reduceAdd, Nat.reduceSub, Nat.reduceMul, Nat.reduceBEq, Int.reduceLT, Int.reduceLE, Int.reduceEq, Int.reduceNeg, Int.reduceAdd, Int.reduceSub, Int.reduceMul, Bool.false_eq_true, Bool.not_true, Bool.not_false, decide_eq_true_eq, and_self, true_and, and_true, reduceCtorEq, ne_eq, not_false_eq_true, not_true_eq_false, decide_true, decide_false, or_false, false_or, NUM, h122, h121, hd, hf, (show ¬ (j : Int) < B1.length by omega)] at hW
          subst hW
          refine rd_exit ⟨rfl, ?_⟩
          simp (config := { maxSteps := 1000000 }) only [RUN, PATHS, BASE, FA, POL, start_tm, Heap.empty, reduceIte, Nat.reduceLT, Nat.reduceLeDiff, Nat.reduceEqDiff, Nat.reduceAdd, Nat.reduceSub, Nat.reduceMul, Nat.reduceBEq, Int.reduceLT, Int.reduceLE, Int.reduceEq, Int.reduceNeg, Int.reduceAdd, Int.reduceSub, Int.reduceMul, Bool.false_eq_true, Bool.not_true, Bool.not_false, decide_eq_true_eq, and_self, true_and, and_true, reduceCtorEq, ne_eq, not_false_eq_true, not_true_eq_false, decide_true, decide_false, or_false, false_or, hn, g1, g3, g4, g6, g7, g8, g18, gb8, gr1, hd]
        have e0 : B1[j]? = some B1[j] := List.getElem?_eq_getElem hp
        have e1 := ints_get e0
        have hy := hset B1[j]
        rw [if_pos (hsub _ (List.getElem_mem hp))] at hy
        rw [kb (by omega)] at h120
        generalize B1[j] = y at *
        simp (config := { maxSteps := 1000000 }) only [RUN, PATHS, BASE, FA, POL, start_tm, Heap.empty, reduceIte, Nat.reduceLT, Nat.reduceLeDiff, Nat.reduceEqDiff, Nat.reduceAdd, Nat.reduceSub, Nat.reduceMul, Nat.reduceBEq, Int.reduceLT, Int.reduceLE, Int.reduceEq, Int.reduceNeg, Int.reduceAdd, Int.reduceSub, Int.reduceMul, Bool.false_eq_true, Bool.not_true, Bool.not_false, decide_eq_true_eq, and_self, true_and, and_true, reduceCtorEq, ne_eq, not_false_eq_true, not_true_eq_false, decide_true, decide_false, or_false, false_or, NUM, INTS, MAPI, h122, h121, h120, h23, hrow, hd, hf, e1, hy, List.length_map, Int.toNat_natCast, (show (j : Int) < B1.length by omega), (show (0 : Int) ≤ j by omega), (i64_in (x := (j : Int) + 1) (by unfold I64; omega))] at hW
        subst hW
        refine rd_next (j + 1) ?_ (show B1.length - (j + 1) < B1.length - j by omega)
        simp (config := { maxSteps := 1000000 }) only [RUN, PATHS, BASE, FA, POL, start_tm, Heap.empty, reduceIte, Nat.reduceLT, Nat.reduceLeDiff, Nat.reduceEqDiff, Nat.reduceAdd, Nat.reduceSub, Nat.reduceMul, Nat.reduceBEq, Int.reduceLT, Int.reduceLE, Int.reduceEq, Int.reduceNeg, Int.reduceAdd, Int.reduceSub, Int.reduceMul, Bool.false_eq_true, Bool.not_true, Bool.not_false, decide_eq_true_eq, and_self, true_and, and_true, reduceCtorEq, ne_eq, not_false_eq_true, not_true_eq_false, decide_true, decide_false, or_false, false_or, h121, h120, h23, hrow, hn, g1, g3, g4, g6, g7, g8, g18, gb8, gr1, hd, kb (show 0 < B1.length by omega)]
        exact ⟨by omega, by simp⟩)
    simp (config := { maxSteps := 1000000 }) only [RUN, PATHS, BASE, FA, POL, start_tm, Heap.empty, reduceIte, Nat.reduceLT, Nat.reduceLeDiff, Nat.reduceEqDiff, Nat.reduceAdd, Nat.reduceSub, Nat.reduceMul, Nat.reduceBEq, Int.reduceLT, Int.reduceLE, Int.reduceEq, Int.reduceNeg, Int.reduceAdd, Int.reduceSub, Int.reduceMul, Bool.false_eq_true, Bool.not_true, Bool.not_false, decide_eq_true_eq, and_self, true_and, and_true, reduceCtorEq, ne_eq, not_false_eq_true, not_true_eq_false, decide_true, decide_false, or_false, false_or, gr1] at gr2
    have gn2 := gn
    simp (config := { maxSteps := 1000000 }) only [RUN, PATHS, BASE, FA, POL, start_tm, Heap.empty, reduceIte, Nat.reduceLT, Nat.reduceLeDiff, Nat.reduceEqDiff, Nat.reduceAdd, Nat.reduceSub, Nat.reduceMul, Nat.reduceBEq, Int.reduceLT, Int.reduceLE, Int.reduceEq, Int.reduceNeg, Int.reduceAdd, Int.reduceSub, Int.reduceMul, Bool.false_eq_true, Bool.not_true, Bool.not_false, decide_eq_true_eq, and_self, true_and, and_true, reduceCtorEq, ne_eq, not_false_eq_true, not_true_eq_false, decide_true, decide_false, or_false, false_or, NUM, SRCH, SFRM, SCRP, SRGT, SDTY, SWEL, SDON, SCLM, g1, g3, g4, g6, g7, g8, g18, gb8, gn, gr2, hd, hf, c3, c4, oa, tkM, List.length_map, Nat.zero_add, Nat.le_refl]
    generalize hL : W _ (.loop _) _ = L
    obtain ⟨ex, s3, rfl, rfl, g32, hir, g28, gn, g1, g4, g6, g7, g8, g18, gb8, gr3, hd, hf⟩ := loop_at hL (α := Nat) (fun j => B2.length - j)
      (fun s0 j s => j ≤ B2.length ∧ s.tmps 153 = I j ∧ s.tmps 152 = I B2.length ∧ s.tmps 151 = wB ∧ s.tmps 32 = .map 3 ∧ CROW (B2.take j) (s.H.rows 3) ∧ s.tmps 28 = wA ∧ s.H.next = 4 ∧ s.tmps 1 = .vs 4 (l.map don) none ∧ s.tmps 4 = I f ∧ s.tmps 6 = I kn ∧ s.tmps 7 = I rate ∧ s.tmps 8 = .bptr 0 8 0 0 ∧ s.tmps 18 = .gsl 4 1 M.length 0 M.length ∧ s.boxes 8 = some (0, dc D ws) ∧ s.H.rows 1 = s0.H.rows 1 ∧ s.defers = [] ∧ s.fid = 0)
      (fun s0 ex s => ex = .exit 6 ∧ s.tmps 32 = .map 3 ∧ CROW B2 (s.H.rows 3) ∧ s.tmps 28 = wA ∧ s.H.next = 4 ∧ s.tmps 1 = .vs 4 (l.map don) none ∧ s.tmps 4 = I f ∧ s.tmps 6 = I kn ∧ s.tmps 7 = I rate ∧ s.tmps 8 = .bptr 0 8 0 0 ∧ s.tmps 18 = .gsl 4 1 M.length 0 M.length ∧ s.boxes 8 = some (0, dc D ws) ∧ s.H.rows 1 = s0.H.rows 1 ∧ s.defers = [] ∧ s.fid = 0) 0
      (by simp (config := { maxSteps := 1000000 }) only [RUN, PATHS, BASE, FA, POL, start_tm, Heap.empty, reduceIte, Nat.reduceLT, Nat.reduceLeDiff, Nat.reduceEqDiff, Nat.reduceAdd, Nat.reduceSub, Nat.reduceMul, Nat.reduceBEq, Int.reduceLT, Int.reduceLE, Int.reduceEq, Int.reduceNeg, Int.reduceAdd, Int.reduceSub, Int.reduceMul, Bool.false_eq_true, Bool.not_true, Bool.not_false, decide_eq_true_eq, and_self, true_and, and_true, reduceCtorEq, ne_eq, not_false_eq_true, not_true_eq_false, decide_true, decide_false, or_false, false_or, gn, g1, g4, g6, g7, g8, g18, gb8]; exact ⟨Nat.zero_le _, by simp, [], rfl, fun k => by simp [aget]⟩) (by
        rintro j s r hW ⟨hj, h153, h152, h151, h32, ⟨m, hrow, hset⟩, h28, hn, g1, g4, g6, g7, g8, g18, gb8, gr1, hd, hf⟩
        by_cases hp : j < B2.length
        rotate_left
        · simp (config := { maxSteps := 1000000 }) only [RUN, PATHS, BASE, FA, POL, start_tm, Heap.empty, reduceIte, Nat.reduceLT, Nat.reduceLeDiff, Nat.reduceEqDiff, Nat.reduceAdd, Nat.reduceSub, Nat.reduceMul, Nat.reduceBEq, Int.reduceLT, Int.reduceLE, Int.reduceEq, Int.reduceNeg, Int.reduceAdd, Int.reduceSub, Int.reduceMul, Bool.false_eq_true, Bool.not_true, Bool.not_false, decide_eq_true_eq, and_self, true_and, and_true, reduceCtorEq, ne_eq, not_false_eq_true, not_true_eq_false, decide_true, decide_false, or_false, false_or, NUM, h153, h152, hd, hf, (show ¬ (j : Int) < B2.length by omega)] at hW
          subst hW
          have : j = B2.length := by omega
          subst this
          rw [List.take_length] at hset
          refine rd_exit ⟨rfl, ?_⟩
          simp (config := { maxSteps := 1000000 }) only [RUN, PATHS, BASE, FA, POL, start_tm, Heap.empty, reduceIte, Nat.reduceLT, Nat.reduceLeDiff, Nat.reduceEqDiff, Nat.reduceAdd, Nat.reduceSub, Nat.reduceMul, Nat.reduceBEq, Int.reduceLT, Int.reduceLE, Int.reduceEq, Int.reduceNeg, Int.reduceAdd, Int.reduceSub, Int.reduceMul, Bool.false_eq_true, Bool.not_true, Bool.not_false, decide_eq_true_eq, and_self, true_and, and_true, reduceCtorEq, ne_eq, not_false_eq_true, not_true_eq_false, decide_true, decide_false, or_false, false_or, h32, h28, hn, hrow, g1, g4, g6, g7, g8, g18, gb8, gr1, hd]
          exact ⟨m, rfl, hset⟩
        have e0 : B2[j]? = some B2[j] := List.getElem?_eq_getElem hp
        have e1 := map_get (f := clm) e0
        have hset2 := CSET_set hset e0
        rw [ob (by omega)] at h151
        generalize B2[j] = y at *
        rcases hb34 : s.boxes 34 with _ | ⟨v34, c34⟩
        all_goals
          simp (config := { maxSteps := 1000000 }) only [RUN, PATHS, BASE, FA, POL, start_tm, Heap.empty, reduceIte, Nat.reduceLT, Nat.reduceLeDiff, Nat.reduceEqDiff, Nat.reduceAdd, Nat.reduceSub, Nat.reduceMul, Nat.reduceBEq, Int.reduceLT, Int.reduceLE, Int.reduceEq, Int.reduceNeg, Int.reduceAdd, Int.reduceSub, Int.reduceMul, Bool.false_eq_true, Bool.not_true, Bool.not_false, decide_eq_true_eq, and_self, true_and, and_true, reduceCtorEq, ne_eq, not_false_eq_true, not_true_eq_false, decide_true, decide_false, or_false, false_or, NUM, MAPC, h153, h152, h151, h32, hrow, hd, hf, hb34, e1, List.length_map, Int.toNat_natCast, (show (j : Int) < B2.length by omega), (show (0 : Int) ≤ j by omega), (i64_in (x := (j : Int) + 1) (by unfold I64; omega))] at hW
          subst hW
          refine rd_next (j + 1) ?_ (show B2.length - (j + 1) < B2.length - j by omega)
          simp (config := { maxSteps := 1000000 }) only [RUN, PATHS, BASE, FA, POL, start_tm, Heap.empty, reduceIte, Nat.reduceLT, Nat.reduceLeDiff, Nat.reduceEqDiff, Nat.reduceAdd, Nat.reduceSub, Nat.reduceMul, Nat.reduceBEq, Int.reduceLT, Int.reduceLE, Int.reduceEq, Int.reduceNeg, Int.reduceAdd, Int.reduceSub, Int.reduceMul, Bool.false_eq_true, Bool.not_true, Bool.not_false, decide_eq_true_eq, and_self, true_and, and_true, reduceCtorEq, ne_eq, not_false_eq_true, not_true_eq_false, decide_true, decide_false, or_false, false_or, h152, h151, h32, h28, hn, g1, g4, g6, g7, g8, g18, gb8, gr1, hd, ob (show 0 < B2.length by omega)]
          exact ⟨by omega, by simp, _, rfl, hset2⟩)
    obtain ⟨mm3, hrow, hset⟩ := hir
    simp (config := { maxSteps := 1000000 }) only [RUN, PATHS, BASE, FA, POL, start_tm, Heap.empty, reduceIte, Nat.reduceLT, Nat.reduceLeDiff, Nat.reduceEqDiff, Nat.reduceAdd, Nat.reduceSub, Nat.reduceMul, Nat.reduceBEq, Int.reduceLT, Int.reduceLE, Int.reduceEq, Int.reduceNeg, Int.reduceAdd, Int.reduceSub, Int.reduceMul, Bool.false_eq_true, Bool.not_true, Bool.not_false, decide_eq_true_eq, and_self, true_and, and_true, reduceCtorEq, ne_eq, not_false_eq_true, not_true_eq_false, decide_true, decide_false, or_false, false_or, gr2, gn2] at gr3
    simp (config := { maxSteps := 1000000 }) only [RUN, PATHS, BASE, FA, POL, start_tm, Heap.empty, reduceIte, Nat.reduceLT, Nat.reduceLeDiff, Nat.reduceEqDiff, Nat.reduceAdd, Nat.reduceSub, Nat.reduceMul, Nat.reduceBEq, Int.reduceLT, Int.reduceLE, Int.reduceEq, Int.reduceNeg, Int.reduceAdd, Int.reduceSub, Int.reduceMul, Bool.false_eq_true, Bool.not_true, Bool.not_false, decide_eq_true_eq, and_self, true_and, and_true, reduceCtorEq, ne_eq, not_false_eq_true, not_true_eq_false, decide_true, decide_false, or_false, false_or, NUM, g32, g28, hd, hf, na]
    generalize hL : W _ (.loop _) _ = L
    obtain ⟨ex, s4, rfl, rfl, gn, g1, g4, g6, g7, g8, g18, gb8, gr4, hd, hf⟩ := loop_at hL (α := Nat) (fun j => A2.length - j)
      (fun s0 j s => j ≤ A2.length ∧ s.tmps 162 = I j ∧ s.tmps 161 = I A2.length ∧ s.tmps 160 = wA ∧ s.tmps 32 = .map 3 ∧ s.H.rows 3 = some (.map (kmap clm mm3)) ∧ s.H.next = 4 ∧ s.tmps 1 = .vs 4 (l.map don) none ∧ s.tmps 4 = I f ∧ s.tmps 6 = I kn ∧ s.tmps 7 = I rate ∧ s.tmps 8 = .bptr 0 8 0 0 ∧ s.tmps 18 = .gsl 4 1 M.length 0 M.length ∧ s.boxes 8 = some (0, dc D ws) ∧ s.H.rows 1 = s0.H.rows 1 ∧ s.defers = [] ∧ s.fid = 0)
      (fun s0 ex s => ex = .exit 8 ∧ s.H.next = 4 ∧ s.tmps 1 = .vs 4 (l.map don) none ∧ s.tmps 4 = I f ∧ s.tmps 6 = I kn ∧ s.tmps 7 = I rate ∧ s.tmps 8 = .bptr 0 8 0 0 ∧ s.tmps 18 = .gsl 4 1 M.length 0 M.length ∧ s.boxes 8 = some (0, dc D ws) ∧ s.H.rows 1 = s0.H.rows 1 ∧ s.defers = [] ∧ s.fid = 0) 0
      (by simp (config := { maxSteps := 1000000 }) only [RUN, PATHS, BASE, FA, POL, start_tm, Heap.empty, reduceIte, Nat.reduceLT, Nat.reduceLeDiff, Nat.reduceEqDiff, Nat.reduceAdd, Nat.reduceSub, Nat.reduceMul, Nat.reduceBEq, Int.reduceLT, Int.reduceLE, Int.reduceEq, Int.reduceNeg, Int.reduceAdd, Int.reduceSub, Int.reduceMul, Bool.false_eq_true, Bool.not_true, Bool.not_false, decide_eq_true_eq, and_self, true_and, and_true, reduceCtorEq, ne_eq, not_false_eq_true, not_true_eq_false, decide_true, decide_false, or_false, false_or, gn, g1, g4, g6, g7, g8, g18, gb8, g32, hrow]; exact ⟨Nat.zero_le _, by simp⟩) (by
        rintro j s r hW ⟨hj, h162, h161, h160, h32, hrow, hn, g1, g4, g6, g7, g8, g18, gb8, gr1, hd, hf⟩
        by_cases hp : j < A2.length
        rotate_left
        · simp (config := { maxSteps := 1000000 }) only [RUN, PATHS, BASE, FA, POL, start_tm, Heap.empty, reduceIte, Nat.reduceLT, Nat.reduceLeDiff, Nat.reduceEqDiff, Nat.reduceAdd, Nat.reduceSub, Nat.reduceMul, Nat.reduceBEq, Int.reduceLT, Int.reduceLE, Int.reduceEq, Int.reduceNeg, Int.reduceAdd, Int.reduceSub, Int.reduceMul, Bool.false_eq_true, Bool.not_true, Bool.not_false, decide_eq_true_eq, and_self, true_and, and_true, reduceCtorEq, ne_eq, not_false_eq_true, not_true_eq_false, decide_true, decide_false, or_false, false_or, NUM, h162, h161, hd, hf, (show ¬ (j : Int) < A2.length by omega)] at hW
          subst hW
          refine rd_exit ⟨rfl, ?_⟩
          simp (config := { maxSteps := 1000000 }) only [RUN, PATHS, BASE, FA, POL, start_tm, Heap.empty, reduceIte, Nat.reduceLT, Nat.reduceLeDiff, Nat.reduceEqDiff, Nat.reduceAdd, Nat.reduceSub, Nat.reduceMul, Nat.reduceBEq, Int.reduceLT, Int.reduceLE, Int.reduceEq, Int.reduceNeg, Int.reduceAdd, Int.reduceSub, Int.reduceMul, Bool.false_eq_true, Bool.not_true, Bool.not_false, decide_eq_true_eq, and_self, true_and, and_true, reduceCtorEq, ne_eq, not_false_eq_true, not_true_eq_false, decide_true, decide_false, or_false, false_or, hn, g1, g4, g6, g7, g8, g18, gb8, gr1, hd]
        have e0 : A2[j]? = some A2[j] := List.getElem?_eq_getElem hp
        have e1 := map_get (f := clm) e0
        have hy := hset A2[j]
        rw [if_pos (hsub2 _ (List.getElem_mem hp))] at hy
        rw [nb (by omega)] at h160
        generalize A2[j] = y at *
        rcases hb36 : s.boxes 36 with _ | ⟨v36, c36⟩
        all_goals
          simp (config := { maxSteps := 1000000 }) only [RUN, PATHS, BASE, FA, POL, start_tm, Heap.empty, reduceIte, Nat.reduceLT, Nat.reduceLeDiff, Nat.reduceEqDiff, Nat.reduceAdd, Nat.reduceSub, Nat.reduceMul, Nat.reduceBEq, Int.reduceLT, Int.reduceLE, Int.reduceEq, Int.reduceNeg, Int.reduceAdd, Int.reduceSub, Int.reduceMul, Bool.false_eq_true, Bool.not_true, Bool.not_false, decide_eq_true_eq, and_self, true_and, and_true, reduceCtorEq, ne_eq, not_false_eq_true, not_true_eq_false, decide_true, decide_false, or_false, false_or, NUM, MAPC, h162, h161, h160, h32, hrow, hd, hf, hb36, e1, hy, List.length_map, Int.toNat_natCast, (show (j : Int) < A2.length by omega), (show (0 : Int) ≤ j by omega), (i64_in (x := (j : Int) + 1) (by unfold I64; omega))] at hW
          subst hW
          refine rd_next (j + 1) ?_ (show A2.length - (j + 1) < A2.length - j by omega)
          simp (config := { maxSteps := 1000000 }) only [RUN, PATHS, BASE, FA, POL, start_tm, Heap.empty, reduceIte, Nat.reduceLT, Nat.reduceLeDiff, Nat.reduceEqDiff, Nat.reduceAdd, Nat.reduceSub, Nat.reduceMul, Nat.reduceBEq, Int.reduceLT, Int.reduceLE, Int.reduceEq, Int.reduceNeg, Int.reduceAdd, Int.reduceSub, Int.reduceMul, Bool.false_eq_true, Bool.not_true, Bool.not_false, decide_eq_true_eq, and_self, true_and, and_true, reduceCtorEq, ne_eq, not_false_eq_true, not_true_eq_false, decide_true, decide_false, or_false, false_or, h161, h160, h32, hrow, hn, g1, g4, g6, g7, g8, g18, gb8, gr1, hd, nb (show 0 < A2.length by omega)]
          exact ⟨by omega, by simp⟩)
    simp (config := { maxSteps := 1000000 }) only [RUN, PATHS, BASE, FA, POL, start_tm, Heap.empty, reduceIte, Nat.reduceLT, Nat.reduceLeDiff, Nat.reduceEqDiff, Nat.reduceAdd, Nat.reduceSub, Nat.reduceMul, Nat.reduceBEq, Int.reduceLT, Int.reduceLE, Int.reduceEq, Int.reduceNeg, Int.reduceAdd, Int.reduceSub, Int.reduceMul, Bool.false_eq_true, Bool.not_true, Bool.not_false, decide_eq_true_eq, and_self, true_and, and_true, reduceCtorEq, ne_eq, not_false_eq_true, not_true_eq_false, decide_true, decide_false, or_false, false_or, gr3] at gr4
    simp (config := { maxSteps := 1000000 }) only [RUN, PATHS, BASE, FA, POL, start_tm, Heap.empty, reduceIte, Nat.reduceLT, Nat.reduceLeDiff, Nat.reduceEqDiff, Nat.reduceAdd, Nat.reduceSub, Nat.reduceMul, Nat.reduceBEq, Int.reduceLT, Int.reduceLE, Int.reduceEq, Int.reduceNeg, Int.reduceAdd, Int.reduceSub, Int.reduceMul, Bool.false_eq_true, Bool.not_true, Bool.not_false, decide_eq_true_eq, and_self, true_and, and_true, reduceCtorEq, ne_eq, not_false_eq_true, not_true_eq_false, decide_true, decide_false, or_false, false_or, NUM, SRCH, SFRM, SCRP, SRGT, SDTY, SWEL, SDON, SCLM, g1, g4, g6, g7, g8, g18, gb8, gn, gr4, hd, hf, c5, c6, fle, tkM, List.length_map, Nat.zero_add, Nat.le_refl]
end
end Go.Proofs.Ytaggpjlkapnonaa
