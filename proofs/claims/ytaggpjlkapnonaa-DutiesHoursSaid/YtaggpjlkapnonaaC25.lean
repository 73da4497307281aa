/-
  What becomes known later; which claims are suspended: what the laws compute.
-/
import Derived.Test.YtaggpjlkapnonaaC24
set_option linter.unusedSimpArgs false
set_option linter.unusedVariables false
set_option linter.unusedSectionVars false
namespace Go.Proofs.Ytaggpjlkapnonaa
open Go GoV
set_option maxRecDepth 100000

abbrev KNO (l : List Don) (kn : Int) : List Don := l.filter fun x => decide (x.kn ≤ kn)
theorem PERF_KNO (l : List Don) (kn k : Int) : PERF (KNO l kn) kn k = PERF l kn k := by
  unfold PERF
  generalize (none : Option Int) = o
  induction l generalizing o with
  | nil => rfl
  | cons x l ih =>
    by_cases h : x.kn ≤ kn
    · have : KNO (x :: l) kn = x :: KNO l kn := by unfold KNO; rw [List.filter_cons, if_pos (by simp [h])]
      rw [this, List.foldl_cons, List.foldl_cons]
      exact ih _
    · have : KNO (x :: l) kn = KNO l kn := by unfold KNO; rw [List.filter_cons, if_neg (by simp [h])]
      rw [this, List.foldl_cons]
      have : stp kn k o x = o := by unfold stp; rw [if_neg (fun g => h g.1)]
      rw [this]
      exact ih _
section
variable {D : Dis} {l m : List Don} {kn : Int} (e : ∀ k, PERF m kn k = PERF l kn k)
include e
theorem ENDP_eq (i : Nat) : ENDP D m kn i = ENDP D l kn i := by unfold ENDP; rw [e]
theorem OVP_eq (h : Int) (i : Nat) : OVP D m h kn i ↔ OVP D l h kn i := by unfold OVP; rw [ENDP_eq e]
theorem LTK_eq (h : Int) : ∀ j, LTK D m h kn j = LTK D l h kn j
  | 0 => rfl
  | j + 1 => by
    rw [LTK_succ, LTK_succ, LTK_eq h j]
    by_cases g : OVP D l h kn j
    · rw [if_pos g, if_pos ((OVP_eq e h j).2 g)]
    · rw [if_neg g, if_neg (fun q => g ((OVP_eq e h j).1 q))]
theorem PRS_eq (f : Int) : ∀ j, PRS D m kn f j = PRS D l kn f j
  | 0 => rfl
  | j + 1 => by unfold PRS; rw [PRS_eq f j, ENDP_eq e]
theorem FH_eq (f : Int) : ∀ j, FH D m f kn j = FH D l f kn j
  | 0 => rfl
  | j + 1 => by unfold FH; rw [FH_eq f j, ENDP_eq e]
theorem KEPT_eq (J : Nat) (cl : List Clm) : KEPT D m kn J cl = KEPT D l kn J cl := by
  unfold KEPT
  congr 1
  funext x
  rw [PRS_eq e]
end
theorem KNO_take {l : List Don} {kn : Int} {j : Nat} {x : Don} (e : l[j]? = some x) : KNO (l.take (j + 1)) kn = KNO (l.take j) kn ++ if x.kn ≤ kn then [x] else [] := by
  unfold KNO
  rw [List.take_add_one, e, List.filter_append]
  congr 1
  by_cases h : x.kn ≤ kn <;> simp [h]
section
variable (D : Dis) (ws : List Wel) (hr : ∀ x ∈ D.rs, x.OK) (l : List Don)
include hr
set_option maxHeartbeats 4000000 in
theorem w_known (cl : List Clm) (f h kn rate : Int) : ap Try.prog pol 7 [dv D ws, .vs 4 (l.map don) none, .vs 5 (cl.map clm) none, I f, I h, I kn, I rate] = some (.ret (.bool true)) := by
  obtain ⟨b, eb, hb⟩ := c_few D ws l
  obtain ⟨b', eb', hb'⟩ := c_fewc D ws cl
  have c0 := d_check D ws hr l
  rw [ap_eq _ Try.func7 rfl Try.ntmps7 Try.results7 (by kernel_rfl) rfl (by exact Nat.le_of_ble_eq_true rfl)]
  cases b with
  | false => simp (config := { maxSteps := 1000000 }) only [RUN, PATHS, BASE, FA, POL, start_tm, Heap.empty, reduceIte, Nat.reduceLT, Nat.reduceLeDiff, Nat.reduceEqDiff, Nat.reduceAdd, Nat.reduceSub, Nat.reduceMul, Nat.reduceBEq, Int.reduceLT, Int.reduceLE, Int.reduceEq, Int.reduceNeg, Int.reduceAdd, Int.reduceSub, Int.reduceMul, Bool.false_eq_true, Bool.not_true, Bool.not_false, decide_eq_true_eq, and_self, true_and, and_true, reduceCtorEq, ne_eq, not_false_eq_true, not_true_eq_false, decide_true, decide_false, or_false, false_or, NUM, SRCH, SFRM, SCRP, SRGT, SDTY, SWEL, SDON, SCLM, c_sane, eb]
  | true =>
  cases b' with
  | false => simp (config := { maxSteps := 1000000 }) only [RUN, PATHS, BASE, FA, POL, start_tm, Heap.empty, reduceIte, Nat.reduceLT, Nat.reduceLeDiff, Nat.reduceEqDiff, Nat.reduceAdd, Nat.reduceSub, Nat.reduceMul, Nat.reduceBEq, Int.reduceLT, Int.reduceLE, Int.reduceEq, Int.reduceNeg, Int.reduceAdd, Int.reduceSub, Int.reduceMul, Bool.false_eq_true, Bool.not_true, Bool.not_false, decide_eq_true_eq, and_self, true_and, and_true, reduceCtorEq, ne_eq, not_false_eq_true, not_true_eq_false, decide_true, decide_false, or_false, false_or, NUM, SRCH, SFRM, SCRP, SRGT, SDTY, SWEL, SDON, SCLM, c_sane, eb, eb']
  | true =>
  have ll := (hb rfl).1
  by_cases hd : DC D l = 0
  rotate_left
  · simp (config := { maxSteps := 1000000 }) only [RUN, PATHS, BASE, FA, POL, start_tm, Heap.empty, reduceIte, Nat.reduceLT, Nat.reduceLeDiff, Nat.reduceEqDiff, Nat.reduceAdd, Nat.reduceSub, Nat.reduceMul, Nat.reduceBEq, Int.reduceLT, Int.reduceLE, Int.reduceEq, Int.reduceNeg, Int.reduceAdd, Int.reduceSub, Int.reduceMul, Bool.false_eq_true, Bool.not_true, Bool.not_false, decide_eq_true_eq, and_self, true_and, and_true, reduceCtorEq, ne_eq, not_false_eq_true, not_true_eq_false, decide_true, decide_false, or_false, false_or, NUM, SRCH, SFRM, SCRP, SRGT, SDTY, SWEL, SDON, SCLM, c_sane, eb, eb', c0, hd]
  simp (config := { maxSteps := 1000000 }) only [RUN, PATHS, BASE, FA, POL, start_tm, Heap.empty, reduceIte, Nat.reduceLT, Nat.reduceLeDiff, Nat.reduceEqDiff, Nat.reduceAdd, Nat.reduceSub, Nat.reduceMul, Nat.reduceBEq, Int.reduceLT, Int.reduceLE, Int.reduceEq, Int.reduceNeg, Int.reduceAdd, Int.reduceSub, Int.reduceMul, Bool.false_eq_true, Bool.not_true, Bool.not_false, decide_eq_true_eq, and_self, true_and, and_true, reduceCtorEq, ne_eq, not_false_eq_true, not_true_eq_false, decide_true, decide_false, or_false, false_or, NUM, SRCH, SFRM, SCRP, SRGT, SDTY, SWEL, SDON, SCLM, c_sane, eb, eb', c0, hd, List.length_map]
  generalize hL : W _ (.loop _) _ = L
  obtain ⟨ex, s, rfl, rfl, h15, hrr, g1, g2, g3, g4, g5, g6, g7, g8, hd2, hf⟩ := loop_at hL (α := Nat) (fun j => l.length - j)
    (fun s0 j s => j ≤ l.length ∧ s.tmps 50 = I j ∧ s.tmps 49 = I l.length ∧ s.tmps 48 = .vs 4 (l.map don) none ∧ s.tmps 15 = .gsl 4 1 (KNO (l.take j) kn).length 0 (KNO (l.take j) kn).length ∧ s.H.rows 1 = some (.gro 4 ((KNO (l.take j) kn).map don) 0) ∧ s.tmps 7 = .bptr 0 7 0 0 ∧ s.boxes 7 = some (0, dc D ws) ∧ s.tmps 1 = .vs 4 (l.map don) none ∧ s.tmps 2 = .vs 5 (cl.map clm) none ∧ s.tmps 3 = I f ∧ s.tmps 4 = I h ∧ s.tmps 5 = I kn ∧ s.tmps 6 = I rate ∧ s.defers = [] ∧ s.fid = 0)
    (fun s0 ex s => ex = .exit 0 ∧ s.tmps 15 = .gsl 4 1 (KNO l kn).length 0 (KNO l kn).length ∧ s.H.rows 1 = some (.gro 4 ((KNO l kn).map don) 0) ∧ s.tmps 7 = .bptr 0 7 0 0 ∧ s.boxes 7 = some (0, dc D ws) ∧ s.tmps 1 = .vs 4 (l.map don) none ∧ s.tmps 2 = .vs 5 (cl.map clm) none ∧ s.tmps 3 = I f ∧ s.tmps 4 = I h ∧ s.tmps 5 = I kn ∧ s.tmps 6 = I rate ∧ s.defers = [] ∧ s.fid = 0) 0
    (by have l0 : KNO [] kn = [] := rfl
        simp (config := { maxSteps := 1000000 }) only [RUN, PATHS, BASE, FA, POL, start_tm, Heap.empty, reduceIte, Nat.reduceLT, Nat.reduceLeDiff, Nat.reduceEqDiff, Nat.reduceAdd, Nat.reduceSub, Nat.reduceMul, Nat.reduceBEq, Int.reduceLT, Int.reduceLE, Int.reduceEq, Int.reduceNeg, Int.reduceAdd, Int.reduceSub, Int.reduceMul, Bool.false_eq_true, Bool.not_true, Bool.not_false, decide_eq_true_eq, and_self, true_and, and_true, reduceCtorEq, ne_eq, not_false_eq_true, not_true_eq_false, decide_true, decide_false, or_false, false_or, List.take_zero, l0]; exact ⟨by omega, by simp⟩) (by
      rintro j s r hW ⟨hj, h50, h49, h48, h15, hrr, g1, g2, g3, g4, g5, g6, g7, g8, hd2, hf⟩
      by_cases hp : j < l.length
      rotate_left
      · simp (config := { maxSteps := 1000000 }) only [RUN, PATHS, BASE, FA, POL, start_tm, Heap.empty, reduceIte, Nat.reduceLT, Nat.reduceLeDiff, Nat.reduceEqDiff, Nat.reduceAdd, Nat.reduceSub, Nat.reduceMul, Nat.reduceBEq, Int.reduceLT, Int.reduceLE, Int.reduceEq, Int.reduceNeg, Int.reduceAdd, Int.reduceSub, Int.reduceMul, Bool.false_eq_true, Bool.not_true, Bool.not_false, decide_eq_true_eq, and_self, true_and, and_true, reduceCtorEq, ne_eq, not_false_eq_true, not_true_eq_false, decide_true, decide_false, or_false, false_or, NUM, h50, h49, hd2, hf, List.length_map, (show ¬ (j : Int) < l.length by omega)] at hW
        subst hW
        have : j = l.length := by omega
        subst this
        rw [List.take_length] at h15 hrr
        refine rd_exit ⟨rfl, ?_⟩
        simp (config := { maxSteps := 1000000 }) only [RUN, PATHS, BASE, FA, POL, start_tm, Heap.empty, reduceIte, Nat.reduceLT, Nat.reduceLeDiff, Nat.reduceEqDiff, Nat.reduceAdd, Nat.reduceSub, Nat.reduceMul, Nat.reduceBEq, Int.reduceLT, Int.reduceLE, Int.reduceEq, Int.reduceNeg, Int.reduceAdd, Int.reduceSub, Int.reduceMul, Bool.false_eq_true, Bool.not_true, Bool.not_false, decide_eq_true_eq, and_self, true_and, and_true, reduceCtorEq, ne_eq, not_false_eq_true, not_true_eq_false, decide_true, decide_false, or_false, false_or, h15, hrr, g1, g2, g3, g4, g5, g6, g7, g8, hd2]
      have e0 : l[j]? = some l[j] := List.getElem?_eq_getElem hp
      have e1 := map_get (f := don) e0
      have ls := KNO_take (kn := kn) e0
      have lk : (KNO (l.take j) kn).length ≤ j := Nat.le_trans (List.length_filter_le _ _) (by simp; omega)
      generalize l[j] = x at *
      generalize KNO (l.take j) kn = A at *
      by_cases hx : x.kn ≤ kn
      · rw [if_pos hx] at ls
        rcases hb7 : s.boxes 17 with _ | ⟨v7, c7⟩
        all_goals
          simp (config := { maxSteps := 1000000 }) only [RUN, PATHS, BASE, FA, POL, start_tm, Heap.empty, reduceIte, Nat.reduceLT, Nat.reduceLeDiff, Nat.reduceEqDiff, Nat.reduceAdd, Nat.reduceSub, Nat.reduceMul, Nat.reduceBEq, Int.reduceLT, Int.reduceLE, Int.reduceEq, Int.reduceNeg, Int.reduceAdd, Int.reduceSub, Int.reduceMul, Bool.false_eq_true, Bool.not_true, Bool.not_false, decide_eq_true_eq, and_self, true_and, and_true, reduceCtorEq, ne_eq, not_false_eq_true, not_true_eq_false, decide_true, decide_false, or_false, false_or, NUM, h50, h49, h48, h15, hrr, g1, g2, g3, g4, g5, g6, g7, g8, hd2, hf, hb7, e1, hx, List.length_map, Int.toNat_natCast, (show (j : Int) < l.length by omega), (show (0 : Int) ≤ j by omega), (i64_in (x := (j : Int) + 1) (by unfold I64; omega)), (show A.length + 1 ≤ 67108864 by omega)] at hW
          subst hW
          refine rd_next (j + 1) ?_ (show l.length - (j + 1) < l.length - j by omega)
          simp (config := { maxSteps := 1000000 }) only [RUN, PATHS, BASE, FA, POL, start_tm, Heap.empty, reduceIte, Nat.reduceLT, Nat.reduceLeDiff, Nat.reduceEqDiff, Nat.reduceAdd, Nat.reduceSub, Nat.reduceMul, Nat.reduceBEq, Int.reduceLT, Int.reduceLE, Int.reduceEq, Int.reduceNeg, Int.reduceAdd, Int.reduceSub, Int.reduceMul, Bool.false_eq_true, Bool.not_true, Bool.not_false, decide_eq_true_eq, and_self, true_and, and_true, reduceCtorEq, ne_eq, not_false_eq_true, not_true_eq_false, decide_true, decide_false, or_false, false_or, h49, h48, g1, g2, g3, g4, g5, g6, g7, g8, hd2, ls, List.map_append, List.length_append]
          exact ⟨by omega, by simp⟩
      · rw [if_neg hx, List.append_nil] at ls
        rcases hb7 : s.boxes 17 with _ | ⟨v7, c7⟩
        all_goals
          simp (config := { maxSteps := 1000000 }) only [RUN, PATHS, BASE, FA, POL, start_tm, Heap.empty, reduceIte, Nat.reduceLT, Nat.reduceLeDiff, Nat.reduceEqDiff, Nat.reduceAdd, Nat.reduceSub, Nat.reduceMul, Nat.reduceBEq, Int.reduceLT, Int.reduceLE, Int.reduceEq, Int.reduceNeg, Int.reduceAdd, Int.reduceSub, Int.reduceMul, Bool.false_eq_true, Bool.not_true, Bool.not_false, decide_eq_true_eq, and_self, true_and, and_true, reduceCtorEq, ne_eq, not_false_eq_true, not_true_eq_false, decide_true, decide_false, or_false, false_or, NUM, h50, h49, h48, h15, hrr, g1, g2, g3, g4, g5, g6, g7, g8, hd2, hf, hb7, e1, hx, List.length_map, Int.toNat_natCast, (show (j : Int) < l.length by omega), (show (0 : Int) ≤ j by omega), (i64_in (x := (j : Int) + 1) (by unfold I64; omega))] at hW
          subst hW
          refine rd_next (j + 1) ?_ (show l.length - (j + 1) < l.length - j by omega)
          simp (config := { maxSteps := 1000000 }) only [RUN, PATHS, BASE, FA, POL, start_tm, Heap.empty, reduceIte, Nat.reduceLT, Nat.reduceLeDiff, Nat.reduceEqDiff, Nat.reduceAdd, Nat.reduceSub, Nat.reduceMul, Nat.reduceBEq, Int.reduceLT, Int.reduceLE, Int.reduceEq, Int.reduceNeg, Int.reduceAdd, Int.reduceSub, Int.reduceMul, Bool.false_eq_true, Bool.not_true, Bool.not_false, decide_eq_true_eq, and_self, true_and, and_true, reduceCtorEq, ne_eq, not_false_eq_true, not_true_eq_false, decide_true, decide_false, or_false, false_or, h49, h48, h15, hrr, g1, g2, g3, g4, g5, g6, g7, g8, hd2, ls]
          exact ⟨by omega, by simp⟩)
  have tk : ((KNO l kn).map don).take (KNO l kn).length = (KNO l kn).map don := List.take_of_length_le (by simp)
  have hdm : DC D (KNO l kn) = 0 := DC_filter hd _
  have ep : ∀ k, PERF (KNO l kn) kn k = PERF l kn k := PERF_KNO l kn
  have lm : (KNO l kn).length ≤ 1000 := Nat.le_trans (List.length_filter_le _ _) ll
  have el : LATE D (KNO l kn) h kn = LATE D l h kn := by unfold LATE; rw [hdm, hd, LTK_eq ep]
  have ea : ACT D (KNO l kn) cl kn = ACT D l cl kn := by unfold ACT; rw [hdm, hd, KEPT_eq ep]
  have ef : FINE D (KNO l kn) f kn rate = FINE D l f kn rate := by unfold FINE; rw [hdm, hd, FH_eq ep]
  have c1 := d_late D ws hr l h kn
  have c2 := d_late D ws hr (KNO l kn) h kn
  have c3 := d_active D ws hr l cl kn
  have c4 := d_active D ws hr (KNO l kn) cl kn
  have c5 := d_fine D ws hr l f kn rate
  have c6 := d_fine D ws hr (KNO l kn) f kn rate
  rw [el] at c2
  rw [ea] at c4
  rw [ef] at c6
  generalize KNO l kn = m at *
  have sl : ∃ v, ov (LATE D l h kn).1 = v ∧ (v = .nils ∨ ∃ L : List Int, v = .vs 1 (L.map I) none) ∧ ap Try.prog pol 16 [v, v] = some (.ret (.bool true)) := by
    rcases LATE_cases D l h kn with ⟨_, _, _, hL⟩ | ⟨e, he, hL⟩
    · have so := c_same (LTK D l h kn D.ds.length) (LTK D l h kn D.ds.length) none none (by have := LTK_le hd h kn; omega) (by have := LTK_le hd h kn; omega)
      rw [decide_eq_true rfl] at so
      rw [hL]
      exact ⟨_, rfl, .inr ⟨_, rfl⟩, so⟩
    · rw [hL]
      exact ⟨_, rfl, .inl rfl, c_samenil⟩
  have sa : ∃ v, ovc (ACT D l cl kn).1 = v ∧ (v = .nils ∨ ∃ L : List Clm, v = .vs 5 (L.map clm) none) ∧ ap Try.prog pol 22 [v, v] = some (.ret (.bool true)) := by
    rcases ACT_cases D l cl kn with ⟨_, hc, _, hA⟩ | ⟨e, he, hA⟩
    · have so := c_samec (KEPT D l kn D.ds.length cl) none none (by have := KEPT_le hc l kn D.ds.length; omega)
      rw [hA]
      exact ⟨_, rfl, .inr ⟨_, rfl⟩, so⟩
    · rw [hA]
      exact ⟨_, rfl, .inl rfl, c_samecnil⟩
  obtain ⟨v, ev, hv, sv⟩ := sl
  obtain ⟨w, ew, hw, sw⟩ := sa
  rw [ev] at c1 c2
  rw [ew] at c3 c4
  rcases hv with rfl | ⟨L1, rfl⟩ <;> rcases hw with rfl | ⟨L2, rfl⟩
  all_goals simp (config := { maxSteps := 1000000 }) only [RUN, PATHS, BASE, FA, POL, start_tm, Heap.empty, reduceIte, Nat.reduceLT, Nat.reduceLeDiff, Nat.reduceEqDiff, Nat.reduceAdd, Nat.reduceSub, Nat.reduceMul, Nat.reduceBEq, Int.reduceLT, Int.reduceLE, Int.reduceEq, Int.reduceNeg, Int.reduceAdd, Int.reduceSub, Int.reduceMul, Bool.false_eq_true, Bool.not_true, Bool.not_false, decide_eq_true_eq, and_self, true_and, and_true, reduceCtorEq, ne_eq, not_false_eq_true, not_true_eq_false, decide_true, decide_false, or_false, false_or, NUM, SRCH, SFRM, SCRP, SRGT, SDTY, SWEL, SDON, SCLM, INTS, h15, hrr, g1, g2, g3, g4, g5, g6, g7, g8, hd2, hf, tk, c1, c2, c3, c4, c5, c6, sv, sw, List.length_map, Nat.zero_add, Nat.le_refl]
/-- Whether a farm's duties are among those of a list. -/
noncomputable def LF (D : Dis) (f : Int) (L : List Int) : Bool := L.any fun i => match D.ds[i.toNat]? with
  | some x => decide (x.fm = f)
  | none => false
omit hr in
theorem LF_take {f : Int} {L : List Int} {j k : Nat} {x : Dty} (e : L[j]? = some (k : Int)) (ex : D.ds[k]? = some x) : LF D f (L.take (j + 1)) = (LF D f (L.take j) || decide (x.fm = f)) := by
  unfold LF
  rw [List.take_add_one, e, List.any_append]
  simp [ex]
omit hr in
theorem LTK_mem {h kn : Int} {n : Nat} {i : Int} : i ∈ LTK D l h kn n ↔ ∃ k : Nat, i = k ∧ k < n ∧ OVP D l h kn k := by
  unfold LTK
  simp only [List.mem_map, List.mem_filter, List.mem_range, decide_eq_true_eq]
  constructor
  · rintro ⟨k, ⟨h1, h2⟩, rfl⟩; exact ⟨k, rfl, h1, h2⟩
  · rintro ⟨k, rfl, h1, h2⟩; exact ⟨k, ⟨h1, h2⟩, rfl⟩
omit hr in
theorem LF_free {f h kn : Int} : LF D f (LTK D l h kn D.ds.length) = !decide (FREE D l f h kn) := by
  by_cases g : FREE D l f h kn
  · rw [decide_eq_true g]
    unfold LF
    rw [Bool.not_true, List.any_eq_false]
    intro i hi
    obtain ⟨k, rfl, hk, ho⟩ := (LTK_mem D l).1 hi
    have ex : D.ds[k]? = some D.ds[k] := List.getElem?_eq_getElem hk
    rw [Int.toNat_natCast, ex]
    simp only [decide_eq_true_eq]
    intro hx
    exact g k hk ⟨ho, _, ex, hx⟩
  · rw [decide_eq_false g]
    unfold LF
    rw [Bool.not_false, List.any_eq_true]
    unfold FREE at g
    simp only [Classical.not_forall, Classical.not_not] at g
    obtain ⟨k, hk, ho, x, ex, hx⟩ := g
    exact ⟨k, (LTK_mem D l).2 ⟨k, rfl, hk, ho⟩, by rw [Int.toNat_natCast, ex]; exact decide_eq_true hx⟩
theorem c_overdue (f h kn : Int) (hd : DC D l = 0) (h1 : 0 ≤ h ∧ h ≤ D.hours - 1) (h2 : 0 ≤ kn ∧ kn ≤ 1048576) : ap Try.prog pol 24 [dv D ws, .vs 4 (l.map don) none, I f, I h, I kn] = some (.ret (.tup [.bool (!decide (FREE D l f h kn)), .bool true])) := by
  have c1 := d_late D ws hr l h kn
  have el : LATE D l h kn = (some (LTK D l h kn D.ds.length), 0) := by unfold LATE; rw [if_pos hd, if_pos ⟨h1, h2⟩]
  rw [el] at c1
  simp only [ov] at c1
  have ll := LTK_le hd h kn
  have lf := LF_free D l (f := f) (h := h) (kn := kn)
  have lm := fun i => LTK_mem D l (h := h) (kn := kn) (n := D.ds.length) (i := i)
  rw [← lf]
  generalize LTK D l h kn D.ds.length = A at *
  rw [ap_eq _ Try.func24 rfl Try.ntmps24 Try.results24 (by kernel_rfl) rfl (by exact Nat.le_of_ble_eq_true rfl)]
  simp (config := { maxSteps := 1000000 }) only [RUN, PATHS, BASE, FA, POL, start_tm, Heap.empty, reduceIte, Nat.reduceLT, Nat.reduceLeDiff, Nat.reduceEqDiff, Nat.reduceAdd, Nat.reduceSub, Nat.reduceMul, Nat.reduceBEq, Int.reduceLT, Int.reduceLE, Int.reduceEq, Int.reduceNeg, Int.reduceAdd, Int.reduceSub, Int.reduceMul, Bool.false_eq_true, Bool.not_true, Bool.not_false, decide_eq_true_eq, and_self, true_and, and_true, reduceCtorEq, ne_eq, not_false_eq_true, not_true_eq_false, decide_true, decide_false, or_false, false_or, NUM, SRCH, SFRM, SCRP, SRGT, SDTY, SWEL, SDON, SCLM, INTS, c1, List.length_map]
  generalize hL : W _ (.loop _) _ = L
  obtain ⟨ex, s, rfl, rfl, h10, h13, hd2⟩ := loop_at hL (α := Nat) (fun j => A.length - j)
    (fun s0 j s => j ≤ A.length ∧ s.tmps 26 = I j ∧ s.tmps 25 = I A.length ∧ s.tmps 24 = .vs 1 (A.map I) none ∧ s.tmps 10 = .bool (LF D f (A.take j)) ∧ s.tmps 13 = I 0 ∧ s.tmps 2 = I f ∧ s.tmps 5 = .bptr 0 5 0 0 ∧ s.boxes 5 = some (0, dc D ws) ∧ s.defers = [] ∧ s.fid = 0)
    (fun s0 ex s => ex = .exit 0 ∧ s.tmps 10 = .bool (LF D f A) ∧ s.tmps 13 = I 0 ∧ s.defers = []) 0
    (by have l0 : LF D f [] = false := rfl
        simp (config := { maxSteps := 1000000 }) only [RUN, PATHS, BASE, FA, POL, start_tm, Heap.empty, reduceIte, Nat.reduceLT, Nat.reduceLeDiff, Nat.reduceEqDiff, Nat.reduceAdd, Nat.reduceSub, Nat.reduceMul, Nat.reduceBEq, Int.reduceLT, Int.reduceLE, Int.reduceEq, Int.reduceNeg, Int.reduceAdd, Int.reduceSub, Int.reduceMul, Bool.false_eq_true, Bool.not_true, Bool.not_false, decide_eq_true_eq, and_self, true_and, and_true, reduceCtorEq, ne_eq, not_false_eq_true, not_true_eq_false, decide_true, decide_false, or_false, false_or, List.take_zero, l0]; exact ⟨by omega, by simp⟩) (by
      rintro j s r hW ⟨hj, h26, h25, h24, h10, h13, g2, g5, gb, hd2, hf⟩
      by_cases hp : j < A.length
      rotate_left
      · simp (config := { maxSteps := 1000000 }) only [RUN, PATHS, BASE, FA, POL, start_tm, Heap.empty, reduceIte, Nat.reduceLT, Nat.reduceLeDiff, Nat.reduceEqDiff, Nat.reduceAdd, Nat.reduceSub, Nat.reduceMul, Nat.reduceBEq, Int.reduceLT, Int.reduceLE, Int.reduceEq, Int.reduceNeg, Int.reduceAdd, Int.reduceSub, Int.reduceMul, Bool.false_eq_true, Bool.not_true, Bool.not_false, decide_eq_true_eq, and_self, true_and, and_true, reduceCtorEq, ne_eq, not_false_eq_true, not_true_eq_false, decide_true, decide_false, or_false, false_or, NUM, h26, h25, hd2, hf, List.length_map, (show ¬ (j : Int) < A.length by omega)] at hW
        subst hW
        have : j = A.length := by omega
        subst this
        rw [List.take_length] at h10
        refine rd_exit ⟨rfl, ?_⟩
        simp (config := { maxSteps := 1000000 }) only [RUN, PATHS, BASE, FA, POL, start_tm, Heap.empty, reduceIte, Nat.reduceLT, Nat.reduceLeDiff, Nat.reduceEqDiff, Nat.reduceAdd, Nat.reduceSub, Nat.reduceMul, Nat.reduceBEq, Int.reduceLT, Int.reduceLE, Int.reduceEq, Int.reduceNeg, Int.reduceAdd, Int.reduceSub, Int.reduceMul, Bool.false_eq_true, Bool.not_true, Bool.not_false, decide_eq_true_eq, and_self, true_and, and_true, reduceCtorEq, ne_eq, not_false_eq_true, not_true_eq_false, decide_true, decide_false, or_false, false_or, h10, h13, hd2]
      obtain ⟨k, hk, hkn, ho⟩ := (lm A[j]).1 (List.getElem_mem hp)
      have e0 : A[j]? = some (k : Int) := by rw [← hk]; exact List.getElem?_eq_getElem hp
      have e1 := ints_get e0
      have x0 : D.ds[k]? = some D.ds[k] := List.getElem?_eq_getElem hkn
      have x1 := map_get (f := dty) x0
      have lt := LF_take D (f := f) e0 x0
      generalize D.ds[k] = x at *
      generalize LF D f (A.take j) = b0 at *
      cases b0 with
      | true =>
        rw [Bool.true_or] at lt
        simp (config := { maxSteps := 1000000 }) only [RUN, PATHS, BASE, FA, POL, start_tm, Heap.empty, reduceIte, Nat.reduceLT, Nat.reduceLeDiff, Nat.reduceEqDiff, Nat.reduceAdd, Nat.reduceSub, Nat.reduceMul, Nat.reduceBEq, Int.reduceLT, Int.reduceLE, Int.reduceEq, Int.reduceNeg, Int.reduceAdd, Int.reduceSub, Int.reduceMul, Bool.false_eq_true, Bool.not_true, Bool.not_false, decide_eq_true_eq, and_self, true_and, and_true, reduceCtorEq, ne_eq, not_false_eq_true, not_true_eq_false, decide_true, decide_false, or_false, false_or, NUM, INTS, h26, h25, h24, h10, h13, g2, g5, gb, hd2, hf, e1, x1, List.length_map, Int.toNat_natCast, (show (j : Int) < A.length by omega), (show (0 : Int) ≤ j by omega), (show ¬ (k : Int) < 0 by omega), (show ¬ (D.ds.length : Int) ≤ k by omega), (i64_in (x := (j : Int) + 1) (by unfold I64; omega))] at hW
        subst hW
        refine rd_next (j + 1) ?_ (show A.length - (j + 1) < A.length - j by omega)
        simp (config := { maxSteps := 1000000 }) only [RUN, PATHS, BASE, FA, POL, start_tm, Heap.empty, reduceIte, Nat.reduceLT, Nat.reduceLeDiff, Nat.reduceEqDiff, Nat.reduceAdd, Nat.reduceSub, Nat.reduceMul, Nat.reduceBEq, Int.reduceLT, Int.reduceLE, Int.reduceEq, Int.reduceNeg, Int.reduceAdd, Int.reduceSub, Int.reduceMul, Bool.false_eq_true, Bool.not_true, Bool.not_false, decide_eq_true_eq, and_self, true_and, and_true, reduceCtorEq, ne_eq, not_false_eq_true, not_true_eq_false, decide_true, decide_false, or_false, false_or, h25, h24, h13, g2, g5, gb, hd2, lt]
        exact ⟨by omega, by simp⟩
      | false =>
        rw [Bool.false_or] at lt
        simp (config := { maxSteps := 1000000 }) only [RUN, PATHS, BASE, FA, POL, start_tm, Heap.empty, reduceIte, Nat.reduceLT, Nat.reduceLeDiff, Nat.reduceEqDiff, Nat.reduceAdd, Nat.reduceSub, Nat.reduceMul, Nat.reduceBEq, Int.reduceLT, Int.reduceLE, Int.reduceEq, Int.reduceNeg, Int.reduceAdd, Int.reduceSub, Int.reduceMul, Bool.false_eq_true, Bool.not_true, Bool.not_false, decide_eq_true_eq, and_self, true_and, and_true, reduceCtorEq, ne_eq, not_false_eq_true, not_true_eq_false, decide_true, decide_false, or_false, false_or, NUM, INTS, h26, h25, h24, h10, h13, g2, g5, gb, hd2, hf, e1, x1, List.length_map, Int.toNat_natCast, (show (j : Int) < A.length by omega), (show (0 : Int) ≤ j by omega), (show (0 : Int) ≤ k by omega), (show (k : Int) < D.ds.length by omega), (show ¬ (k : Int) < 0 by omega), (show ¬ (D.ds.length : Int) ≤ k by omega), (i64_in (x := (j : Int) + 1) (by unfold I64; omega))] at hW
        subst hW
        refine rd_next (j + 1) ?_ (show A.length - (j + 1) < A.length - j by omega)
        simp (config := { maxSteps := 1000000 }) only [RUN, PATHS, BASE, FA, POL, start_tm, Heap.empty, reduceIte, Nat.reduceLT, Nat.reduceLeDiff, Nat.reduceEqDiff, Nat.reduceAdd, Nat.reduceSub, Nat.reduceMul, Nat.reduceBEq, Int.reduceLT, Int.reduceLE, Int.reduceEq, Int.reduceNeg, Int.reduceAdd, Int.reduceSub, Int.reduceMul, Bool.false_eq_true, Bool.not_true, Bool.not_false, decide_eq_true_eq, and_self, true_and, and_true, reduceCtorEq, ne_eq, not_false_eq_true, not_true_eq_false, decide_true, decide_false, or_false, false_or, h25, h24, h13, g2, g5, gb, hd2, lt]
        exact ⟨by omega, by simp⟩)
  simp (config := { maxSteps := 1000000 }) only [RUN, PATHS, BASE, FA, POL, start_tm, Heap.empty, reduceIte, Nat.reduceLT, Nat.reduceLeDiff, Nat.reduceEqDiff, Nat.reduceAdd, Nat.reduceSub, Nat.reduceMul, Nat.reduceBEq, Int.reduceLT, Int.reduceLE, Int.reduceEq, Int.reduceNeg, Int.reduceAdd, Int.reduceSub, Int.reduceMul, Bool.false_eq_true, Bool.not_true, Bool.not_false, decide_eq_true_eq, and_self, true_and, and_true, reduceCtorEq, ne_eq, not_false_eq_true, not_true_eq_false, decide_true, decide_false, or_false, false_or, h10, h13, hd2]
end
end Go.Proofs.Ytaggpjlkapnonaa
