/-
  Which duties are overdue: Late, walked.
-/
import Derived.Test.YtaggpjlkapnonaaC14
set_option linter.unusedSimpArgs false
set_option linter.unusedVariables false
set_option linter.unusedSectionVars false
namespace Go.Proofs.Ytaggpjlkapnonaa
open Go GoV
set_option maxRecDepth 100000

theorem ST2 : (∀ cs, strip0 (.rop cs) = .rop (strip0L cs)) ∧ (∀ f cs, strip0 (.fn f cs) = .fn f (strip0L cs)) ∧ (∀ H cs, strip1 H (.rop cs) = .rop (strip1L H cs)) ∧ (∀ H f cs, strip1 H (.fn f cs) = .fn f (strip1L H cs)) ∧ (∀ H cs, strip2 H (.rop cs) = .rop (strip2L H cs)) ∧ (∀ H f cs, strip2 H (.fn f cs) = .fn f (strip2L H cs)) ∧ (∀ sz es c, strip0 (.vs sz es c) = .vs sz (strip0L es) c) ∧ (∀ H sz es c, strip1 H (.vs sz es c) = .vs sz (strip1L H es) c) ∧ (∀ H sz es c, strip2 H (.vs sz es c) = .vs sz (strip2L H es) c) :=
  ⟨fun _ => rfl, fun _ _ => rfl, fun _ _ => rfl, fun _ _ _ => rfl, fun _ _ => rfl, fun _ _ _ => rfl, fun _ _ _ => rfl, fun _ _ _ _ => rfl, fun _ _ _ _ => rfl⟩
/-- The end of a duty's period. -/
def ENDP (D : Dis) (l : List Don) (kn : Int) (i : Nat) : Int := match PERF l kn (i : Int) with
  | none => D.hours
  | some a => min a D.hours
def OVP (D : Dis) (l : List Don) (h kn : Int) (i : Nat) : Prop := ∃ x, D.ds[i]? = some x ∧ x.due ≤ h ∧ h ≤ ENDP D l kn i - 1
noncomputable instance (D : Dis) (l : List Don) (h kn : Int) (i : Nat) : Decidable (OVP D l h kn i) := Classical.propDecidable _
noncomputable def LTK (D : Dis) (l : List Don) (h kn : Int) (j : Nat) : List Int := ((List.range j).filter fun i => OVP D l h kn i).map (fun i : Nat => (i : Int))
theorem LTK_succ (D : Dis) (l : List Don) (h kn : Int) (j : Nat) : LTK D l h kn (j + 1) = LTK D l h kn j ++ if OVP D l h kn j then [(j : Int)] else [] := by
  unfold LTK
  rw [List.range_succ, List.filter_append, List.map_append]
  congr 1
  by_cases g : OVP D l h kn j <;> simp [g]
theorem LTK_len (D : Dis) (l : List Don) (h kn : Int) (j : Nat) : (LTK D l h kn j).length ≤ j := by
  unfold LTK
  rw [List.length_map]
  exact Nat.le_trans (List.length_filter_le _ _) (by simp)
theorem OVP_iff {D : Dis} {l : List Don} {h kn : Int} {i : Nat} {x : Dty} (e : D.ds[i]? = some x) : OVP D l h kn i ↔ x.due ≤ h ∧ h ≤ ENDP D l kn i - 1 := by
  constructor
  · rintro ⟨y, ey, g⟩; rw [e] at ey; cases ey; exact g
  · intro g; exact ⟨x, e, g⟩
theorem PERF_char (kn k : Int) (l : List Don) : ∀ o : Option Int, (l.foldl (stp kn k) o = none → o = none ∧ ∀ x ∈ l, ¬ (x.kn ≤ kn ∧ x.du = k)) ∧
    (∀ a, l.foldl (stp kn k) o = some a → (o = some a ∨ ∃ x ∈ l, x.kn ≤ kn ∧ x.du = k ∧ x.at_ = a) ∧ (∀ b, o = some b → a ≤ b) ∧ ∀ x ∈ l, x.kn ≤ kn → x.du = k → a ≤ x.at_) := by
  induction l with
  | nil => intro o; exact ⟨fun h => ⟨h, by simp⟩, fun a h => ⟨.inl h, fun b hb => by rw [List.foldl_nil, hb] at h; cases h; exact Int.le_refl _, by simp⟩⟩
  | cons y l ih =>
    intro o
    rw [List.foldl_cons]
    obtain ⟨i1, i2⟩ := ih (stp kn k o y)
    constructor
    · intro h
      obtain ⟨h1, h2⟩ := i1 h
      unfold stp at h1
      split at h1
      · next hc =>
        cases o with
        | none => cases h1
        | some b =>
          simp only at h1
          by_cases hb : y.at_ < b
          · rw [if_pos hb] at h1; cases h1
          · rw [if_neg hb] at h1; cases h1
      · next hc =>
        refine ⟨h1, fun x hx => ?_⟩
        rcases List.mem_cons.1 hx with rfl | hx
        · exact hc
        · exact h2 x hx
    · intro a h
      obtain ⟨h1, h2, h3⟩ := i2 a h
      unfold stp at h1 h2
      by_cases hc : y.kn ≤ kn ∧ y.du = k
      · rw [if_pos hc] at h1 h2
        cases o with
        | none =>
          simp only at h1 h2
          have ha := h2 _ rfl
          refine ⟨.inr ?_, fun b hb => (by cases hb), fun x hx => ?_⟩
          · rcases h1 with h1 | ⟨x, hx, h1⟩
            · cases h1; exact ⟨y, by simp, hc.1, hc.2, rfl⟩
            · exact ⟨x, by simp [hx], h1⟩
          · rcases List.mem_cons.1 hx with rfl | hx
            · exact fun _ _ => ha
            · exact h3 x hx
        | some b =>
          simp only at h1 h2
          by_cases hb : y.at_ < b
          · rw [if_pos hb] at h1 h2
            have ha := h2 _ rfl
            refine ⟨.inr ?_, fun b' hb' => by cases hb'; omega, fun x hx => ?_⟩
            · rcases h1 with h1 | ⟨x, hx, h1⟩
              · cases h1; exact ⟨y, by simp, hc.1, hc.2, rfl⟩
              · exact ⟨x, by simp [hx], h1⟩
            · rcases List.mem_cons.1 hx with rfl | hx
              · exact fun _ _ => ha
              · exact h3 x hx
          · rw [if_neg hb] at h1 h2
            have ha := h2 _ rfl
            refine ⟨?_, fun b' hb' => by cases hb'; exact ha, fun x hx => ?_⟩
            · rcases h1 with h1 | ⟨x, hx, h1⟩
              · exact .inl h1
              · exact .inr ⟨x, by simp [hx], h1⟩
            · rcases List.mem_cons.1 hx with rfl | hx
              · exact fun _ _ => by omega
              · exact h3 x hx
      · rw [if_neg hc] at h1 h2
        refine ⟨?_, h2, fun x hx => ?_⟩
        · rcases h1 with h1 | ⟨x, hx, h1⟩
          · exact .inl h1
          · exact .inr ⟨x, by simp [hx], h1⟩
        · rcases List.mem_cons.1 hx with rfl | hx
          · exact fun a b => absurd ⟨a, b⟩ hc
          · exact h3 x hx
theorem PERF_none {l : List Don} {kn k : Int} (h : PERF l kn k = none) : ∀ x ∈ l, ¬ (x.kn ≤ kn ∧ x.du = k) := ((PERF_char kn k l none).1 h).2
theorem PERF_some {l : List Don} {kn k a : Int} (h : PERF l kn k = some a) : (∃ x ∈ l, x.kn ≤ kn ∧ x.du = k ∧ x.at_ = a) ∧ ∀ x ∈ l, x.kn ≤ kn → x.du = k → a ≤ x.at_ := by
  obtain ⟨h1, _, h3⟩ := (PERF_char kn k l none).2 a h
  refine ⟨?_, h3⟩
  rcases h1 with h1 | h1
  · cases h1
  · exact h1
theorem PERF_bd {nd : Int} {l : List Don} (h : DOK nd l) {kn k a : Int} (e : PERF l kn k = some a) : 0 ≤ a ∧ a ≤ 4096 := by
  obtain ⟨⟨x, hx, _, _, rfl⟩, _⟩ := PERF_some e
  obtain ⟨i, ei⟩ := List.mem_iff_getElem?.1 hx
  exact (h i x ei).2.2.1
def WG (w : PV) : Prop := WF w ∧ ∀ H, freezeArg0 H w = (w, H)
theorem c_periods (D : Dis) (q : Cp) (ws : PV) (hw : WG ws) (l : List Don) (c : Option Nat) (kn : Int) : ap Try.prog pol 28 [dx D q ws, .vs 4 (l.map don) c, I kn] = some (.ret (.fn 39 [.rop [.vs 4 (l.map don) c], .rop [I kn], .rop (dxc D q ws)])) := by
  rw [ap_eq _ Try.func28 rfl Try.ntmps28 Try.results28 (by kernel_rfl) rfl (by exact Nat.le_of_ble_eq_true rfl)]
  simp (config := { maxSteps := 1000000 }) only [RUN, PATHS, BASE, FA, POL, start_tm, Heap.empty, reduceIte, Nat.reduceLT, Nat.reduceLeDiff, Nat.reduceEqDiff, Nat.reduceAdd, Nat.reduceSub, Nat.reduceMul, Nat.reduceBEq, Int.reduceLT, Int.reduceLE, Int.reduceEq, Int.reduceNeg, Int.reduceAdd, Int.reduceSub, Int.reduceMul, Bool.false_eq_true, Bool.not_true, Bool.not_false, decide_eq_true_eq, and_self, true_and, and_true, reduceCtorEq, ne_eq, not_false_eq_true, not_true_eq_false, decide_true, decide_false, or_false, false_or, NUM, ST2, SRCH, SFRM, SCRP, SRGT, SDTY, SDON, hw.1.1, hw.1.2.1, hw.1.2.2, hw.2]
/-- What Late answers. -/
noncomputable def LATE (D : Dis) (l : List Don) (h kn : Int) : Option (List Int) × Int := if DC D l = 0 then (if (0 ≤ h ∧ h ≤ D.hours - 1) ∧ (0 ≤ kn ∧ kn ≤ 1048576) then (some (LTK D l h kn D.ds.length), 0) else (none, 1)) else (none, DC D l)
def ov : Option (List Int) → PV
  | none => .nils
  | some l => .vs 1 (l.map I) none
theorem DC_0 {D : Dis} {l : List Don} (h : DC D l = 0) : XC D = 0 ∧ l.length ≤ 512 ∧ DOK D.ds.length l := by
  unfold DC at h
  split at h
  · next h1 =>
    split at h
    · omega
    · split at h
      · exact ⟨h1, by omega, by assumption⟩
      · omega
  · next h1 => exact absurd h h1
set_option maxHeartbeats 8000000 in
theorem c_late (D : Dis) (hr : ∀ x ∈ D.rs, x.OK) (q : Cp) (ws : PV) (hw : WG ws) (l : List Don) (c : Option Nat) (h kn : Int) : ap Try.prog pol 12 [dx D q ws, .vs 4 (l.map don) c, I h, I kn] = some (.ret (.tup [ov (LATE D l h kn).1, I (LATE D l h kn).2])) := by
  have ck := c_dcheck D hr q ws l c
  have cp := c_periods D q ws hw l c kn
  have cn := c_in kn 0 1048576
  have ch := c_in h 0 (D.hours - 1)
  rw [ap_eq _ Try.func12 rfl Try.ntmps12 Try.results12 (by kernel_rfl) rfl (by exact Nat.le_of_ble_eq_true rfl)]
  by_cases hd : DC D l = 0
  rotate_left
  · have el : LATE D l h kn = (none, DC D l) := by unfold LATE; rw [if_neg hd]
    rw [el]
    simp only [ov]
    simp (config := { maxSteps := 1000000 }) only [RUN, PATHS, BASE, FA, POL, start_tm, Heap.empty, reduceIte, Nat.reduceLT, Nat.reduceLeDiff, Nat.reduceEqDiff, Nat.reduceAdd, Nat.reduceSub, Nat.reduceMul, Nat.reduceBEq, Int.reduceLT, Int.reduceLE, Int.reduceEq, Int.reduceNeg, Int.reduceAdd, Int.reduceSub, Int.reduceMul, Bool.false_eq_true, Bool.not_true, Bool.not_false, decide_eq_true_eq, and_self, true_and, and_true, reduceCtorEq, ne_eq, not_false_eq_true, not_true_eq_false, decide_true, decide_false, or_false, false_or, NUM, ST2, SRCH, SFRM, SCRP, SRGT, SDTY, SDON, hw.1.1, hw.1.2.1, hw.1.2.2, hw.2, ck, hd]
  obtain ⟨hX, hl, hok⟩ := DC_0 hd
  obtain ⟨hL, hK⟩ := XC_0 hX
  have hh := hK.1
  have lds := hL.2.2.2.2
  have hdu := hK.2.2.2.2.2.2.2
  by_cases h1 : 0 ≤ h ∧ h ≤ D.hours - 1
  rotate_left
  · have el : LATE D l h kn = (none, 1) := by unfold LATE; rw [if_pos hd, if_neg (fun g => h1 g.1)]
    rw [el]
    simp only [ov]
    rw [decide_eq_false h1] at ch
    simp (config := { maxSteps := 1000000 }) only [RUN, PATHS, BASE, FA, POL, start_tm, Heap.empty, reduceIte, Nat.reduceLT, Nat.reduceLeDiff, Nat.reduceEqDiff, Nat.reduceAdd, Nat.reduceSub, Nat.reduceMul, Nat.reduceBEq, Int.reduceLT, Int.reduceLE, Int.reduceEq, Int.reduceNeg, Int.reduceAdd, Int.reduceSub, Int.reduceMul, Bool.false_eq_true, Bool.not_true, Bool.not_false, decide_eq_true_eq, and_self, true_and, and_true, reduceCtorEq, ne_eq, not_false_eq_true, not_true_eq_false, decide_true, decide_false, or_false, false_or, NUM, ST2, SRCH, SFRM, SCRP, SRGT, SDTY, SDON, hw.1.1, hw.1.2.1, hw.1.2.2, hw.2, ck, hd, ch, i64_in (x := D.hours - 1) (by unfold I64; omega)]
  by_cases h2 : 0 ≤ kn ∧ kn ≤ 1048576
  rotate_left
  · have el : LATE D l h kn = (none, 1) := by unfold LATE; rw [if_pos hd, if_neg (fun g => h2 g.2)]
    rw [el]
    simp only [ov]
    rw [decide_eq_true h1] at ch
    rw [decide_eq_false h2] at cn
    simp (config := { maxSteps := 1000000 }) only [RUN, PATHS, BASE, FA, POL, start_tm, Heap.empty, reduceIte, Nat.reduceLT, Nat.reduceLeDiff, Nat.reduceEqDiff, Nat.reduceAdd, Nat.reduceSub, Nat.reduceMul, Nat.reduceBEq, Int.reduceLT, Int.reduceLE, Int.reduceEq, Int.reduceNeg, Int.reduceAdd, Int.reduceSub, Int.reduceMul, Bool.false_eq_true, Bool.not_true, Bool.not_false, decide_eq_true_eq, and_self, true_and, and_true, reduceCtorEq, ne_eq, not_false_eq_true, not_true_eq_false, decide_true, decide_false, or_false, false_or, NUM, ST2, SRCH, SFRM, SCRP, SRGT, SDTY, SDON, hw.1.1, hw.1.2.1, hw.1.2.2, hw.2, ck, hd, ch, cn, i64_in (x := D.hours - 1) (by unfold I64; omega)]
  have el : LATE D l h kn = (some (LTK D l h kn D.ds.length), 0) := by unfold LATE; rw [if_pos hd, if_pos ⟨h1, h2⟩]
  rw [el]
  simp only [ov]
  rw [decide_eq_true h1] at ch
  rw [decide_eq_true h2] at cn
  simp (config := { maxSteps := 1000000 }) only [RUN, PATHS, BASE, FA, POL, start_tm, Heap.empty, reduceIte, Nat.reduceLT, Nat.reduceLeDiff, Nat.reduceEqDiff, Nat.reduceAdd, Nat.reduceSub, Nat.reduceMul, Nat.reduceBEq, Int.reduceLT, Int.reduceLE, Int.reduceEq, Int.reduceNeg, Int.reduceAdd, Int.reduceSub, Int.reduceMul, Bool.false_eq_true, Bool.not_true, Bool.not_false, decide_eq_true_eq, and_self, true_and, and_true, reduceCtorEq, ne_eq, not_false_eq_true, not_true_eq_false, decide_true, decide_false, or_false, false_or, NUM, ST2, SRCH, SFRM, SCRP, SRGT, SDTY, SDON, hw.1.1, hw.1.2.1, hw.1.2.2, hw.2, ck, hd, ch, cn, cp, i64_in (x := D.hours - 1) (by unfold I64; omega)]
  rw [callF_eq _ _ Try.func39 rfl Try.ntmps39 Try.results39 (by kernel_rfl) rfl (by exact Nat.le_of_ble_eq_true rfl)]
  simp (config := { maxSteps := 1000000 }) only [RUN, PATHS, BASE, FA, POL, start_tm, Heap.empty, reduceIte, Nat.reduceLT, Nat.reduceLeDiff, Nat.reduceEqDiff, Nat.reduceAdd, Nat.reduceSub, Nat.reduceMul, Nat.reduceBEq, Int.reduceLT, Int.reduceLE, Int.reduceEq, Int.reduceNeg, Int.reduceAdd, Int.reduceSub, Int.reduceMul, Bool.false_eq_true, Bool.not_true, Bool.not_false, decide_eq_true_eq, and_self, true_and, and_true, reduceCtorEq, ne_eq, not_false_eq_true, not_true_eq_false, decide_true, decide_false, or_false, false_or, NUM, ST2, SRCH, SFRM, SCRP, SRGT, SDTY, SDON, hw.1.1, hw.1.2.1, hw.1.2.2, hw.2, List.length_map]
  generalize hE : callF _ _ _ _ _ _ = E
  obtain ⟨m, H', rfl, hm, hg, fr, nx⟩ := c_performed l c kn (by omega) _ _ hE
  clear hE
  simp only at hm fr nx
  have r1 := fr 1 (by decide)
  have r2 := fr 2 (by decide)
  have r3 := fr 3 (by decide)
  have r4 := fr 4 (by decide)
  have r5 := fr 5 (by decide)
  simp (config := { maxSteps := 1000000 }) only [RUN, PATHS, BASE, FA, POL, start_tm, Heap.empty, reduceIte, Nat.reduceLT, Nat.reduceLeDiff, Nat.reduceEqDiff, Nat.reduceAdd, Nat.reduceSub, Nat.reduceMul, Nat.reduceBEq, Int.reduceLT, Int.reduceLE, Int.reduceEq, Int.reduceNeg, Int.reduceAdd, Int.reduceSub, Int.reduceMul, Bool.false_eq_true, Bool.not_true, Bool.not_false, decide_eq_true_eq, and_self, true_and, and_true, reduceCtorEq, ne_eq, not_false_eq_true, not_true_eq_false, decide_true, decide_false, or_false, false_or] at r1
  simp (config := { maxSteps := 1000000 }) only [RUN, PATHS, BASE, FA, POL, start_tm, Heap.empty, reduceIte, Nat.reduceLT, Nat.reduceLeDiff, Nat.reduceEqDiff, Nat.reduceAdd, Nat.reduceSub, Nat.reduceMul, Nat.reduceBEq, Int.reduceLT, Int.reduceLE, Int.reduceEq, Int.reduceNeg, Int.reduceAdd, Int.reduceSub, Int.reduceMul, Bool.false_eq_true, Bool.not_true, Bool.not_false, decide_eq_true_eq, and_self, true_and, and_true, reduceCtorEq, ne_eq, not_false_eq_true, not_true_eq_false, decide_true, decide_false, or_false, false_or] at r2
  simp (config := { maxSteps := 1000000 }) only [RUN, PATHS, BASE, FA, POL, start_tm, Heap.empty, reduceIte, Nat.reduceLT, Nat.reduceLeDiff, Nat.reduceEqDiff, Nat.reduceAdd, Nat.reduceSub, Nat.reduceMul, Nat.reduceBEq, Int.reduceLT, Int.reduceLE, Int.reduceEq, Int.reduceNeg, Int.reduceAdd, Int.reduceSub, Int.reduceMul, Bool.false_eq_true, Bool.not_true, Bool.not_false, decide_eq_true_eq, and_self, true_and, and_true, reduceCtorEq, ne_eq, not_false_eq_true, not_true_eq_false, decide_true, decide_false, or_false, false_or] at r3
  simp (config := { maxSteps := 1000000 }) only [RUN, PATHS, BASE, FA, POL, start_tm, Heap.empty, reduceIte, Nat.reduceLT, Nat.reduceLeDiff, Nat.reduceEqDiff, Nat.reduceAdd, Nat.reduceSub, Nat.reduceMul, Nat.reduceBEq, Int.reduceLT, Int.reduceLE, Int.reduceEq, Int.reduceNeg, Int.reduceAdd, Int.reduceSub, Int.reduceMul, Bool.false_eq_true, Bool.not_true, Bool.not_false, decide_eq_true_eq, and_self, true_and, and_true, reduceCtorEq, ne_eq, not_false_eq_true, not_true_eq_false, decide_true, decide_false, or_false, false_or] at r4
  simp (config := { maxSteps := 1000000 }) only [RUN, PATHS, BASE, FA, POL, start_tm, Heap.empty, reduceIte, Nat.reduceLT, Nat.reduceLeDiff, Nat.reduceEqDiff, Nat.reduceAdd, Nat.reduceSub, Nat.reduceMul, Nat.reduceBEq, Int.reduceLT, Int.reduceLE, Int.reduceEq, Int.reduceNeg, Int.reduceAdd, Int.reduceSub, Int.reduceMul, Bool.false_eq_true, Bool.not_true, Bool.not_false, decide_eq_true_eq, and_self, true_and, and_true, reduceCtorEq, ne_eq, not_false_eq_true, not_true_eq_false, decide_true, decide_false, or_false, false_or] at r5
  simp (config := { maxSteps := 1000000 }) only [RUN, PATHS, BASE, FA, POL, start_tm, Heap.empty, reduceIte, Nat.reduceLT, Nat.reduceLeDiff, Nat.reduceEqDiff, Nat.reduceAdd, Nat.reduceSub, Nat.reduceMul, Nat.reduceBEq, Int.reduceLT, Int.reduceLE, Int.reduceEq, Int.reduceNeg, Int.reduceAdd, Int.reduceSub, Int.reduceMul, Bool.false_eq_true, Bool.not_true, Bool.not_false, decide_eq_true_eq, and_self, true_and, and_true, reduceCtorEq, ne_eq, not_false_eq_true, not_true_eq_false, decide_true, decide_false, or_false, false_or] at nx
  simp (config := { maxSteps := 1000000 }) only [RUN, PATHS, BASE, FA, POL, start_tm, Heap.empty, reduceIte, Nat.reduceLT, Nat.reduceLeDiff, Nat.reduceEqDiff, Nat.reduceAdd, Nat.reduceSub, Nat.reduceMul, Nat.reduceBEq, Int.reduceLT, Int.reduceLE, Int.reduceEq, Int.reduceNeg, Int.reduceAdd, Int.reduceSub, Int.reduceMul, Bool.false_eq_true, Bool.not_true, Bool.not_false, decide_eq_true_eq, and_self, true_and, and_true, reduceCtorEq, ne_eq, not_false_eq_true, not_true_eq_false, decide_true, decide_false, or_false, false_or] at hm
  simp (config := { maxSteps := 1000000 }) only [RUN, PATHS, BASE, FA, POL, start_tm, Heap.empty, reduceIte, Nat.reduceLT, Nat.reduceLeDiff, Nat.reduceEqDiff, Nat.reduceAdd, Nat.reduceSub, Nat.reduceMul, Nat.reduceBEq, Int.reduceLT, Int.reduceLE, Int.reduceEq, Int.reduceNeg, Int.reduceAdd, Int.reduceSub, Int.reduceMul, Bool.false_eq_true, Bool.not_true, Bool.not_false, decide_eq_true_eq, and_self, true_and, and_true, reduceCtorEq, ne_eq, not_false_eq_true, not_true_eq_false, decide_true, decide_false, or_false, false_or, NUM, List.length_map]
  generalize hL : W _ (.loop _) _ = L
  have p4 := r4
  have p5 := r5
  obtain ⟨ex, s, rfl, rfl, g1, g2, g3, g4, g5, gd, gf, gx⟩ := loop_at hL (α := Nat) (fun j => D.ds.length - j)
    (fun s0 j s => j ≤ D.ds.length ∧ s.tmps 17 = I j ∧ s.tmps 16 = I D.ds.length ∧ s.tmps 15 = .vs 4 (D.ds.map dty) q.d ∧ s.tmps 5 = .map 8 ∧ s.tmps 3 = .rop (dxc D q ws) ∧ s.tmps 0 = .yield 5 ∧ s.H.rows 1 = some (.gro 1 [I h] 0) ∧ s.H.rows 2 = some (.gro 1 ((LTK D l h kn j).map I) 0) ∧ s.H.rows 3 = some (.gro 1 [.gsl 1 2 (LTK D l h kn j).length 0 (LTK D l h kn j).length] 0) ∧
      s.H.rows 4 = H'.rows 4 ∧ s.H.rows 5 = H'.rows 5 ∧ s.H.rows 8 = some (.map (kmap (PV.int .i64) m)) ∧ s.defers = [] ∧ s.fid = 6 ∧ 8 < s.H.next)
    (fun s0 ex s => ex = .exit 0 ∧ s.H.rows 1 = some (.gro 1 [I h] 0) ∧ s.H.rows 2 = some (.gro 1 ((LTK D l h kn D.ds.length).map I) 0) ∧ s.H.rows 3 = some (.gro 1 [.gsl 1 2 (LTK D l h kn D.ds.length).length 0 (LTK D l h kn D.ds.length).length] 0) ∧
      s.H.rows 4 = H'.rows 4 ∧ s.H.rows 5 = H'.rows 5 ∧ s.defers = [] ∧ s.fid = 6 ∧ 8 < s.H.next) 0
    (by have l0 : LTK D l h kn 0 = [] := rfl
        simp (config := { maxSteps := 1000000 }) only [RUN, PATHS, BASE, FA, POL, start_tm, Heap.empty, reduceIte, Nat.reduceLT, Nat.reduceLeDiff, Nat.reduceEqDiff, Nat.reduceAdd, Nat.reduceSub, Nat.reduceMul, Nat.reduceBEq, Int.reduceLT, Int.reduceLE, Int.reduceEq, Int.reduceNeg, Int.reduceAdd, Int.reduceSub, Int.reduceMul, Bool.false_eq_true, Bool.not_true, Bool.not_false, decide_eq_true_eq, and_self, true_and, and_true, reduceCtorEq, ne_eq, not_false_eq_true, not_true_eq_false, decide_true, decide_false, or_false, false_or, l0, hm, nx, r1, r2, r3]
        exact ⟨Nat.zero_le _, by simp⟩) (by
      rintro j s r0 hW ⟨hj, h17, h16, h15, h5, h3, h0, g1, g2, g3, g4, g5, g8, hd', hf, hx⟩
      rw [r4] at g4
      rw [r5] at g5
      by_cases hp : j < D.ds.length
      rotate_left
      · simp (config := { maxSteps := 1000000 }) only [RUN, PATHS, BASE, FA, POL, start_tm, Heap.empty, reduceIte, Nat.reduceLT, Nat.reduceLeDiff, Nat.reduceEqDiff, Nat.reduceAdd, Nat.reduceSub, Nat.reduceMul, Nat.reduceBEq, Int.reduceLT, Int.reduceLE, Int.reduceEq, Int.reduceNeg, Int.reduceAdd, Int.reduceSub, Int.reduceMul, Bool.false_eq_true, Bool.not_true, Bool.not_false, decide_eq_true_eq, and_self, true_and, and_true, reduceCtorEq, ne_eq, not_false_eq_true, not_true_eq_false, decide_true, decide_false, or_false, false_or, h17, h16, hd', hf, (show ¬ (j : Int) < D.ds.length by omega)] at hW
        subst hW
        have : j = D.ds.length := by omega
        subst this
        refine rd_exit ⟨rfl, ?_⟩
        simp (config := { maxSteps := 1000000 }) only [RUN, PATHS, BASE, FA, POL, start_tm, Heap.empty, reduceIte, Nat.reduceLT, Nat.reduceLeDiff, Nat.reduceEqDiff, Nat.reduceAdd, Nat.reduceSub, Nat.reduceMul, Nat.reduceBEq, Int.reduceLT, Int.reduceLE, Int.reduceEq, Int.reduceNeg, Int.reduceAdd, Int.reduceSub, Int.reduceMul, Bool.false_eq_true, Bool.not_true, Bool.not_false, decide_eq_true_eq, and_self, true_and, and_true, reduceCtorEq, ne_eq, not_false_eq_true, not_true_eq_false, decide_true, decide_false, or_false, false_or, g1, g2, g3, g4, g5, p4, p5, hx]
      have e0 : D.ds[j]? = some D.ds[j] := List.getElem?_eq_getElem hp
      have e1 := map_get (f := dty) e0
      have ls := LTK_succ D l h kn j
      have ll := LTK_len D l h kn j
      have od := hdu j _ e0
      have oi := OVP_iff (l := l) (h := h) (kn := kn) e0
      generalize D.ds[j] = x at *
      have od3 := od.2.2
      generalize hA : LTK D l h kn j = A at *
      have gm := hg j
      have cI := c_in h x.due (ENDP D l kn j - 1)
      have eb : 0 ≤ ENDP D l kn j ∧ ENDP D l kn j ≤ 4096 := by
        unfold ENDP
        split
        · omega
        · next a ha => have := PERF_bd hok ha; omega
      by_cases hov : x.due ≤ h ∧ h ≤ ENDP D l kn j - 1
      · rw [decide_eq_true hov] at cI
        rw [if_pos (oi.2 hov)] at ls
        cases hq : PERF l kn (j : Int) with
        | none =>
          have ee : ENDP D l kn j = D.hours := by unfold ENDP; rw [hq]
          rw [hq] at gm
          simp only [mI, Option.map_none] at gm
          rw [ee] at cI eb
          rcases hb7 : s.boxes 7 with _ | ⟨v7, c7⟩ <;> rcases hb8 : s.boxes 8 with _ | ⟨v8, c8⟩
          all_goals
            simp (config := { maxSteps := 1000000 }) only [RUN, PATHS, BASE, FA, POL, start_tm, Heap.empty, reduceIte, Nat.reduceLT, Nat.reduceLeDiff, Nat.reduceEqDiff, Nat.reduceAdd, Nat.reduceSub, Nat.reduceMul, Nat.reduceBEq, Int.reduceLT, Int.reduceLE, Int.reduceEq, Int.reduceNeg, Int.reduceAdd, Int.reduceSub, Int.reduceMul, Bool.false_eq_true, Bool.not_true, Bool.not_false, decide_eq_true_eq, and_self, true_and, and_true, reduceCtorEq, ne_eq, not_false_eq_true, not_true_eq_false, decide_true, decide_false, or_false, false_or, NUM, MAPI, Try.func12, h17, h16, h15, h5, h3, h0, g1, g2, g3, g4, g5, g8, hd', hf, hb7, hb8, e1, gm, cI, List.length_map, Int.toNat_natCast, Nat.zero_le, (show (j : Int) < D.ds.length by omega), (show (0 : Int) ≤ j by omega), (i64_in (x := (j : Int) + 1) (by unfold I64; omega)), (i64_in (x := D.hours - 1) (by unfold I64; omega)), (show A.length + 1 ≤ 67108864 by omega)] at hW
            subst hW
            refine rd_next (j + 1) ?_ (show D.ds.length - (j + 1) < D.ds.length - j by omega)
            simp (config := { maxSteps := 1000000 }) only [RUN, PATHS, BASE, FA, POL, start_tm, Heap.empty, reduceIte, Nat.reduceLT, Nat.reduceLeDiff, Nat.reduceEqDiff, Nat.reduceAdd, Nat.reduceSub, Nat.reduceMul, Nat.reduceBEq, Int.reduceLT, Int.reduceLE, Int.reduceEq, Int.reduceNeg, Int.reduceAdd, Int.reduceSub, Int.reduceMul, Bool.false_eq_true, Bool.not_true, Bool.not_false, decide_eq_true_eq, and_self, true_and, and_true, reduceCtorEq, ne_eq, not_false_eq_true, not_true_eq_false, decide_true, decide_false, or_false, false_or, h16, h15, h5, h3, h0, g1, g2, g3, g4, g5, g8, p4, p5, ls, List.map_append, List.length_append, List.append_nil]
            exact ⟨by omega, by simp, by omega⟩
        | some a =>
          have ee : ENDP D l kn j = min a D.hours := by unfold ENDP; rw [hq]
          rw [hq] at gm
          simp only [mI, Option.map_some] at gm
          rw [ee] at cI eb
          rcases hb7 : s.boxes 7 with _ | ⟨v7, c7⟩ <;> rcases hb8 : s.boxes 8 with _ | ⟨v8, c8⟩
          all_goals
            simp (config := { maxSteps := 1000000 }) only [RUN, PATHS, BASE, FA, POL, start_tm, Heap.empty, reduceIte, Nat.reduceLT, Nat.reduceLeDiff, Nat.reduceEqDiff, Nat.reduceAdd, Nat.reduceSub, Nat.reduceMul, Nat.reduceBEq, Int.reduceLT, Int.reduceLE, Int.reduceEq, Int.reduceNeg, Int.reduceAdd, Int.reduceSub, Int.reduceMul, Bool.false_eq_true, Bool.not_true, Bool.not_false, decide_eq_true_eq, and_self, true_and, and_true, reduceCtorEq, ne_eq, not_false_eq_true, not_true_eq_false, decide_true, decide_false, or_false, false_or, NUM, MAPI, Try.func12, h17, h16, h15, h5, h3, h0, g1, g2, g3, g4, g5, g8, hd', hf, hb7, hb8, e1, gm, cI, List.length_map, Int.toNat_natCast, Nat.zero_le, (show (j : Int) < D.ds.length by omega), (show (0 : Int) ≤ j by omega), (i64_in (x := (j : Int) + 1) (by unfold I64; omega)), (i64_in (x := min a D.hours - 1) (by unfold I64; omega)), (show A.length + 1 ≤ 67108864 by omega)] at hW
            subst hW
            refine rd_next (j + 1) ?_ (show D.ds.length - (j + 1) < D.ds.length - j by omega)
            simp (config := { maxSteps := 1000000 }) only [RUN, PATHS, BASE, FA, POL, start_tm, Heap.empty, reduceIte, Nat.reduceLT, Nat.reduceLeDiff, Nat.reduceEqDiff, Nat.reduceAdd, Nat.reduceSub, Nat.reduceMul, Nat.reduceBEq, Int.reduceLT, Int.reduceLE, Int.reduceEq, Int.reduceNeg, Int.reduceAdd, Int.reduceSub, Int.reduceMul, Bool.false_eq_true, Bool.not_true, Bool.not_false, decide_eq_true_eq, and_self, true_and, and_true, reduceCtorEq, ne_eq, not_false_eq_true, not_true_eq_false, decide_true, decide_false, or_false, false_or, h16, h15, h5, h3, h0, g1, g2, g3, g4, g5, g8, p4, p5, ls, List.map_append, List.length_append, List.append_nil]
            exact ⟨by omega, by simp, by omega⟩
      · rw [decide_eq_false hov] at cI
        rw [if_neg (fun g => hov (oi.1 g)), List.append_nil] at ls
        cases hq : PERF l kn (j : Int) with
        | none =>
          have ee : ENDP D l kn j = D.hours := by unfold ENDP; rw [hq]
          rw [hq] at gm
          simp only [mI, Option.map_none] at gm
          rw [ee] at cI eb
          rcases hb7 : s.boxes 7 with _ | ⟨v7, c7⟩ <;> rcases hb8 : s.boxes 8 with _ | ⟨v8, c8⟩
          all_goals
            simp (config := { maxSteps := 1000000 }) only [RUN, PATHS, BASE, FA, POL, start_tm, Heap.empty, reduceIte, Nat.reduceLT, Nat.reduceLeDiff, Nat.reduceEqDiff, Nat.reduceAdd, Nat.reduceSub, Nat.reduceMul, Nat.reduceBEq, Int.reduceLT, Int.reduceLE, Int.reduceEq, Int.reduceNeg, Int.reduceAdd, Int.reduceSub, Int.reduceMul, Bool.false_eq_true, Bool.not_true, Bool.not_false, decide_eq_true_eq, and_self, true_and, and_true, reduceCtorEq, ne_eq, not_false_eq_true, not_true_eq_false, decide_true, decide_false, or_false, false_or, NUM, MAPI, Try.func12, h17, h16, h15, h5, h3, h0, g1, g2, g3, g4, g5, g8, hd', hf, hb7, hb8, e1, gm, cI, List.length_map, Int.toNat_natCast, Nat.zero_le, (show (j : Int) < D.ds.length by omega), (show (0 : Int) ≤ j by omega), (i64_in (x := (j : Int) + 1) (by unfold I64; omega)), (i64_in (x := D.hours - 1) (by unfold I64; omega)), (show A.length + 1 ≤ 67108864 by omega)] at hW
            subst hW
            refine rd_next (j + 1) ?_ (show D.ds.length - (j + 1) < D.ds.length - j by omega)
            simp (config := { maxSteps := 1000000 }) only [RUN, PATHS, BASE, FA, POL, start_tm, Heap.empty, reduceIte, Nat.reduceLT, Nat.reduceLeDiff, Nat.reduceEqDiff, Nat.reduceAdd, Nat.reduceSub, Nat.reduceMul, Nat.reduceBEq, Int.reduceLT, Int.reduceLE, Int.reduceEq, Int.reduceNeg, Int.reduceAdd, Int.reduceSub, Int.reduceMul, Bool.false_eq_true, Bool.not_true, Bool.not_false, decide_eq_true_eq, and_self, true_and, and_true, reduceCtorEq, ne_eq, not_false_eq_true, not_true_eq_false, decide_true, decide_false, or_false, false_or, h16, h15, h5, h3, h0, g1, g2, g3, g4, g5, g8, p4, p5, ls, List.map_append, List.length_append, List.append_nil]
            exact ⟨by omega, by simp, by omega⟩
        | some a =>
          have ee : ENDP D l kn j = min a D.hours := by unfold ENDP; rw [hq]
          rw [hq] at gm
          simp only [mI, Option.map_some] at gm
          rw [ee] at cI eb
          rcases hb7 : s.boxes 7 with _ | ⟨v7, c7⟩ <;> rcases hb8 : s.boxes 8 with _ | ⟨v8, c8⟩
          all_goals
            simp (config := { maxSteps := 1000000 }) only [RUN, PATHS, BASE, FA, POL, start_tm, Heap.empty, reduceIte, Nat.reduceLT, Nat.reduceLeDiff, Nat.reduceEqDiff, Nat.reduceAdd, Nat.reduceSub, Nat.reduceMul, Nat.reduceBEq, Int.reduceLT, Int.reduceLE, Int.reduceEq, Int.reduceNeg, Int.reduceAdd, Int.reduceSub, Int.reduceMul, Bool.false_eq_true, Bool.not_true, Bool.not_false, decide_eq_true_eq, and_self, true_and, and_true, reduceCtorEq, ne_eq, not_false_eq_true, not_true_eq_false, decide_true, decide_false, or_false, false_or, NUM, MAPI, Try.func12, h17, h16, h15, h5, h3, h0, g1, g2, g3, g4, g5, g8, hd', hf, hb7, hb8, e1, gm, cI, List.length_map, Int.toNat_natCast, Nat.zero_le, (show (j : Int) < D.ds.length by omega), (show (0 : Int) ≤ j by omega), (i64_in (x := (j : Int) + 1) (by unfold I64; omega)), (i64_in (x := min a D.hours - 1) (by unfold I64; omega)), (show A.length + 1 ≤ 67108864 by omega)] at hW
            subst hW
            refine rd_next (j + 1) ?_ (show D.ds.length - (j + 1) < D.ds.length - j by omega)
            simp (config := { maxSteps := 1000000 }) only [RUN, PATHS, BASE, FA, POL, start_tm, Heap.empty, reduceIte, Nat.reduceLT, Nat.reduceLeDiff, Nat.reduceEqDiff, Nat.reduceAdd, Nat.reduceSub, Nat.reduceMul, Nat.reduceBEq, Int.reduceLT, Int.reduceLE, Int.reduceEq, Int.reduceNeg, Int.reduceAdd, Int.reduceSub, Int.reduceMul, Bool.false_eq_true, Bool.not_true, Bool.not_false, decide_eq_true_eq, and_self, true_and, and_true, reduceCtorEq, ne_eq, not_false_eq_true, not_true_eq_false, decide_true, decide_false, or_false, false_or, h16, h15, h5, h3, h0, g1, g2, g3, g4, g5, g8, p4, p5, ls, List.map_append, List.length_append, List.append_nil]
            exact ⟨by omega, by simp, by omega⟩)
  have tk : ((LTK D l h kn D.ds.length).map I).take (LTK D l h kn D.ds.length).length = (LTK D l h kn D.ds.length).map I := List.take_of_length_le (by simp)
  simp (config := { maxSteps := 1000000 }) only [RUN, PATHS, BASE, FA, POL, start_tm, Heap.empty, reduceIte, Nat.reduceLT, Nat.reduceLeDiff, Nat.reduceEqDiff, Nat.reduceAdd, Nat.reduceSub, Nat.reduceMul, Nat.reduceBEq, Int.reduceLT, Int.reduceLE, Int.reduceEq, Int.reduceNeg, Int.reduceAdd, Int.reduceSub, Int.reduceMul, Bool.false_eq_true, Bool.not_true, Bool.not_false, decide_eq_true_eq, and_self, true_and, and_true, reduceCtorEq, ne_eq, not_false_eq_true, not_true_eq_false, decide_true, decide_false, or_false, false_or, g1, g2, g3, g4, g5, p4, p5, gd, gf, tk, INTS, List.length_map, Nat.zero_add, Nat.le_refl]
end Go.Proofs.Ytaggpjlkapnonaa
