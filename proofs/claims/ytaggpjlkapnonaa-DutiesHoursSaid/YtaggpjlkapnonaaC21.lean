/-
  What Active answers, right or not; how the specification's counts fit.
-/
import Derived.Test.YtaggpjlkapnonaaC20
set_option linter.unusedSimpArgs false
set_option linter.unusedVariables false
set_option linter.unusedSectionVars false
namespace Go.Proofs.Ytaggpjlkapnonaa
open Go GoV
set_option maxRecDepth 100000

/-- What Active answers. -/
noncomputable def ACT (D : Dis) (l : List Don) (cl : List Clm) (kn : Int) : Option (List Clm) × Int :=
  if DC D l = 0 then (if CC D cl = 0 then (if 0 ≤ kn ∧ kn ≤ 1048576 then (some (KEPT D l kn D.ds.length cl), 0) else (none, 1)) else (none, CC D cl)) else (none, DC D l)
def ovc : Option (List Clm) → PV
  | none => .nils
  | some l => .vs 5 (l.map clm) none
theorem c_act (D : Dis) (hr : ∀ x ∈ D.rs, x.OK) (q : Cp) (ws : PV) (hw : WG ws) (l : List Don) (c : Option Nat) (cl : List Clm) (cc : Option Nat) (kn : Int) : ap Try.prog pol 18 [dx D q ws, .vs 4 (l.map don) c, .vs 5 (cl.map clm) cc, I kn] = some (.ret (.tup [ovc (ACT D l cl kn).1, I (ACT D l cl kn).2])) := by
  by_cases hd : DC D l = 0
  rotate_left
  · have el : ACT D l cl kn = (none, DC D l) := by unfold ACT; rw [if_neg hd]
    rw [el]
    simp only [ovc]
    have ck := c_dcheck D hr q ws l c
    rw [ap_eq _ Try.func18 rfl Try.ntmps18 Try.results18 (by kernel_rfl) rfl (by exact Nat.le_of_ble_eq_true rfl)]
    simp (config := { maxSteps := 1000000 }) only [RUN, PATHS, BASE, FA, POL, start_tm, Heap.empty, reduceIte, Nat.reduceLT, Nat.reduceLeDiff, Nat.reduceEqDiff, Nat.reduceAdd, Nat.reduceSub, Nat.reduceMul, Nat.reduceBEq, Int.reduceLT, Int.reduceLE, Int.reduceEq, Int.reduceNeg, Int.reduceAdd, Int.reduceSub, Int.reduceMul, Bool.false_eq_true, Bool.not_true, Bool.not_false, decide_eq_true_eq, and_self, true_and, and_true, reduceCtorEq, ne_eq, not_false_eq_true, not_true_eq_false, decide_true, decide_false, or_false, false_or, NUM, ST2, SRCH, SFRM, SCRP, SRGT, SDTY, SDON, SCLM, hw.1.1, hw.1.2.1, hw.1.2.2, hw.2, ck, hd]
  by_cases hc : CC D cl = 0
  rotate_left
  · have el : ACT D l cl kn = (none, CC D cl) := by unfold ACT; rw [if_pos hd, if_neg hc]
    rw [el]
    simp only [ovc]
    have ck := c_dcheck D hr q ws l c
    have ccl := c_ccheck D hr q ws cl cc
    rw [ap_eq _ Try.func18 rfl Try.ntmps18 Try.results18 (by kernel_rfl) rfl (by exact Nat.le_of_ble_eq_true rfl)]
    simp (config := { maxSteps := 1000000 }) only [RUN, PATHS, BASE, FA, POL, start_tm, Heap.empty, reduceIte, Nat.reduceLT, Nat.reduceLeDiff, Nat.reduceEqDiff, Nat.reduceAdd, Nat.reduceSub, Nat.reduceMul, Nat.reduceBEq, Int.reduceLT, Int.reduceLE, Int.reduceEq, Int.reduceNeg, Int.reduceAdd, Int.reduceSub, Int.reduceMul, Bool.false_eq_true, Bool.not_true, Bool.not_false, decide_eq_true_eq, and_self, true_and, and_true, reduceCtorEq, ne_eq, not_false_eq_true, not_true_eq_false, decide_true, decide_false, or_false, false_or, NUM, ST2, SRCH, SFRM, SCRP, SRGT, SDTY, SDON, SCLM, hw.1.1, hw.1.2.1, hw.1.2.2, hw.2, ck, hd, ccl, hc]
  by_cases h2 : 0 ≤ kn ∧ kn ≤ 1048576
  rotate_left
  · have el : ACT D l cl kn = (none, 1) := by unfold ACT; rw [if_pos hd, if_pos hc, if_neg h2]
    rw [el]
    simp only [ovc]
    have ck := c_dcheck D hr q ws l c
    have ccl := c_ccheck D hr q ws cl cc
    have cn := c_in kn 0 1048576
    rw [decide_eq_false h2] at cn
    rw [ap_eq _ Try.func18 rfl Try.ntmps18 Try.results18 (by kernel_rfl) rfl (by exact Nat.le_of_ble_eq_true rfl)]
    simp (config := { maxSteps := 1000000 }) only [RUN, PATHS, BASE, FA, POL, start_tm, Heap.empty, reduceIte, Nat.reduceLT, Nat.reduceLeDiff, Nat.reduceEqDiff, Nat.reduceAdd, Nat.reduceSub, Nat.reduceMul, Nat.reduceBEq, Int.reduceLT, Int.reduceLE, Int.reduceEq, Int.reduceNeg, Int.reduceAdd, Int.reduceSub, Int.reduceMul, Bool.false_eq_true, Bool.not_true, Bool.not_false, decide_eq_true_eq, and_self, true_and, and_true, reduceCtorEq, ne_eq, not_false_eq_true, not_true_eq_false, decide_true, decide_false, or_false, false_or, NUM, ST2, SRCH, SFRM, SCRP, SRGT, SDTY, SDON, SCLM, hw.1.1, hw.1.2.1, hw.1.2.2, hw.2, ck, hd, ccl, hc, cn]
  have el : ACT D l cl kn = (some (KEPT D l kn D.ds.length cl), 0) := by unfold ACT; rw [if_pos hd, if_pos hc, if_pos h2]
  rw [el]
  exact c_active D hr q ws hw l c cl cc kn hd hc h2
theorem WG_ws (ws : List Wel) : WG (.vs 4 (ws.map wel) none) := by
  refine ⟨⟨?_, fun H => ?_, fun H => ?_⟩, fun H => ?_⟩
  · show PV.vs 4 (strip0L (ws.map wel)) none = _
    rw [SWEL.1]
  · show PV.vs 4 (strip1L H (ws.map wel)) none = _
    rw [SWEL.2.2.2.2.1]
  · show PV.vs 4 (strip2L H (ws.map wel)) none = _
    rw [SWEL.2.2.2.2.2]
  · show (PV.vs 4 (strip0L (ws.map wel)) none, H) = _
    rw [SWEL.1]
theorem WG_nils : WG .nils := ⟨⟨rfl, fun H => rfl, fun H => rfl⟩, fun H => rfl⟩
theorem PRS_mem {D : Dis} {l : List Don} {kn f : Int} {p : Per} : ∀ {n : Nat}, n ≤ D.ds.length → (p ∈ PRS D l kn f n ↔ ∃ i x, i < n ∧ D.ds[i]? = some x ∧ x.fm = f ∧ p = ⟨i, x.due, ENDP D l kn i⟩)
  | 0, _ => by simp [PRS]
  | n + 1, hn => by
    have e0 : D.ds[n]? = some D.ds[n] := List.getElem?_eq_getElem (by omega)
    rw [PRS_succ e0, List.mem_append, PRS_mem (by omega)]
    constructor
    · rintro (⟨i, x, h1, h2, h3, h4⟩ | h)
      · exact ⟨i, x, by omega, h2, h3, h4⟩
      · split at h
        · next hf =>
          simp only [List.mem_singleton] at h
          exact ⟨n, _, by omega, e0, hf, h⟩
        · simp at h
    · rintro ⟨i, x, h1, h2, h3, h4⟩
      by_cases hi : i = n
      · subst hi
        rw [e0] at h2
        cases h2
        rw [if_pos h3]
        exact .inr (by simp [h4])
      · exact .inl ⟨i, x, by omega, h2, h3, h4⟩
/-- No duty of the farm is overdue. -/
def FREE (D : Dis) (l : List Don) (f h kn : Int) : Prop := ∀ i, i < D.ds.length → ¬ OVF D l f h kn i
noncomputable instance (D : Dis) (l : List Don) (f h kn : Int) : Decidable (FREE D l f h kn) := Classical.propDecidable _
theorem KEEP_iff {D : Dis} {l : List Don} {kn f h : Int} : KEEP (PRS D l kn f D.ds.length) h ↔ FREE D l f h kn := by
  unfold KEEP FREE
  constructor
  · rintro g i hi ⟨⟨x, e, h1, h2⟩, y, e', hf⟩
    rw [e] at e'
    cases e'
    exact g ⟨i, x.due, ENDP D l kn i⟩ ((PRS_mem (Nat.le_refl _)).2 ⟨i, x, hi, e, hf, rfl⟩) ⟨h1, h2⟩
  · rintro g p hp ⟨h1, h2⟩
    obtain ⟨i, x, hi, e, hf, rfl⟩ := (PRS_mem (Nat.le_refl _)).1 hp
    exact g i hi ⟨⟨x, e, h1, h2⟩, x, e, hf⟩
theorem CNT_0 (D : Dis) (l : List Don) (f h kn : Int) : ∀ n, CNT D l f h kn n = 0 ↔ ∀ i, i < n → ¬ OVF D l f h kn i
  | 0 => by simp [CNT]
  | n + 1 => by
    have ih := CNT_0 D l f h kn n
    have bd := CNT_bd D l f h kn n
    have cs : CNT D l f h kn (n + 1) = CNT D l f h kn n + if OVF D l f h kn n then 1 else 0 := rfl
    rw [cs]
    by_cases ho : OVF D l f h kn n
    · rw [if_pos ho]
      exact ⟨fun h => by omega, fun h => absurd ho (h n (by omega))⟩
    · rw [if_neg ho, Int.add_zero, ih]
      constructor
      · intro h i hi
        by_cases e : i = n
        · subst e; exact ho
        · exact h i (by omega)
      · intro h i hi
        exact h i (by omega)
theorem CNT_free {D : Dis} {l : List Don} {f h kn : Int} : CNT D l f h kn D.ds.length = 0 ↔ FREE D l f h kn := CNT_0 D l f h kn _
/-- The sum over the hours. -/
def SUMH (g : Nat → Int) : Nat → Int
  | 0 => 0
  | n + 1 => SUMH g n + g n
theorem SUMH_add (g h : Nat → Int) : ∀ n, SUMH (fun i => g i + h i) n = SUMH g n + SUMH h n
  | 0 => rfl
  | n + 1 => by simp only [SUMH, SUMH_add g h n]; omega
theorem SUMH_0 : ∀ n, SUMH (fun _ => 0) n = 0
  | 0 => rfl
  | n + 1 => by simp only [SUMH, SUMH_0 n]; rfl
theorem SUMH_congr {g h : Nat → Int} : ∀ {n : Nat}, (∀ i, i < n → g i = h i) → SUMH g n = SUMH h n
  | 0, _ => rfl
  | n + 1, e => by simp only [SUMH, SUMH_congr (n := n) fun i hi => e i (by omega), e n (by omega)]
theorem SUMH_win (a e : Int) (ha : 0 ≤ a) (he : 0 ≤ e) : ∀ n : Nat, SUMH (fun h => if a ≤ (h : Int) ∧ (h : Int) ≤ e - 1 then 1 else 0) n = max 0 (min e n - a)
  | 0 => by simp only [SUMH]; omega
  | n + 1 => by
    simp only [SUMH, SUMH_win a e ha he n]
    split <;> omega
theorem FH_sum {D : Dis} {l : List Don} (hh : 1 ≤ D.hours ∧ D.hours ≤ 4096) (hok : DOK D.ds.length l) (hdu : ALLI (fun _ x => DTYK D.hours D.fs.length D.rs.length x) D.ds) (f kn : Int) : ∀ n, n ≤ D.ds.length → SUMH (fun h => CNT D l f h kn n) D.hours.toNat = FH D l f kn n
  | 0, _ => SUMH_0 _
  | n + 1, hn => by
    have e0 : D.ds[n]? = some D.ds[n] := List.getElem?_eq_getElem (by omega)
    have eb := ENDP_bd hh hok kn n
    have dk := (hdu n _ e0).2.2
    rw [FH_succ e0, ← FH_sum hh hok hdu f kn n (by omega)]
    have e1 : (fun h : Nat => CNT D l f h kn (n + 1)) = fun h : Nat => CNT D l f h kn n + if OVF D l f h kn n then 1 else 0 := rfl
    rw [e1, SUMH_add]
    congr 1
    by_cases hf : D.ds[n].fm = f
    · rw [if_pos hf]
      have := SUMH_win D.ds[n].due (ENDP D l kn n) dk.1 eb.1 D.hours.toNat
      rw [show min (ENDP D l kn n) ((D.hours.toNat : Nat) : Int) = ENDP D l kn n by omega] at this
      rw [← this]
      refine SUMH_congr fun i hi => ?_
      have oi := OVP_iff (l := l) (h := i) (kn := kn) e0
      by_cases ho : D.ds[n].due ≤ (i : Int) ∧ (i : Int) ≤ ENDP D l kn n - 1
      · rw [if_pos ho, if_pos ⟨oi.2 ho, _, e0, hf⟩]
      · rw [if_neg ho, if_neg (fun g => ho (oi.1 g.1))]
    · rw [if_neg hf]
      refine Eq.trans ?_ (SUMH_0 D.hours.toNat)
      refine SUMH_congr fun i hi => ?_
      rw [if_neg]
      rintro ⟨_, y, ey, hy⟩
      rw [e0] at ey
      cases ey
      exact hf hy
theorem CNT_bd2 (D : Dis) (l : List Don) (f kn : Int) (J : Nat) : ∀ n : Nat, 0 ≤ SUMH (fun h => CNT D l f h kn J) n ∧ SUMH (fun h => CNT D l f h kn J) n ≤ J * n
  | 0 => by simp [SUMH]
  | n + 1 => by
    have ih := CNT_bd2 D l f kn J n
    have b := CNT_bd D l f n kn J
    simp only [SUMH]
    rw [Int.natCast_add, Int.mul_add]
    omega
end Go.Proofs.Ytaggpjlkapnonaa
