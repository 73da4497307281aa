/-
  The reference's Check of a district: numbers, fractions, reaches, crops and farms.
-/
import Derived.Test.YtaggpjlkapnonaaC6
set_option linter.unusedSimpArgs false
set_option linter.unusedVariables false
set_option linter.unusedSectionVars false
namespace Go.Proofs.Ytaggpjlkapnonaa
open Go GoV
set_option maxRecDepth 100000

theorem c_within (n lo hi : Int) : ap Try.prog pol 55 [I n, I lo, I hi] = some (.ret (.bool (decide (lo ≤ n ∧ n ≤ hi)))) := by
  rw [ap_eq _ Try.func55 rfl Try.ntmps55 Try.results55 (by kernel_rfl) rfl (by exact Nat.le_of_ble_eq_true rfl)]
  simp (config := { maxSteps := 1000000 }) only [RUN, PATHS, BASE, FA, POL, start_tm, Heap.empty, reduceIte, Nat.reduceLT, Nat.reduceLeDiff, Nat.reduceEqDiff, Nat.reduceAdd, Nat.reduceSub, Nat.reduceMul, Nat.reduceBEq, Int.reduceLT, Int.reduceLE, Int.reduceEq, Int.reduceNeg, Int.reduceAdd, Int.reduceSub, Int.reduceMul, Bool.false_eq_true, Bool.not_true, Bool.not_false, decide_eq_true_eq, and_self, true_and, and_true, reduceCtorEq, ne_eq, not_false_eq_true, not_true_eq_false, decide_true, decide_false, or_false, false_or, b_and]
theorem c_refshares (a b c d : Int) (ha : I64 a) (hb : I64 b) (hc : I64 c) (hd : I64 d) : ap Try.prog pol 63 [.agg [I a, I b, I c, I d]] = some (.ret (.bool (decide (SHR a b c d)))) := by
  rw [ap_eq _ Try.func63 rfl Try.ntmps63 Try.results63 (by kernel_rfl) rfl (by exact Nat.le_of_ble_eq_true rfl)]
  by_cases h1 : VALID a b
  rotate_left
  · simp (config := { maxSteps := 1000000 }) only [RUN, PATHS, BASE, FA, POL, start_tm, Heap.empty, reduceIte, Nat.reduceLT, Nat.reduceLeDiff, Nat.reduceEqDiff, Nat.reduceAdd, Nat.reduceSub, Nat.reduceMul, Nat.reduceBEq, Int.reduceLT, Int.reduceLE, Int.reduceEq, Int.reduceNeg, Int.reduceAdd, Int.reduceSub, Int.reduceMul, Bool.false_eq_true, Bool.not_true, Bool.not_false, decide_eq_true_eq, and_self, true_and, and_true, reduceCtorEq, ne_eq, not_false_eq_true, not_true_eq_false, decide_true, decide_false, or_false, false_or, NUM, c_refcheck12 a b ha hb, h1]
    exact b_no fun h => h1 h.1
  by_cases h2 : VALID c d
  rotate_left
  · simp (config := { maxSteps := 1000000 }) only [RUN, PATHS, BASE, FA, POL, start_tm, Heap.empty, reduceIte, Nat.reduceLT, Nat.reduceLeDiff, Nat.reduceEqDiff, Nat.reduceAdd, Nat.reduceSub, Nat.reduceMul, Nat.reduceBEq, Int.reduceLT, Int.reduceLE, Int.reduceEq, Int.reduceNeg, Int.reduceAdd, Int.reduceSub, Int.reduceMul, Bool.false_eq_true, Bool.not_true, Bool.not_false, decide_eq_true_eq, and_self, true_and, and_true, reduceCtorEq, ne_eq, not_false_eq_true, not_true_eq_false, decide_true, decide_false, or_false, false_or, NUM, c_refcheck12 a b ha hb, c_refcheck12 c d hc hd, h1, h2]
    exact b_no fun h => h2 h.2.1
  have e : CMPR a b c d = (CMP (w64 (a * d)) (w64 (c * b)), 0) := by simp only [CMPR, h1, h2, and_self, if_true]
  simp (config := { maxSteps := 1000000 }) only [RUN, PATHS, BASE, FA, POL, start_tm, Heap.empty, reduceIte, Nat.reduceLT, Nat.reduceLeDiff, Nat.reduceEqDiff, Nat.reduceAdd, Nat.reduceSub, Nat.reduceMul, Nat.reduceBEq, Int.reduceLT, Int.reduceLE, Int.reduceEq, Int.reduceNeg, Int.reduceAdd, Int.reduceSub, Int.reduceMul, Bool.false_eq_true, Bool.not_true, Bool.not_false, decide_eq_true_eq, and_self, true_and, and_true, reduceCtorEq, ne_eq, not_false_eq_true, not_true_eq_false, decide_true, decide_false, or_false, false_or, NUM, c_refcheck12 a b ha hb, c_refcheck12 c d hc hd, c_refcmp a b c d ha hb hc hd, h1, h2, e, b_and]
  refine b_iff ?_
  unfold SHR
  simp only [h1, h2, true_and, and_assoc]
theorem c_refreach (x : Rch) (h : x.OK) : ap Try.prog pol 61 [rch x] = some (.ret (.bool (decide (RIN x)))) := by
  obtain ⟨nm, up, dl, cp, bk, si, e0, e1, s0, s1, s2, s3⟩ := x
  obtain ⟨ha, hb, hc, hd⟩ := h
  simp only at ha hb hc hd
  rw [ap_eq _ Try.func61 rfl Try.ntmps61 Try.results61 (by kernel_rfl) rfl (by exact Nat.le_of_ble_eq_true rfl)]
  simp (config := { maxSteps := 1000000 }) only [RUN, PATHS, BASE, FA, POL, start_tm, Heap.empty, reduceIte, Nat.reduceLT, Nat.reduceLeDiff, Nat.reduceEqDiff, Nat.reduceAdd, Nat.reduceSub, Nat.reduceMul, Nat.reduceBEq, Int.reduceLT, Int.reduceLE, Int.reduceEq, Int.reduceNeg, Int.reduceAdd, Int.reduceSub, Int.reduceMul, Bool.false_eq_true, Bool.not_true, Bool.not_false, decide_eq_true_eq, and_self, true_and, and_true, reduceCtorEq, ne_eq, not_false_eq_true, not_true_eq_false, decide_true, decide_false, or_false, false_or, NUM, c_within, c_refshares s0 s1 s2 s3 ha hb hc hd, b_and, b_nand]
  refine b_iff ?_
  unfold RIN
  simp only [Decidable.not_not]
  constructor
  · rintro ⟨h1, h2, h3, h4, h5, h6, h7⟩
    exact ⟨h1, by omega, by omega, by omega, h7⟩
  · rintro ⟨h1, h2, h3, h4, h7⟩
    exact ⟨h1, by omega, by omega, by omega, by omega, by omega, h7⟩
section
variable {α : Type} (f : α → PV)
theorem STR (h0 : ∀ x, strip0 (f x) = f x) (h1 : ∀ H x, strip1 H (f x) = f x) (h2 : ∀ H x, strip2 H (f x) = f x) :
    (∀ l : List α, strip0L (l.map f) = l.map f) ∧ (∀ l : List α, (l.map f).map strip0 = l.map f) ∧ (∀ H (l : List α), (l.map f).map (strip1 H) = l.map f) ∧ (∀ H (l : List α), (l.map f).map (strip2 H) = l.map f) ∧ (∀ H (l : List α), strip1L H (l.map f) = l.map f) ∧ (∀ H (l : List α), strip2L H (l.map f) = l.map f) := by
  refine ⟨fun l => ?_, fun l => ?_, fun H l => ?_, fun H l => ?_, fun H l => ?_, fun H l => ?_⟩
  · rw [strip0L_map]; simp [h0]
  · simp [h0]
  · simp [h1]
  · simp [h2]
  · rw [strip1L_map]; simp [h1]
  · rw [strip2L_map]; simp [h2]
end
theorem SRCH : (∀ l : List Rch, strip0L (l.map rch) = l.map rch) ∧ (∀ l : List Rch, (l.map rch).map strip0 = l.map rch) ∧ (∀ H (l : List Rch), (l.map rch).map (strip1 H) = l.map rch) ∧ (∀ H (l : List Rch), (l.map rch).map (strip2 H) = l.map rch) ∧ (∀ H (l : List Rch), strip1L H (l.map rch) = l.map rch) ∧ (∀ H (l : List Rch), strip2L H (l.map rch) = l.map rch) := STR rch (fun _ => rfl) (fun _ _ => rfl) (fun _ _ => rfl)
theorem SFRM : (∀ l : List Frm, strip0L (l.map frm) = l.map frm) ∧ (∀ l : List Frm, (l.map frm).map strip0 = l.map frm) ∧ (∀ H (l : List Frm), (l.map frm).map (strip1 H) = l.map frm) ∧ (∀ H (l : List Frm), (l.map frm).map (strip2 H) = l.map frm) ∧ (∀ H (l : List Frm), strip1L H (l.map frm) = l.map frm) ∧ (∀ H (l : List Frm), strip2L H (l.map frm) = l.map frm) := STR frm (fun _ => rfl) (fun _ _ => rfl) (fun _ _ => rfl)
theorem SCRP : (∀ l : List Crp, strip0L (l.map crp) = l.map crp) ∧ (∀ l : List Crp, (l.map crp).map strip0 = l.map crp) ∧ (∀ H (l : List Crp), (l.map crp).map (strip1 H) = l.map crp) ∧ (∀ H (l : List Crp), (l.map crp).map (strip2 H) = l.map crp) ∧ (∀ H (l : List Crp), strip1L H (l.map crp) = l.map crp) ∧ (∀ H (l : List Crp), strip2L H (l.map crp) = l.map crp) := STR crp (fun _ => rfl) (fun _ _ => rfl) (fun _ _ => rfl)
theorem SRGT : (∀ l : List Rgt, strip0L (l.map rgt) = l.map rgt) ∧ (∀ l : List Rgt, (l.map rgt).map strip0 = l.map rgt) ∧ (∀ H (l : List Rgt), (l.map rgt).map (strip1 H) = l.map rgt) ∧ (∀ H (l : List Rgt), (l.map rgt).map (strip2 H) = l.map rgt) ∧ (∀ H (l : List Rgt), strip1L H (l.map rgt) = l.map rgt) ∧ (∀ H (l : List Rgt), strip2L H (l.map rgt) = l.map rgt) := STR rgt (fun _ => rfl) (fun _ _ => rfl) (fun _ _ => rfl)
theorem SDTY : (∀ l : List Dty, strip0L (l.map dty) = l.map dty) ∧ (∀ l : List Dty, (l.map dty).map strip0 = l.map dty) ∧ (∀ H (l : List Dty), (l.map dty).map (strip1 H) = l.map dty) ∧ (∀ H (l : List Dty), (l.map dty).map (strip2 H) = l.map dty) ∧ (∀ H (l : List Dty), strip1L H (l.map dty) = l.map dty) ∧ (∀ H (l : List Dty), strip2L H (l.map dty) = l.map dty) := STR dty (fun _ => rfl) (fun _ _ => rfl) (fun _ _ => rfl)
/-- A well, its kernel a plain list. -/
structure Wel where
  (f r d : Int) (k : List Int)
abbrev wel (x : Wel) : PV := well x.f x.r x.d x.k none
theorem SWEL : (∀ l : List Wel, strip0L (l.map wel) = l.map wel) ∧ (∀ l : List Wel, (l.map wel).map strip0 = l.map wel) ∧ (∀ H (l : List Wel), (l.map wel).map (strip1 H) = l.map wel) ∧ (∀ H (l : List Wel), (l.map wel).map (strip2 H) = l.map wel) ∧ (∀ H (l : List Wel), strip1L H (l.map wel) = l.map wel) ∧ (∀ H (l : List Wel), strip2L H (l.map wel) = l.map wel) := STR wel
  (fun x => by show PV.agg [I x.f, I x.r, I x.d, .vs 1 (strip0L (x.k.map I)) none] = _; rw [strip0_ints])
  (fun H x => by show PV.agg [I x.f, I x.r, I x.d, .vs 1 (strip1L H (x.k.map I)) none] = _; rw [strip1_ints])
  (fun H x => by show PV.agg [I x.f, I x.r, I x.d, .vs 1 (strip2L H (x.k.map I)) none] = _; rw [strip2_ints])
abbrev dv (D : Dis) (ws : List Wel) : PV := dist D.nm D.hours D.cap D.start (.vs 12 (D.rs.map rch) none) (.vs 4 (D.fs.map frm) none) (.vs 2 (D.cs.map crp) none) (.vs 10 (D.gs.map rgt) none) (.vs 4 (D.ds.map dty) none) (.vs 4 (ws.map wel) none)
theorem ALLI_not {α : Type} {P : Nat → α → Prop} {l : List α} {j : Nat} {x : α} (e : l[j]? = some x) (h : ¬ P j x) : ¬ ALLI P l := fun g => h (g j x e)
theorem ALLI_full {α : Type} {P : Nat → α → Prop} {l : List α} {j : Nat} (h : ALLI P (l.take j)) (hj : l.length ≤ j) : ALLI P l := by rwa [List.take_of_length_le hj] at h
theorem ALLI_0 {α : Type} {P : Nat → α → Prop} (l : List α) : ALLI P (l.take 0) := fun i x h => by simp at h
theorem map_get {α : Type} {f : α → PV} {l : List α} {k : Nat} {x : α} (h : l[k]? = some x) : (l.map f)[k]? = some (f x) := by simp [h]
theorem c_refreaches (rs : List Rch) (c : Option Nat) (hr : ∀ x ∈ rs, x.OK) (hl : rs.length ≤ 10000) : ∃ b, ap Try.prog pol 56 [.vs 12 (rs.map rch) c] = some (.ret (.bool b)) ∧ (b = true ↔ (0 < rs.length ∧ ALLI (fun i x => RUP i x ∧ RIN x) rs)) := by
  rw [ap_eq _ Try.func56 rfl Try.ntmps56 Try.results56 (by kernel_rfl) rfl (by exact Nat.le_of_ble_eq_true rfl)]
  simp (config := { maxSteps := 1000000 }) only [RUN, PATHS, BASE, FA, POL, start_tm, Heap.empty, reduceIte, Nat.reduceLT, Nat.reduceLeDiff, Nat.reduceEqDiff, Nat.reduceAdd, Nat.reduceSub, Nat.reduceMul, Nat.reduceBEq, Int.reduceLT, Int.reduceLE, Int.reduceEq, Int.reduceNeg, Int.reduceAdd, Int.reduceSub, Int.reduceMul, Bool.false_eq_true, Bool.not_true, Bool.not_false, decide_eq_true_eq, and_self, true_and, and_true, reduceCtorEq, ne_eq, not_false_eq_true, not_true_eq_false, decide_true, decide_false, or_false, false_or, SRCH]
  generalize hL : W _ (.loop _) _ = L
  obtain ⟨ex, s, rfl, hd, hf, hex⟩ := loop_at hL (α := Nat) (fun j => rs.length - j)
    (fun s0 j s => j ≤ rs.length ∧ ALLI (fun i x => RUP i x ∧ RIN x) (rs.take j) ∧ s.tmps 3 = I j ∧ s.tmps 0 = .vs 12 (rs.map rch) c ∧ s.defers = [] ∧ s.fid = 0)
    (fun s0 ex s => s.defers = [] ∧ s.fid = 0 ∧ ((ex = .exit 0 ∧ ALLI (fun i x => RUP i x ∧ RIN x) rs ∧ s.tmps 0 = .vs 12 (rs.map rch) c) ∨ (ex = .ret ∧ ¬ ALLI (fun i x => RUP i x ∧ RIN x) rs ∧ s.tmps 2 = .bool false))) 0
    (by simp (config := { maxSteps := 1000000 }) only [RUN, PATHS, BASE, FA, POL, start_tm, Heap.empty, reduceIte, Nat.reduceLT, Nat.reduceLeDiff, Nat.reduceEqDiff, Nat.reduceAdd, Nat.reduceSub, Nat.reduceMul, Nat.reduceBEq, Int.reduceLT, Int.reduceLE, Int.reduceEq, Int.reduceNeg, Int.reduceAdd, Int.reduceSub, Int.reduceMul, Bool.false_eq_true, Bool.not_true, Bool.not_false, decide_eq_true_eq, and_self, true_and, and_true, reduceCtorEq, ne_eq, not_false_eq_true, not_true_eq_false, decide_true, decide_false, or_false, false_or, List.take_zero]; exact ⟨Nat.zero_le _, fun i x h => by simp at h, by simp⟩) (by
      rintro j s r0 hW ⟨hj, ha, h3, h0, hd, hf⟩
      by_cases hp : j < rs.length
      · have e0 : rs[j]? = some rs[j] := List.getElem?_eq_getElem hp
        have e1 := map_get (f := rch) e0
        have ok := hr _ (List.getElem_mem hp)
        have cr := c_refreach rs[j] ok
        generalize rs[j] = x at *
        by_cases hj0 : j = 0
        · by_cases hu : RUP j x
          · have hu' : x.up = -1 := by unfold RUP at hu; omega
            by_cases hi : RIN x
            · simp (config := { maxSteps := 1000000 }) only [RUN, PATHS, BASE, FA, POL, start_tm, Heap.empty, reduceIte, Nat.reduceLT, Nat.reduceLeDiff, Nat.reduceEqDiff, Nat.reduceAdd, Nat.reduceSub, Nat.reduceMul, Nat.reduceBEq, Int.reduceLT, Int.reduceLE, Int.reduceEq, Int.reduceNeg, Int.reduceAdd, Int.reduceSub, Int.reduceMul, Bool.false_eq_true, Bool.not_true, Bool.not_false, decide_eq_true_eq, and_self, true_and, and_true, reduceCtorEq, ne_eq, not_false_eq_true, not_true_eq_false, decide_true, decide_false, or_false, false_or, NUM, SRCH, h3, h0, hd, hf, e1, cr, c_within, eq_true (show (j : Int) = 0 by omega), (show ¬ (0 : Int) < j by omega), List.length_map, Int.toNat_natCast, (show (j : Int) < rs.length by omega), (show (0 : Int) ≤ j by omega), (i64_in (x := (j : Int) + 1) (by unfold I64; omega)), (i64_in (x := (j : Int) - 1) (by unfold I64; omega)), eq_true hu', hi] at hW
              subst hW
              refine rd_next (j + 1) ?_ (show rs.length - (j + 1) < rs.length - j by omega)
              simp (config := { maxSteps := 1000000 }) only [RUN, PATHS, BASE, FA, POL, start_tm, Heap.empty, reduceIte, Nat.reduceLT, Nat.reduceLeDiff, Nat.reduceEqDiff, Nat.reduceAdd, Nat.reduceSub, Nat.reduceMul, Nat.reduceBEq, Int.reduceLT, Int.reduceLE, Int.reduceEq, Int.reduceNeg, Int.reduceAdd, Int.reduceSub, Int.reduceMul, Bool.false_eq_true, Bool.not_true, Bool.not_false, decide_eq_true_eq, and_self, true_and, and_true, reduceCtorEq, ne_eq, not_false_eq_true, not_true_eq_false, decide_true, decide_false, or_false, false_or, h0]
              exact ⟨by omega, ALLI_take ha e0 ⟨hu, hi⟩, by simp⟩
            · simp (config := { maxSteps := 1000000 }) only [RUN, PATHS, BASE, FA, POL, start_tm, Heap.empty, reduceIte, Nat.reduceLT, Nat.reduceLeDiff, Nat.reduceEqDiff, Nat.reduceAdd, Nat.reduceSub, Nat.reduceMul, Nat.reduceBEq, Int.reduceLT, Int.reduceLE, Int.reduceEq, Int.reduceNeg, Int.reduceAdd, Int.reduceSub, Int.reduceMul, Bool.false_eq_true, Bool.not_true, Bool.not_false, decide_eq_true_eq, and_self, true_and, and_true, reduceCtorEq, ne_eq, not_false_eq_true, not_true_eq_false, decide_true, decide_false, or_false, false_or, NUM, SRCH, h3, h0, hd, hf, e1, cr, c_within, eq_true (show (j : Int) = 0 by omega), (show ¬ (0 : Int) < j by omega), List.length_map, Int.toNat_natCast, (show (j : Int) < rs.length by omega), (show (0 : Int) ≤ j by omega), (i64_in (x := (j : Int) + 1) (by unfold I64; omega)), (i64_in (x := (j : Int) - 1) (by unfold I64; omega)), eq_true hu', hi] at hW
              subst hW
              refine rd_ret ⟨?_, ?_, .inr ⟨rfl, ALLI_not (P := fun i x => RUP i x ∧ RIN x) e0 (fun h => hi h.2), ?_⟩⟩ <;> simp (config := { maxSteps := 1000000 }) only [RUN, PATHS, BASE, FA, POL, start_tm, Heap.empty, reduceIte, Nat.reduceLT, Nat.reduceLeDiff, Nat.reduceEqDiff, Nat.reduceAdd, Nat.reduceSub, Nat.reduceMul, Nat.reduceBEq, Int.reduceLT, Int.reduceLE, Int.reduceEq, Int.reduceNeg, Int.reduceAdd, Int.reduceSub, Int.reduceMul, Bool.false_eq_true, Bool.not_true, Bool.not_false, decide_eq_true_eq, and_self, true_and, and_true, reduceCtorEq, ne_eq, not_false_eq_true, not_true_eq_false, decide_true, decide_false, or_false, false_or, hd, hf]
          · have hu' : ¬ x.up = -1 := by unfold RUP at hu; omega
            simp (config := { maxSteps := 1000000 }) only [RUN, PATHS, BASE, FA, POL, start_tm, Heap.empty, reduceIte, Nat.reduceLT, Nat.reduceLeDiff, Nat.reduceEqDiff, Nat.reduceAdd, Nat.reduceSub, Nat.reduceMul, Nat.reduceBEq, Int.reduceLT, Int.reduceLE, Int.reduceEq, Int.reduceNeg, Int.reduceAdd, Int.reduceSub, Int.reduceMul, Bool.false_eq_true, Bool.not_true, Bool.not_false, decide_eq_true_eq, and_self, true_and, and_true, reduceCtorEq, ne_eq, not_false_eq_true, not_true_eq_false, decide_true, decide_false, or_false, false_or, NUM, SRCH, h3, h0, hd, hf, e1, cr, c_within, eq_true (show (j : Int) = 0 by omega), (show ¬ (0 : Int) < j by omega), List.length_map, Int.toNat_natCast, (show (j : Int) < rs.length by omega), (show (0 : Int) ≤ j by omega), (i64_in (x := (j : Int) + 1) (by unfold I64; omega)), (i64_in (x := (j : Int) - 1) (by unfold I64; omega)), eq_false hu'] at hW
            subst hW
            refine rd_ret ⟨?_, ?_, .inr ⟨rfl, ALLI_not (P := fun i x => RUP i x ∧ RIN x) e0 (fun h => hu h.1), ?_⟩⟩ <;> simp (config := { maxSteps := 1000000 }) only [RUN, PATHS, BASE, FA, POL, start_tm, Heap.empty, reduceIte, Nat.reduceLT, Nat.reduceLeDiff, Nat.reduceEqDiff, Nat.reduceAdd, Nat.reduceSub, Nat.reduceMul, Nat.reduceBEq, Int.reduceLT, Int.reduceLE, Int.reduceEq, Int.reduceNeg, Int.reduceAdd, Int.reduceSub, Int.reduceMul, Bool.false_eq_true, Bool.not_true, Bool.not_false, decide_eq_true_eq, and_self, true_and, and_true, reduceCtorEq, ne_eq, not_false_eq_true, not_true_eq_false, decide_true, decide_false, or_false, false_or, hd, hf]
        · by_cases hu : RUP j x
          · have hu' : 0 ≤ x.up ∧ x.up ≤ (j : Int) - 1 := by unfold RUP at hu; omega
            by_cases hi : RIN x
            · simp (config := { maxSteps := 1000000 }) only [RUN, PATHS, BASE, FA, POL, start_tm, Heap.empty, reduceIte, Nat.reduceLT, Nat.reduceLeDiff, Nat.reduceEqDiff, Nat.reduceAdd, Nat.reduceSub, Nat.reduceMul, Nat.reduceBEq, Int.reduceLT, Int.reduceLE, Int.reduceEq, Int.reduceNeg, Int.reduceAdd, Int.reduceSub, Int.reduceMul, Bool.false_eq_true, Bool.not_true, Bool.not_false, decide_eq_true_eq, and_self, true_and, and_true, reduceCtorEq, ne_eq, not_false_eq_true, not_true_eq_false, decide_true, decide_false, or_false, false_or, NUM, SRCH, h3, h0, hd, hf, e1, cr, c_within, List.length_map, Int.toNat_natCast, (show (j : Int) < rs.length by omega), (show (0 : Int) ≤ j by omega), (i64_in (x := (j : Int) + 1) (by unfold I64; omega)), (i64_in (x := (j : Int) - 1) (by unfold I64; omega)), (show ¬ (j : Int) = 0 by omega), (show (0 : Int) < j by omega), hu', hi] at hW
              subst hW
              refine rd_next (j + 1) ?_ (show rs.length - (j + 1) < rs.length - j by omega)
              simp (config := { maxSteps := 1000000 }) only [RUN, PATHS, BASE, FA, POL, start_tm, Heap.empty, reduceIte, Nat.reduceLT, Nat.reduceLeDiff, Nat.reduceEqDiff, Nat.reduceAdd, Nat.reduceSub, Nat.reduceMul, Nat.reduceBEq, Int.reduceLT, Int.reduceLE, Int.reduceEq, Int.reduceNeg, Int.reduceAdd, Int.reduceSub, Int.reduceMul, Bool.false_eq_true, Bool.not_true, Bool.not_false, decide_eq_true_eq, and_self, true_and, and_true, reduceCtorEq, ne_eq, not_false_eq_true, not_true_eq_false, decide_true, decide_false, or_false, false_or, h0]
              exact ⟨by omega, ALLI_take ha e0 ⟨hu, hi⟩, by simp⟩
            · simp (config := { maxSteps := 1000000 }) only [RUN, PATHS, BASE, FA, POL, start_tm, Heap.empty, reduceIte, Nat.reduceLT, Nat.reduceLeDiff, Nat.reduceEqDiff, Nat.reduceAdd, Nat.reduceSub, Nat.reduceMul, Nat.reduceBEq, Int.reduceLT, Int.reduceLE, Int.reduceEq, Int.reduceNeg, Int.reduceAdd, Int.reduceSub, Int.reduceMul, Bool.false_eq_true, Bool.not_true, Bool.not_false, decide_eq_true_eq, and_self, true_and, and_true, reduceCtorEq, ne_eq, not_false_eq_true, not_true_eq_false, decide_true, decide_false, or_false, false_or, NUM, SRCH, h3, h0, hd, hf, e1, cr, c_within, List.length_map, Int.toNat_natCast, (show (j : Int) < rs.length by omega), (show (0 : Int) ≤ j by omega), (i64_in (x := (j : Int) + 1) (by unfold I64; omega)), (i64_in (x := (j : Int) - 1) (by unfold I64; omega)), (show ¬ (j : Int) = 0 by omega), (show (0 : Int) < j by omega), hu', hi] at hW
              subst hW
              refine rd_ret ⟨?_, ?_, .inr ⟨rfl, ALLI_not (P := fun i x => RUP i x ∧ RIN x) e0 (fun h => hi h.2), ?_⟩⟩ <;> simp (config := { maxSteps := 1000000 }) only [RUN, PATHS, BASE, FA, POL, start_tm, Heap.empty, reduceIte, Nat.reduceLT, Nat.reduceLeDiff, Nat.reduceEqDiff, Nat.reduceAdd, Nat.reduceSub, Nat.reduceMul, Nat.reduceBEq, Int.reduceLT, Int.reduceLE, Int.reduceEq, Int.reduceNeg, Int.reduceAdd, Int.reduceSub, Int.reduceMul, Bool.false_eq_true, Bool.not_true, Bool.not_false, decide_eq_true_eq, and_self, true_and, and_true, reduceCtorEq, ne_eq, not_false_eq_true, not_true_eq_false, decide_true, decide_false, or_false, false_or, hd, hf]
          · have hu' : ¬ (0 ≤ x.up ∧ x.up ≤ (j : Int) - 1) := by unfold RUP at hu; omega
            simp (config := { maxSteps := 1000000 }) only [RUN, PATHS, BASE, FA, POL, start_tm, Heap.empty, reduceIte, Nat.reduceLT, Nat.reduceLeDiff, Nat.reduceEqDiff, Nat.reduceAdd, Nat.reduceSub, Nat.reduceMul, Nat.reduceBEq, Int.reduceLT, Int.reduceLE, Int.reduceEq, Int.reduceNeg, Int.reduceAdd, Int.reduceSub, Int.reduceMul, Bool.false_eq_true, Bool.not_true, Bool.not_false, decide_eq_true_eq, and_self, true_and, and_true, reduceCtorEq, ne_eq, not_false_eq_true, not_true_eq_false, decide_true, decide_false, or_false, false_or, NUM, SRCH, h3, h0, hd, hf, e1, cr, c_within, List.length_map, Int.toNat_natCast, (show (j : Int) < rs.length by omega), (show (0 : Int) ≤ j by omega), (i64_in (x := (j : Int) + 1) (by unfold I64; omega)), (i64_in (x := (j : Int) - 1) (by unfold I64; omega)), (show ¬ (j : Int) = 0 by omega), (show (0 : Int) < j by omega), hu'] at hW
            subst hW
            refine rd_ret ⟨?_, ?_, .inr ⟨rfl, ALLI_not (P := fun i x => RUP i x ∧ RIN x) e0 (fun h => hu h.1), ?_⟩⟩ <;> simp (config := { maxSteps := 1000000 }) only [RUN, PATHS, BASE, FA, POL, start_tm, Heap.empty, reduceIte, Nat.reduceLT, Nat.reduceLeDiff, Nat.reduceEqDiff, Nat.reduceAdd, Nat.reduceSub, Nat.reduceMul, Nat.reduceBEq, Int.reduceLT, Int.reduceLE, Int.reduceEq, Int.reduceNeg, Int.reduceAdd, Int.reduceSub, Int.reduceMul, Bool.false_eq_true, Bool.not_true, Bool.not_false, decide_eq_true_eq, and_self, true_and, and_true, reduceCtorEq, ne_eq, not_false_eq_true, not_true_eq_false, decide_true, decide_false, or_false, false_or, hd, hf]
      · simp (config := { maxSteps := 1000000 }) only [RUN, PATHS, BASE, FA, POL, start_tm, Heap.empty, reduceIte, Nat.reduceLT, Nat.reduceLeDiff, Nat.reduceEqDiff, Nat.reduceAdd, Nat.reduceSub, Nat.reduceMul, Nat.reduceBEq, Int.reduceLT, Int.reduceLE, Int.reduceEq, Int.reduceNeg, Int.reduceAdd, Int.reduceSub, Int.reduceMul, Bool.false_eq_true, Bool.not_true, Bool.not_false, decide_eq_true_eq, and_self, true_and, and_true, reduceCtorEq, ne_eq, not_false_eq_true, not_true_eq_false, decide_true, decide_false, or_false, false_or, List.length_map, h3, h0, hd, hf, (show ¬ (j : Int) < rs.length by omega)] at hW
        subst hW
        refine rd_exit ⟨rfl, rfl, .inl ⟨rfl, ALLI_full ha (by omega), ?_⟩⟩
        simp (config := { maxSteps := 1000000 }) only [RUN, PATHS, BASE, FA, POL, start_tm, Heap.empty, reduceIte, Nat.reduceLT, Nat.reduceLeDiff, Nat.reduceEqDiff, Nat.reduceAdd, Nat.reduceSub, Nat.reduceMul, Nat.reduceBEq, Int.reduceLT, Int.reduceLE, Int.reduceEq, Int.reduceNeg, Int.reduceAdd, Int.reduceSub, Int.reduceMul, Bool.false_eq_true, Bool.not_true, Bool.not_false, decide_eq_true_eq, and_self, true_and, and_true, reduceCtorEq, ne_eq, not_false_eq_true, not_true_eq_false, decide_true, decide_false, or_false, false_or, h0])
  rcases hex with ⟨rfl, h, h0⟩ | ⟨rfl, h, h2⟩
  · simp (config := { maxSteps := 1000000 }) only [RUN, PATHS, BASE, FA, POL, start_tm, Heap.empty, reduceIte, Nat.reduceLT, Nat.reduceLeDiff, Nat.reduceEqDiff, Nat.reduceAdd, Nat.reduceSub, Nat.reduceMul, Nat.reduceBEq, Int.reduceLT, Int.reduceLE, Int.reduceEq, Int.reduceNeg, Int.reduceAdd, Int.reduceSub, Int.reduceMul, Bool.false_eq_true, Bool.not_true, Bool.not_false, decide_eq_true_eq, and_self, true_and, and_true, reduceCtorEq, ne_eq, not_false_eq_true, not_true_eq_false, decide_true, decide_false, or_false, false_or, hd, hf, h0, List.length_map]
    exact ⟨_, rfl, by simp [h]⟩
  · simp (config := { maxSteps := 1000000 }) only [RUN, PATHS, BASE, FA, POL, start_tm, Heap.empty, reduceIte, Nat.reduceLT, Nat.reduceLeDiff, Nat.reduceEqDiff, Nat.reduceAdd, Nat.reduceSub, Nat.reduceMul, Nat.reduceBEq, Int.reduceLT, Int.reduceLE, Int.reduceEq, Int.reduceNeg, Int.reduceAdd, Int.reduceSub, Int.reduceMul, Bool.false_eq_true, Bool.not_true, Bool.not_false, decide_eq_true_eq, and_self, true_and, and_true, reduceCtorEq, ne_eq, not_false_eq_true, not_true_eq_false, decide_true, decide_false, or_false, false_or, hd, hf, h2]
    exact ⟨_, rfl, by simp [h]⟩
end Go.Proofs.Ytaggpjlkapnonaa
