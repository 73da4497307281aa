/-
  Surveys: what is a right one.
-/
import Derived.Test.YthhhahkiflkemaaDoorC8
set_option linter.unusedSimpArgs false
set_option linter.unusedVariables false
set_option linter.unusedSectionVars false
namespace Go.Proofs.YthhhahkiflkemaaDoor
open Go GoV
set_option maxRecDepth 100000

structure Rg where
  (lo hi : Int)
abbrev rg (x : Rg) : PV := .agg [I x.lo, I x.hi]
structure Pnd where
  (v h lo hi : Int)
abbrev pnd (x : Pnd) : PV := .agg [I x.v, I x.h, I x.lo, I x.hi]
/-- A survey. -/
structure Srv where
  (su so n0 d0 n1 d1 : Int) (pans : List Rg) (ponds : List Pnd)
abbrev srv (S : Srv) (c c' : Option Nat) : PV := .agg [I S.su, I S.so, I S.n0, I S.d0, I S.n1, I S.d1, .vs 2 (S.pans.map rg) c, .vs 4 (S.ponds.map pnd) c']
def Srv.OK (S : Srv) : Prop := I64 S.n0 ∧ I64 S.d0 ∧ I64 S.n1 ∧ I64 S.d1
def PANK (x : Rg) : Prop := 0 ≤ x.lo ∧ x.lo ≤ x.hi ∧ x.hi ≤ 1000
instance (x : Rg) : Decidable (PANK x) := by unfold PANK; infer_instance
def PNDK (x : Pnd) : Prop := (1 ≤ x.v ∧ x.v ≤ 1073741824) ∧ (1 ≤ x.h ∧ x.h ≤ 4096) ∧ 0 ≤ x.lo ∧ x.lo ≤ x.hi ∧ x.hi ≤ x.v
instance (x : Pnd) : Decidable (PNDK x) := by unfold PNDK; infer_instance
def HEADK (S : Srv) : Prop := (0 ≤ S.su ∧ S.su ≤ 1048576) ∧ (0 ≤ S.so ∧ S.so ≤ 5) ∧ SHS S.n0 S.d0 S.n1 S.d1 ∧ max S.d0 S.d1 ≤ 1000
instance (S : Srv) : Decidable (HEADK S) := by unfold HEADK; infer_instance
def PA (l : List Rg) : Prop := ∀ x ∈ l, PANK x
instance (l : List Rg) : Decidable (PA l) := by unfold PA; infer_instance
def PO (l : List Pnd) : Prop := ∀ x ∈ l, PNDK x
instance (l : List Pnd) : Decidable (PO l) := by unfold PO; infer_instance
def SRVK (S : Srv) : Prop := HEADK S ∧ PA S.pans ∧ PO S.ponds
instance (S : Srv) : Decidable (SRVK S) := by unfold SRVK; infer_instance
def CK (S : Srv) (delay : Int) : Int := if 16 < S.pans.length ∨ 16 < S.ponds.length then 2 else if SRVK S then (if 1 ≤ delay ∧ delay ≤ 16 then 0 else 1) else 210
theorem map_get {α : Type} {f : α → PV} {l : List α} {k : Nat} {x : α} (h : l[k]? = some x) : (l.map f)[k]? = some (f x) := by simp [h]
theorem PA_0 : PA [] := fun y h => by simp at h
theorem PO_0 : PO [] := fun y h => by simp at h
theorem all_take {α : Type} {P : α → Prop} {l : List α} {j : Nat} {x : α} (e : l[j]? = some x) : (∀ y ∈ l.take (j + 1), P y) ↔ (∀ y ∈ l.take j, P y) ∧ P x := by
  rw [List.take_add_one, e]
  constructor
  · intro h; exact ⟨fun y hy => h y (by simp [hy]), h x (by simp)⟩
  · rintro ⟨h1, h2⟩ y hy
    simp only [Option.toList_some, List.mem_append, List.mem_singleton] at hy
    rcases hy with hy | rfl
    · exact h1 y hy
    · exact h2
section
variable {α : Type} (f : α → PV)
theorem STR (h0 : ∀ x, strip0 (f x) = f x) (h1 : ∀ H x, strip1 H (f x) = f x) (h2 : ∀ H x, strip2 H (f x) = f x) :
    (∀ l : List α, strip0L (l.map f) = l.map f) ∧ (∀ l : List α, (l.map f).map strip0 = l.map f) ∧ (∀ H (l : List α), (l.map f).map (strip1 H) = l.map f) ∧ (∀ H (l : List α), (l.map f).map (strip2 H) = l.map f) ∧ (∀ H (l : List α), strip1L H (l.map f) = l.map f) ∧ (∀ H (l : List α), strip2L H (l.map f) = l.map f) := by
  refine ⟨fun l => ?_, fun l => ?_, fun H l => ?_, fun H l => ?_, fun H l => ?_, fun H l => ?_⟩
  · rw [strip0L_map]; simp [h0]
  · simp [h0]
  · simp [h1]
  · simp [h2]
  · rw [strip1L_map]; simp [h1]
  · rw [strip2L_map]; simp [h2]
end
theorem SRG : (∀ l : List Rg, strip0L (l.map rg) = l.map rg) ∧ (∀ l : List Rg, (l.map rg).map strip0 = l.map rg) ∧ (∀ H (l : List Rg), (l.map rg).map (strip1 H) = l.map rg) ∧ (∀ H (l : List Rg), (l.map rg).map (strip2 H) = l.map rg) ∧ (∀ H (l : List Rg), strip1L H (l.map rg) = l.map rg) ∧ (∀ H (l : List Rg), strip2L H (l.map rg) = l.map rg) := STR rg (fun _ => rfl) (fun _ _ => rfl) (fun _ _ => rfl)
theorem SPND : (∀ l : List Pnd, strip0L (l.map pnd) = l.map pnd) ∧ (∀ l : List Pnd, (l.map pnd).map strip0 = l.map pnd) ∧ (∀ H (l : List Pnd), (l.map pnd).map (strip1 H) = l.map pnd) ∧ (∀ H (l : List Pnd), (l.map pnd).map (strip2 H) = l.map pnd) ∧ (∀ H (l : List Pnd), strip1L H (l.map pnd) = l.map pnd) ∧ (∀ H (l : List Pnd), strip2L H (l.map pnd) = l.map pnd) := STR pnd (fun _ => rfl) (fun _ _ => rfl) (fun _ _ => rfl)
theorem c_ck0 (su so n0 d0 n1 d1 : Int) (pans : List Rg) (ponds : List Pnd) (ha : I64 n0) (hb : I64 d0) (hc : I64 n1) (hd : I64 d1) (c c' : Option Nat) (delay : Int) (l1 : ¬ 16 < pans.length) (l2 : ¬ 16 < ponds.length)  (k1 : ¬ (0 ≤ su ∧ su ≤ 1048576)) : ap Tryd.prog pol 33 [srv ⟨su, so, n0, d0, n1, d1, pans, ponds⟩ c c', I delay] = some (.ret (I (if SRVK ⟨su, so, n0, d0, n1, d1, pans, ponds⟩ then (if 1 ≤ delay ∧ delay ≤ 16 then 0 else 1) else 210))) := by
  rw [ap_eq _ Tryd.func33 rfl Tryd.ntmps33 Tryd.results33 (by kernel_rfl) rfl (by exact Nat.le_of_ble_eq_true rfl)]
  have hQ : ¬ HEADK ⟨su, so, n0, d0, n1, d1, pans, ponds⟩ := fun h => k1 h.1
  simp (config := { maxSteps := 1000000 }) only [RUN, PATHS, BASE, FA, POL, start_tm, Heap.empty, reduceIte, Nat.reduceLT, Nat.reduceLeDiff, Nat.reduceEqDiff, Nat.reduceAdd, Nat.reduceSub, Nat.reduceMul, Nat.reduceBEq, Int.reduceLT, Int.reduceLE, Int.reduceEq, Int.reduceNeg, Int.reduceAdd, Int.reduceSub, Int.reduceMul, Bool.false_eq_true, Bool.not_true, Bool.not_false, decide_eq_true_eq, and_self, true_and, and_true, reduceCtorEq, ne_eq, not_false_eq_true, not_true_eq_false, decide_true, decide_false, or_false, false_or, NUM, List.length_map, (show ¬ (16 : Int) < pans.length by omega), (show ¬ (16 : Int) < ponds.length by omega), c_in, c_shares n0 d0 n1 d1 ha hb hc hd, eq_false k1]
  generalize hL : W _ (.loop _) _ = L
  obtain ⟨ex, s, rfl, rfl, g5, g1, g2, gb, gd, gf⟩ := loop_at hL (α := Nat) (fun j => pans.length - j)
    (fun s0 j s => j ≤ pans.length ∧ s.tmps 48 = I j ∧ s.tmps 47 = I pans.length ∧ s.tmps 46 = .vs 2 (pans.map rg) c ∧ s.tmps 5 = .bool (decide (HEADK ⟨su, so, n0, d0, n1, d1, pans, ponds⟩ ∧ PA (pans.take j))) ∧ s.tmps 1 = I delay ∧ s.tmps 2 = .bptr 0 2 0 0 ∧ s.boxes 2 = some (0, [I su, I so, I n0, I d0, I n1, I d1, .vs 2 (pans.map rg) c, .vs 4 (ponds.map pnd) c']) ∧ s.defers = [] ∧ s.fid = 0)
    (fun s0 ex s => ex = .exit 0 ∧ s.tmps 5 = .bool (decide (HEADK ⟨su, so, n0, d0, n1, d1, pans, ponds⟩ ∧ PA pans)) ∧ s.tmps 1 = I delay ∧ s.tmps 2 = .bptr 0 2 0 0 ∧ s.boxes 2 = some (0, [I su, I so, I n0, I d0, I n1, I d1, .vs 2 (pans.map rg) c, .vs 4 (ponds.map pnd) c']) ∧ s.defers = [] ∧ s.fid = 0) 0
    (by simp (config := { maxSteps := 1000000 }) only [RUN, PATHS, BASE, FA, POL, start_tm, Heap.empty, reduceIte, Nat.reduceLT, Nat.reduceLeDiff, Nat.reduceEqDiff, Nat.reduceAdd, Nat.reduceSub, Nat.reduceMul, Nat.reduceBEq, Int.reduceLT, Int.reduceLE, Int.reduceEq, Int.reduceNeg, Int.reduceAdd, Int.reduceSub, Int.reduceMul, Bool.false_eq_true, Bool.not_true, Bool.not_false, decide_eq_true_eq, and_self, true_and, and_true, reduceCtorEq, ne_eq, not_false_eq_true, not_true_eq_false, decide_true, decide_false, or_false, false_or, List.take_zero]; simp [hQ, PA_0]) (by
      rintro j s r0 hW ⟨hj, h48, h47, h46, h5, h1, h2, hbx, hd, hf⟩
      by_cases hp : j < pans.length
      · have e0 : pans[j]? = some pans[j] := List.getElem?_eq_getElem hp
        have e1 := map_get (f := rg) e0
        have at' : PA (pans.take (j + 1)) ↔ PA (pans.take j) ∧ PANK _ := all_take (P := PANK) e0
        generalize pans[j] = x at *
        by_cases hq : HEADK ⟨su, so, n0, d0, n1, d1, pans, ponds⟩ ∧ PA (pans.take j)
        · rw [decide_eq_true hq] at h5
          have en : decide (HEADK ⟨su, so, n0, d0, n1, d1, pans, ponds⟩ ∧ PA (pans.take (j + 1))) = decide (0 ≤ x.lo ∧ x.lo ≤ x.hi ∧ x.hi ≤ 1000) := decide_eq_decide.2 (by rw [at']; exact ⟨fun h => h.2.2, fun h => ⟨hq.1, hq.2, h⟩⟩)
          simp (config := { maxSteps := 1000000 }) only [RUN, PATHS, BASE, FA, POL, start_tm, Heap.empty, reduceIte, Nat.reduceLT, Nat.reduceLeDiff, Nat.reduceEqDiff, Nat.reduceAdd, Nat.reduceSub, Nat.reduceMul, Nat.reduceBEq, Int.reduceLT, Int.reduceLE, Int.reduceEq, Int.reduceNeg, Int.reduceAdd, Int.reduceSub, Int.reduceMul, Bool.false_eq_true, Bool.not_true, Bool.not_false, decide_eq_true_eq, and_self, true_and, and_true, reduceCtorEq, ne_eq, not_false_eq_true, not_true_eq_false, decide_true, decide_false, or_false, false_or, NUM, h48, h47, h46, h5, h1, h2, hbx, hd, hf, e1, c_ordered, List.length_map, Int.toNat_natCast, (show (j : Int) < pans.length by omega), (show (0 : Int) ≤ j by omega), (i64_in (x := (j : Int) + 1) (by unfold I64; omega))] at hW
          subst hW
          refine rd_next (j + 1) ?_ (show pans.length - (j + 1) < pans.length - j by omega)
          simp (config := { maxSteps := 1000000 }) only [RUN, PATHS, BASE, FA, POL, start_tm, Heap.empty, reduceIte, Nat.reduceLT, Nat.reduceLeDiff, Nat.reduceEqDiff, Nat.reduceAdd, Nat.reduceSub, Nat.reduceMul, Nat.reduceBEq, Int.reduceLT, Int.reduceLE, Int.reduceEq, Int.reduceNeg, Int.reduceAdd, Int.reduceSub, Int.reduceMul, Bool.false_eq_true, Bool.not_true, Bool.not_false, decide_eq_true_eq, and_self, true_and, and_true, reduceCtorEq, ne_eq, not_false_eq_true, not_true_eq_false, decide_true, decide_false, or_false, false_or, h47, h46, h1, h2, hbx, en]
          exact ⟨by omega, by simp⟩
        · rw [decide_eq_false hq] at h5
          have en : decide (HEADK ⟨su, so, n0, d0, n1, d1, pans, ponds⟩ ∧ PA (pans.take (j + 1))) = false := decide_eq_false (by rw [at']; exact fun h => hq ⟨h.1, h.2.1⟩)
          simp (config := { maxSteps := 1000000 }) only [RUN, PATHS, BASE, FA, POL, start_tm, Heap.empty, reduceIte, Nat.reduceLT, Nat.reduceLeDiff, Nat.reduceEqDiff, Nat.reduceAdd, Nat.reduceSub, Nat.reduceMul, Nat.reduceBEq, Int.reduceLT, Int.reduceLE, Int.reduceEq, Int.reduceNeg, Int.reduceAdd, Int.reduceSub, Int.reduceMul, Bool.false_eq_true, Bool.not_true, Bool.not_false, decide_eq_true_eq, and_self, true_and, and_true, reduceCtorEq, ne_eq, not_false_eq_true, not_true_eq_false, decide_true, decide_false, or_false, false_or, NUM, h48, h47, h46, h5, h1, h2, hbx, hd, hf, e1, List.length_map, Int.toNat_natCast, (show (j : Int) < pans.length by omega), (show (0 : Int) ≤ j by omega), (i64_in (x := (j : Int) + 1) (by unfold I64; omega))] at hW
          subst hW
          refine rd_next (j + 1) ?_ (show pans.length - (j + 1) < pans.length - j by omega)
          simp (config := { maxSteps := 1000000 }) only [RUN, PATHS, BASE, FA, POL, start_tm, Heap.empty, reduceIte, Nat.reduceLT, Nat.reduceLeDiff, Nat.reduceEqDiff, Nat.reduceAdd, Nat.reduceSub, Nat.reduceMul, Nat.reduceBEq, Int.reduceLT, Int.reduceLE, Int.reduceEq, Int.reduceNeg, Int.reduceAdd, Int.reduceSub, Int.reduceMul, Bool.false_eq_true, Bool.not_true, Bool.not_false, decide_eq_true_eq, and_self, true_and, and_true, reduceCtorEq, ne_eq, not_false_eq_true, not_true_eq_false, decide_true, decide_false, or_false, false_or, h47, h46, h1, h2, hbx, en]
          exact ⟨by omega, by simp⟩
      · simp (config := { maxSteps := 1000000 }) only [RUN, PATHS, BASE, FA, POL, start_tm, Heap.empty, reduceIte, Nat.reduceLT, Nat.reduceLeDiff, Nat.reduceEqDiff, Nat.reduceAdd, Nat.reduceSub, Nat.reduceMul, Nat.reduceBEq, Int.reduceLT, Int.reduceLE, Int.reduceEq, Int.reduceNeg, Int.reduceAdd, Int.reduceSub, Int.reduceMul, Bool.false_eq_true, Bool.not_true, Bool.not_false, decide_eq_true_eq, and_self, true_and, and_true, reduceCtorEq, ne_eq, not_false_eq_true, not_true_eq_false, decide_true, decide_false, or_false, false_or, List.length_map, h48, h47, h46, h5, h1, h2, hbx, hd, hf, (show ¬ (j : Int) < pans.length by omega)] at hW
        subst hW
        rw [List.take_of_length_le (by omega)] at h5
        refine rd_exit ⟨rfl, ?_⟩
        simp (config := { maxSteps := 1000000 }) only [RUN, PATHS, BASE, FA, POL, start_tm, Heap.empty, reduceIte, Nat.reduceLT, Nat.reduceLeDiff, Nat.reduceEqDiff, Nat.reduceAdd, Nat.reduceSub, Nat.reduceMul, Nat.reduceBEq, Int.reduceLT, Int.reduceLE, Int.reduceEq, Int.reduceNeg, Int.reduceAdd, Int.reduceSub, Int.reduceMul, Bool.false_eq_true, Bool.not_true, Bool.not_false, decide_eq_true_eq, and_self, true_and, and_true, reduceCtorEq, ne_eq, not_false_eq_true, not_true_eq_false, decide_true, decide_false, or_false, false_or, h5, h1, h2, hbx])
  simp (config := { maxSteps := 1000000 }) only [RUN, PATHS, BASE, FA, POL, start_tm, Heap.empty, reduceIte, Nat.reduceLT, Nat.reduceLeDiff, Nat.reduceEqDiff, Nat.reduceAdd, Nat.reduceSub, Nat.reduceMul, Nat.reduceBEq, Int.reduceLT, Int.reduceLE, Int.reduceEq, Int.reduceNeg, Int.reduceAdd, Int.reduceSub, Int.reduceMul, Bool.false_eq_true, Bool.not_true, Bool.not_false, decide_eq_true_eq, and_self, true_and, and_true, reduceCtorEq, ne_eq, not_false_eq_true, not_true_eq_false, decide_true, decide_false, or_false, false_or, NUM, g5, g1, g2, gb, gd, gf, List.length_map]
  clear hL
  generalize hL : W _ (.loop _) _ = L
  obtain ⟨ex, s, rfl, rfl, g5, g1, gd, gf⟩ := loop_at hL (α := Nat) (fun j => ponds.length - j)
    (fun s0 j s => j ≤ ponds.length ∧ s.tmps 62 = I j ∧ s.tmps 61 = I ponds.length ∧ s.tmps 60 = .vs 4 (ponds.map pnd) c' ∧ s.tmps 5 = .bool (decide ((HEADK ⟨su, so, n0, d0, n1, d1, pans, ponds⟩ ∧ PA pans) ∧ PO (ponds.take j))) ∧ s.tmps 1 = I delay ∧ s.defers = [] ∧ s.fid = 0)
    (fun s0 ex s => ex = .exit 2 ∧ s.tmps 5 = .bool (decide ((HEADK ⟨su, so, n0, d0, n1, d1, pans, ponds⟩ ∧ PA pans) ∧ PO ponds)) ∧ s.tmps 1 = I delay ∧ s.defers = [] ∧ s.fid = 0) 0
    (by simp (config := { maxSteps := 1000000 }) only [RUN, PATHS, BASE, FA, POL, start_tm, Heap.empty, reduceIte, Nat.reduceLT, Nat.reduceLeDiff, Nat.reduceEqDiff, Nat.reduceAdd, Nat.reduceSub, Nat.reduceMul, Nat.reduceBEq, Int.reduceLT, Int.reduceLE, Int.reduceEq, Int.reduceNeg, Int.reduceAdd, Int.reduceSub, Int.reduceMul, Bool.false_eq_true, Bool.not_true, Bool.not_false, decide_eq_true_eq, and_self, true_and, and_true, reduceCtorEq, ne_eq, not_false_eq_true, not_true_eq_false, decide_true, decide_false, or_false, false_or, List.take_zero, g5, g1]; simp [PO_0]) (by
      rintro j s r0 hW ⟨hj, h48, h47, h46, h5, h1, hd, hf⟩
      by_cases hp : j < ponds.length
      · have e0 : ponds[j]? = some ponds[j] := List.getElem?_eq_getElem hp
        have e1 := map_get (f := pnd) e0
        have at' : PO (ponds.take (j + 1)) ↔ PO (ponds.take j) ∧ PNDK _ := all_take (P := PNDK) e0
        generalize ponds[j] = x at *
        by_cases hq : (HEADK ⟨su, so, n0, d0, n1, d1, pans, ponds⟩ ∧ PA pans) ∧ PO (ponds.take j)
        · rw [decide_eq_true hq] at h5
          have en : decide ((HEADK ⟨su, so, n0, d0, n1, d1, pans, ponds⟩ ∧ PA pans) ∧ PO (ponds.take (j + 1))) = decide (PNDK x) := decide_eq_decide.2 (by rw [at']; exact ⟨fun h => h.2.2, fun h => ⟨hq.1, hq.2, h⟩⟩)
          by_cases b1 : 1 ≤ x.v ∧ x.v ≤ 1073741824
          · by_cases b2 : 1 ≤ x.h ∧ x.h ≤ 4096
            · have en2 : decide (PNDK x) = decide (0 ≤ x.lo ∧ x.lo ≤ x.hi ∧ x.hi ≤ x.v) := decide_eq_decide.2 ⟨fun h => h.2.2, fun h => ⟨b1, b2, h⟩⟩
              simp (config := { maxSteps := 1000000 }) only [RUN, PATHS, BASE, FA, POL, start_tm, Heap.empty, reduceIte, Nat.reduceLT, Nat.reduceLeDiff, Nat.reduceEqDiff, Nat.reduceAdd, Nat.reduceSub, Nat.reduceMul, Nat.reduceBEq, Int.reduceLT, Int.reduceLE, Int.reduceEq, Int.reduceNeg, Int.reduceAdd, Int.reduceSub, Int.reduceMul, Bool.false_eq_true, Bool.not_true, Bool.not_false, decide_eq_true_eq, and_self, true_and, and_true, reduceCtorEq, ne_eq, not_false_eq_true, not_true_eq_false, decide_true, decide_false, or_false, false_or, NUM, h48, h47, h46, h5, h1, hd, hf, e1, c_ordered, c_in, eq_true b1, eq_true b2, List.length_map, Int.toNat_natCast, (show (j : Int) < ponds.length by omega), (show (0 : Int) ≤ j by omega), (i64_in (x := (j : Int) + 1) (by unfold I64; omega))] at hW
              subst hW
              refine rd_next (j + 1) ?_ (show ponds.length - (j + 1) < ponds.length - j by omega)
              simp (config := { maxSteps := 1000000 }) only [RUN, PATHS, BASE, FA, POL, start_tm, Heap.empty, reduceIte, Nat.reduceLT, Nat.reduceLeDiff, Nat.reduceEqDiff, Nat.reduceAdd, Nat.reduceSub, Nat.reduceMul, Nat.reduceBEq, Int.reduceLT, Int.reduceLE, Int.reduceEq, Int.reduceNeg, Int.reduceAdd, Int.reduceSub, Int.reduceMul, Bool.false_eq_true, Bool.not_true, Bool.not_false, decide_eq_true_eq, and_self, true_and, and_true, reduceCtorEq, ne_eq, not_false_eq_true, not_true_eq_false, decide_true, decide_false, or_false, false_or, h47, h46, h1, en, en2]
              exact ⟨by omega, by simp⟩
            · have en2 : decide (PNDK x) = false := decide_eq_false fun h => b2 h.2.1
              simp (config := { maxSteps := 1000000 }) only [RUN, PATHS, BASE, FA, POL, start_tm, Heap.empty, reduceIte, Nat.reduceLT, Nat.reduceLeDiff, Nat.reduceEqDiff, Nat.reduceAdd, Nat.reduceSub, Nat.reduceMul, Nat.reduceBEq, Int.reduceLT, Int.reduceLE, Int.reduceEq, Int.reduceNeg, Int.reduceAdd, Int.reduceSub, Int.reduceMul, Bool.false_eq_true, Bool.not_true, Bool.not_false, decide_eq_true_eq, and_self, true_and, and_true, reduceCtorEq, ne_eq, not_false_eq_true, not_true_eq_false, decide_true, decide_false, or_false, false_or, NUM, h48, h47, h46, h5, h1, hd, hf, e1, c_ordered, c_in, eq_true b1, eq_false b2, List.length_map, Int.toNat_natCast, (show (j : Int) < ponds.length by omega), (show (0 : Int) ≤ j by omega), (i64_in (x := (j : Int) + 1) (by unfold I64; omega))] at hW
              subst hW
              refine rd_next (j + 1) ?_ (show ponds.length - (j + 1) < ponds.length - j by omega)
              simp (config := { maxSteps := 1000000 }) only [RUN, PATHS, BASE, FA, POL, start_tm, Heap.empty, reduceIte, Nat.reduceLT, Nat.reduceLeDiff, Nat.reduceEqDiff, Nat.reduceAdd, Nat.reduceSub, Nat.reduceMul, Nat.reduceBEq, Int.reduceLT, Int.reduceLE, Int.reduceEq, Int.reduceNeg, Int.reduceAdd, Int.reduceSub, Int.reduceMul, Bool.false_eq_true, Bool.not_true, Bool.not_false, decide_eq_true_eq, and_self, true_and, and_true, reduceCtorEq, ne_eq, not_false_eq_true, not_true_eq_false, decide_true, decide_false, or_false, false_or, h47, h46, h1, en, en2]
              exact ⟨by omega, by simp⟩
          · have en2 : decide (PNDK x) = false := decide_eq_false fun h => b1 h.1
            simp (config := { maxSteps := 1000000 }) only [RUN, PATHS, BASE, FA, POL, start_tm, Heap.empty, reduceIte, Nat.reduceLT, Nat.reduceLeDiff, Nat.reduceEqDiff, Nat.reduceAdd, Nat.reduceSub, Nat.reduceMul, Nat.reduceBEq, Int.reduceLT, Int.reduceLE, Int.reduceEq, Int.reduceNeg, Int.reduceAdd, Int.reduceSub, Int.reduceMul, Bool.false_eq_true, Bool.not_true, Bool.not_false, decide_eq_true_eq, and_self, true_and, and_true, reduceCtorEq, ne_eq, not_false_eq_true, not_true_eq_false, decide_true, decide_false, or_false, false_or, NUM, h48, h47, h46, h5, h1, hd, hf, e1, c_ordered, c_in, eq_false b1, List.length_map, Int.toNat_natCast, (show (j : Int) < ponds.length by omega), (show (0 : Int) ≤ j by omega), (i64_in (x := (j : Int) + 1) (by unfold I64; omega))] at hW
            subst hW
            refine rd_next (j + 1) ?_ (show ponds.length - (j + 1) < ponds.length - j by omega)
            simp (config := { maxSteps := 1000000 }) only [RUN, PATHS, BASE, FA, POL, start_tm, Heap.empty, reduceIte, Nat.reduceLT, Nat.reduceLeDiff, Nat.reduceEqDiff, Nat.reduceAdd, Nat.reduceSub, Nat.reduceMul, Nat.reduceBEq, Int.reduceLT, Int.reduceLE, Int.reduceEq, Int.reduceNeg, Int.reduceAdd, Int.reduceSub, Int.reduceMul, Bool.false_eq_true, Bool.not_true, Bool.not_false, decide_eq_true_eq, and_self, true_and, and_true, reduceCtorEq, ne_eq, not_false_eq_true, not_true_eq_false, decide_true, decide_false, or_false, false_or, h47, h46, h1, en, en2]
            exact ⟨by omega, by simp⟩
        · rw [decide_eq_false hq] at h5
          have en : decide ((HEADK ⟨su, so, n0, d0, n1, d1, pans, ponds⟩ ∧ PA pans) ∧ PO (ponds.take (j + 1))) = false := decide_eq_false (by rw [at']; exact fun h => hq ⟨h.1, h.2.1⟩)
          simp (config := { maxSteps := 1000000 }) only [RUN, PATHS, BASE, FA, POL, start_tm, Heap.empty, reduceIte, Nat.reduceLT, Nat.reduceLeDiff, Nat.reduceEqDiff, Nat.reduceAdd, Nat.reduceSub, Nat.reduceMul, Nat.reduceBEq, Int.reduceLT, Int.reduceLE, Int.reduceEq, Int.reduceNeg, Int.reduceAdd, Int.reduceSub, Int.reduceMul, Bool.false_eq_true, Bool.not_true, Bool.not_false, decide_eq_true_eq, and_self, true_and, and_true, reduceCtorEq, ne_eq, not_false_eq_true, not_true_eq_false, decide_true, decide_false, or_false, false_or, NUM, h48, h47, h46, h5, h1, hd, hf, e1, List.length_map, Int.toNat_natCast, (show (j : Int) < ponds.length by omega), (show (0 : Int) ≤ j by omega), (i64_in (x := (j : Int) + 1) (by unfold I64; omega))] at hW
          subst hW
          refine rd_next (j + 1) ?_ (show ponds.length - (j + 1) < ponds.length - j by omega)
          simp (config := { maxSteps := 1000000 }) only [RUN, PATHS, BASE, FA, POL, start_tm, Heap.empty, reduceIte, Nat.reduceLT, Nat.reduceLeDiff, Nat.reduceEqDiff, Nat.reduceAdd, Nat.reduceSub, Nat.reduceMul, Nat.reduceBEq, Int.reduceLT, Int.reduceLE, Int.reduceEq, Int.reduceNeg, Int.reduceAdd, Int.reduceSub, Int.reduceMul, Bool.false_eq_true, Bool.not_true, Bool.not_false, decide_eq_true_eq, and_self, true_and, and_true, reduceCtorEq, ne_eq, not_false_eq_true, not_true_eq_false, decide_true, decide_false, or_false, false_or, h47, h46, h1, en]
          exact ⟨by omega, by simp⟩
      · simp (config := { maxSteps := 1000000 }) only [RUN, PATHS, BASE, FA, POL, start_tm, Heap.empty, reduceIte, Nat.reduceLT, Nat.reduceLeDiff, Nat.reduceEqDiff, Nat.reduceAdd, Nat.reduceSub, Nat.reduceMul, Nat.reduceBEq, Int.reduceLT, Int.reduceLE, Int.reduceEq, Int.reduceNeg, Int.reduceAdd, Int.reduceSub, Int.reduceMul, Bool.false_eq_true, Bool.not_true, Bool.not_false, decide_eq_true_eq, and_self, true_and, and_true, reduceCtorEq, ne_eq, not_false_eq_true, not_true_eq_false, decide_true, decide_false, or_false, false_or, List.length_map, h48, h47, h46, h5, h1, hd, hf, (show ¬ (j : Int) < ponds.length by omega)] at hW
        subst hW
        rw [List.take_of_length_le (by omega)] at h5
        refine rd_exit ⟨rfl, ?_⟩
        simp (config := { maxSteps := 1000000 }) only [RUN, PATHS, BASE, FA, POL, start_tm, Heap.empty, reduceIte, Nat.reduceLT, Nat.reduceLeDiff, Nat.reduceEqDiff, Nat.reduceAdd, Nat.reduceSub, Nat.reduceMul, Nat.reduceBEq, Int.reduceLT, Int.reduceLE, Int.reduceEq, Int.reduceNeg, Int.reduceAdd, Int.reduceSub, Int.reduceMul, Bool.false_eq_true, Bool.not_true, Bool.not_false, decide_eq_true_eq, and_self, true_and, and_true, reduceCtorEq, ne_eq, not_false_eq_true, not_true_eq_false, decide_true, decide_false, or_false, false_or, h5, h1])
  by_cases hF : (HEADK ⟨su, so, n0, d0, n1, d1, pans, ponds⟩ ∧ PA pans) ∧ PO ponds
  · rw [decide_eq_true hF] at g5
    rw [if_pos (show SRVK _ from ⟨hF.1.1, hF.1.2, hF.2⟩)]
    by_cases hde : 1 ≤ delay ∧ delay ≤ 16
    · simp (config := { maxSteps := 1000000 }) only [RUN, PATHS, BASE, FA, POL, start_tm, Heap.empty, reduceIte, Nat.reduceLT, Nat.reduceLeDiff, Nat.reduceEqDiff, Nat.reduceAdd, Nat.reduceSub, Nat.reduceMul, Nat.reduceBEq, Int.reduceLT, Int.reduceLE, Int.reduceEq, Int.reduceNeg, Int.reduceAdd, Int.reduceSub, Int.reduceMul, Bool.false_eq_true, Bool.not_true, Bool.not_false, decide_eq_true_eq, and_self, true_and, and_true, reduceCtorEq, ne_eq, not_false_eq_true, not_true_eq_false, decide_true, decide_false, or_false, false_or, NUM, g5, g1, gd, gf, c_in, eq_true hde, hde]
    · simp (config := { maxSteps := 1000000 }) only [RUN, PATHS, BASE, FA, POL, start_tm, Heap.empty, reduceIte, Nat.reduceLT, Nat.reduceLeDiff, Nat.reduceEqDiff, Nat.reduceAdd, Nat.reduceSub, Nat.reduceMul, Nat.reduceBEq, Int.reduceLT, Int.reduceLE, Int.reduceEq, Int.reduceNeg, Int.reduceAdd, Int.reduceSub, Int.reduceMul, Bool.false_eq_true, Bool.not_true, Bool.not_false, decide_eq_true_eq, and_self, true_and, and_true, reduceCtorEq, ne_eq, not_false_eq_true, not_true_eq_false, decide_true, decide_false, or_false, false_or, NUM, g5, g1, gd, gf, c_in, eq_false hde, hde]
  · rw [decide_eq_false hF] at g5
    rw [if_neg (show ¬ SRVK _ from fun h => hF ⟨⟨h.1, h.2.1⟩, h.2.2⟩)]
    simp (config := { maxSteps := 1000000 }) only [RUN, PATHS, BASE, FA, POL, start_tm, Heap.empty, reduceIte, Nat.reduceLT, Nat.reduceLeDiff, Nat.reduceEqDiff, Nat.reduceAdd, Nat.reduceSub, Nat.reduceMul, Nat.reduceBEq, Int.reduceLT, Int.reduceLE, Int.reduceEq, Int.reduceNeg, Int.reduceAdd, Int.reduceSub, Int.reduceMul, Bool.false_eq_true, Bool.not_true, Bool.not_false, decide_eq_true_eq, and_self, true_and, and_true, reduceCtorEq, ne_eq, not_false_eq_true, not_true_eq_false, decide_true, decide_false, or_false, false_or, NUM, g5, g1, gd, gf]
theorem c_ck1 (su so n0 d0 n1 d1 : Int) (pans : List Rg) (ponds : List Pnd) (ha : I64 n0) (hb : I64 d0) (hc : I64 n1) (hd : I64 d1) (c c' : Option Nat) (delay : Int) (l1 : ¬ 16 < pans.length) (l2 : ¬ 16 < ponds.length) (k1 : 0 ≤ su ∧ su ≤ 1048576) (k2 : ¬ (0 ≤ so ∧ so ≤ 5)) : ap Tryd.prog pol 33 [srv ⟨su, so, n0, d0, n1, d1, pans, ponds⟩ c c', I delay] = some (.ret (I (if SRVK ⟨su, so, n0, d0, n1, d1, pans, ponds⟩ then (if 1 ≤ delay ∧ delay ≤ 16 then 0 else 1) else 210))) := by
  rw [ap_eq _ Tryd.func33 rfl Tryd.ntmps33 Tryd.results33 (by kernel_rfl) rfl (by exact Nat.le_of_ble_eq_true rfl)]
  have hQ : ¬ HEADK ⟨su, so, n0, d0, n1, d1, pans, ponds⟩ := fun h => k2 h.2.1
  simp (config := { maxSteps := 1000000 }) only [RUN, PATHS, BASE, FA, POL, start_tm, Heap.empty, reduceIte, Nat.reduceLT, Nat.reduceLeDiff, Nat.reduceEqDiff, Nat.reduceAdd, Nat.reduceSub, Nat.reduceMul, Nat.reduceBEq, Int.reduceLT, Int.reduceLE, Int.reduceEq, Int.reduceNeg, Int.reduceAdd, Int.reduceSub, Int.reduceMul, Bool.false_eq_true, Bool.not_true, Bool.not_false, decide_eq_true_eq, and_self, true_and, and_true, reduceCtorEq, ne_eq, not_false_eq_true, not_true_eq_false, decide_true, decide_false, or_false, false_or, NUM, List.length_map, (show ¬ (16 : Int) < pans.length by omega), (show ¬ (16 : Int) < ponds.length by omega), c_in, c_shares n0 d0 n1 d1 ha hb hc hd, eq_true k1, eq_false k2]
  generalize hL : W _ (.loop _) _ = L
  obtain ⟨ex, s, rfl, rfl, g5, g1, g2, gb, gd, gf⟩ := loop_at hL (α := Nat) (fun j => pans.length - j)
    (fun s0 j s => j ≤ pans.length ∧ s.tmps 48 = I j ∧ s.tmps 47 = I pans.length ∧ s.tmps 46 = .vs 2 (pans.map rg) c ∧ s.tmps 5 = .bool (decide (HEADK ⟨su, so, n0, d0, n1, d1, pans, ponds⟩ ∧ PA (pans.take j))) ∧ s.tmps 1 = I delay ∧ s.tmps 2 = .bptr 0 2 0 0 ∧ s.boxes 2 = some (0, [I su, I so, I n0, I d0, I n1, I d1, .vs 2 (pans.map rg) c, .vs 4 (ponds.map pnd) c']) ∧ s.defers = [] ∧ s.fid = 0)
    (fun s0 ex s => ex = .exit 0 ∧ s.tmps 5 = .bool (decide (HEADK ⟨su, so, n0, d0, n1, d1, pans, ponds⟩ ∧ PA pans)) ∧ s.tmps 1 = I delay ∧ s.tmps 2 = .bptr 0 2 0 0 ∧ s.boxes 2 = some (0, [I su, I so, I n0, I d0, I n1, I d1, .vs 2 (pans.map rg) c, .vs 4 (ponds.map pnd) c']) ∧ s.defers = [] ∧ s.fid = 0) 0
    (by simp (config := { maxSteps := 1000000 }) only [RUN, PATHS, BASE, FA, POL, start_tm, Heap.empty, reduceIte, Nat.reduceLT, Nat.reduceLeDiff, Nat.reduceEqDiff, Nat.reduceAdd, Nat.reduceSub, Nat.reduceMul, Nat.reduceBEq, Int.reduceLT, Int.reduceLE, Int.reduceEq, Int.reduceNeg, Int.reduceAdd, Int.reduceSub, Int.reduceMul, Bool.false_eq_true, Bool.not_true, Bool.not_false, decide_eq_true_eq, and_self, true_and, and_true, reduceCtorEq, ne_eq, not_false_eq_true, not_true_eq_false, decide_true, decide_false, or_false, false_or, List.take_zero]; simp [hQ, PA_0]) (by
      rintro j s r0 hW ⟨hj, h48, h47, h46, h5, h1, h2, hbx, hd, hf⟩
      by_cases hp : j < pans.length
      · have e0 : pans[j]? = some pans[j] := List.getElem?_eq_getElem hp
        have e1 := map_get (f := rg) e0
        have at' : PA (pans.take (j + 1)) ↔ PA (pans.take j) ∧ PANK _ := all_take (P := PANK) e0
        generalize pans[j] = x at *
        by_cases hq : HEADK ⟨su, so, n0, d0, n1, d1, pans, ponds⟩ ∧ PA (pans.take j)
        · rw [decide_eq_true hq] at h5
          have en : decide (HEADK ⟨su, so, n0, d0, n1, d1, pans, ponds⟩ ∧ PA (pans.take (j + 1))) = decide (0 ≤ x.lo ∧ x.lo ≤ x.hi ∧ x.hi ≤ 1000) := decide_eq_decide.2 (by rw [at']; exact ⟨fun h => h.2.2, fun h => ⟨hq.1, hq.2, h⟩⟩)
          simp (config := { maxSteps := 1000000 }) only [RUN, PATHS, BASE, FA, POL, start_tm, Heap.empty, reduceIte, Nat.reduceLT, Nat.reduceLeDiff, Nat.reduceEqDiff, Nat.reduceAdd, Nat.reduceSub, Nat.reduceMul, Nat.reduceBEq, Int.reduceLT, Int.reduceLE, Int.reduceEq, Int.reduceNeg, Int.reduceAdd, Int.reduceSub, Int.reduceMul, Bool.false_eq_true, Bool.not_true, Bool.not_false, decide_eq_true_eq, and_self, true_and, and_true, reduceCtorEq, ne_eq, not_false_eq_true, not_true_eq_false, decide_true, decide_false, or_false, false_or, NUM, h48, h47, h46, h5, h1, h2, hbx, hd, hf, e1, c_ordered, List.length_map, Int.toNat_natCast, (show (j : Int) < pans.length by omega), (show (0 : Int) ≤ j by omega), (i64_in (x := (j : Int) + 1) (by unfold I64; omega))] at hW
          subst hW
          refine rd_next (j + 1) ?_ (show pans.length - (j + 1) < pans.length - j by omega)
          simp (config := { maxSteps := 1000000 }) only [RUN, PATHS, BASE, FA, POL, start_tm, Heap.empty, reduceIte, Nat.reduceLT, Nat.reduceLeDiff, Nat.reduceEqDiff, Nat.reduceAdd, Nat.reduceSub, Nat.reduceMul, Nat.reduceBEq, Int.reduceLT, Int.reduceLE, Int.reduceEq, Int.reduceNeg, Int.reduceAdd, Int.reduceSub, Int.reduceMul, Bool.false_eq_true, Bool.not_true, Bool.not_false, decide_eq_true_eq, and_self, true_and, and_true, reduceCtorEq, ne_eq, not_false_eq_true, not_true_eq_false, decide_true, decide_false, or_false, false_or, h47, h46, h1, h2, hbx, en]
          exact ⟨by omega, by simp⟩
        · rw [decide_eq_false hq] at h5
          have en : decide (HEADK ⟨su, so, n0, d0, n1, d1, pans, ponds⟩ ∧ PA (pans.take (j + 1))) = false := decide_eq_false (by rw [at']; exact fun h => hq ⟨h.1, h.2.1⟩)
          simp (config := { maxSteps := 1000000 }) only [RUN, PATHS, BASE, FA, POL, start_tm, Heap.empty, reduceIte, Nat.reduceLT, Nat.reduceLeDiff, Nat.reduceEqDiff, Nat.reduceAdd, Nat.reduceSub, Nat.reduceMul, Nat.reduceBEq, Int.reduceLT, Int.reduceLE, Int.reduceEq, Int.reduceNeg, Int.reduceAdd, Int.reduceSub, Int.reduceMul, Bool.false_eq_true, Bool.not_true, Bool.not_false, decide_eq_true_eq, and_self, true_and, and_true, reduceCtorEq, ne_eq, not_false_eq_true, not_true_eq_false, decide_true, decide_false, or_false, false_or, NUM, h48, h47, h46, h5, h1, h2, hbx, hd, hf, e1, List.length_map, Int.toNat_natCast, (show (j : Int) < pans.length by omega), (show (0 : Int) ≤ j by omega), (i64_in (x := (j : Int) + 1) (by unfold I64; omega))] at hW
          subst hW
          refine rd_next (j + 1) ?_ (show pans.length - (j + 1) < pans.length - j by omega)
          simp (config := { maxSteps := 1000000 }) only [RUN, PATHS, BASE, FA, POL, start_tm, Heap.empty, reduceIte, Nat.reduceLT, Nat.reduceLeDiff, Nat.reduceEqDiff, Nat.reduceAdd, Nat.reduceSub, Nat.reduceMul, Nat.reduceBEq, Int.reduceLT, Int.reduceLE, Int.reduceEq, Int.reduceNeg, Int.reduceAdd, Int.reduceSub, Int.reduceMul, Bool.false_eq_true, Bool.not_true, Bool.not_false, decide_eq_true_eq, and_self, true_and, and_true, reduceCtorEq, ne_eq, not_false_eq_true, not_true_eq_false, decide_true, decide_false, or_false, false_or, h47, h46, h1, h2, hbx, en]
          exact ⟨by omega, by simp⟩
      · simp (config := { maxSteps := 1000000 }) only [RUN, PATHS, BASE, FA, POL, start_tm, Heap.empty, reduceIte, Nat.reduceLT, Nat.reduceLeDiff, Nat.reduceEqDiff, Nat.reduceAdd, Nat.reduceSub, Nat.reduceMul, Nat.reduceBEq, Int.reduceLT, Int.reduceLE, Int.reduceEq, Int.reduceNeg, Int.reduceAdd, Int.reduceSub, Int.reduceMul, Bool.false_eq_true, Bool.not_true, Bool.not_false, decide_eq_true_eq, and_self, true_and, and_true, reduceCtorEq, ne_eq, not_false_eq_true, not_true_eq_false, decide_true, decide_false, or_false, false_or, List.length_map, h48, h47, h46, h5, h1, h2, hbx, hd, hf, (show ¬ (j : Int) < pans.length by omega)] at hW
        subst hW
        rw [List.take_of_length_le (by omega)] at h5
        refine rd_exit ⟨rfl, ?_⟩
        simp (config := { maxSteps := 1000000 }) only [RUN, PATHS, BASE, FA, POL, start_tm, Heap.empty, reduceIte, Nat.reduceLT, Nat.reduceLeDiff, Nat.reduceEqDiff, Nat.reduceAdd, Nat.reduceSub, Nat.reduceMul, Nat.reduceBEq, Int.reduceLT, Int.reduceLE, Int.reduceEq, Int.reduceNeg, Int.reduceAdd, Int.reduceSub, Int.reduceMul, Bool.false_eq_true, Bool.not_true, Bool.not_false, decide_eq_true_eq, and_self, true_and, and_true, reduceCtorEq, ne_eq, not_false_eq_true, not_true_eq_false, decide_true, decide_false, or_false, false_or, h5, h1, h2, hbx])
  simp (config := { maxSteps := 1000000 }) only [RUN, PATHS, BASE, FA, POL, start_tm, Heap.empty, reduceIte, Nat.reduceLT, Nat.reduceLeDiff, Nat.reduceEqDiff, Nat.reduceAdd, Nat.reduceSub, Nat.reduceMul, Nat.reduceBEq, Int.reduceLT, Int.reduceLE, Int.reduceEq, Int.reduceNeg, Int.reduceAdd, Int.reduceSub, Int.reduceMul, Bool.false_eq_true, Bool.not_true, Bool.not_false, decide_eq_true_eq, and_self, true_and, and_true, reduceCtorEq, ne_eq, not_false_eq_true, not_true_eq_false, decide_true, decide_false, or_false, false_or, NUM, g5, g1, g2, gb, gd, gf, List.length_map]
  clear hL
  generalize hL : W _ (.loop _) _ = L
  obtain ⟨ex, s, rfl, rfl, g5, g1, gd, gf⟩ := loop_at hL (α := Nat) (fun j => ponds.length - j)
    (fun s0 j s => j ≤ ponds.length ∧ s.tmps 62 = I j ∧ s.tmps 61 = I ponds.length ∧ s.tmps 60 = .vs 4 (ponds.map pnd) c' ∧ s.tmps 5 = .bool (decide ((HEADK ⟨su, so, n0, d0, n1, d1, pans, ponds⟩ ∧ PA pans) ∧ PO (ponds.take j))) ∧ s.tmps 1 = I delay ∧ s.defers = [] ∧ s.fid = 0)
    (fun s0 ex s => ex = .exit 2 ∧ s.tmps 5 = .bool (decide ((HEADK ⟨su, so, n0, d0, n1, d1, pans, ponds⟩ ∧ PA pans) ∧ PO ponds)) ∧ s.tmps 1 = I delay ∧ s.defers = [] ∧ s.fid = 0) 0
    (by simp (config := { maxSteps := 1000000 }) only [RUN, PATHS, BASE, FA, POL, start_tm, Heap.empty, reduceIte, Nat.reduceLT, Nat.reduceLeDiff, Nat.reduceEqDiff, Nat.reduceAdd, Nat.reduceSub, Nat.reduceMul, Nat.reduceBEq, Int.reduceLT, Int.reduceLE, Int.reduceEq, Int.reduceNeg, Int.reduceAdd, Int.reduceSub, Int.reduceMul, Bool.false_eq_true, Bool.not_true, Bool.not_false, decide_eq_true_eq, and_self, true_and, and_true, reduceCtorEq, ne_eq, not_false_eq_true, not_true_eq_false, decide_true, decide_false, or_false, false_or, List.take_zero, g5, g1]; simp [PO_0]) (by
      rintro j s r0 hW ⟨hj, h48, h47, h46, h5, h1, hd, hf⟩
      by_cases hp : j < ponds.length
      · have e0 : ponds[j]? = some ponds[j] := List.getElem?_eq_getElem hp
        have e1 := map_get (f := pnd) e0
        have at' : PO (ponds.take (j + 1)) ↔ PO (ponds.take j) ∧ PNDK _ := all_take (P := PNDK) e0
        generalize ponds[j] = x at *
        by_cases hq : (HEADK ⟨su, so, n0, d0, n1, d1, pans, ponds⟩ ∧ PA pans) ∧ PO (ponds.take j)
        · rw [decide_eq_true hq] at h5
          have en : decide ((HEADK ⟨su, so, n0, d0, n1, d1, pans, ponds⟩ ∧ PA pans) ∧ PO (ponds.take (j + 1))) = decide (PNDK x) := decide_eq_decide.2 (by rw [at']; exact ⟨fun h => h.2.2, fun h => ⟨hq.1, hq.2, h⟩⟩)
          by_cases b1 : 1 ≤ x.v ∧ x.v ≤ 1073741824
          · by_cases b2 : 1 ≤ x.h ∧ x.h ≤ 4096
            · have en2 : decide (PNDK x) = decide (0 ≤ x.lo ∧ x.lo ≤ x.hi ∧ x.hi ≤ x.v) := decide_eq_decide.2 ⟨fun h => h.2.2, fun h => ⟨b1, b2, h⟩⟩
              simp (config := { maxSteps := 1000000 }) only [RUN, PATHS, BASE, FA, POL, start_tm, Heap.empty, reduceIte, Nat.reduceLT, Nat.reduceLeDiff, Nat.reduceEqDiff, Nat.reduceAdd, Nat.reduceSub, Nat.reduceMul, Nat.reduceBEq, Int.reduceLT, Int.reduceLE, Int.reduceEq, Int.reduceNeg, Int.reduceAdd, Int.reduceSub, Int.reduceMul, Bool.false_eq_true, Bool.not_true, Bool.not_false, decide_eq_true_eq, and_self, true_and, and_true, reduceCtorEq, ne_eq, not_false_eq_true, not_true_eq_false, decide_true, decide_false, or_false, false_or, NUM, h48, h47, h46, h5, h1, hd, hf, e1, c_ordered, c_in, eq_true b1, eq_true b2, List.length_map, Int.toNat_natCast, (show (j : Int) < ponds.length by omega), (show (0 : Int) ≤ j by omega), (i64_in (x := (j : Int) + 1) (by unfold I64; omega))] at hW
              subst hW
              refine rd_next (j + 1) ?_ (show ponds.length - (j + 1) < ponds.length - j by omega)
              simp (config := { maxSteps := 1000000 }) only [RUN, PATHS, BASE, FA, POL, start_tm, Heap.empty, reduceIte, Nat.reduceLT, Nat.reduceLeDiff, Nat.reduceEqDiff, Nat.reduceAdd, Nat.reduceSub, Nat.reduceMul, Nat.reduceBEq, Int.reduceLT, Int.reduceLE, Int.reduceEq, Int.reduceNeg, Int.reduceAdd, Int.reduceSub, Int.reduceMul, Bool.false_eq_true, Bool.not_true, Bool.not_false, decide_eq_true_eq, and_self, true_and, and_true, reduceCtorEq, ne_eq, not_false_eq_true, not_true_eq_false, decide_true, decide_false, or_false, false_or, h47, h46, h1, en, en2]
              exact ⟨by omega, by simp⟩
            · have en2 : decide (PNDK x) = false := decide_eq_false fun h => b2 h.2.1
              simp (config := { maxSteps := 1000000 }) only [RUN, PATHS, BASE, FA, POL, start_tm, Heap.empty, reduceIte, Nat.reduceLT, Nat.reduceLeDiff, Nat.reduceEqDiff, Nat.reduceAdd, Nat.reduceSub, Nat.reduceMul, Nat.reduceBEq, Int.reduceLT, Int.reduceLE, Int.reduceEq, Int.reduceNeg, Int.reduceAdd, Int.reduceSub, Int.reduceMul, Bool.false_eq_true, Bool.not_true, Bool.not_false, decide_eq_true_eq, and_self, true_and, and_true, reduceCtorEq, ne_eq, not_false_eq_true, not_true_eq_false, decide_true, decide_false, or_false, false_or, NUM, h48, h47, h46, h5, h1, hd, hf, e1, c_ordered, c_in, eq_true b1, eq_false b2, List.length_map, Int.toNat_natCast, (show (j : Int) < ponds.length by omega), (show (0 : Int) ≤ j by omega), (i64_in (x := (j : Int) + 1) (by unfold I64; omega))] at hW
              subst hW
              refine rd_next (j + 1) ?_ (show ponds.length - (j + 1) < ponds.length - j by omega)
              simp (config := { maxSteps := 1000000 }) only [RUN, PATHS, BASE, FA, POL, start_tm, Heap.empty, reduceIte, Nat.reduceLT, Nat.reduceLeDiff, Nat.reduceEqDiff, Nat.reduceAdd, Nat.reduceSub, Nat.reduceMul, Nat.reduceBEq, Int.reduceLT, Int.reduceLE, Int.reduceEq, Int.reduceNeg, Int.reduceAdd, Int.reduceSub, Int.reduceMul, Bool.false_eq_true, Bool.not_true, Bool.not_false, decide_eq_true_eq, and_self, true_and, and_true, reduceCtorEq, ne_eq, not_false_eq_true, not_true_eq_false, decide_true, decide_false, or_false, false_or, h47, h46, h1, en, en2]
              exact ⟨by omega, by simp⟩
          · have en2 : decide (PNDK x) = false := decide_eq_false fun h => b1 h.1
            simp (config := { maxSteps := 1000000 }) only [RUN, PATHS, BASE, FA, POL, start_tm, Heap.empty, reduceIte, Nat.reduceLT, Nat.reduceLeDiff, Nat.reduceEqDiff, Nat.reduceAdd, Nat.reduceSub, Nat.reduceMul, Nat.reduceBEq, Int.reduceLT, Int.reduceLE, Int.reduceEq, Int.reduceNeg, Int.reduceAdd, Int.reduceSub, Int.reduceMul, Bool.false_eq_true, Bool.not_true, Bool.not_false, decide_eq_true_eq, and_self, true_and, and_true, reduceCtorEq, ne_eq, not_false_eq_true, not_true_eq_false, decide_true, decide_false, or_false, false_or, NUM, h48, h47, h46, h5, h1, hd, hf, e1, c_ordered, c_in, eq_false b1, List.length_map, Int.toNat_natCast, (show (j : Int) < ponds.length by omega), (show (0 : Int) ≤ j by omega), (i64_in (x := (j : Int) + 1) (by unfold I64; omega))] at hW
            subst hW
            refine rd_next (j + 1) ?_ (show ponds.length - (j + 1) < ponds.length - j by omega)
            simp (config := { maxSteps := 1000000 }) only [RUN, PATHS, BASE, FA, POL, start_tm, Heap.empty, reduceIte, Nat.reduceLT, Nat.reduceLeDiff, Nat.reduceEqDiff, Nat.reduceAdd, Nat.reduceSub, Nat.reduceMul, Nat.reduceBEq, Int.reduceLT, Int.reduceLE, Int.reduceEq, Int.reduceNeg, Int.reduceAdd, Int.reduceSub, Int.reduceMul, Bool.false_eq_true, Bool.not_true, Bool.not_false, decide_eq_true_eq, and_self, true_and, and_true, reduceCtorEq, ne_eq, not_false_eq_true, not_true_eq_false, decide_true, decide_false, or_false, false_or, h47, h46, h1, en, en2]
            exact ⟨by omega, by simp⟩
        · rw [decide_eq_false hq] at h5
          have en : decide ((HEADK ⟨su, so, n0, d0, n1, d1, pans, ponds⟩ ∧ PA pans) ∧ PO (ponds.take (j + 1))) = false := decide_eq_false (by rw [at']; exact fun h => hq ⟨h.1, h.2.1⟩)
          simp (config := { maxSteps := 1000000 }) only [RUN, PATHS, BASE, FA, POL, start_tm, Heap.empty, reduceIte, Nat.reduceLT, Nat.reduceLeDiff, Nat.reduceEqDiff, Nat.reduceAdd, Nat.reduceSub, Nat.reduceMul, Nat.reduceBEq, Int.reduceLT, Int.reduceLE, Int.reduceEq, Int.reduceNeg, Int.reduceAdd, Int.reduceSub, Int.reduceMul, Bool.false_eq_true, Bool.not_true, Bool.not_false, decide_eq_true_eq, and_self, true_and, and_true, reduceCtorEq, ne_eq, not_false_eq_true, not_true_eq_false, decide_true, decide_false, or_false, false_or, NUM, h48, h47, h46, h5, h1, hd, hf, e1, List.length_map, Int.toNat_natCast, (show (j : Int) < ponds.length by omega), (show (0 : Int) ≤ j by omega), (i64_in (x := (j : Int) + 1) (by unfold I64; omega))] at hW
          subst hW
          refine rd_next (j + 1) ?_ (show ponds.length - (j + 1) < ponds.length - j by omega)
          simp (config := { maxSteps := 1000000 }) only [RUN, PATHS, BASE, FA, POL, start_tm, Heap.empty, reduceIte, Nat.reduceLT, Nat.reduceLeDiff, Nat.reduceEqDiff, Nat.reduceAdd, Nat.reduceSub, Nat.reduceMul, Nat.reduceBEq, Int.reduceLT, Int.reduceLE, Int.reduceEq, Int.reduceNeg, Int.reduceAdd, Int.reduceSub, Int.reduceMul, Bool.false_eq_true, Bool.not_true, Bool.not_false, decide_eq_true_eq, and_self, true_and, and_true, reduceCtorEq, ne_eq, not_false_eq_true, not_true_eq_false, decide_true, decide_false, or_false, false_or, h47, h46, h1, en]
          exact ⟨by omega, by simp⟩
      · simp (config := { maxSteps := 1000000 }) only [RUN, PATHS, BASE, FA, POL, start_tm, Heap.empty, reduceIte, Nat.reduceLT, Nat.reduceLeDiff, Nat.reduceEqDiff, Nat.reduceAdd, Nat.reduceSub, Nat.reduceMul, Nat.reduceBEq, Int.reduceLT, Int.reduceLE, Int.reduceEq, Int.reduceNeg, Int.reduceAdd, Int.reduceSub, Int.reduceMul, Bool.false_eq_true, Bool.not_true, Bool.not_false, decide_eq_true_eq, and_self, true_and, and_true, reduceCtorEq, ne_eq, not_false_eq_true, not_true_eq_false, decide_true, decide_false, or_false, false_or, List.length_map, h48, h47, h46, h5, h1, hd, hf, (show ¬ (j : Int) < ponds.length by omega)] at hW
        subst hW
        rw [List.take_of_length_le (by omega)] at h5
        refine rd_exit ⟨rfl, ?_⟩
        simp (config := { maxSteps := 1000000 }) only [RUN, PATHS, BASE, FA, POL, start_tm, Heap.empty, reduceIte, Nat.reduceLT, Nat.reduceLeDiff, Nat.reduceEqDiff, Nat.reduceAdd, Nat.reduceSub, Nat.reduceMul, Nat.reduceBEq, Int.reduceLT, Int.reduceLE, Int.reduceEq, Int.reduceNeg, Int.reduceAdd, Int.reduceSub, Int.reduceMul, Bool.false_eq_true, Bool.not_true, Bool.not_false, decide_eq_true_eq, and_self, true_and, and_true, reduceCtorEq, ne_eq, not_false_eq_true, not_true_eq_false, decide_true, decide_false, or_false, false_or, h5, h1])
  by_cases hF : (HEADK ⟨su, so, n0, d0, n1, d1, pans, ponds⟩ ∧ PA pans) ∧ PO ponds
  · rw [decide_eq_true hF] at g5
    rw [if_pos (show SRVK _ from ⟨hF.1.1, hF.1.2, hF.2⟩)]
    by_cases hde : 1 ≤ delay ∧ delay ≤ 16
    · simp (config := { maxSteps := 1000000 }) only [RUN, PATHS, BASE, FA, POL, start_tm, Heap.empty, reduceIte, Nat.reduceLT, Nat.reduceLeDiff, Nat.reduceEqDiff, Nat.reduceAdd, Nat.reduceSub, Nat.reduceMul, Nat.reduceBEq, Int.reduceLT, Int.reduceLE, Int.reduceEq, Int.reduceNeg, Int.reduceAdd, Int.reduceSub, Int.reduceMul, Bool.false_eq_true, Bool.not_true, Bool.not_false, decide_eq_true_eq, and_self, true_and, and_true, reduceCtorEq, ne_eq, not_false_eq_true, not_true_eq_false, decide_true, decide_false, or_false, false_or, NUM, g5, g1, gd, gf, c_in, eq_true hde, hde]
    · simp (config := { maxSteps := 1000000 }) only [RUN, PATHS, BASE, FA, POL, start_tm, Heap.empty, reduceIte, Nat.reduceLT, Nat.reduceLeDiff, Nat.reduceEqDiff, Nat.reduceAdd, Nat.reduceSub, Nat.reduceMul, Nat.reduceBEq, Int.reduceLT, Int.reduceLE, Int.reduceEq, Int.reduceNeg, Int.reduceAdd, Int.reduceSub, Int.reduceMul, Bool.false_eq_true, Bool.not_true, Bool.not_false, decide_eq_true_eq, and_self, true_and, and_true, reduceCtorEq, ne_eq, not_false_eq_true, not_true_eq_false, decide_true, decide_false, or_false, false_or, NUM, g5, g1, gd, gf, c_in, eq_false hde, hde]
  · rw [decide_eq_false hF] at g5
    rw [if_neg (show ¬ SRVK _ from fun h => hF ⟨⟨h.1, h.2.1⟩, h.2.2⟩)]
    simp (config := { maxSteps := 1000000 }) only [RUN, PATHS, BASE, FA, POL, start_tm, Heap.empty, reduceIte, Nat.reduceLT, Nat.reduceLeDiff, Nat.reduceEqDiff, Nat.reduceAdd, Nat.reduceSub, Nat.reduceMul, Nat.reduceBEq, Int.reduceLT, Int.reduceLE, Int.reduceEq, Int.reduceNeg, Int.reduceAdd, Int.reduceSub, Int.reduceMul, Bool.false_eq_true, Bool.not_true, Bool.not_false, decide_eq_true_eq, and_self, true_and, and_true, reduceCtorEq, ne_eq, not_false_eq_true, not_true_eq_false, decide_true, decide_false, or_false, false_or, NUM, g5, g1, gd, gf]
theorem c_ck2 (su so n0 d0 n1 d1 : Int) (pans : List Rg) (ponds : List Pnd) (ha : I64 n0) (hb : I64 d0) (hc : I64 n1) (hd : I64 d1) (c c' : Option Nat) (delay : Int) (l1 : ¬ 16 < pans.length) (l2 : ¬ 16 < ponds.length) (k1 : 0 ≤ su ∧ su ≤ 1048576) (k2 : 0 ≤ so ∧ so ≤ 5) (k3 : ¬ (SHS n0 d0 n1 d1)) : ap Tryd.prog pol 33 [srv ⟨su, so, n0, d0, n1, d1, pans, ponds⟩ c c', I delay] = some (.ret (I (if SRVK ⟨su, so, n0, d0, n1, d1, pans, ponds⟩ then (if 1 ≤ delay ∧ delay ≤ 16 then 0 else 1) else 210))) := by
  rw [ap_eq _ Tryd.func33 rfl Tryd.ntmps33 Tryd.results33 (by kernel_rfl) rfl (by exact Nat.le_of_ble_eq_true rfl)]
  have hQ : ¬ HEADK ⟨su, so, n0, d0, n1, d1, pans, ponds⟩ := fun h => k3 h.2.2.1
  simp (config := { maxSteps := 1000000 }) only [RUN, PATHS, BASE, FA, POL, start_tm, Heap.empty, reduceIte, Nat.reduceLT, Nat.reduceLeDiff, Nat.reduceEqDiff, Nat.reduceAdd, Nat.reduceSub, Nat.reduceMul, Nat.reduceBEq, Int.reduceLT, Int.reduceLE, Int.reduceEq, Int.reduceNeg, Int.reduceAdd, Int.reduceSub, Int.reduceMul, Bool.false_eq_true, Bool.not_true, Bool.not_false, decide_eq_true_eq, and_self, true_and, and_true, reduceCtorEq, ne_eq, not_false_eq_true, not_true_eq_false, decide_true, decide_false, or_false, false_or, NUM, List.length_map, (show ¬ (16 : Int) < pans.length by omega), (show ¬ (16 : Int) < ponds.length by omega), c_in, c_shares n0 d0 n1 d1 ha hb hc hd, eq_true k1, eq_true k2, k3]
  generalize hL : W _ (.loop _) _ = L
  obtain ⟨ex, s, rfl, rfl, g5, g1, g2, gb, gd, gf⟩ := loop_at hL (α := Nat) (fun j => pans.length - j)
    (fun s0 j s => j ≤ pans.length ∧ s.tmps 48 = I j ∧ s.tmps 47 = I pans.length ∧ s.tmps 46 = .vs 2 (pans.map rg) c ∧ s.tmps 5 = .bool (decide (HEADK ⟨su, so, n0, d0, n1, d1, pans, ponds⟩ ∧ PA (pans.take j))) ∧ s.tmps 1 = I delay ∧ s.tmps 2 = .bptr 0 2 0 0 ∧ s.boxes 2 = some (0, [I su, I so, I n0, I d0, I n1, I d1, .vs 2 (pans.map rg) c, .vs 4 (ponds.map pnd) c']) ∧ s.defers = [] ∧ s.fid = 0)
    (fun s0 ex s => ex = .exit 0 ∧ s.tmps 5 = .bool (decide (HEADK ⟨su, so, n0, d0, n1, d1, pans, ponds⟩ ∧ PA pans)) ∧ s.tmps 1 = I delay ∧ s.tmps 2 = .bptr 0 2 0 0 ∧ s.boxes 2 = some (0, [I su, I so, I n0, I d0, I n1, I d1, .vs 2 (pans.map rg) c, .vs 4 (ponds.map pnd) c']) ∧ s.defers = [] ∧ s.fid = 0) 0
    (by simp (config := { maxSteps := 1000000 }) only [RUN, PATHS, BASE, FA, POL, start_tm, Heap.empty, reduceIte, Nat.reduceLT, Nat.reduceLeDiff, Nat.reduceEqDiff, Nat.reduceAdd, Nat.reduceSub, Nat.reduceMul, Nat.reduceBEq, Int.reduceLT, Int.reduceLE, Int.reduceEq, Int.reduceNeg, Int.reduceAdd, Int.reduceSub, Int.reduceMul, Bool.false_eq_true, Bool.not_true, Bool.not_false, decide_eq_true_eq, and_self, true_and, and_true, reduceCtorEq, ne_eq, not_false_eq_true, not_true_eq_false, decide_true, decide_false, or_false, false_or, List.take_zero]; simp [hQ, PA_0]) (by
      rintro j s r0 hW ⟨hj, h48, h47, h46, h5, h1, h2, hbx, hd, hf⟩
      by_cases hp : j < pans.length
      · have e0 : pans[j]? = some pans[j] := List.getElem?_eq_getElem hp
        have e1 := map_get (f := rg) e0
        have at' : PA (pans.take (j + 1)) ↔ PA (pans.take j) ∧ PANK _ := all_take (P := PANK) e0
        generalize pans[j] = x at *
        by_cases hq : HEADK ⟨su, so, n0, d0, n1, d1, pans, ponds⟩ ∧ PA (pans.take j)
        · rw [decide_eq_true hq] at h5
          have en : decide (HEADK ⟨su, so, n0, d0, n1, d1, pans, ponds⟩ ∧ PA (pans.take (j + 1))) = decide (0 ≤ x.lo ∧ x.lo ≤ x.hi ∧ x.hi ≤ 1000) := decide_eq_decide.2 (by rw [at']; exact ⟨fun h => h.2.2, fun h => ⟨hq.1, hq.2, h⟩⟩)
          simp (config := { maxSteps := 1000000 }) only [RUN, PATHS, BASE, FA, POL, start_tm, Heap.empty, reduceIte, Nat.reduceLT, Nat.reduceLeDiff, Nat.reduceEqDiff, Nat.reduceAdd, Nat.reduceSub, Nat.reduceMul, Nat.reduceBEq, Int.reduceLT, Int.reduceLE, Int.reduceEq, Int.reduceNeg, Int.reduceAdd, Int.reduceSub, Int.reduceMul, Bool.false_eq_true, Bool.not_true, Bool.not_false, decide_eq_true_eq, and_self, true_and, and_true, reduceCtorEq, ne_eq, not_false_eq_true, not_true_eq_false, decide_true, decide_false, or_false, false_or, NUM, h48, h47, h46, h5, h1, h2, hbx, hd, hf, e1, c_ordered, List.length_map, Int.toNat_natCast, (show (j : Int) < pans.length by omega), (show (0 : Int) ≤ j by omega), (i64_in (x := (j : Int) + 1) (by unfold I64; omega))] at hW
          subst hW
          refine rd_next (j + 1) ?_ (show pans.length - (j + 1) < pans.length - j by omega)
          simp (config := { maxSteps := 1000000 }) only [RUN, PATHS, BASE, FA, POL, start_tm, Heap.empty, reduceIte, Nat.reduceLT, Nat.reduceLeDiff, Nat.reduceEqDiff, Nat.reduceAdd, Nat.reduceSub, Nat.reduceMul, Nat.reduceBEq, Int.reduceLT, Int.reduceLE, Int.reduceEq, Int.reduceNeg, Int.reduceAdd, Int.reduceSub, Int.reduceMul, Bool.false_eq_true, Bool.not_true, Bool.not_false, decide_eq_true_eq, and_self, true_and, and_true, reduceCtorEq, ne_eq, not_false_eq_true, not_true_eq_false, decide_true, decide_false, or_false, false_or, h47, h46, h1, h2, hbx, en]
          exact ⟨by omega, by simp⟩
        · rw [decide_eq_false hq] at h5
          have en : decide (HEADK ⟨su, so, n0, d0, n1, d1, pans, ponds⟩ ∧ PA (pans.take (j + 1))) = false := decide_eq_false (by rw [at']; exact fun h => hq ⟨h.1, h.2.1⟩)
          simp (config := { maxSteps := 1000000 }) only [RUN, PATHS, BASE, FA, POL, start_tm, Heap.empty, reduceIte, Nat.reduceLT, Nat.reduceLeDiff, Nat.reduceEqDiff, Nat.reduceAdd, Nat.reduceSub, Nat.reduceMul, Nat.reduceBEq, Int.reduceLT, Int.reduceLE, Int.reduceEq, Int.reduceNeg, Int.reduceAdd, Int.reduceSub, Int.reduceMul, Bool.false_eq_true, Bool.not_true, Bool.not_false, decide_eq_true_eq, and_self, true_and, and_true, reduceCtorEq, ne_eq, not_false_eq_true, not_true_eq_false, decide_true, decide_false, or_false, false_or, NUM, h48, h47, h46, h5, h1, h2, hbx, hd, hf, e1, List.length_map, Int.toNat_natCast, (show (j : Int) < pans.length by omega), (show (0 : Int) ≤ j by omega), (i64_in (x := (j : Int) + 1) (by unfold I64; omega))] at hW
          subst hW
          refine rd_next (j + 1) ?_ (show pans.length - (j + 1) < pans.length - j by omega)
          simp (config := { maxSteps := 1000000 }) only [RUN, PATHS, BASE, FA, POL, start_tm, Heap.empty, reduceIte, Nat.reduceLT, Nat.reduceLeDiff, Nat.reduceEqDiff, Nat.reduceAdd, Nat.reduceSub, Nat.reduceMul, Nat.reduceBEq, Int.reduceLT, Int.reduceLE, Int.reduceEq, Int.reduceNeg, Int.reduceAdd, Int.reduceSub, Int.reduceMul, Bool.false_eq_true, Bool.not_true, Bool.not_false, decide_eq_true_eq, and_self, true_and, and_true, reduceCtorEq, ne_eq, not_false_eq_true, not_true_eq_false, decide_true, decide_false, or_false, false_or, h47, h46, h1, h2, hbx, en]
          exact ⟨by omega, by simp⟩
      · simp (config := { maxSteps := 1000000 }) only [RUN, PATHS, BASE, FA, POL, start_tm, Heap.empty, reduceIte, Nat.reduceLT, Nat.reduceLeDiff, Nat.reduceEqDiff, Nat.reduceAdd, Nat.reduceSub, Nat.reduceMul, Nat.reduceBEq, Int.reduceLT, Int.reduceLE, Int.reduceEq, Int.reduceNeg, Int.reduceAdd, Int.reduceSub, Int.reduceMul, Bool.false_eq_true, Bool.not_true, Bool.not_false, decide_eq_true_eq, and_self, true_and, and_true, reduceCtorEq, ne_eq, not_false_eq_true, not_true_eq_false, decide_true, decide_false, or_false, false_or, List.length_map, h48, h47, h46, h5, h1, h2, hbx, hd, hf, (show ¬ (j : Int) < pans.length by omega)] at hW
        subst hW
        rw [List.take_of_length_le (by omega)] at h5
        refine rd_exit ⟨rfl, ?_⟩
        simp (config := { maxSteps := 1000000 }) only [RUN, PATHS, BASE, FA, POL, start_tm, Heap.empty, reduceIte, Nat.reduceLT, Nat.reduceLeDiff, Nat.reduceEqDiff, Nat.reduceAdd, Nat.reduceSub, Nat.reduceMul, Nat.reduceBEq, Int.reduceLT, Int.reduceLE, Int.reduceEq, Int.reduceNeg, Int.reduceAdd, Int.reduceSub, Int.reduceMul, Bool.false_eq_true, Bool.not_true, Bool.not_false, decide_eq_true_eq, and_self, true_and, and_true, reduceCtorEq, ne_eq, not_false_eq_true, not_true_eq_false, decide_true, decide_false, or_false, false_or, h5, h1, h2, hbx])
  simp (config := { maxSteps := 1000000 }) only [RUN, PATHS, BASE, FA, POL, start_tm, Heap.empty, reduceIte, Nat.reduceLT, Nat.reduceLeDiff, Nat.reduceEqDiff, Nat.reduceAdd, Nat.reduceSub, Nat.reduceMul, Nat.reduceBEq, Int.reduceLT, Int.reduceLE, Int.reduceEq, Int.reduceNeg, Int.reduceAdd, Int.reduceSub, Int.reduceMul, Bool.false_eq_true, Bool.not_true, Bool.not_false, decide_eq_true_eq, and_self, true_and, and_true, reduceCtorEq, ne_eq, not_false_eq_true, not_true_eq_false, decide_true, decide_false, or_false, false_or, NUM, g5, g1, g2, gb, gd, gf, List.length_map]
  clear hL
  generalize hL : W _ (.loop _) _ = L
  obtain ⟨ex, s, rfl, rfl, g5, g1, gd, gf⟩ := loop_at hL (α := Nat) (fun j => ponds.length - j)
    (fun s0 j s => j ≤ ponds.length ∧ s.tmps 62 = I j ∧ s.tmps 61 = I ponds.length ∧ s.tmps 60 = .vs 4 (ponds.map pnd) c' ∧ s.tmps 5 = .bool (decide ((HEADK ⟨su, so, n0, d0, n1, d1, pans, ponds⟩ ∧ PA pans) ∧ PO (ponds.take j))) ∧ s.tmps 1 = I delay ∧ s.defers = [] ∧ s.fid = 0)
    (fun s0 ex s => ex = .exit 2 ∧ s.tmps 5 = .bool (decide ((HEADK ⟨su, so, n0, d0, n1, d1, pans, ponds⟩ ∧ PA pans) ∧ PO ponds)) ∧ s.tmps 1 = I delay ∧ s.defers = [] ∧ s.fid = 0) 0
    (by simp (config := { maxSteps := 1000000 }) only [RUN, PATHS, BASE, FA, POL, start_tm, Heap.empty, reduceIte, Nat.reduceLT, Nat.reduceLeDiff, Nat.reduceEqDiff, Nat.reduceAdd, Nat.reduceSub, Nat.reduceMul, Nat.reduceBEq, Int.reduceLT, Int.reduceLE, Int.reduceEq, Int.reduceNeg, Int.reduceAdd, Int.reduceSub, Int.reduceMul, Bool.false_eq_true, Bool.not_true, Bool.not_false, decide_eq_true_eq, and_self, true_and, and_true, reduceCtorEq, ne_eq, not_false_eq_true, not_true_eq_false, decide_true, decide_false, or_false, false_or, List.take_zero, g5, g1]; simp [PO_0]) (by
      rintro j s r0 hW ⟨hj, h48, h47, h46, h5, h1, hd, hf⟩
      by_cases hp : j < ponds.length
      · have e0 : ponds[j]? = some ponds[j] := List.getElem?_eq_getElem hp
        have e1 := map_get (f := pnd) e0
        have at' : PO (ponds.take (j + 1)) ↔ PO (ponds.take j) ∧ PNDK _ := all_take (P := PNDK) e0
        generalize ponds[j] = x at *
        by_cases hq : (HEADK ⟨su, so, n0, d0, n1, d1, pans, ponds⟩ ∧ PA pans) ∧ PO (ponds.take j)
        · rw [decide_eq_true hq] at h5
          have en : decide ((HEADK ⟨su, so, n0, d0, n1, d1, pans, ponds⟩ ∧ PA pans) ∧ PO (ponds.take (j + 1))) = decide (PNDK x) := decide_eq_decide.2 (by rw [at']; exact ⟨fun h => h.2.2, fun h => ⟨hq.1, hq.2, h⟩⟩)
          by_cases b1 : 1 ≤ x.v ∧ x.v ≤ 1073741824
          · by_cases b2 : 1 ≤ x.h ∧ x.h ≤ 4096
            · have en2 : decide (PNDK x) = decide (0 ≤ x.lo ∧ x.lo ≤ x.hi ∧ x.hi ≤ x.v) := decide_eq_decide.2 ⟨fun h => h.2.2, fun h => ⟨b1, b2, h⟩⟩
              simp (config := { maxSteps := 1000000 }) only [RUN, PATHS, BASE, FA, POL, start_tm, Heap.empty, reduceIte, Nat.reduceLT, Nat.reduceLeDiff, Nat.reduceEqDiff, Nat.reduceAdd, Nat.reduceSub, Nat.reduceMul, Nat.reduceBEq, Int.reduceLT, Int.reduceLE, Int.reduceEq, Int.reduceNeg, Int.reduceAdd, Int.reduceSub, Int.reduceMul, Bool.false_eq_true, Bool.not_true, Bool.not_false, decide_eq_true_eq, and_self, true_and, and_true, reduceCtorEq, ne_eq, not_false_eq_true, not_true_eq_false, decide_true, decide_false, or_false, false_or, NUM, h48, h47, h46, h5, h1, hd, hf, e1, c_ordered, c_in, eq_true b1, eq_true b2, List.length_map, Int.toNat_natCast, (show (j : Int) < ponds.length by omega), (show (0 : Int) ≤ j by omega), (i64_in (x := (j : Int) + 1) (by unfold I64; omega))] at hW
              subst hW
              refine rd_next (j + 1) ?_ (show ponds.length - (j + 1) < ponds.length - j by omega)
              simp (config := { maxSteps := 1000000 }) only [RUN, PATHS, BASE, FA, POL, start_tm, Heap.empty, reduceIte, Nat.reduceLT, Nat.reduceLeDiff, Nat.reduceEqDiff, Nat.reduceAdd, Nat.reduceSub, Nat.reduceMul, Nat.reduceBEq, Int.reduceLT, Int.reduceLE, Int.reduceEq, Int.reduceNeg, Int.reduceAdd, Int.reduceSub, Int.reduceMul, Bool.false_eq_true, Bool.not_true, Bool.not_false, decide_eq_true_eq, and_self, true_and, and_true, reduceCtorEq, ne_eq, not_false_eq_true, not_true_eq_false, decide_true, decide_false, or_false, false_or, h47, h46, h1, en, en2]
              exact ⟨by omega, by simp⟩
            · have en2 : decide (PNDK x) = false := decide_eq_false fun h => b2 h.2.1
              simp (config := { maxSteps := 1000000 }) only [RUN, PATHS, BASE, FA, POL, start_tm, Heap.empty, reduceIte, Nat.reduceLT, Nat.reduceLeDiff, Nat.reduceEqDiff, Nat.reduceAdd, Nat.reduceSub, Nat.reduceMul, Nat.reduceBEq, Int.reduceLT, Int.reduceLE, Int.reduceEq, Int.reduceNeg, Int.reduceAdd, Int.reduceSub, Int.reduceMul, Bool.false_eq_true, Bool.not_true, Bool.not_false, decide_eq_true_eq, and_self, true_and, and_true, reduceCtorEq, ne_eq, not_false_eq_true, not_true_eq_false, decide_true, decide_false, or_false, false_or, NUM, h48, h47, h46, h5, h1, hd, hf, e1, c_ordered, c_in, eq_true b1, eq_false b2, List.length_map, Int.toNat_natCast, (show (j : Int) < ponds.length by omega), (show (0 : Int) ≤ j by omega), (i64_in (x := (j : Int) + 1) (by unfold I64; omega))] at hW
              subst hW
              refine rd_next (j + 1) ?_ (show ponds.length - (j + 1) < ponds.length - j by omega)
              simp (config := { maxSteps := 1000000 }) only [RUN, PATHS, BASE, FA, POL, start_tm, Heap.empty, reduceIte, Nat.reduceLT, Nat.reduceLeDiff, Nat.reduceEqDiff, Nat.reduceAdd, Nat.reduceSub, Nat.reduceMul, Nat.reduceBEq, Int.reduceLT, Int.reduceLE, Int.reduceEq, Int.reduceNeg, Int.reduceAdd, Int.reduceSub, Int.reduceMul, Bool.false_eq_true, Bool.not_true, Bool.not_false, decide_eq_true_eq, and_self, true_and, and_true, reduceCtorEq, ne_eq, not_false_eq_true, not_true_eq_false, decide_true, decide_false, or_false, false_or, h47, h46, h1, en, en2]
              exact ⟨by omega, by simp⟩
          · have en2 : decide (PNDK x) = false := decide_eq_false fun h => b1 h.1
            simp (config := { maxSteps := 1000000 }) only [RUN, PATHS, BASE, FA, POL, start_tm, Heap.empty, reduceIte, Nat.reduceLT, Nat.reduceLeDiff, Nat.reduceEqDiff, Nat.reduceAdd, Nat.reduceSub, Nat.reduceMul, Nat.reduceBEq, Int.reduceLT, Int.reduceLE, Int.reduceEq, Int.reduceNeg, Int.reduceAdd, Int.reduceSub, Int.reduceMul, Bool.false_eq_true, Bool.not_true, Bool.not_false, decide_eq_true_eq, and_self, true_and, and_true, reduceCtorEq, ne_eq, not_false_eq_true, not_true_eq_false, decide_true, decide_false, or_false, false_or, NUM, h48, h47, h46, h5, h1, hd, hf, e1, c_ordered, c_in, eq_false b1, List.length_map, Int.toNat_natCast, (show (j : Int) < ponds.length by omega), (show (0 : Int) ≤ j by omega), (i64_in (x := (j : Int) + 1) (by unfold I64; omega))] at hW
            subst hW
            refine rd_next (j + 1) ?_ (show ponds.length - (j + 1) < ponds.length - j by omega)
            simp (config := { maxSteps := 1000000 }) only [RUN, PATHS, BASE, FA, POL, start_tm, Heap.empty, reduceIte, Nat.reduceLT, Nat.reduceLeDiff, Nat.reduceEqDiff, Nat.reduceAdd, Nat.reduceSub, Nat.reduceMul, Nat.reduceBEq, Int.reduceLT, Int.reduceLE, Int.reduceEq, Int.reduceNeg, Int.reduceAdd, Int.reduceSub, Int.reduceMul, Bool.false_eq_true, Bool.not_true, Bool.not_false, decide_eq_true_eq, and_self, true_and, and_true, reduceCtorEq, ne_eq, not_false_eq_true, not_true_eq_false, decide_true, decide_false, or_false, false_or, h47, h46, h1, en, en2]
            exact ⟨by omega, by simp⟩
        · rw [decide_eq_false hq] at h5
          have en : decide ((HEADK ⟨su, so, n0, d0, n1, d1, pans, ponds⟩ ∧ PA pans) ∧ PO (ponds.take (j + 1))) = false := decide_eq_false (by rw [at']; exact fun h => hq ⟨h.1, h.2.1⟩)
          simp (config := { maxSteps := 1000000 }) only [RUN, PATHS, BASE, FA, POL, start_tm, Heap.empty, reduceIte, Nat.reduceLT, Nat.reduceLeDiff, Nat.reduceEqDiff, Nat.reduceAdd, Nat.reduceSub, Nat.reduceMul, Nat.reduceBEq, Int.reduceLT, Int.reduceLE, Int.reduceEq, Int.reduceNeg, Int.reduceAdd, Int.reduceSub, Int.reduceMul, Bool.false_eq_true, Bool.not_true, Bool.not_false, decide_eq_true_eq, and_self, true_and, and_true, reduceCtorEq, ne_eq, not_false_eq_true, not_true_eq_false, decide_true, decide_false, or_false, false_or, NUM, h48, h47, h46, h5, h1, hd, hf, e1, List.length_map, Int.toNat_natCast, (show (j : Int) < ponds.length by omega), (show (0 : Int) ≤ j by omega), (i64_in (x := (j : Int) + 1) (by unfold I64; omega))] at hW
          subst hW
          refine rd_next (j + 1) ?_ (show ponds.length - (j + 1) < ponds.length - j by omega)
          simp (config := { maxSteps := 1000000 }) only [RUN, PATHS, BASE, FA, POL, start_tm, Heap.empty, reduceIte, Nat.reduceLT, Nat.reduceLeDiff, Nat.reduceEqDiff, Nat.reduceAdd, Nat.reduceSub, Nat.reduceMul, Nat.reduceBEq, Int.reduceLT, Int.reduceLE, Int.reduceEq, Int.reduceNeg, Int.reduceAdd, Int.reduceSub, Int.reduceMul, Bool.false_eq_true, Bool.not_true, Bool.not_false, decide_eq_true_eq, and_self, true_and, and_true, reduceCtorEq, ne_eq, not_false_eq_true, not_true_eq_false, decide_true, decide_false, or_false, false_or, h47, h46, h1, en]
          exact ⟨by omega, by simp⟩
      · simp (config := { maxSteps := 1000000 }) only [RUN, PATHS, BASE, FA, POL, start_tm, Heap.empty, reduceIte, Nat.reduceLT, Nat.reduceLeDiff, Nat.reduceEqDiff, Nat.reduceAdd, Nat.reduceSub, Nat.reduceMul, Nat.reduceBEq, Int.reduceLT, Int.reduceLE, Int.reduceEq, Int.reduceNeg, Int.reduceAdd, Int.reduceSub, Int.reduceMul, Bool.false_eq_true, Bool.not_true, Bool.not_false, decide_eq_true_eq, and_self, true_and, and_true, reduceCtorEq, ne_eq, not_false_eq_true, not_true_eq_false, decide_true, decide_false, or_false, false_or, List.length_map, h48, h47, h46, h5, h1, hd, hf, (show ¬ (j : Int) < ponds.length by omega)] at hW
        subst hW
        rw [List.take_of_length_le (by omega)] at h5
        refine rd_exit ⟨rfl, ?_⟩
        simp (config := { maxSteps := 1000000 }) only [RUN, PATHS, BASE, FA, POL, start_tm, Heap.empty, reduceIte, Nat.reduceLT, Nat.reduceLeDiff, Nat.reduceEqDiff, Nat.reduceAdd, Nat.reduceSub, Nat.reduceMul, Nat.reduceBEq, Int.reduceLT, Int.reduceLE, Int.reduceEq, Int.reduceNeg, Int.reduceAdd, Int.reduceSub, Int.reduceMul, Bool.false_eq_true, Bool.not_true, Bool.not_false, decide_eq_true_eq, and_self, true_and, and_true, reduceCtorEq, ne_eq, not_false_eq_true, not_true_eq_false, decide_true, decide_false, or_false, false_or, h5, h1])
  by_cases hF : (HEADK ⟨su, so, n0, d0, n1, d1, pans, ponds⟩ ∧ PA pans) ∧ PO ponds
  · rw [decide_eq_true hF] at g5
    rw [if_pos (show SRVK _ from ⟨hF.1.1, hF.1.2, hF.2⟩)]
    by_cases hde : 1 ≤ delay ∧ delay ≤ 16
    · simp (config := { maxSteps := 1000000 }) only [RUN, PATHS, BASE, FA, POL, start_tm, Heap.empty, reduceIte, Nat.reduceLT, Nat.reduceLeDiff, Nat.reduceEqDiff, Nat.reduceAdd, Nat.reduceSub, Nat.reduceMul, Nat.reduceBEq, Int.reduceLT, Int.reduceLE, Int.reduceEq, Int.reduceNeg, Int.reduceAdd, Int.reduceSub, Int.reduceMul, Bool.false_eq_true, Bool.not_true, Bool.not_false, decide_eq_true_eq, and_self, true_and, and_true, reduceCtorEq, ne_eq, not_false_eq_true, not_true_eq_false, decide_true, decide_false, or_false, false_or, NUM, g5, g1, gd, gf, c_in, eq_true hde, hde]
    · simp (config := { maxSteps := 1000000 }) only [RUN, PATHS, BASE, FA, POL, start_tm, Heap.empty, reduceIte, Nat.reduceLT, Nat.reduceLeDiff, Nat.reduceEqDiff, Nat.reduceAdd, Nat.reduceSub, Nat.reduceMul, Nat.reduceBEq, Int.reduceLT, Int.reduceLE, Int.reduceEq, Int.reduceNeg, Int.reduceAdd, Int.reduceSub, Int.reduceMul, Bool.false_eq_true, Bool.not_true, Bool.not_false, decide_eq_true_eq, and_self, true_and, and_true, reduceCtorEq, ne_eq, not_false_eq_true, not_true_eq_false, decide_true, decide_false, or_false, false_or, NUM, g5, g1, gd, gf, c_in, eq_false hde, hde]
  · rw [decide_eq_false hF] at g5
    rw [if_neg (show ¬ SRVK _ from fun h => hF ⟨⟨h.1, h.2.1⟩, h.2.2⟩)]
    simp (config := { maxSteps := 1000000 }) only [RUN, PATHS, BASE, FA, POL, start_tm, Heap.empty, reduceIte, Nat.reduceLT, Nat.reduceLeDiff, Nat.reduceEqDiff, Nat.reduceAdd, Nat.reduceSub, Nat.reduceMul, Nat.reduceBEq, Int.reduceLT, Int.reduceLE, Int.reduceEq, Int.reduceNeg, Int.reduceAdd, Int.reduceSub, Int.reduceMul, Bool.false_eq_true, Bool.not_true, Bool.not_false, decide_eq_true_eq, and_self, true_and, and_true, reduceCtorEq, ne_eq, not_false_eq_true, not_true_eq_false, decide_true, decide_false, or_false, false_or, NUM, g5, g1, gd, gf]
theorem c_ck3 (su so n0 d0 n1 d1 : Int) (pans : List Rg) (ponds : List Pnd) (ha : I64 n0) (hb : I64 d0) (hc : I64 n1) (hd : I64 d1) (c c' : Option Nat) (delay : Int) (l1 : ¬ 16 < pans.length) (l2 : ¬ 16 < ponds.length) (k1 : 0 ≤ su ∧ su ≤ 1048576) (k2 : 0 ≤ so ∧ so ≤ 5) (k3 : SHS n0 d0 n1 d1) (k4 : ¬ (max d0 d1 ≤ 1000)) : ap Tryd.prog pol 33 [srv ⟨su, so, n0, d0, n1, d1, pans, ponds⟩ c c', I delay] = some (.ret (I (if SRVK ⟨su, so, n0, d0, n1, d1, pans, ponds⟩ then (if 1 ≤ delay ∧ delay ≤ 16 then 0 else 1) else 210))) := by
  rw [ap_eq _ Tryd.func33 rfl Tryd.ntmps33 Tryd.results33 (by kernel_rfl) rfl (by exact Nat.le_of_ble_eq_true rfl)]
  have hQ : ¬ HEADK ⟨su, so, n0, d0, n1, d1, pans, ponds⟩ := fun h => k4 h.2.2.2
  simp (config := { maxSteps := 1000000 }) only [RUN, PATHS, BASE, FA, POL, start_tm, Heap.empty, reduceIte, Nat.reduceLT, Nat.reduceLeDiff, Nat.reduceEqDiff, Nat.reduceAdd, Nat.reduceSub, Nat.reduceMul, Nat.reduceBEq, Int.reduceLT, Int.reduceLE, Int.reduceEq, Int.reduceNeg, Int.reduceAdd, Int.reduceSub, Int.reduceMul, Bool.false_eq_true, Bool.not_true, Bool.not_false, decide_eq_true_eq, and_self, true_and, and_true, reduceCtorEq, ne_eq, not_false_eq_true, not_true_eq_false, decide_true, decide_false, or_false, false_or, NUM, List.length_map, (show ¬ (16 : Int) < pans.length by omega), (show ¬ (16 : Int) < ponds.length by omega), c_in, c_shares n0 d0 n1 d1 ha hb hc hd, eq_true k1, eq_true k2, k3, k4]
  generalize hL : W _ (.loop _) _ = L
  obtain ⟨ex, s, rfl, rfl, g5, g1, g2, gb, gd, gf⟩ := loop_at hL (α := Nat) (fun j => pans.length - j)
    (fun s0 j s => j ≤ pans.length ∧ s.tmps 48 = I j ∧ s.tmps 47 = I pans.length ∧ s.tmps 46 = .vs 2 (pans.map rg) c ∧ s.tmps 5 = .bool (decide (HEADK ⟨su, so, n0, d0, n1, d1, pans, ponds⟩ ∧ PA (pans.take j))) ∧ s.tmps 1 = I delay ∧ s.tmps 2 = .bptr 0 2 0 0 ∧ s.boxes 2 = some (0, [I su, I so, I n0, I d0, I n1, I d1, .vs 2 (pans.map rg) c, .vs 4 (ponds.map pnd) c']) ∧ s.defers = [] ∧ s.fid = 0)
    (fun s0 ex s => ex = .exit 0 ∧ s.tmps 5 = .bool (decide (HEADK ⟨su, so, n0, d0, n1, d1, pans, ponds⟩ ∧ PA pans)) ∧ s.tmps 1 = I delay ∧ s.tmps 2 = .bptr 0 2 0 0 ∧ s.boxes 2 = some (0, [I su, I so, I n0, I d0, I n1, I d1, .vs 2 (pans.map rg) c, .vs 4 (ponds.map pnd) c']) ∧ s.defers = [] ∧ s.fid = 0) 0
    (by simp (config := { maxSteps := 1000000 }) only [RUN, PATHS, BASE, FA, POL, start_tm, Heap.empty, reduceIte, Nat.reduceLT, Nat.reduceLeDiff, Nat.reduceEqDiff, Nat.reduceAdd, Nat.reduceSub, Nat.reduceMul, Nat.reduceBEq, Int.reduceLT, Int.reduceLE, Int.reduceEq, Int.reduceNeg, Int.reduceAdd, Int.reduceSub, Int.reduceMul, Bool.false_eq_true, Bool.not_true, Bool.not_false, decide_eq_true_eq, and_self, true_and, and_true, reduceCtorEq, ne_eq, not_false_eq_true, not_true_eq_false, decide_true, decide_false, or_false, false_or, List.take_zero]; simp [hQ, PA_0]) (by
      rintro j s r0 hW ⟨hj, h48, h47, h46, h5, h1, h2, hbx, hd, hf⟩
      by_cases hp : j < pans.length
      · have e0 : pans[j]? = some pans[j] := List.getElem?_eq_getElem hp
        have e1 := map_get (f := rg) e0
        have at' : PA (pans.take (j + 1)) ↔ PA (pans.take j) ∧ PANK _ := all_take (P := PANK) e0
        generalize pans[j] = x at *
        by_cases hq : HEADK ⟨su, so, n0, d0, n1, d1, pans, ponds⟩ ∧ PA (pans.take j)
        · rw [decide_eq_true hq] at h5
          have en : decide (HEADK ⟨su, so, n0, d0, n1, d1, pans, ponds⟩ ∧ PA (pans.take (j + 1))) = decide (0 ≤ x.lo ∧ x.lo ≤ x.hi ∧ x.hi ≤ 1000) := decide_eq_decide.2 (by rw [at']; exact ⟨fun h => h.2.2, fun h => ⟨hq.1, hq.2, h⟩⟩)
          simp (config := { maxSteps := 1000000 }) only [RUN, PATHS, BASE, FA, POL, start_tm, Heap.empty, reduceIte, Nat.reduceLT, Nat.reduceLeDiff, Nat.reduceEqDiff, Nat.reduceAdd, Nat.reduceSub, Nat.reduceMul, Nat.reduceBEq, Int.reduceLT, Int.reduceLE, Int.reduceEq, Int.reduceNeg, Int.reduceAdd, Int.reduceSub, Int.reduceMul, Bool.false_eq_true, Bool.not_true, Bool.not_false, decide_eq_true_eq, and_self, true_and, and_true, reduceCtorEq, ne_eq, not_false_eq_true, not_true_eq_false, decide_true, decide_false, or_false, false_or, NUM, h48, h47, h46, h5, h1, h2, hbx, hd, hf, e1, c_ordered, List.length_map, Int.toNat_natCast, (show (j : Int) < pans.length by omega), (show (0 : Int) ≤ j by omega), (i64_in (x := (j : Int) + 1) (by unfold I64; omega))] at hW
          subst hW
          refine rd_next (j + 1) ?_ (show pans.length - (j + 1) < pans.length - j by omega)
          simp (config := { maxSteps := 1000000 }) only [RUN, PATHS, BASE, FA, POL, start_tm, Heap.empty, reduceIte, Nat.reduceLT, Nat.reduceLeDiff, Nat.reduceEqDiff, Nat.reduceAdd, Nat.reduceSub, Nat.reduceMul, Nat.reduceBEq, Int.reduceLT, Int.reduceLE, Int.reduceEq, Int.reduceNeg, Int.reduceAdd, Int.reduceSub, Int.reduceMul, Bool.false_eq_true, Bool.not_true, Bool.not_false, decide_eq_true_eq, and_self, true_and, and_true, reduceCtorEq, ne_eq, not_false_eq_true, not_true_eq_false, decide_true, decide_false, or_false, false_or, h47, h46, h1, h2, hbx, en]
          exact ⟨by omega, by simp⟩
        · rw [decide_eq_false hq] at h5
          have en : decide (HEADK ⟨su, so, n0, d0, n1, d1, pans, ponds⟩ ∧ PA (pans.take (j + 1))) = false := decide_eq_false (by rw [at']; exact fun h => hq ⟨h.1, h.2.1⟩)
          simp (config := { maxSteps := 1000000 }) only [RUN, PATHS, BASE, FA, POL, start_tm, Heap.empty, reduceIte, Nat.reduceLT, Nat.reduceLeDiff, Nat.reduceEqDiff, Nat.reduceAdd, Nat.reduceSub, Nat.reduceMul, Nat.reduceBEq, Int.reduceLT, Int.reduceLE, Int.reduceEq, Int.reduceNeg, Int.reduceAdd, Int.reduceSub, Int.reduceMul, Bool.false_eq_true, Bool.not_true, Bool.not_false, decide_eq_true_eq, and_self, true_and, and_true, reduceCtorEq, ne_eq, not_false_eq_true, not_true_eq_false, decide_true, decide_false, or_false, false_or, NUM, h48, h47, h46, h5, h1, h2, hbx, hd, hf, e1, List.length_map, Int.toNat_natCast, (show (j : Int) < pans.length by omega), (show (0 : Int) ≤ j by omega), (i64_in (x := (j : Int) + 1) (by unfold I64; omega))] at hW
          subst hW
          refine rd_next (j + 1) ?_ (show pans.length - (j + 1) < pans.length - j by omega)
          simp (config := { maxSteps := 1000000 }) only [RUN, PATHS, BASE, FA, POL, start_tm, Heap.empty, reduceIte, Nat.reduceLT, Nat.reduceLeDiff, Nat.reduceEqDiff, Nat.reduceAdd, Nat.reduceSub, Nat.reduceMul, Nat.reduceBEq, Int.reduceLT, Int.reduceLE, Int.reduceEq, Int.reduceNeg, Int.reduceAdd, Int.reduceSub, Int.reduceMul, Bool.false_eq_true, Bool.not_true, Bool.not_false, decide_eq_true_eq, and_self, true_and, and_true, reduceCtorEq, ne_eq, not_false_eq_true, not_true_eq_false, decide_true, decide_false, or_false, false_or, h47, h46, h1, h2, hbx, en]
          exact ⟨by omega, by simp⟩
      · simp (config := { maxSteps := 1000000 }) only [RUN, PATHS, BASE, FA, POL, start_tm, Heap.empty, reduceIte, Nat.reduceLT, Nat.reduceLeDiff, Nat.reduceEqDiff, Nat.reduceAdd, Nat.reduceSub, Nat.reduceMul, Nat.reduceBEq, Int.reduceLT, Int.reduceLE, Int.reduceEq, Int.reduceNeg, Int.reduceAdd, Int.reduceSub, Int.reduceMul, Bool.false_eq_true, Bool.not_true, Bool.not_false, decide_eq_true_eq, and_self, true_and, and_true, reduceCtorEq, ne_eq, not_false_eq_true, not_true_eq_false, decide_true, decide_false, or_false, false_or, List.length_map, h48, h47, h46, h5, h1, h2, hbx, hd, hf, (show ¬ (j : Int) < pans.length by omega)] at hW
        subst hW
        rw [List.take_of_length_le (by omega)] at h5
        refine rd_exit ⟨rfl, ?_⟩
        simp (config := { maxSteps := 1000000 }) only [RUN, PATHS, BASE, FA, POL, start_tm, Heap.empty, reduceIte, Nat.reduceLT, Nat.reduceLeDiff, Nat.reduceEqDiff, Nat.reduceAdd, Nat.reduceSub, Nat.reduceMul, Nat.reduceBEq, Int.reduceLT, Int.reduceLE, Int.reduceEq, Int.reduceNeg, Int.reduceAdd, Int.reduceSub, Int.reduceMul, Bool.false_eq_true, Bool.not_true, Bool.not_false, decide_eq_true_eq, and_self, true_and, and_true, reduceCtorEq, ne_eq, not_false_eq_true, not_true_eq_false, decide_true, decide_false, or_false, false_or, h5, h1, h2, hbx])
  simp (config := { maxSteps := 1000000 }) only [RUN, PATHS, BASE, FA, POL, start_tm, Heap.empty, reduceIte, Nat.reduceLT, Nat.reduceLeDiff, Nat.reduceEqDiff, Nat.reduceAdd, Nat.reduceSub, Nat.reduceMul, Nat.reduceBEq, Int.reduceLT, Int.reduceLE, Int.reduceEq, Int.reduceNeg, Int.reduceAdd, Int.reduceSub, Int.reduceMul, Bool.false_eq_true, Bool.not_true, Bool.not_false, decide_eq_true_eq, and_self, true_and, and_true, reduceCtorEq, ne_eq, not_false_eq_true, not_true_eq_false, decide_true, decide_false, or_false, false_or, NUM, g5, g1, g2, gb, gd, gf, List.length_map]
  clear hL
  generalize hL : W _ (.loop _) _ = L
  obtain ⟨ex, s, rfl, rfl, g5, g1, gd, gf⟩ := loop_at hL (α := Nat) (fun j => ponds.length - j)
    (fun s0 j s => j ≤ ponds.length ∧ s.tmps 62 = I j ∧ s.tmps 61 = I ponds.length ∧ s.tmps 60 = .vs 4 (ponds.map pnd) c' ∧ s.tmps 5 = .bool (decide ((HEADK ⟨su, so, n0, d0, n1, d1, pans, ponds⟩ ∧ PA pans) ∧ PO (ponds.take j))) ∧ s.tmps 1 = I delay ∧ s.defers = [] ∧ s.fid = 0)
    (fun s0 ex s => ex = .exit 2 ∧ s.tmps 5 = .bool (decide ((HEADK ⟨su, so, n0, d0, n1, d1, pans, ponds⟩ ∧ PA pans) ∧ PO ponds)) ∧ s.tmps 1 = I delay ∧ s.defers = [] ∧ s.fid = 0) 0
    (by simp (config := { maxSteps := 1000000 }) only [RUN, PATHS, BASE, FA, POL, start_tm, Heap.empty, reduceIte, Nat.reduceLT, Nat.reduceLeDiff, Nat.reduceEqDiff, Nat.reduceAdd, Nat.reduceSub, Nat.reduceMul, Nat.reduceBEq, Int.reduceLT, Int.reduceLE, Int.reduceEq, Int.reduceNeg, Int.reduceAdd, Int.reduceSub, Int.reduceMul, Bool.false_eq_true, Bool.not_true, Bool.not_false, decide_eq_true_eq, and_self, true_and, and_true, reduceCtorEq, ne_eq, not_false_eq_true, not_true_eq_false, decide_true, decide_false, or_false, false_or, List.take_zero, g5, g1]; simp [PO_0]) (by
      rintro j s r0 hW ⟨hj, h48, h47, h46, h5, h1, hd, hf⟩
      by_cases hp : j < ponds.length
      · have e0 : ponds[j]? = some ponds[j] := List.getElem?_eq_getElem hp
        have e1 := map_get (f := pnd) e0
        have at' : PO (ponds.take (j + 1)) ↔ PO (ponds.take j) ∧ PNDK _ := all_take (P := PNDK) e0
        generalize ponds[j] = x at *
        by_cases hq : (HEADK ⟨su, so, n0, d0, n1, d1, pans, ponds⟩ ∧ PA pans) ∧ PO (ponds.take j)
        · rw [decide_eq_true hq] at h5
          have en : decide ((HEADK ⟨su, so, n0, d0, n1, d1, pans, ponds⟩ ∧ PA pans) ∧ PO (ponds.take (j + 1))) = decide (PNDK x) := decide_eq_decide.2 (by rw [at']; exact ⟨fun h => h.2.2, fun h => ⟨hq.1, hq.2, h⟩⟩)
          by_cases b1 : 1 ≤ x.v ∧ x.v ≤ 1073741824
          · by_cases b2 : 1 ≤ x.h ∧ x.h ≤ 4096
            · have en2 : decide (PNDK x) = decide (0 ≤ x.lo ∧ x.lo ≤ x.hi ∧ x.hi ≤ x.v) := decide_eq_decide.2 ⟨fun h => h.2.2, fun h => ⟨b1, b2, h⟩⟩
              simp (config := { maxSteps := 1000000 }) only [RUN, PATHS, BASE, FA, POL, start_tm, Heap.empty, reduceIte, Nat.reduceLT, Nat.reduceLeDiff, Nat.reduceEqDiff, Nat.reduceAdd, Nat.reduceSub, Nat.reduceMul, Nat.reduceBEq, Int.reduceLT, Int.reduceLE, Int.reduceEq, Int.reduceNeg, Int.reduceAdd, Int.reduceSub, Int.reduceMul, Bool.false_eq_true, Bool.not_true, Bool.not_false, decide_eq_true_eq, and_self, true_and, and_true, reduceCtorEq, ne_eq, not_false_eq_true, not_true_eq_false, decide_true, decide_false, or_false, false_or, NUM, h48, h47, h46, h5, h1, hd, hf, e1, c_ordered, c_in, eq_true b1, eq_true b2, List.length_map, Int.toNat_natCast, (show (j : Int) < ponds.length by omega), (show (0 : Int) ≤ j by omega), (i64_in (x := (j : Int) + 1) (by unfold I64; omega))] at hW
              subst hW
              refine rd_next (j + 1) ?_ (show ponds.length - (j + 1) < ponds.length - j by omega)
              simp (config := { maxSteps := 1000000 }) only [RUN, PATHS, BASE, FA, POL, start_tm, Heap.empty, reduceIte, Nat.reduceLT, Nat.reduceLeDiff, Nat.reduceEqDiff, Nat.reduceAdd, Nat.reduceSub, Nat.reduceMul, Nat.reduceBEq, Int.reduceLT, Int.reduceLE, Int.reduceEq, Int.reduceNeg, Int.reduceAdd, Int.reduceSub, Int.reduceMul, Bool.false_eq_true, Bool.not_true, Bool.not_false, decide_eq_true_eq, and_self, true_and, and_true, reduceCtorEq, ne_eq, not_false_eq_true, not_true_eq_false, decide_true, decide_false, or_false, false_or, h47, h46, h1, en, en2]
              exact ⟨by omega, by simp⟩
            · have en2 : decide (PNDK x) = false := decide_eq_false fun h => b2 h.2.1
              simp (config := { maxSteps := 1000000 }) only [RUN, PATHS, BASE, FA, POL, start_tm, Heap.empty, reduceIte, Nat.reduceLT, Nat.reduceLeDiff, Nat.reduceEqDiff, Nat.reduceAdd, Nat.reduceSub, Nat.reduceMul, Nat.reduceBEq, Int.reduceLT, Int.reduceLE, Int.reduceEq, Int.reduceNeg, Int.reduceAdd, Int.reduceSub, Int.reduceMul, Bool.false_eq_true, Bool.not_true, Bool.not_false, decide_eq_true_eq, and_self, true_and, and_true, reduceCtorEq, ne_eq, not_false_eq_true, not_true_eq_false, decide_true, decide_false, or_false, false_or, NUM, h48, h47, h46, h5, h1, hd, hf, e1, c_ordered, c_in, eq_true b1, eq_false b2, List.length_map, Int.toNat_natCast, (show (j : Int) < ponds.length by omega), (show (0 : Int) ≤ j by omega), (i64_in (x := (j : Int) + 1) (by unfold I64; omega))] at hW
              subst hW
              refine rd_next (j + 1) ?_ (show ponds.length - (j + 1) < ponds.length - j by omega)
              simp (config := { maxSteps := 1000000 }) only [RUN, PATHS, BASE, FA, POL, start_tm, Heap.empty, reduceIte, Nat.reduceLT, Nat.reduceLeDiff, Nat.reduceEqDiff, Nat.reduceAdd, Nat.reduceSub, Nat.reduceMul, Nat.reduceBEq, Int.reduceLT, Int.reduceLE, Int.reduceEq, Int.reduceNeg, Int.reduceAdd, Int.reduceSub, Int.reduceMul, Bool.false_eq_true, Bool.not_true, Bool.not_false, decide_eq_true_eq, and_self, true_and, and_true, reduceCtorEq, ne_eq, not_false_eq_true, not_true_eq_false, decide_true, decide_false, or_false, false_or, h47, h46, h1, en, en2]
              exact ⟨by omega, by simp⟩
          · have en2 : decide (PNDK x) = false := decide_eq_false fun h => b1 h.1
            simp (config := { maxSteps := 1000000 }) only [RUN, PATHS, BASE, FA, POL, start_tm, Heap.empty, reduceIte, Nat.reduceLT, Nat.reduceLeDiff, Nat.reduceEqDiff, Nat.reduceAdd, Nat.reduceSub, Nat.reduceMul, Nat.reduceBEq, Int.reduceLT, Int.reduceLE, Int.reduceEq, Int.reduceNeg, Int.reduceAdd, Int.reduceSub, Int.reduceMul, Bool.false_eq_true, Bool.not_true, Bool.not_false, decide_eq_true_eq, and_self, true_and, and_true, reduceCtorEq, ne_eq, not_false_eq_true, not_true_eq_false, decide_true, decide_false, or_false, false_or, NUM, h48, h47, h46, h5, h1, hd, hf, e1, c_ordered, c_in, eq_false b1, List.length_map, Int.toNat_natCast, (show (j : Int) < ponds.length by omega), (show (0 : Int) ≤ j by omega), (i64_in (x := (j : Int) + 1) (by unfold I64; omega))] at hW
            subst hW
            refine rd_next (j + 1) ?_ (show ponds.length - (j + 1) < ponds.length - j by omega)
            simp (config := { maxSteps := 1000000 }) only [RUN, PATHS, BASE, FA, POL, start_tm, Heap.empty, reduceIte, Nat.reduceLT, Nat.reduceLeDiff, Nat.reduceEqDiff, Nat.reduceAdd, Nat.reduceSub, Nat.reduceMul, Nat.reduceBEq, Int.reduceLT, Int.reduceLE, Int.reduceEq, Int.reduceNeg, Int.reduceAdd, Int.reduceSub, Int.reduceMul, Bool.false_eq_true, Bool.not_true, Bool.not_false, decide_eq_true_eq, and_self, true_and, and_true, reduceCtorEq, ne_eq, not_false_eq_true, not_true_eq_false, decide_true, decide_false, or_false, false_or, h47, h46, h1, en, en2]
            exact ⟨by omega, by simp⟩
        · rw [decide_eq_false hq] at h5
          have en : decide ((HEADK ⟨su, so, n0, d0, n1, d1, pans, ponds⟩ ∧ PA pans) ∧ PO (ponds.take (j + 1))) = false := decide_eq_false (by rw [at']; exact fun h => hq ⟨h.1, h.2.1⟩)
          simp (config := { maxSteps := 1000000 }) only [RUN, PATHS, BASE, FA, POL, start_tm, Heap.empty, reduceIte, Nat.reduceLT, Nat.reduceLeDiff, Nat.reduceEqDiff, Nat.reduceAdd, Nat.reduceSub, Nat.reduceMul, Nat.reduceBEq, Int.reduceLT, Int.reduceLE, Int.reduceEq, Int.reduceNeg, Int.reduceAdd, Int.reduceSub, Int.reduceMul, Bool.false_eq_true, Bool.not_true, Bool.not_false, decide_eq_true_eq, and_self, true_and, and_true, reduceCtorEq, ne_eq, not_false_eq_true, not_true_eq_false, decide_true, decide_false, or_false, false_or, NUM, h48, h47, h46, h5, h1, hd, hf, e1, List.length_map, Int.toNat_natCast, (show (j : Int) < ponds.length by omega), (show (0 : Int) ≤ j by omega), (i64_in (x := (j : Int) + 1) (by unfold I64; omega))] at hW
          subst hW
          refine rd_next (j + 1) ?_ (show ponds.length - (j + 1) < ponds.length - j by omega)
          simp (config := { maxSteps := 1000000 }) only [RUN, PATHS, BASE, FA, POL, start_tm, Heap.empty, reduceIte, Nat.reduceLT, Nat.reduceLeDiff, Nat.reduceEqDiff, Nat.reduceAdd, Nat.reduceSub, Nat.reduceMul, Nat.reduceBEq, Int.reduceLT, Int.reduceLE, Int.reduceEq, Int.reduceNeg, Int.reduceAdd, Int.reduceSub, Int.reduceMul, Bool.false_eq_true, Bool.not_true, Bool.not_false, decide_eq_true_eq, and_self, true_and, and_true, reduceCtorEq, ne_eq, not_false_eq_true, not_true_eq_false, decide_true, decide_false, or_false, false_or, h47, h46, h1, en]
          exact ⟨by omega, by simp⟩
      · simp (config := { maxSteps := 1000000 }) only [RUN, PATHS, BASE, FA, POL, start_tm, Heap.empty, reduceIte, Nat.reduceLT, Nat.reduceLeDiff, Nat.reduceEqDiff, Nat.reduceAdd, Nat.reduceSub, Nat.reduceMul, Nat.reduceBEq, Int.reduceLT, Int.reduceLE, Int.reduceEq, Int.reduceNeg, Int.reduceAdd, Int.reduceSub, Int.reduceMul, Bool.false_eq_true, Bool.not_true, Bool.not_false, decide_eq_true_eq, and_self, true_and, and_true, reduceCtorEq, ne_eq, not_false_eq_true, not_true_eq_false, decide_true, decide_false, or_false, false_or, List.length_map, h48, h47, h46, h5, h1, hd, hf, (show ¬ (j : Int) < ponds.length by omega)] at hW
        subst hW
        rw [List.take_of_length_le (by omega)] at h5
        refine rd_exit ⟨rfl, ?_⟩
        simp (config := { maxSteps := 1000000 }) only [RUN, PATHS, BASE, FA, POL, start_tm, Heap.empty, reduceIte, Nat.reduceLT, Nat.reduceLeDiff, Nat.reduceEqDiff, Nat.reduceAdd, Nat.reduceSub, Nat.reduceMul, Nat.reduceBEq, Int.reduceLT, Int.reduceLE, Int.reduceEq, Int.reduceNeg, Int.reduceAdd, Int.reduceSub, Int.reduceMul, Bool.false_eq_true, Bool.not_true, Bool.not_false, decide_eq_true_eq, and_self, true_and, and_true, reduceCtorEq, ne_eq, not_false_eq_true, not_true_eq_false, decide_true, decide_false, or_false, false_or, h5, h1])
  by_cases hF : (HEADK ⟨su, so, n0, d0, n1, d1, pans, ponds⟩ ∧ PA pans) ∧ PO ponds
  · rw [decide_eq_true hF] at g5
    rw [if_pos (show SRVK _ from ⟨hF.1.1, hF.1.2, hF.2⟩)]
    by_cases hde : 1 ≤ delay ∧ delay ≤ 16
    · simp (config := { maxSteps := 1000000 }) only [RUN, PATHS, BASE, FA, POL, start_tm, Heap.empty, reduceIte, Nat.reduceLT, Nat.reduceLeDiff, Nat.reduceEqDiff, Nat.reduceAdd, Nat.reduceSub, Nat.reduceMul, Nat.reduceBEq, Int.reduceLT, Int.reduceLE, Int.reduceEq, Int.reduceNeg, Int.reduceAdd, Int.reduceSub, Int.reduceMul, Bool.false_eq_true, Bool.not_true, Bool.not_false, decide_eq_true_eq, and_self, true_and, and_true, reduceCtorEq, ne_eq, not_false_eq_true, not_true_eq_false, decide_true, decide_false, or_false, false_or, NUM, g5, g1, gd, gf, c_in, eq_true hde, hde]
    · simp (config := { maxSteps := 1000000 }) only [RUN, PATHS, BASE, FA, POL, start_tm, Heap.empty, reduceIte, Nat.reduceLT, Nat.reduceLeDiff, Nat.reduceEqDiff, Nat.reduceAdd, Nat.reduceSub, Nat.reduceMul, Nat.reduceBEq, Int.reduceLT, Int.reduceLE, Int.reduceEq, Int.reduceNeg, Int.reduceAdd, Int.reduceSub, Int.reduceMul, Bool.false_eq_true, Bool.not_true, Bool.not_false, decide_eq_true_eq, and_self, true_and, and_true, reduceCtorEq, ne_eq, not_false_eq_true, not_true_eq_false, decide_true, decide_false, or_false, false_or, NUM, g5, g1, gd, gf, c_in, eq_false hde, hde]
  · rw [decide_eq_false hF] at g5
    rw [if_neg (show ¬ SRVK _ from fun h => hF ⟨⟨h.1, h.2.1⟩, h.2.2⟩)]
    simp (config := { maxSteps := 1000000 }) only [RUN, PATHS, BASE, FA, POL, start_tm, Heap.empty, reduceIte, Nat.reduceLT, Nat.reduceLeDiff, Nat.reduceEqDiff, Nat.reduceAdd, Nat.reduceSub, Nat.reduceMul, Nat.reduceBEq, Int.reduceLT, Int.reduceLE, Int.reduceEq, Int.reduceNeg, Int.reduceAdd, Int.reduceSub, Int.reduceMul, Bool.false_eq_true, Bool.not_true, Bool.not_false, decide_eq_true_eq, and_self, true_and, and_true, reduceCtorEq, ne_eq, not_false_eq_true, not_true_eq_false, decide_true, decide_false, or_false, false_or, NUM, g5, g1, gd, gf]
theorem c_ck4 (su so n0 d0 n1 d1 : Int) (pans : List Rg) (ponds : List Pnd) (ha : I64 n0) (hb : I64 d0) (hc : I64 n1) (hd : I64 d1) (c c' : Option Nat) (delay : Int) (l1 : ¬ 16 < pans.length) (l2 : ¬ 16 < ponds.length) (k1 : 0 ≤ su ∧ su ≤ 1048576) (k2 : 0 ≤ so ∧ so ≤ 5) (k3 : SHS n0 d0 n1 d1) (k4 : max d0 d1 ≤ 1000)  : ap Tryd.prog pol 33 [srv ⟨su, so, n0, d0, n1, d1, pans, ponds⟩ c c', I delay] = some (.ret (I (if SRVK ⟨su, so, n0, d0, n1, d1, pans, ponds⟩ then (if 1 ≤ delay ∧ delay ≤ 16 then 0 else 1) else 210))) := by
  rw [ap_eq _ Tryd.func33 rfl Tryd.ntmps33 Tryd.results33 (by kernel_rfl) rfl (by exact Nat.le_of_ble_eq_true rfl)]
  have hQ : HEADK ⟨su, so, n0, d0, n1, d1, pans, ponds⟩ := ⟨k1, k2, k3, k4⟩
  simp (config := { maxSteps := 1000000 }) only [RUN, PATHS, BASE, FA, POL, start_tm, Heap.empty, reduceIte, Nat.reduceLT, Nat.reduceLeDiff, Nat.reduceEqDiff, Nat.reduceAdd, Nat.reduceSub, Nat.reduceMul, Nat.reduceBEq, Int.reduceLT, Int.reduceLE, Int.reduceEq, Int.reduceNeg, Int.reduceAdd, Int.reduceSub, Int.reduceMul, Bool.false_eq_true, Bool.not_true, Bool.not_false, decide_eq_true_eq, and_self, true_and, and_true, reduceCtorEq, ne_eq, not_false_eq_true, not_true_eq_false, decide_true, decide_false, or_false, false_or, NUM, List.length_map, (show ¬ (16 : Int) < pans.length by omega), (show ¬ (16 : Int) < ponds.length by omega), c_in, c_shares n0 d0 n1 d1 ha hb hc hd, eq_true k1, eq_true k2, k3, k4]
  generalize hL : W _ (.loop _) _ = L
  obtain ⟨ex, s, rfl, rfl, g5, g1, g2, gb, gd, gf⟩ := loop_at hL (α := Nat) (fun j => pans.length - j)
    (fun s0 j s => j ≤ pans.length ∧ s.tmps 48 = I j ∧ s.tmps 47 = I pans.length ∧ s.tmps 46 = .vs 2 (pans.map rg) c ∧ s.tmps 5 = .bool (decide (HEADK ⟨su, so, n0, d0, n1, d1, pans, ponds⟩ ∧ PA (pans.take j))) ∧ s.tmps 1 = I delay ∧ s.tmps 2 = .bptr 0 2 0 0 ∧ s.boxes 2 = some (0, [I su, I so, I n0, I d0, I n1, I d1, .vs 2 (pans.map rg) c, .vs 4 (ponds.map pnd) c']) ∧ s.defers = [] ∧ s.fid = 0)
    (fun s0 ex s => ex = .exit 0 ∧ s.tmps 5 = .bool (decide (HEADK ⟨su, so, n0, d0, n1, d1, pans, ponds⟩ ∧ PA pans)) ∧ s.tmps 1 = I delay ∧ s.tmps 2 = .bptr 0 2 0 0 ∧ s.boxes 2 = some (0, [I su, I so, I n0, I d0, I n1, I d1, .vs 2 (pans.map rg) c, .vs 4 (ponds.map pnd) c']) ∧ s.defers = [] ∧ s.fid = 0) 0
    (by simp (config := { maxSteps := 1000000 }) only [RUN, PATHS, BASE, FA, POL, start_tm, Heap.empty, reduceIte, Nat.reduceLT, Nat.reduceLeDiff, Nat.reduceEqDiff, Nat.reduceAdd, Nat.reduceSub, Nat.reduceMul, Nat.reduceBEq, Int.reduceLT, Int.reduceLE, Int.reduceEq, Int.reduceNeg, Int.reduceAdd, Int.reduceSub, Int.reduceMul, Bool.false_eq_true, Bool.not_true, Bool.not_false, decide_eq_true_eq, and_self, true_and, and_true, reduceCtorEq, ne_eq, not_false_eq_true, not_true_eq_false, decide_true, decide_false, or_false, false_or, List.take_zero]; simp [hQ, PA_0]) (by
      rintro j s r0 hW ⟨hj, h48, h47, h46, h5, h1, h2, hbx, hd, hf⟩
      by_cases hp : j < pans.length
      · have e0 : pans[j]? = some pans[j] := List.getElem?_eq_getElem hp
        have e1 := map_get (f := rg) e0
        have at' : PA (pans.take (j + 1)) ↔ PA (pans.take j) ∧ PANK _ := all_take (P := PANK) e0
        generalize pans[j] = x at *
        by_cases hq : HEADK ⟨su, so, n0, d0, n1, d1, pans, ponds⟩ ∧ PA (pans.take j)
        · rw [decide_eq_true hq] at h5
          have en : decide (HEADK ⟨su, so, n0, d0, n1, d1, pans, ponds⟩ ∧ PA (pans.take (j + 1))) = decide (0 ≤ x.lo ∧ x.lo ≤ x.hi ∧ x.hi ≤ 1000) := decide_eq_decide.2 (by rw [at']; exact ⟨fun h => h.2.2, fun h => ⟨hq.1, hq.2, h⟩⟩)
          simp (config := { maxSteps := 1000000 }) only [RUN, PATHS, BASE, FA, POL, start_tm, Heap.empty, reduceIte, Nat.reduceLT, Nat.reduceLeDiff, Nat.reduceEqDiff, Nat.reduceAdd, Nat.reduceSub, Nat.reduceMul, Nat.reduceBEq, Int.reduceLT, Int.reduceLE, Int.reduceEq, Int.reduceNeg, Int.reduceAdd, Int.reduceSub, Int.reduceMul, Bool.false_eq_true, Bool.not_true, Bool.not_false, decide_eq_true_eq, and_self, true_and, and_true, reduceCtorEq, ne_eq, not_false_eq_true, not_true_eq_false, decide_true, decide_false, or_false, false_or, NUM, h48, h47, h46, h5, h1, h2, hbx, hd, hf, e1, c_ordered, List.length_map, Int.toNat_natCast, (show (j : Int) < pans.length by omega), (show (0 : Int) ≤ j by omega), (i64_in (x := (j : Int) + 1) (by unfold I64; omega))] at hW
          subst hW
          refine rd_next (j + 1) ?_ (show pans.length - (j + 1) < pans.length - j by omega)
          simp (config := { maxSteps := 1000000 }) only [RUN, PATHS, BASE, FA, POL, start_tm, Heap.empty, reduceIte, Nat.reduceLT, Nat.reduceLeDiff, Nat.reduceEqDiff, Nat.reduceAdd, Nat.reduceSub, Nat.reduceMul, Nat.reduceBEq, Int.reduceLT, Int.reduceLE, Int.reduceEq, Int.reduceNeg, Int.reduceAdd, Int.reduceSub, Int.reduceMul, Bool.false_eq_true, Bool.not_true, Bool.not_false, decide_eq_true_eq, and_self, true_and, and_true, reduceCtorEq, ne_eq, not_false_eq_true, not_true_eq_false, decide_true, decide_false, or_false, false_or, h47, h46, h1, h2, hbx, en]
          exact ⟨by omega, by simp⟩
        · rw [decide_eq_false hq] at h5
          have en : decide (HEADK ⟨su, so, n0, d0, n1, d1, pans, ponds⟩ ∧ PA (pans.take (j + 1))) = false := decide_eq_false (by rw [at']; exact fun h => hq ⟨h.1, h.2.1⟩)
          simp (config := { maxSteps := 1000000 }) only [RUN, PATHS, BASE, FA, POL, start_tm, Heap.empty, reduceIte, Nat.reduceLT, Nat.reduceLeDiff, Nat.reduceEqDiff, Nat.reduceAdd, Nat.reduceSub, Nat.reduceMul, Nat.reduceBEq, Int.reduceLT, Int.reduceLE, Int.reduceEq, Int.reduceNeg, Int.reduceAdd, Int.reduceSub, Int.reduceMul, Bool.false_eq_true, Bool.not_true, Bool.not_false, decide_eq_true_eq, and_self, true_and, and_true, reduceCtorEq, ne_eq, not_false_eq_true, not_true_eq_false, decide_true, decide_false, or_false, false_or, NUM, h48, h47, h46, h5, h1, h2, hbx, hd, hf, e1, List.length_map, Int.toNat_natCast, (show (j : Int) < pans.length by omega), (show (0 : Int) ≤ j by omega), (i64_in (x := (j : Int) + 1) (by unfold I64; omega))] at hW
          subst hW
          refine rd_next (j + 1) ?_ (show pans.length - (j + 1) < pans.length - j by omega)
          simp (config := { maxSteps := 1000000 }) only [RUN, PATHS, BASE, FA, POL, start_tm, Heap.empty, reduceIte, Nat.reduceLT, Nat.reduceLeDiff, Nat.reduceEqDiff, Nat.reduceAdd, Nat.reduceSub, Nat.reduceMul, Nat.reduceBEq, Int.reduceLT, Int.reduceLE, Int.reduceEq, Int.reduceNeg, Int.reduceAdd, Int.reduceSub, Int.reduceMul, Bool.false_eq_true, Bool.not_true, Bool.not_false, decide_eq_true_eq, and_self, true_and, and_true, reduceCtorEq, ne_eq, not_false_eq_true, not_true_eq_false, decide_true, decide_false, or_false, false_or, h47, h46, h1, h2, hbx, en]
          exact ⟨by omega, by simp⟩
      · simp (config := { maxSteps := 1000000 }) only [RUN, PATHS, BASE, FA, POL, start_tm, Heap.empty, reduceIte, Nat.reduceLT, Nat.reduceLeDiff, Nat.reduceEqDiff, Nat.reduceAdd, Nat.reduceSub, Nat.reduceMul, Nat.reduceBEq, Int.reduceLT, Int.reduceLE, Int.reduceEq, Int.reduceNeg, Int.reduceAdd, Int.reduceSub, Int.reduceMul, Bool.false_eq_true, Bool.not_true, Bool.not_false, decide_eq_true_eq, and_self, true_and, and_true, reduceCtorEq, ne_eq, not_false_eq_true, not_true_eq_false, decide_true, decide_false, or_false, false_or, List.length_map, h48, h47, h46, h5, h1, h2, hbx, hd, hf, (show ¬ (j : Int) < pans.length by omega)] at hW
        subst hW
        rw [List.take_of_length_le (by omega)] at h5
        refine rd_exit ⟨rfl, ?_⟩
        simp (config := { maxSteps := 1000000 }) only [RUN, PATHS, BASE, FA, POL, start_tm, Heap.empty, reduceIte, Nat.reduceLT, Nat.reduceLeDiff, Nat.reduceEqDiff, Nat.reduceAdd, Nat.reduceSub, Nat.reduceMul, Nat.reduceBEq, Int.reduceLT, Int.reduceLE, Int.reduceEq, Int.reduceNeg, Int.reduceAdd, Int.reduceSub, Int.reduceMul, Bool.false_eq_true, Bool.not_true, Bool.not_false, decide_eq_true_eq, and_self, true_and, and_true, reduceCtorEq, ne_eq, not_false_eq_true, not_true_eq_false, decide_true, decide_false, or_false, false_or, h5, h1, h2, hbx])
  simp (config := { maxSteps := 1000000 }) only [RUN, PATHS, BASE, FA, POL, start_tm, Heap.empty, reduceIte, Nat.reduceLT, Nat.reduceLeDiff, Nat.reduceEqDiff, Nat.reduceAdd, Nat.reduceSub, Nat.reduceMul, Nat.reduceBEq, Int.reduceLT, Int.reduceLE, Int.reduceEq, Int.reduceNeg, Int.reduceAdd, Int.reduceSub, Int.reduceMul, Bool.false_eq_true, Bool.not_true, Bool.not_false, decide_eq_true_eq, and_self, true_and, and_true, reduceCtorEq, ne_eq, not_false_eq_true, not_true_eq_false, decide_true, decide_false, or_false, false_or, NUM, g5, g1, g2, gb, gd, gf, List.length_map]
  clear hL
  generalize hL : W _ (.loop _) _ = L
  obtain ⟨ex, s, rfl, rfl, g5, g1, gd, gf⟩ := loop_at hL (α := Nat) (fun j => ponds.length - j)
    (fun s0 j s => j ≤ ponds.length ∧ s.tmps 62 = I j ∧ s.tmps 61 = I ponds.length ∧ s.tmps 60 = .vs 4 (ponds.map pnd) c' ∧ s.tmps 5 = .bool (decide ((HEADK ⟨su, so, n0, d0, n1, d1, pans, ponds⟩ ∧ PA pans) ∧ PO (ponds.take j))) ∧ s.tmps 1 = I delay ∧ s.defers = [] ∧ s.fid = 0)
    (fun s0 ex s => ex = .exit 2 ∧ s.tmps 5 = .bool (decide ((HEADK ⟨su, so, n0, d0, n1, d1, pans, ponds⟩ ∧ PA pans) ∧ PO ponds)) ∧ s.tmps 1 = I delay ∧ s.defers = [] ∧ s.fid = 0) 0
    (by simp (config := { maxSteps := 1000000 }) only [RUN, PATHS, BASE, FA, POL, start_tm, Heap.empty, reduceIte, Nat.reduceLT, Nat.reduceLeDiff, Nat.reduceEqDiff, Nat.reduceAdd, Nat.reduceSub, Nat.reduceMul, Nat.reduceBEq, Int.reduceLT, Int.reduceLE, Int.reduceEq, Int.reduceNeg, Int.reduceAdd, Int.reduceSub, Int.reduceMul, Bool.false_eq_true, Bool.not_true, Bool.not_false, decide_eq_true_eq, and_self, true_and, and_true, reduceCtorEq, ne_eq, not_false_eq_true, not_true_eq_false, decide_true, decide_false, or_false, false_or, List.take_zero, g5, g1]; simp [PO_0]) (by
      rintro j s r0 hW ⟨hj, h48, h47, h46, h5, h1, hd, hf⟩
      by_cases hp : j < ponds.length
      · have e0 : ponds[j]? = some ponds[j] := List.getElem?_eq_getElem hp
        have e1 := map_get (f := pnd) e0
        have at' : PO (ponds.take (j + 1)) ↔ PO (ponds.take j) ∧ PNDK _ := all_take (P := PNDK) e0
        generalize ponds[j] = x at *
        by_cases hq : (HEADK ⟨su, so, n0, d0, n1, d1, pans, ponds⟩ ∧ PA pans) ∧ PO (ponds.take j)
        · rw [decide_eq_true hq] at h5
          have en : decide ((HEADK ⟨su, so, n0, d0, n1, d1, pans, ponds⟩ ∧ PA pans) ∧ PO (ponds.take (j + 1))) = decide (PNDK x) := decide_eq_decide.2 (by rw [at']; exact ⟨fun h => h.2.2, fun h => ⟨hq.1, hq.2, h⟩⟩)
          by_cases b1 : 1 ≤ x.v ∧ x.v ≤ 1073741824
          · by_cases b2 : 1 ≤ x.h ∧ x.h ≤ 4096
            · have en2 : decide (PNDK x) = decide (0 ≤ x.lo ∧ x.lo ≤ x.hi ∧ x.hi ≤ x.v) := decide_eq_decide.2 ⟨fun h => h.2.2, fun h => ⟨b1, b2, h⟩⟩
              simp (config := { maxSteps := 1000000 }) only [RUN, PATHS, BASE, FA, POL, start_tm, Heap.empty, reduceIte, Nat.reduceLT, Nat.reduceLeDiff, Nat.reduceEqDiff, Nat.reduceAdd, Nat.reduceSub, Nat.reduceMul, Nat.reduceBEq, Int.reduceLT, Int.reduceLE, Int.reduceEq, Int.reduceNeg, Int.reduceAdd, Int.reduceSub, Int.reduceMul, Bool.false_eq_true, Bool.not_true, Bool.not_false, decide_eq_true_eq, and_self, true_and, and_true, reduceCtorEq, ne_eq, not_false_eq_true, not_true_eq_false, decide_true, decide_false, or_false, false_or, NUM, h48, h47, h46, h5, h1, hd, hf, e1, c_ordered, c_in, eq_true b1, eq_true b2, List.length_map, Int.toNat_natCast, (show (j : Int) < ponds.length by omega), (show (0 : Int) ≤ j by omega), (i64_in (x := (j : Int) + 1) (by unfold I64; omega))] at hW
              subst hW
              refine rd_next (j + 1) ?_ (show ponds.length - (j + 1) < ponds.length - j by omega)
              simp (config := { maxSteps := 1000000 }) only [RUN, PATHS, BASE, FA, POL, start_tm, Heap.empty, reduceIte, Nat.reduceLT, Nat.reduceLeDiff, Nat.reduceEqDiff, Nat.reduceAdd, Nat.reduceSub, Nat.reduceMul, Nat.reduceBEq, Int.reduceLT, Int.reduceLE, Int.reduceEq, Int.reduceNeg, Int.reduceAdd, Int.reduceSub, Int.reduceMul, Bool.false_eq_true, Bool.not_true, Bool.not_false, decide_eq_true_eq, and_self, true_and, and_true, reduceCtorEq, ne_eq, not_false_eq_true, not_true_eq_false, decide_true, decide_false, or_false, false_or, h47, h46, h1, en, en2]
              exact ⟨by omega, by simp⟩
            · have en2 : decide (PNDK x) = false := decide_eq_false fun h => b2 h.2.1
              simp (config := { maxSteps := 1000000 }) only [RUN, PATHS, BASE, FA, POL, start_tm, Heap.empty, reduceIte, Nat.reduceLT, Nat.reduceLeDiff, Nat.reduceEqDiff, Nat.reduceAdd, Nat.reduceSub, Nat.reduceMul, Nat.reduceBEq, Int.reduceLT, Int.reduceLE, Int.reduceEq, Int.reduceNeg, Int.reduceAdd, Int.reduceSub, Int.reduceMul, Bool.false_eq_true, Bool.not_true, Bool.not_false, decide_eq_true_eq, and_self, true_and, and_true, reduceCtorEq, ne_eq, not_false_eq_true, not_true_eq_false, decide_true, decide_false, or_false, false_or, NUM, h48, h47, h46, h5, h1, hd, hf, e1, c_ordered, c_in, eq_true b1, eq_false b2, List.length_map, Int.toNat_natCast, (show (j : Int) < ponds.length by omega), (show (0 : Int) ≤ j by omega), (i64_in (x := (j : Int) + 1) (by unfold I64; omega))] at hW
              subst hW
              refine rd_next (j + 1) ?_ (show ponds.length - (j + 1) < ponds.length - j by omega)
              simp (config := { maxSteps := 1000000 }) only [RUN, PATHS, BASE, FA, POL, start_tm, Heap.empty, reduceIte, Nat.reduceLT, Nat.reduceLeDiff, Nat.reduceEqDiff, Nat.reduceAdd, Nat.reduceSub, Nat.reduceMul, Nat.reduceBEq, Int.reduceLT, Int.reduceLE, Int.reduceEq, Int.reduceNeg, Int.reduceAdd, Int.reduceSub, Int.reduceMul, Bool.false_eq_true, Bool.not_true, Bool.not_false, decide_eq_true_eq, and_self, true_and, and_true, reduceCtorEq, ne_eq, not_false_eq_true, not_true_eq_false, decide_true, decide_false, or_false, false_or, h47, h46, h1, en, en2]
              exact ⟨by omega, by simp⟩
          · have en2 : decide (PNDK x) = false := decide_eq_false fun h => b1 h.1
            simp (config := { maxSteps := 1000000 }) only [RUN, PATHS, BASE, FA, POL, start_tm, Heap.empty, reduceIte, Nat.reduceLT, Nat.reduceLeDiff, Nat.reduceEqDiff, Nat.reduceAdd, Nat.reduceSub, Nat.reduceMul, Nat.reduceBEq, Int.reduceLT, Int.reduceLE, Int.reduceEq, Int.reduceNeg, Int.reduceAdd, Int.reduceSub, Int.reduceMul, Bool.false_eq_true, Bool.not_true, Bool.not_false, decide_eq_true_eq, and_self, true_and, and_true, reduceCtorEq, ne_eq, not_false_eq_true, not_true_eq_false, decide_true, decide_false, or_false, false_or, NUM, h48, h47, h46, h5, h1, hd, hf, e1, c_ordered, c_in, eq_false b1, List.length_map, Int.toNat_natCast, (show (j : Int) < ponds.length by omega), (show (0 : Int) ≤ j by omega), (i64_in (x := (j : Int) + 1) (by unfold I64; omega))] at hW
            subst hW
            refine rd_next (j + 1) ?_ (show ponds.length - (j + 1) < ponds.length - j by omega)
            simp (config := { maxSteps := 1000000 }) only [RUN, PATHS, BASE, FA, POL, start_tm, Heap.empty, reduceIte, Nat.reduceLT, Nat.reduceLeDiff, Nat.reduceEqDiff, Nat.reduceAdd, Nat.reduceSub, Nat.reduceMul, Nat.reduceBEq, Int.reduceLT, Int.reduceLE, Int.reduceEq, Int.reduceNeg, Int.reduceAdd, Int.reduceSub, Int.reduceMul, Bool.false_eq_true, Bool.not_true, Bool.not_false, decide_eq_true_eq, and_self, true_and, and_true, reduceCtorEq, ne_eq, not_false_eq_true, not_true_eq_false, decide_true, decide_false, or_false, false_or, h47, h46, h1, en, en2]
            exact ⟨by omega, by simp⟩
        · rw [decide_eq_false hq] at h5
          have en : decide ((HEADK ⟨su, so, n0, d0, n1, d1, pans, ponds⟩ ∧ PA pans) ∧ PO (ponds.take (j + 1))) = false := decide_eq_false (by rw [at']; exact fun h => hq ⟨h.1, h.2.1⟩)
          simp (config := { maxSteps := 1000000 }) only [RUN, PATHS, BASE, FA, POL, start_tm, Heap.empty, reduceIte, Nat.reduceLT, Nat.reduceLeDiff, Nat.reduceEqDiff, Nat.reduceAdd, Nat.reduceSub, Nat.reduceMul, Nat.reduceBEq, Int.reduceLT, Int.reduceLE, Int.reduceEq, Int.reduceNeg, Int.reduceAdd, Int.reduceSub, Int.reduceMul, Bool.false_eq_true, Bool.not_true, Bool.not_false, decide_eq_true_eq, and_self, true_and, and_true, reduceCtorEq, ne_eq, not_false_eq_true, not_true_eq_false, decide_true, decide_false, or_false, false_or, NUM, h48, h47, h46, h5, h1, hd, hf, e1, List.length_map, Int.toNat_natCast, (show (j : Int) < ponds.length by omega), (show (0 : Int) ≤ j by omega), (i64_in (x := (j : Int) + 1) (by unfold I64; omega))] at hW
          subst hW
          refine rd_next (j + 1) ?_ (show ponds.length - (j + 1) < ponds.length - j by omega)
          simp (config := { maxSteps := 1000000 }) only [RUN, PATHS, BASE, FA, POL, start_tm, Heap.empty, reduceIte, Nat.reduceLT, Nat.reduceLeDiff, Nat.reduceEqDiff, Nat.reduceAdd, Nat.reduceSub, Nat.reduceMul, Nat.reduceBEq, Int.reduceLT, Int.reduceLE, Int.reduceEq, Int.reduceNeg, Int.reduceAdd, Int.reduceSub, Int.reduceMul, Bool.false_eq_true, Bool.not_true, Bool.not_false, decide_eq_true_eq, and_self, true_and, and_true, reduceCtorEq, ne_eq, not_false_eq_true, not_true_eq_false, decide_true, decide_false, or_false, false_or, h47, h46, h1, en]
          exact ⟨by omega, by simp⟩
      · simp (config := { maxSteps := 1000000 }) only [RUN, PATHS, BASE, FA, POL, start_tm, Heap.empty, reduceIte, Nat.reduceLT, Nat.reduceLeDiff, Nat.reduceEqDiff, Nat.reduceAdd, Nat.reduceSub, Nat.reduceMul, Nat.reduceBEq, Int.reduceLT, Int.reduceLE, Int.reduceEq, Int.reduceNeg, Int.reduceAdd, Int.reduceSub, Int.reduceMul, Bool.false_eq_true, Bool.not_true, Bool.not_false, decide_eq_true_eq, and_self, true_and, and_true, reduceCtorEq, ne_eq, not_false_eq_true, not_true_eq_false, decide_true, decide_false, or_false, false_or, List.length_map, h48, h47, h46, h5, h1, hd, hf, (show ¬ (j : Int) < ponds.length by omega)] at hW
        subst hW
        rw [List.take_of_length_le (by omega)] at h5
        refine rd_exit ⟨rfl, ?_⟩
        simp (config := { maxSteps := 1000000 }) only [RUN, PATHS, BASE, FA, POL, start_tm, Heap.empty, reduceIte, Nat.reduceLT, Nat.reduceLeDiff, Nat.reduceEqDiff, Nat.reduceAdd, Nat.reduceSub, Nat.reduceMul, Nat.reduceBEq, Int.reduceLT, Int.reduceLE, Int.reduceEq, Int.reduceNeg, Int.reduceAdd, Int.reduceSub, Int.reduceMul, Bool.false_eq_true, Bool.not_true, Bool.not_false, decide_eq_true_eq, and_self, true_and, and_true, reduceCtorEq, ne_eq, not_false_eq_true, not_true_eq_false, decide_true, decide_false, or_false, false_or, h5, h1])
  by_cases hF : (HEADK ⟨su, so, n0, d0, n1, d1, pans, ponds⟩ ∧ PA pans) ∧ PO ponds
  · rw [decide_eq_true hF] at g5
    rw [if_pos (show SRVK _ from ⟨hF.1.1, hF.1.2, hF.2⟩)]
    by_cases hde : 1 ≤ delay ∧ delay ≤ 16
    · simp (config := { maxSteps := 1000000 }) only [RUN, PATHS, BASE, FA, POL, start_tm, Heap.empty, reduceIte, Nat.reduceLT, Nat.reduceLeDiff, Nat.reduceEqDiff, Nat.reduceAdd, Nat.reduceSub, Nat.reduceMul, Nat.reduceBEq, Int.reduceLT, Int.reduceLE, Int.reduceEq, Int.reduceNeg, Int.reduceAdd, Int.reduceSub, Int.reduceMul, Bool.false_eq_true, Bool.not_true, Bool.not_false, decide_eq_true_eq, and_self, true_and, and_true, reduceCtorEq, ne_eq, not_false_eq_true, not_true_eq_false, decide_true, decide_false, or_false, false_or, NUM, g5, g1, gd, gf, c_in, eq_true hde, hde]
    · simp (config := { maxSteps := 1000000 }) only [RUN, PATHS, BASE, FA, POL, start_tm, Heap.empty, reduceIte, Nat.reduceLT, Nat.reduceLeDiff, Nat.reduceEqDiff, Nat.reduceAdd, Nat.reduceSub, Nat.reduceMul, Nat.reduceBEq, Int.reduceLT, Int.reduceLE, Int.reduceEq, Int.reduceNeg, Int.reduceAdd, Int.reduceSub, Int.reduceMul, Bool.false_eq_true, Bool.not_true, Bool.not_false, decide_eq_true_eq, and_self, true_and, and_true, reduceCtorEq, ne_eq, not_false_eq_true, not_true_eq_false, decide_true, decide_false, or_false, false_or, NUM, g5, g1, gd, gf, c_in, eq_false hde, hde]
  · rw [decide_eq_false hF] at g5
    rw [if_neg (show ¬ SRVK _ from fun h => hF ⟨⟨h.1, h.2.1⟩, h.2.2⟩)]
    simp (config := { maxSteps := 1000000 }) only [RUN, PATHS, BASE, FA, POL, start_tm, Heap.empty, reduceIte, Nat.reduceLT, Nat.reduceLeDiff, Nat.reduceEqDiff, Nat.reduceAdd, Nat.reduceSub, Nat.reduceMul, Nat.reduceBEq, Int.reduceLT, Int.reduceLE, Int.reduceEq, Int.reduceNeg, Int.reduceAdd, Int.reduceSub, Int.reduceMul, Bool.false_eq_true, Bool.not_true, Bool.not_false, decide_eq_true_eq, and_self, true_and, and_true, reduceCtorEq, ne_eq, not_false_eq_true, not_true_eq_false, decide_true, decide_false, or_false, false_or, NUM, g5, g1, gd, gf]
theorem c_check33 (S : Srv) (hS : S.OK) (c c' : Option Nat) (delay : Int) : ap Tryd.prog pol 33 [srv S c c', I delay] = some (.ret (I (CK S delay))) := by
  obtain ⟨ha, hb, hc, hd⟩ := hS
  obtain ⟨su, so, n0, d0, n1, d1, pans, ponds⟩ := S
  simp only at ha hb hc hd
  unfold CK
  simp only
  by_cases l1 : 16 < pans.length
  · rw [if_pos (.inl l1)]
    rw [ap_eq _ Tryd.func33 rfl Tryd.ntmps33 Tryd.results33 (by kernel_rfl) rfl (by exact Nat.le_of_ble_eq_true rfl)]
    simp (config := { maxSteps := 1000000 }) only [RUN, PATHS, BASE, FA, POL, start_tm, Heap.empty, reduceIte, Nat.reduceLT, Nat.reduceLeDiff, Nat.reduceEqDiff, Nat.reduceAdd, Nat.reduceSub, Nat.reduceMul, Nat.reduceBEq, Int.reduceLT, Int.reduceLE, Int.reduceEq, Int.reduceNeg, Int.reduceAdd, Int.reduceSub, Int.reduceMul, Bool.false_eq_true, Bool.not_true, Bool.not_false, decide_eq_true_eq, and_self, true_and, and_true, reduceCtorEq, ne_eq, not_false_eq_true, not_true_eq_false, decide_true, decide_false, or_false, false_or, NUM, List.length_map, (show (16 : Int) < pans.length by omega)]
  by_cases l2 : 16 < ponds.length
  · rw [if_pos (.inr l2)]
    rw [ap_eq _ Tryd.func33 rfl Tryd.ntmps33 Tryd.results33 (by kernel_rfl) rfl (by exact Nat.le_of_ble_eq_true rfl)]
    simp (config := { maxSteps := 1000000 }) only [RUN, PATHS, BASE, FA, POL, start_tm, Heap.empty, reduceIte, Nat.reduceLT, Nat.reduceLeDiff, Nat.reduceEqDiff, Nat.reduceAdd, Nat.reduceSub, Nat.reduceMul, Nat.reduceBEq, Int.reduceLT, Int.reduceLE, Int.reduceEq, Int.reduceNeg, Int.reduceAdd, Int.reduceSub, Int.reduceMul, Bool.false_eq_true, Bool.not_true, Bool.not_false, decide_eq_true_eq, and_self, true_and, and_true, reduceCtorEq, ne_eq, not_false_eq_true, not_true_eq_false, decide_true, decide_false, or_false, false_or, NUM, List.length_map, (show ¬ (16 : Int) < pans.length by omega), (show (16 : Int) < ponds.length by omega)]
  rw [if_neg (by omega)]
  by_cases k1 : 0 ≤ su ∧ su ≤ 1048576
  rotate_left
  · exact c_ck0 su so n0 d0 n1 d1 pans ponds ha hb hc hd c c' delay l1 l2 k1
  by_cases k2 : 0 ≤ so ∧ so ≤ 5
  rotate_left
  · exact c_ck1 su so n0 d0 n1 d1 pans ponds ha hb hc hd c c' delay l1 l2 k1 k2
  by_cases k3 : SHS n0 d0 n1 d1
  rotate_left
  · exact c_ck2 su so n0 d0 n1 d1 pans ponds ha hb hc hd c c' delay l1 l2 k1 k2 k3
  by_cases k4 : max d0 d1 ≤ 1000
  rotate_left
  · exact c_ck3 su so n0 d0 n1 d1 pans ponds ha hb hc hd c c' delay l1 l2 k1 k2 k3 k4
  exact c_ck4 su so n0 d0 n1 d1 pans ponds ha hb hc hd c c' delay l1 l2 k1 k2 k3 k4
end Go.Proofs.YthhhahkiflkemaaDoor
