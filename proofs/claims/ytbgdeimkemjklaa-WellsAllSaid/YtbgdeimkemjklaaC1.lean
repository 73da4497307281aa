/-
  The functions of package wells and of its reference: lists of numbers, wells, what each function comes to.
-/
import Derived.Test.YtbgdeimkemjklaaFa
import Derived.IntWalk
set_option linter.unusedSimpArgs false
set_option linter.unusedVariables false
set_option linter.unusedSectionVars false
namespace Go.Proofs.Ytbgdeimkemjklaa
open Go GoV
set_option maxRecDepth 100000

/-- Which variables other frames reach; which slots hold lists that grow; which functions are called apart. -/
def heapF (f : Nat) : List Nat := if f = 26 then [7] else if f = 30 then [2, 4, 7] else if f = 43 then [2, 3] else if f = 12 then [1] else if f = 21 then [2] else if f = 63 then [4] else if f = 69 then [2, 3] else []
def accsF (f : Nat) : List Nat := if f = 15 then [4] else if f = 17 then [6] else if f = 20 then [2] else if f = 7 then [11] else if f = 9 then [5] else []
def mutF (f : Nat) : List Nat := if f = 16 then [17] else if f = 18 then [29] else if f = 10 then [73] else []
def inF (f : Nat) : Bool := f == 12 || f == 21 || f == 39 || f == 49 || f == 43 || f == 54 || f == 41 || f == 40 || f == 23 || f == 25 || f == 44 || f == 36 || f == 69 || f == 72
def pol : Pol := ⟨heapF, accsF, mutF, fun f => !inF f⟩
theorem POL : (∀ f, pol.accs f = accsF f) ∧ (∀ f, pol.heap f = heapF f) ∧ (∀ f, pol.muts f = mutF f) ∧ (∀ f, pol.iso f = !inF f) ∧
    (∀ f, heapF f = if f = 26 then [7] else if f = 30 then [2, 4, 7] else if f = 43 then [2, 3] else if f = 12 then [1] else if f = 21 then [2] else if f = 63 then [4] else if f = 69 then [2, 3] else []) ∧
    (∀ f, accsF f = if f = 15 then [4] else if f = 17 then [6] else if f = 20 then [2] else if f = 7 then [11] else if f = 9 then [5] else []) ∧
    (∀ f, mutF f = if f = 16 then [17] else if f = 18 then [29] else if f = 10 then [73] else []) ∧
    (∀ f, inF f = (f == 12 || f == 21 || f == 39 || f == 49 || f == 43 || f == 54 || f == 41 || f == 40 || f == 23 || f == 25 || f == 44 || f == 36 || f == 69 || f == 72)) :=
  ⟨fun _ => rfl, fun _ => rfl, fun _ => rfl, fun _ => rfl, fun _ => rfl, fun _ => rfl, fun _ => rfl, fun _ => rfl⟩
abbrev I (n : Int) : PV := .int .i64 n
def I64 (x : Int) : Prop := -9223372036854775808 ≤ x ∧ x ≤ 9223372036854775807
theorem i64_in {x : Int} (h : I64 x) : IntKind.i64.wrap x = x := IntWalk.i64_in x h
/-- A list of numbers. -/
abbrev ints (l : List Int) (c : Option Nat) : PV := .vs 1 (l.map I) c
theorem ints_len (l : List Int) : (l.map I).length = l.length := by simp
theorem ints_get {l : List Int} {k : Nat} {x : Int} (h : l[k]? = some x) : (l.map I)[k]? = some (I x) := by simp [h]
theorem strip0_ints (l : List Int) : strip0L (l.map I) = l.map I := by
  rw [strip0L_map]
  simp only [List.map_map]
  rfl
theorem map_strip0_ints (l : List Int) : (l.map I).map strip0 = l.map I := by
  rw [← strip0L_map]; exact strip0_ints l
theorem map_strip1_ints (H : Heap) (l : List Int) : (l.map I).map (strip1 H) = l.map I := by
  simp only [List.map_map]; rfl
theorem strip2_ints (H : Heap) (l : List Int) : strip2L H (l.map I) = l.map I := by
  rw [strip2L_map]; simp only [List.map_map]; rfl
theorem strip1_ints (H : Heap) (l : List Int) : strip1L H (l.map I) = l.map I := by
  rw [strip1L_map]; simp only [List.map_map]; rfl
theorem INTS : (∀ l : List Int, (l.map I).length = l.length) ∧ (∀ l : List Int, strip0L (l.map I) = l.map I) ∧ (∀ l : List Int, (l.map I).map strip0 = l.map I) ∧ (∀ H (l : List Int), (l.map I).map (strip1 H) = l.map I) ∧ (∀ H (l : List Int), strip2L H (l.map I) = l.map I) ∧ (∀ H (l : List Int), strip1L H (l.map I) = l.map I) :=
  ⟨ints_len, strip0_ints, map_strip0_ints, map_strip1_ints, strip2_ints, strip1_ints⟩
abbrev well (f r d : Int) (k : List Int) (c : Option Nat) : PV := .agg [I f, I r, I d, ints k c]

def LIT (l : List Int) : Prop := ∀ x ∈ l, 0 ≤ x ∧ x ≤ 1073741824
instance (l : List Int) : Decidable (LIT l) := by unfold LIT; infer_instance
theorem c_lit1 (x : Int) : ap Try.prog pol 45 [I x] = some (.ret (.bool (decide (0 ≤ x ∧ x ≤ 1073741824)))) := by
  rw [ap_eq _ Try.func45 rfl Try.ntmps45 Try.results45 (by kernel_rfl) rfl (by exact Nat.le_of_ble_eq_true rfl)]
  simp (config := { maxSteps := 1000000 }) only [RUN, PATHS, BASE, FA, POL, start_tm, Heap.empty, reduceIte, Nat.reduceLT, Nat.reduceLeDiff, Nat.reduceEqDiff, Nat.reduceAdd, Nat.reduceSub, Nat.reduceMul, Nat.reduceBEq, Int.reduceLT, Int.reduceLE, Int.reduceEq, Int.reduceNeg, Int.reduceAdd, Int.reduceSub, Int.reduceMul, Bool.false_eq_true, Bool.not_true, Bool.not_false, decide_eq_true_eq, and_self, true_and, and_true, reduceCtorEq, ne_eq, not_false_eq_true, not_true_eq_false, decide_true, decide_false, or_false, false_or]
  split
  · next h => simp [h]
  · next h => simp [h]
/-- 'all' with the condition on litres. -/
theorem c_all_lit (l : List Int) (c : Option Nat) (hl : l.length ≤ 1000000) (H : Heap) : callF G Try.prog pol 40 [ints l c, .fn 45 []] H = some (.ret (.bool (decide (LIT l))), ⟨H.rows, H.next + 1⟩) := by
  rw [callF_eq _ _ Try.func40 rfl Try.ntmps40 Try.results40 (by kernel_rfl) rfl (by exact Nat.le_of_ble_eq_true rfl)]
  simp (config := { maxSteps := 1000000 }) only [RUN, PATHS, BASE, FA, POL, start_tm, Heap.empty, reduceIte, Nat.reduceLT, Nat.reduceLeDiff, Nat.reduceEqDiff, Nat.reduceAdd, Nat.reduceSub, Nat.reduceMul, Nat.reduceBEq, Int.reduceLT, Int.reduceLE, Int.reduceEq, Int.reduceNeg, Int.reduceAdd, Int.reduceSub, Int.reduceMul, Bool.false_eq_true, Bool.not_true, Bool.not_false, decide_eq_true_eq, and_self, true_and, and_true, reduceCtorEq, ne_eq, not_false_eq_true, not_true_eq_false, decide_true, decide_false, or_false, false_or, INTS]
  generalize hL : W _ (.loop _) _ = L
  obtain ⟨ex, s, rfl, hex, hd, hH⟩ := loop_at hL (α := Nat) (fun k => l.length - k)
    (fun s0 k s => k ≤ l.length ∧ (∀ x ∈ l.take k, 0 ≤ x ∧ x ≤ 1073741824) ∧ s.tmps 9 = I k ∧ s.tmps 8 = I l.length ∧ s.tmps 7 = ints l c ∧ s.tmps 1 = .fn 45 [] ∧ s.defers = [] ∧ s.H = s0.H)
    (fun s0 ex s => ((ex = .exit 0 ∧ LIT l) ∨ (ex = .ret ∧ ¬ LIT l ∧ s.tmps 4 = .bool false)) ∧ s.defers = [] ∧ s.H = s0.H) 0
    (by simp (config := { maxSteps := 1000000 }) only [RUN, PATHS, BASE, FA, POL, start_tm, Heap.empty, reduceIte, Nat.reduceLT, Nat.reduceLeDiff, Nat.reduceEqDiff, Nat.reduceAdd, Nat.reduceSub, Nat.reduceMul, Nat.reduceBEq, Int.reduceLT, Int.reduceLE, Int.reduceEq, Int.reduceNeg, Int.reduceAdd, Int.reduceSub, Int.reduceMul, Bool.false_eq_true, Bool.not_true, Bool.not_false, decide_eq_true_eq, and_self, true_and, and_true, reduceCtorEq, ne_eq, not_false_eq_true, not_true_eq_false, decide_true, decide_false, or_false, false_or]; simp) (by
      rintro k s r hW ⟨hk, ht, h9, h8, h7, h1, hd, hH⟩
      by_cases hp : k < l.length
      · have e0 : l[k]? = some l[k] := List.getElem?_eq_getElem hp
        have e1 := ints_get e0
        by_cases hx : 0 ≤ l[k] ∧ l[k] ≤ 1073741824
        · simp (config := { maxSteps := 1000000 }) only [RUN, PATHS, BASE, FA, POL, start_tm, Heap.empty, reduceIte, Nat.reduceLT, Nat.reduceLeDiff, Nat.reduceEqDiff, Nat.reduceAdd, Nat.reduceSub, Nat.reduceMul, Nat.reduceBEq, Int.reduceLT, Int.reduceLE, Int.reduceEq, Int.reduceNeg, Int.reduceAdd, Int.reduceSub, Int.reduceMul, Bool.false_eq_true, Bool.not_true, Bool.not_false, decide_eq_true_eq, and_self, true_and, and_true, reduceCtorEq, ne_eq, not_false_eq_true, not_true_eq_false, decide_true, decide_false, or_false, false_or, INTS, h9, h8, h7, h1, hd, hH, e1, c_lit1, hx, Int.toNat_natCast, (show (k : Int) < l.length by omega), (show (0 : Int) ≤ k by omega), (i64_in (x := (k : Int) + 1) (by unfold I64; omega))] at hW
          subst hW
          refine rd_next (k + 1) ?_ (show l.length - (k + 1) < l.length - k by omega)
          simp (config := { maxSteps := 1000000 }) only [RUN, PATHS, BASE, FA, POL, start_tm, Heap.empty, reduceIte, Nat.reduceLT, Nat.reduceLeDiff, Nat.reduceEqDiff, Nat.reduceAdd, Nat.reduceSub, Nat.reduceMul, Nat.reduceBEq, Int.reduceLT, Int.reduceLE, Int.reduceEq, Int.reduceNeg, Int.reduceAdd, Int.reduceSub, Int.reduceMul, Bool.false_eq_true, Bool.not_true, Bool.not_false, decide_eq_true_eq, and_self, true_and, and_true, reduceCtorEq, ne_eq, not_false_eq_true, not_true_eq_false, decide_true, decide_false, or_false, false_or, h8, h7, h1, hH]
          refine ⟨by omega, ?_, by simp⟩
          intro x hx'
          rw [List.take_add_one, e0] at hx'
          simp only [Option.toList_some, List.mem_append, List.mem_singleton] at hx'
          rcases hx' with hx' | rfl
          · exact ht x hx'
          · exact hx
        · simp (config := { maxSteps := 1000000 }) only [RUN, PATHS, BASE, FA, POL, start_tm, Heap.empty, reduceIte, Nat.reduceLT, Nat.reduceLeDiff, Nat.reduceEqDiff, Nat.reduceAdd, Nat.reduceSub, Nat.reduceMul, Nat.reduceBEq, Int.reduceLT, Int.reduceLE, Int.reduceEq, Int.reduceNeg, Int.reduceAdd, Int.reduceSub, Int.reduceMul, Bool.false_eq_true, Bool.not_true, Bool.not_false, decide_eq_true_eq, and_self, true_and, and_true, reduceCtorEq, ne_eq, not_false_eq_true, not_true_eq_false, decide_true, decide_false, or_false, false_or, INTS, h9, h8, h7, h1, hd, hH, e1, c_lit1, hx, Int.toNat_natCast, (show (k : Int) < l.length by omega), (show (0 : Int) ≤ k by omega)] at hW
          subst hW
          refine rd_ret ⟨.inr ⟨rfl, fun h => hx (h _ (List.getElem_mem hp)), ?_⟩, rfl, rfl⟩
          simp (config := { maxSteps := 1000000 }) only [RUN, PATHS, BASE, FA, POL, start_tm, Heap.empty, reduceIte, Nat.reduceLT, Nat.reduceLeDiff, Nat.reduceEqDiff, Nat.reduceAdd, Nat.reduceSub, Nat.reduceMul, Nat.reduceBEq, Int.reduceLT, Int.reduceLE, Int.reduceEq, Int.reduceNeg, Int.reduceAdd, Int.reduceSub, Int.reduceMul, Bool.false_eq_true, Bool.not_true, Bool.not_false, decide_eq_true_eq, and_self, true_and, and_true, reduceCtorEq, ne_eq, not_false_eq_true, not_true_eq_false, decide_true, decide_false, or_false, false_or]
      · simp (config := { maxSteps := 1000000 }) only [RUN, PATHS, BASE, FA, POL, start_tm, Heap.empty, reduceIte, Nat.reduceLT, Nat.reduceLeDiff, Nat.reduceEqDiff, Nat.reduceAdd, Nat.reduceSub, Nat.reduceMul, Nat.reduceBEq, Int.reduceLT, Int.reduceLE, Int.reduceEq, Int.reduceNeg, Int.reduceAdd, Int.reduceSub, Int.reduceMul, Bool.false_eq_true, Bool.not_true, Bool.not_false, decide_eq_true_eq, and_self, true_and, and_true, reduceCtorEq, ne_eq, not_false_eq_true, not_true_eq_false, decide_true, decide_false, or_false, false_or, INTS, h9, h8, h7, h1, hd, hH, (show ¬ (k : Int) < l.length by omega)] at hW
        subst hW
        refine rd_exit ⟨.inl ⟨rfl, ?_⟩, rfl, rfl⟩
        intro x hx
        exact ht x (by rw [List.take_of_length_le (by omega)]; exact hx))
  rcases hex with ⟨rfl, h⟩ | ⟨rfl, h, h4⟩
  · simp (config := { maxSteps := 1000000 }) only [RUN, PATHS, BASE, FA, POL, start_tm, Heap.empty, reduceIte, Nat.reduceLT, Nat.reduceLeDiff, Nat.reduceEqDiff, Nat.reduceAdd, Nat.reduceSub, Nat.reduceMul, Nat.reduceBEq, Int.reduceLT, Int.reduceLE, Int.reduceEq, Int.reduceNeg, Int.reduceAdd, Int.reduceSub, Int.reduceMul, Bool.false_eq_true, Bool.not_true, Bool.not_false, decide_eq_true_eq, and_self, true_and, and_true, reduceCtorEq, ne_eq, not_false_eq_true, not_true_eq_false, decide_true, decide_false, or_false, false_or, hd, hH, h]
  · simp (config := { maxSteps := 1000000 }) only [RUN, PATHS, BASE, FA, POL, start_tm, Heap.empty, reduceIte, Nat.reduceLT, Nat.reduceLeDiff, Nat.reduceEqDiff, Nat.reduceAdd, Nat.reduceSub, Nat.reduceMul, Nat.reduceBEq, Int.reduceLT, Int.reduceLE, Int.reduceEq, Int.reduceNeg, Int.reduceAdd, Int.reduceSub, Int.reduceMul, Bool.false_eq_true, Bool.not_true, Bool.not_false, decide_eq_true_eq, and_self, true_and, and_true, reduceCtorEq, ne_eq, not_false_eq_true, not_true_eq_false, decide_true, decide_false, or_false, false_or, hd, hH, h, h4]
theorem c_litres (l : List Int) (c : Option Nat) (hl : l.length ≤ 1000000) : ap Try.prog pol 34 [ints l c] = some (.ret (.bool (decide (LIT l)))) := by
  rw [ap_eq _ Try.func34 rfl Try.ntmps34 Try.results34 (by kernel_rfl) rfl (by exact Nat.le_of_ble_eq_true rfl)]
  simp (config := { maxSteps := 1000000 }) only [RUN, PATHS, BASE, FA, POL, start_tm, Heap.empty, reduceIte, Nat.reduceLT, Nat.reduceLeDiff, Nat.reduceEqDiff, Nat.reduceAdd, Nat.reduceSub, Nat.reduceMul, Nat.reduceBEq, Int.reduceLT, Int.reduceLE, Int.reduceEq, Int.reduceNeg, Int.reduceAdd, Int.reduceSub, Int.reduceMul, Bool.false_eq_true, Bool.not_true, Bool.not_false, decide_eq_true_eq, and_self, true_and, and_true, reduceCtorEq, ne_eq, not_false_eq_true, not_true_eq_false, decide_true, decide_false, or_false, false_or, INTS, c_all_lit l c hl]
theorem c_reflitres (l : List Int) (c : Option Nat) (hl : l.length ≤ 1000000) : ap Try.prog pol 35 [ints l c] = some (.ret (.bool (decide (LIT l)))) := by
  rw [ap_eq _ Try.func35 rfl Try.ntmps35 Try.results35 (by kernel_rfl) rfl (by exact Nat.le_of_ble_eq_true rfl)]
  simp (config := { maxSteps := 1000000 }) only [RUN, PATHS, BASE, FA, POL, start_tm, Heap.empty, reduceIte, Nat.reduceLT, Nat.reduceLeDiff, Nat.reduceEqDiff, Nat.reduceAdd, Nat.reduceSub, Nat.reduceMul, Nat.reduceBEq, Int.reduceLT, Int.reduceLE, Int.reduceEq, Int.reduceNeg, Int.reduceAdd, Int.reduceSub, Int.reduceMul, Bool.false_eq_true, Bool.not_true, Bool.not_false, decide_eq_true_eq, and_self, true_and, and_true, reduceCtorEq, ne_eq, not_false_eq_true, not_true_eq_false, decide_true, decide_false, or_false, false_or, INTS]
  generalize hL : W _ (.loop _) _ = L
  obtain ⟨ex, s, rfl, hex, hd⟩ := loop_at hL (α := Nat) (fun k => l.length - k)
    (fun s0 k s => k ≤ l.length ∧ (∀ x ∈ l.take k, 0 ≤ x ∧ x ≤ 1073741824) ∧ s.tmps 3 = I k ∧ s.tmps 0 = ints l c ∧ s.defers = [])
    (fun s0 ex s => ((ex = .exit 0 ∧ LIT l) ∨ (ex = .ret ∧ ¬ LIT l ∧ s.tmps 2 = .bool false)) ∧ s.defers = []) 0
    (by simp (config := { maxSteps := 1000000 }) only [RUN, PATHS, BASE, FA, POL, start_tm, Heap.empty, reduceIte, Nat.reduceLT, Nat.reduceLeDiff, Nat.reduceEqDiff, Nat.reduceAdd, Nat.reduceSub, Nat.reduceMul, Nat.reduceBEq, Int.reduceLT, Int.reduceLE, Int.reduceEq, Int.reduceNeg, Int.reduceAdd, Int.reduceSub, Int.reduceMul, Bool.false_eq_true, Bool.not_true, Bool.not_false, decide_eq_true_eq, and_self, true_and, and_true, reduceCtorEq, ne_eq, not_false_eq_true, not_true_eq_false, decide_true, decide_false, or_false, false_or]; simp) (by
      rintro k s r hW ⟨hk, ht, h3, h0, hd⟩
      by_cases hp : k < l.length
      · have e0 : l[k]? = some l[k] := List.getElem?_eq_getElem hp
        have e1 := ints_get e0
        simp (config := { maxSteps := 1000000 }) only [RUN, PATHS, BASE, FA, POL, start_tm, Heap.empty, reduceIte, Nat.reduceLT, Nat.reduceLeDiff, Nat.reduceEqDiff, Nat.reduceAdd, Nat.reduceSub, Nat.reduceMul, Nat.reduceBEq, Int.reduceLT, Int.reduceLE, Int.reduceEq, Int.reduceNeg, Int.reduceAdd, Int.reduceSub, Int.reduceMul, Bool.false_eq_true, Bool.not_true, Bool.not_false, decide_eq_true_eq, and_self, true_and, and_true, reduceCtorEq, ne_eq, not_false_eq_true, not_true_eq_false, decide_true, decide_false, or_false, false_or, INTS, h3, h0, hd, e1, Int.toNat_natCast, (show (k : Int) < l.length by omega), (show (0 : Int) ≤ k by omega), (i64_in (x := (k : Int) + 1) (by unfold I64; omega))] at hW
        subst hW
        refine rd_ite (fun hx => ?_) (fun hx => ?_)
        · refine rd_ret ⟨.inr ⟨rfl, fun h => by have := h _ (List.getElem_mem hp); omega, ?_⟩, rfl⟩
          simp (config := { maxSteps := 1000000 }) only [RUN, PATHS, BASE, FA, POL, start_tm, Heap.empty, reduceIte, Nat.reduceLT, Nat.reduceLeDiff, Nat.reduceEqDiff, Nat.reduceAdd, Nat.reduceSub, Nat.reduceMul, Nat.reduceBEq, Int.reduceLT, Int.reduceLE, Int.reduceEq, Int.reduceNeg, Int.reduceAdd, Int.reduceSub, Int.reduceMul, Bool.false_eq_true, Bool.not_true, Bool.not_false, decide_eq_true_eq, and_self, true_and, and_true, reduceCtorEq, ne_eq, not_false_eq_true, not_true_eq_false, decide_true, decide_false, or_false, false_or]
        · refine rd_ite (fun hy => ?_) (fun hy => ?_)
          · refine rd_ret ⟨.inr ⟨rfl, fun h => by have := h _ (List.getElem_mem hp); omega, ?_⟩, rfl⟩
            simp (config := { maxSteps := 1000000 }) only [RUN, PATHS, BASE, FA, POL, start_tm, Heap.empty, reduceIte, Nat.reduceLT, Nat.reduceLeDiff, Nat.reduceEqDiff, Nat.reduceAdd, Nat.reduceSub, Nat.reduceMul, Nat.reduceBEq, Int.reduceLT, Int.reduceLE, Int.reduceEq, Int.reduceNeg, Int.reduceAdd, Int.reduceSub, Int.reduceMul, Bool.false_eq_true, Bool.not_true, Bool.not_false, decide_eq_true_eq, and_self, true_and, and_true, reduceCtorEq, ne_eq, not_false_eq_true, not_true_eq_false, decide_true, decide_false, or_false, false_or]
          · refine rd_next (k + 1) ?_ (show l.length - (k + 1) < l.length - k by omega)
            simp (config := { maxSteps := 1000000 }) only [RUN, PATHS, BASE, FA, POL, start_tm, Heap.empty, reduceIte, Nat.reduceLT, Nat.reduceLeDiff, Nat.reduceEqDiff, Nat.reduceAdd, Nat.reduceSub, Nat.reduceMul, Nat.reduceBEq, Int.reduceLT, Int.reduceLE, Int.reduceEq, Int.reduceNeg, Int.reduceAdd, Int.reduceSub, Int.reduceMul, Bool.false_eq_true, Bool.not_true, Bool.not_false, decide_eq_true_eq, and_self, true_and, and_true, reduceCtorEq, ne_eq, not_false_eq_true, not_true_eq_false, decide_true, decide_false, or_false, false_or, h0]
            refine ⟨by omega, ?_, by simp⟩
            intro x hx'
            rw [List.take_add_one, e0] at hx'
            simp only [Option.toList_some, List.mem_append, List.mem_singleton] at hx'
            rcases hx' with hx' | rfl
            · exact ht x hx'
            · omega
      · simp (config := { maxSteps := 1000000 }) only [RUN, PATHS, BASE, FA, POL, start_tm, Heap.empty, reduceIte, Nat.reduceLT, Nat.reduceLeDiff, Nat.reduceEqDiff, Nat.reduceAdd, Nat.reduceSub, Nat.reduceMul, Nat.reduceBEq, Int.reduceLT, Int.reduceLE, Int.reduceEq, Int.reduceNeg, Int.reduceAdd, Int.reduceSub, Int.reduceMul, Bool.false_eq_true, Bool.not_true, Bool.not_false, decide_eq_true_eq, and_self, true_and, and_true, reduceCtorEq, ne_eq, not_false_eq_true, not_true_eq_false, decide_true, decide_false, or_false, false_or, INTS, h3, h0, hd, (show ¬ (k : Int) < l.length by omega)] at hW
        subst hW
        refine rd_exit ⟨.inl ⟨rfl, ?_⟩, rfl⟩
        intro x hx
        exact ht x (by rw [List.take_of_length_le (by omega)]; exact hx))
  rcases hex with ⟨rfl, h⟩ | ⟨rfl, h, h4⟩
  · simp (config := { maxSteps := 1000000 }) only [RUN, PATHS, BASE, FA, POL, start_tm, Heap.empty, reduceIte, Nat.reduceLT, Nat.reduceLeDiff, Nat.reduceEqDiff, Nat.reduceAdd, Nat.reduceSub, Nat.reduceMul, Nat.reduceBEq, Int.reduceLT, Int.reduceLE, Int.reduceEq, Int.reduceNeg, Int.reduceAdd, Int.reduceSub, Int.reduceMul, Bool.false_eq_true, Bool.not_true, Bool.not_false, decide_eq_true_eq, and_self, true_and, and_true, reduceCtorEq, ne_eq, not_false_eq_true, not_true_eq_false, decide_true, decide_false, or_false, false_or, hd, h]
  · simp (config := { maxSteps := 1000000 }) only [RUN, PATHS, BASE, FA, POL, start_tm, Heap.empty, reduceIte, Nat.reduceLT, Nat.reduceLeDiff, Nat.reduceEqDiff, Nat.reduceAdd, Nat.reduceSub, Nat.reduceMul, Nat.reduceBEq, Int.reduceLT, Int.reduceLE, Int.reduceEq, Int.reduceNeg, Int.reduceAdd, Int.reduceSub, Int.reduceMul, Bool.false_eq_true, Bool.not_true, Bool.not_false, decide_eq_true_eq, and_self, true_and, and_true, reduceCtorEq, ne_eq, not_false_eq_true, not_true_eq_false, decide_true, decide_false, or_false, false_or, hd, h, h4]
end Go.Proofs.Ytbgdeimkemjklaa
