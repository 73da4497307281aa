/-
  The functions of the reference of wells, and small functions.
-/
import Derived.Test.YtbgdeimkemjklaaC2
set_option linter.unusedSimpArgs false
set_option linter.unusedVariables false
set_option linter.unusedSectionVars false
namespace Go.Proofs.Ytbgdeimkemjklaa
open Go GoV
set_option maxRecDepth 100000

theorem sum_nonneg {l : List Int} (h : ∀ x ∈ l, 0 ≤ x) : 0 ≤ l.sum := by
  induction l with
  | nil => simp
  | cons a l ih =>
    simp only [List.sum_cons]
    have := h a (by simp)
    have := ih fun x hx => h x (by simp [hx])
    omega
theorem mem_le_sum {l : List Int} (h : ∀ x ∈ l, 0 ≤ x) {x : Int} (hx : x ∈ l) : x ≤ l.sum := by
  induction l with
  | nil => simp at hx
  | cons a l ih =>
    simp only [List.sum_cons]
    have h1 := h a (by simp)
    have h2 : ∀ y ∈ l, 0 ≤ y := fun y hy => h y (by simp [hy])
    have h3 := sum_nonneg h2
    rcases List.mem_cons.1 hx with rfl | hx
    · omega
    · have := ih h2 hx; omega
theorem take_sum (l : List Int) (k : Nat) (h : k < l.length) : (l.take (k + 1)).sum = (l.take k).sum + l[k] := by
  rw [List.take_add_one, List.getElem?_eq_getElem h, List.sum_append]; simp
theorem take_bd {l : List Int} {d : Int} (hd : 0 ≤ d) (h : ∀ x ∈ l, 0 ≤ x ∧ x ≤ d) (k : Nat) : 0 ≤ (l.take k).sum ∧ (l.take k).sum ≤ k * d := by
  induction k with
  | zero => simp
  | succ k ih =>
    have e : ((k + 1 : Nat) : Int) * d = k * d + d := by rw [Int.natCast_add, Int.add_mul]; simp
    by_cases hk : k < l.length
    · rw [take_sum l k hk]
      have := h _ (List.getElem_mem hk)
      omega
    · rw [List.take_of_length_le (by omega)]
      rw [List.take_of_length_le (by omega)] at ih
      omega
/-- What the reference asks of a kernel. -/
def KER (d : Int) (k : List Int) : Prop := 1 ≤ d ∧ d ≤ 1048576 ∧ 0 < k.length ∧ KOK d k
instance (d : Int) (k : List Int) : Decidable (KER d k) := by unfold KER; infer_instance
theorem c_kernel (f r d : Int) (k : List Int) (c : Option Nat) (hk : k.length ≤ 1000) : ap Try.prog pol 28 [well f r d k c] = some (.ret (.bool (decide (KER d k)))) := by
  have no : (KER d k → False) → decide (KER d k) = false := fun h => decide_eq_false h
  rw [ap_eq _ Try.func28 rfl Try.ntmps28 Try.results28 (by kernel_rfl) rfl (by exact Nat.le_of_ble_eq_true rfl)]
  by_cases h5 : d < 1
  · simp (config := { maxSteps := 1000000 }) only [RUN, PATHS, BASE, FA, POL, start_tm, Heap.empty, reduceIte, Nat.reduceLT, Nat.reduceLeDiff, Nat.reduceEqDiff, Nat.reduceAdd, Nat.reduceSub, Nat.reduceMul, Nat.reduceBEq, Int.reduceLT, Int.reduceLE, Int.reduceEq, Int.reduceNeg, Int.reduceAdd, Int.reduceSub, Int.reduceMul, Bool.false_eq_true, Bool.not_true, Bool.not_false, decide_eq_true_eq, and_self, true_and, and_true, reduceCtorEq, ne_eq, not_false_eq_true, not_true_eq_false, decide_true, decide_false, or_false, false_or, INTS, h5]
    rw [no (by rintro ⟨a1, a2, a3, a4⟩; omega)]
  by_cases h6 : 1048576 < d
  · simp (config := { maxSteps := 1000000 }) only [RUN, PATHS, BASE, FA, POL, start_tm, Heap.empty, reduceIte, Nat.reduceLT, Nat.reduceLeDiff, Nat.reduceEqDiff, Nat.reduceAdd, Nat.reduceSub, Nat.reduceMul, Nat.reduceBEq, Int.reduceLT, Int.reduceLE, Int.reduceEq, Int.reduceNeg, Int.reduceAdd, Int.reduceSub, Int.reduceMul, Bool.false_eq_true, Bool.not_true, Bool.not_false, decide_eq_true_eq, and_self, true_and, and_true, reduceCtorEq, ne_eq, not_false_eq_true, not_true_eq_false, decide_true, decide_false, or_false, false_or, INTS, h5, h6]
    rw [no (by rintro ⟨a1, a2, a3, a4⟩; omega)]
  by_cases h7 : (k.length : Int) = 0
  · simp (config := { maxSteps := 1000000 }) only [RUN, PATHS, BASE, FA, POL, start_tm, Heap.empty, reduceIte, Nat.reduceLT, Nat.reduceLeDiff, Nat.reduceEqDiff, Nat.reduceAdd, Nat.reduceSub, Nat.reduceMul, Nat.reduceBEq, Int.reduceLT, Int.reduceLE, Int.reduceEq, Int.reduceNeg, Int.reduceAdd, Int.reduceSub, Int.reduceMul, Bool.false_eq_true, Bool.not_true, Bool.not_false, decide_eq_true_eq, and_self, true_and, and_true, reduceCtorEq, ne_eq, not_false_eq_true, not_true_eq_false, decide_true, decide_false, or_false, false_or, INTS, h5, h6, h7]
    rw [no (by rintro ⟨a1, a2, a3, a4⟩; omega)]
  simp (config := { maxSteps := 1000000 }) only [RUN, PATHS, BASE, FA, POL, start_tm, Heap.empty, reduceIte, Nat.reduceLT, Nat.reduceLeDiff, Nat.reduceEqDiff, Nat.reduceAdd, Nat.reduceSub, Nat.reduceMul, Nat.reduceBEq, Int.reduceLT, Int.reduceLE, Int.reduceEq, Int.reduceNeg, Int.reduceAdd, Int.reduceSub, Int.reduceMul, Bool.false_eq_true, Bool.not_true, Bool.not_false, decide_eq_true_eq, and_self, true_and, and_true, reduceCtorEq, ne_eq, not_false_eq_true, not_true_eq_false, decide_true, decide_false, or_false, false_or, INTS, h5, h6, h7]
  generalize hL : W _ (.loop _) _ = L
  obtain ⟨ex, s, rfl, hex, h1, hb, hd, hf⟩ := loop_at hL (α := Nat) (fun j => k.length - j)
    (fun s0 j s => j ≤ k.length ∧ (∀ x ∈ k.take j, 0 ≤ x ∧ x ≤ d) ∧ s.tmps 4 = I j ∧ s.tmps 3 = I (k.take j).sum ∧ s.tmps 1 = .bptr 0 1 0 0 ∧ s.boxes 1 = some (0, [I f, I r, I d, ints k c]) ∧ s.defers = [] ∧ s.fid = 0)
    (fun s0 ex s => ((ex = .exit 0 ∧ (∀ x ∈ k, 0 ≤ x ∧ x ≤ d) ∧ s.tmps 3 = I k.sum) ∨ (ex = .ret ∧ ¬ KOK d k ∧ s.tmps 2 = .bool false)) ∧ s.tmps 1 = .bptr 0 1 0 0 ∧ s.boxes 1 = some (0, [I f, I r, I d, ints k c]) ∧ s.defers = [] ∧ s.fid = 0) 0
    (by simp (config := { maxSteps := 1000000 }) only [RUN, PATHS, BASE, FA, POL, start_tm, Heap.empty, reduceIte, Nat.reduceLT, Nat.reduceLeDiff, Nat.reduceEqDiff, Nat.reduceAdd, Nat.reduceSub, Nat.reduceMul, Nat.reduceBEq, Int.reduceLT, Int.reduceLE, Int.reduceEq, Int.reduceNeg, Int.reduceAdd, Int.reduceSub, Int.reduceMul, Bool.false_eq_true, Bool.not_true, Bool.not_false, decide_eq_true_eq, and_self, true_and, and_true, reduceCtorEq, ne_eq, not_false_eq_true, not_true_eq_false, decide_true, decide_false, or_false, false_or]; simp) (by
      rintro j s r hW ⟨hj, ht, h4, h3, h1, hb, hd, hf⟩
      have bd := take_bd (by omega) (l := k.take j) ht j
      rw [List.take_take, Nat.min_self] at bd
      have bj : (j : Int) * d ≤ 1000 * 1048576 := Int.mul_le_mul (by omega) (by omega) (by omega) (by omega)
      by_cases hp : j < k.length
      · have e0 : k[j]? = some k[j] := List.getElem?_eq_getElem hp
        have e1 := ints_get e0
        have bad : (¬ (0 ≤ k[j] ∧ k[j] ≤ d)) → ¬ KOK d k := fun hn hk' => by
          have := (KOK_iff k d (by omega)).1 hk'
          have h1 := this.1 _ (List.getElem_mem hp)
          have h2 := mem_le_sum this.1 (List.getElem_mem hp)
          omega
        simp (config := { maxSteps := 1000000 }) only [RUN, PATHS, BASE, FA, POL, start_tm, Heap.empty, reduceIte, Nat.reduceLT, Nat.reduceLeDiff, Nat.reduceEqDiff, Nat.reduceAdd, Nat.reduceSub, Nat.reduceMul, Nat.reduceBEq, Int.reduceLT, Int.reduceLE, Int.reduceEq, Int.reduceNeg, Int.reduceAdd, Int.reduceSub, Int.reduceMul, Bool.false_eq_true, Bool.not_true, Bool.not_false, decide_eq_true_eq, and_self, true_and, and_true, reduceCtorEq, ne_eq, not_false_eq_true, not_true_eq_false, decide_true, decide_false, or_false, false_or, INTS, h4, h3, h1, hb, hd, hf, e1, Int.toNat_natCast, (show (j : Int) < k.length by omega), (show (0 : Int) ≤ j by omega), (i64_in (x := (j : Int) + 1) (by unfold I64; omega))] at hW
        subst hW
        refine rd_ite (fun hx => ?_) (fun hx => ?_)
        · refine rd_ret ⟨.inr ⟨rfl, bad (by omega), ?_⟩, ?_⟩ <;> simp (config := { maxSteps := 1000000 }) only [RUN, PATHS, BASE, FA, POL, start_tm, Heap.empty, reduceIte, Nat.reduceLT, Nat.reduceLeDiff, Nat.reduceEqDiff, Nat.reduceAdd, Nat.reduceSub, Nat.reduceMul, Nat.reduceBEq, Int.reduceLT, Int.reduceLE, Int.reduceEq, Int.reduceNeg, Int.reduceAdd, Int.reduceSub, Int.reduceMul, Bool.false_eq_true, Bool.not_true, Bool.not_false, decide_eq_true_eq, and_self, true_and, and_true, reduceCtorEq, ne_eq, not_false_eq_true, not_true_eq_false, decide_true, decide_false, or_false, false_or, h1, hb]
        · refine rd_ite (fun hy => ?_) (fun hy => ?_)
          · refine rd_ret ⟨.inr ⟨rfl, bad (by omega), ?_⟩, ?_⟩ <;> simp (config := { maxSteps := 1000000 }) only [RUN, PATHS, BASE, FA, POL, start_tm, Heap.empty, reduceIte, Nat.reduceLT, Nat.reduceLeDiff, Nat.reduceEqDiff, Nat.reduceAdd, Nat.reduceSub, Nat.reduceMul, Nat.reduceBEq, Int.reduceLT, Int.reduceLE, Int.reduceEq, Int.reduceNeg, Int.reduceAdd, Int.reduceSub, Int.reduceMul, Bool.false_eq_true, Bool.not_true, Bool.not_false, decide_eq_true_eq, and_self, true_and, and_true, reduceCtorEq, ne_eq, not_false_eq_true, not_true_eq_false, decide_true, decide_false, or_false, false_or, h1, hb]
          · refine rd_next (j + 1) ?_ (show k.length - (j + 1) < k.length - j by omega)
            simp (config := { maxSteps := 1000000 }) only [RUN, PATHS, BASE, FA, POL, start_tm, Heap.empty, reduceIte, Nat.reduceLT, Nat.reduceLeDiff, Nat.reduceEqDiff, Nat.reduceAdd, Nat.reduceSub, Nat.reduceMul, Nat.reduceBEq, Int.reduceLT, Int.reduceLE, Int.reduceEq, Int.reduceNeg, Int.reduceAdd, Int.reduceSub, Int.reduceMul, Bool.false_eq_true, Bool.not_true, Bool.not_false, decide_eq_true_eq, and_self, true_and, and_true, reduceCtorEq, ne_eq, not_false_eq_true, not_true_eq_false, decide_true, decide_false, or_false, false_or, h1, hb]
            rw [take_sum k j hp, i64_in (x := (k.take j).sum + k[j]) (by unfold I64; omega)]
            refine ⟨by omega, ?_, by simp⟩
            intro x hx'
            rw [List.take_add_one, e0] at hx'
            simp only [Option.toList_some, List.mem_append, List.mem_singleton] at hx'
            rcases hx' with hx' | rfl
            · exact ht x hx'
            · omega
      · simp (config := { maxSteps := 1000000 }) only [RUN, PATHS, BASE, FA, POL, start_tm, Heap.empty, reduceIte, Nat.reduceLT, Nat.reduceLeDiff, Nat.reduceEqDiff, Nat.reduceAdd, Nat.reduceSub, Nat.reduceMul, Nat.reduceBEq, Int.reduceLT, Int.reduceLE, Int.reduceEq, Int.reduceNeg, Int.reduceAdd, Int.reduceSub, Int.reduceMul, Bool.false_eq_true, Bool.not_true, Bool.not_false, decide_eq_true_eq, and_self, true_and, and_true, reduceCtorEq, ne_eq, not_false_eq_true, not_true_eq_false, decide_true, decide_false, or_false, false_or, INTS, h4, h3, h1, hb, hd, hf, (show ¬ (j : Int) < k.length by omega)] at hW
        subst hW
        rw [List.take_of_length_le (by omega)] at ht h3
        refine rd_exit ⟨.inl ⟨rfl, ht, ?_⟩, ?_⟩ <;> simp (config := { maxSteps := 1000000 }) only [RUN, PATHS, BASE, FA, POL, start_tm, Heap.empty, reduceIte, Nat.reduceLT, Nat.reduceLeDiff, Nat.reduceEqDiff, Nat.reduceAdd, Nat.reduceSub, Nat.reduceMul, Nat.reduceBEq, Int.reduceLT, Int.reduceLE, Int.reduceEq, Int.reduceNeg, Int.reduceAdd, Int.reduceSub, Int.reduceMul, Bool.false_eq_true, Bool.not_true, Bool.not_false, decide_eq_true_eq, and_self, true_and, and_true, reduceCtorEq, ne_eq, not_false_eq_true, not_true_eq_false, decide_true, decide_false, or_false, false_or, h1, h3, hb])
  rcases hex with ⟨rfl, h, h3⟩ | ⟨rfl, h, h2⟩
  · simp (config := { maxSteps := 1000000 }) only [RUN, PATHS, BASE, FA, POL, start_tm, Heap.empty, reduceIte, Nat.reduceLT, Nat.reduceLeDiff, Nat.reduceEqDiff, Nat.reduceAdd, Nat.reduceSub, Nat.reduceMul, Nat.reduceBEq, Int.reduceLT, Int.reduceLE, Int.reduceEq, Int.reduceNeg, Int.reduceAdd, Int.reduceSub, Int.reduceMul, Bool.false_eq_true, Bool.not_true, Bool.not_false, decide_eq_true_eq, and_self, true_and, and_true, reduceCtorEq, ne_eq, not_false_eq_true, not_true_eq_false, decide_true, decide_false, or_false, false_or, hd, h1, hb, hf, h3]
    by_cases hs : k.sum ≤ d
    · rw [decide_eq_true hs, decide_eq_true (show KER d k from ⟨by omega, by omega, by omega, (KOK_iff k d (by omega)).2 ⟨fun x hx => (h x hx).1, hs⟩⟩)]
    · rw [decide_eq_false hs, no (fun w => hs ((KOK_iff k d (by omega)).1 w.2.2.2).2)]
  · simp (config := { maxSteps := 1000000 }) only [RUN, PATHS, BASE, FA, POL, start_tm, Heap.empty, reduceIte, Nat.reduceLT, Nat.reduceLeDiff, Nat.reduceEqDiff, Nat.reduceAdd, Nat.reduceSub, Nat.reduceMul, Nat.reduceBEq, Int.reduceLT, Int.reduceLE, Int.reduceEq, Int.reduceNeg, Int.reduceAdd, Int.reduceSub, Int.reduceMul, Bool.false_eq_true, Bool.not_true, Bool.not_false, decide_eq_true_eq, and_self, true_and, and_true, reduceCtorEq, ne_eq, not_false_eq_true, not_true_eq_false, decide_true, decide_false, or_false, false_or, hd, h2]
    rw [no (fun w => h w.2.2.2)]
theorem c_refcheck (f r d : Int) (k p : List Int) (c c' : Option Nat) (hk : k.length ≤ 1000000) (hp : p.length ≤ 1000000) : ap Try.prog pol 31 [well f r d k c, ints p c'] = some (.ret (I (CHK f r d k p))) := by
  unfold CHK
  rw [ap_eq _ Try.func31 rfl Try.ntmps31 Try.results31 (by kernel_rfl) rfl (by exact Nat.le_of_ble_eq_true rfl)]
  by_cases h1 : 64 < k.length
  · simp (config := { maxSteps := 1000000 }) only [RUN, PATHS, BASE, FA, POL, start_tm, Heap.empty, reduceIte, Nat.reduceLT, Nat.reduceLeDiff, Nat.reduceEqDiff, Nat.reduceAdd, Nat.reduceSub, Nat.reduceMul, Nat.reduceBEq, Int.reduceLT, Int.reduceLE, Int.reduceEq, Int.reduceNeg, Int.reduceAdd, Int.reduceSub, Int.reduceMul, Bool.false_eq_true, Bool.not_true, Bool.not_false, decide_eq_true_eq, and_self, true_and, and_true, reduceCtorEq, ne_eq, not_false_eq_true, not_true_eq_false, decide_true, decide_false, or_false, false_or, INTS, (show (64 : Int) < k.length by omega), h1, true_or]
  by_cases h2 : 400 < p.length
  · simp (config := { maxSteps := 1000000 }) only [RUN, PATHS, BASE, FA, POL, start_tm, Heap.empty, reduceIte, Nat.reduceLT, Nat.reduceLeDiff, Nat.reduceEqDiff, Nat.reduceAdd, Nat.reduceSub, Nat.reduceMul, Nat.reduceBEq, Int.reduceLT, Int.reduceLE, Int.reduceEq, Int.reduceNeg, Int.reduceAdd, Int.reduceSub, Int.reduceMul, Bool.false_eq_true, Bool.not_true, Bool.not_false, decide_eq_true_eq, and_self, true_and, and_true, reduceCtorEq, ne_eq, not_false_eq_true, not_true_eq_false, decide_true, decide_false, or_false, false_or, INTS, (show ¬ (64 : Int) < k.length by omega), (show (400 : Int) < p.length by omega), h1, h2]
  have n1 : ¬ (64 : Int) < k.length := by omega
  have n2 : ¬ (400 : Int) < p.length := by omega
  have no : ∀ q : Prop, (WOK f r d k 600 64 → False) → (WOK f r d k 600 64 ∧ LIT p) = False := fun _ h => eq_false fun w => h w.1
  by_cases h3 : f < 0
  · simp (config := { maxSteps := 1000000 }) only [RUN, PATHS, BASE, FA, POL, start_tm, Heap.empty, reduceIte, Nat.reduceLT, Nat.reduceLeDiff, Nat.reduceEqDiff, Nat.reduceAdd, Nat.reduceSub, Nat.reduceMul, Nat.reduceBEq, Int.reduceLT, Int.reduceLE, Int.reduceEq, Int.reduceNeg, Int.reduceAdd, Int.reduceSub, Int.reduceMul, Bool.false_eq_true, Bool.not_true, Bool.not_false, decide_eq_true_eq, and_self, true_and, and_true, reduceCtorEq, ne_eq, not_false_eq_true, not_true_eq_false, decide_true, decide_false, or_false, false_or, INTS, n1, n2, h1, h2, h3, no True (by rintro ⟨a1, a2, a3, a4, a5, a6, a7, a8⟩; omega)]
  by_cases h4 : 600 ≤ f
  · simp (config := { maxSteps := 1000000 }) only [RUN, PATHS, BASE, FA, POL, start_tm, Heap.empty, reduceIte, Nat.reduceLT, Nat.reduceLeDiff, Nat.reduceEqDiff, Nat.reduceAdd, Nat.reduceSub, Nat.reduceMul, Nat.reduceBEq, Int.reduceLT, Int.reduceLE, Int.reduceEq, Int.reduceNeg, Int.reduceAdd, Int.reduceSub, Int.reduceMul, Bool.false_eq_true, Bool.not_true, Bool.not_false, decide_eq_true_eq, and_self, true_and, and_true, reduceCtorEq, ne_eq, not_false_eq_true, not_true_eq_false, decide_true, decide_false, or_false, false_or, INTS, n1, n2, h1, h2, h3, h4, no True (by rintro ⟨a1, a2, a3, a4, a5, a6, a7, a8⟩; omega)]
  by_cases h5 : r < 0
  · simp (config := { maxSteps := 1000000 }) only [RUN, PATHS, BASE, FA, POL, start_tm, Heap.empty, reduceIte, Nat.reduceLT, Nat.reduceLeDiff, Nat.reduceEqDiff, Nat.reduceAdd, Nat.reduceSub, Nat.reduceMul, Nat.reduceBEq, Int.reduceLT, Int.reduceLE, Int.reduceEq, Int.reduceNeg, Int.reduceAdd, Int.reduceSub, Int.reduceMul, Bool.false_eq_true, Bool.not_true, Bool.not_false, decide_eq_true_eq, and_self, true_and, and_true, reduceCtorEq, ne_eq, not_false_eq_true, not_true_eq_false, decide_true, decide_false, or_false, false_or, INTS, n1, n2, h1, h2, h3, h4, h5, no True (by rintro ⟨a1, a2, a3, a4, a5, a6, a7, a8⟩; omega)]
  by_cases h6 : 64 ≤ r
  · simp (config := { maxSteps := 1000000 }) only [RUN, PATHS, BASE, FA, POL, start_tm, Heap.empty, reduceIte, Nat.reduceLT, Nat.reduceLeDiff, Nat.reduceEqDiff, Nat.reduceAdd, Nat.reduceSub, Nat.reduceMul, Nat.reduceBEq, Int.reduceLT, Int.reduceLE, Int.reduceEq, Int.reduceNeg, Int.reduceAdd, Int.reduceSub, Int.reduceMul, Bool.false_eq_true, Bool.not_true, Bool.not_false, decide_eq_true_eq, and_self, true_and, and_true, reduceCtorEq, ne_eq, not_false_eq_true, not_true_eq_false, decide_true, decide_false, or_false, false_or, INTS, n1, n2, h1, h2, h3, h4, h5, h6, no True (by rintro ⟨a1, a2, a3, a4, a5, a6, a7, a8⟩; omega)]
  by_cases h7 : KER d k
  · have w : WOK f r d k 600 64 := ⟨by omega, by omega, by omega, by omega, h7.1, h7.2.1, h7.2.2.1, h7.2.2.2⟩
    by_cases h8 : LIT p
    · simp (config := { maxSteps := 1000000 }) only [RUN, PATHS, BASE, FA, POL, start_tm, Heap.empty, reduceIte, Nat.reduceLT, Nat.reduceLeDiff, Nat.reduceEqDiff, Nat.reduceAdd, Nat.reduceSub, Nat.reduceMul, Nat.reduceBEq, Int.reduceLT, Int.reduceLE, Int.reduceEq, Int.reduceNeg, Int.reduceAdd, Int.reduceSub, Int.reduceMul, Bool.false_eq_true, Bool.not_true, Bool.not_false, decide_eq_true_eq, and_self, true_and, and_true, reduceCtorEq, ne_eq, not_false_eq_true, not_true_eq_false, decide_true, decide_false, or_false, false_or, INTS, n1, n2, h1, h2, h3, h4, h5, h6, h7, h8, w, c_kernel f r d k c (by omega), c_reflitres p c' hp]
    · simp (config := { maxSteps := 1000000 }) only [RUN, PATHS, BASE, FA, POL, start_tm, Heap.empty, reduceIte, Nat.reduceLT, Nat.reduceLeDiff, Nat.reduceEqDiff, Nat.reduceAdd, Nat.reduceSub, Nat.reduceMul, Nat.reduceBEq, Int.reduceLT, Int.reduceLE, Int.reduceEq, Int.reduceNeg, Int.reduceAdd, Int.reduceSub, Int.reduceMul, Bool.false_eq_true, Bool.not_true, Bool.not_false, decide_eq_true_eq, and_self, true_and, and_true, reduceCtorEq, ne_eq, not_false_eq_true, not_true_eq_false, decide_true, decide_false, or_false, false_or, INTS, n1, n2, h1, h2, h3, h4, h5, h6, h7, h8, w, c_kernel f r d k c (by omega), c_reflitres p c' hp]
  · simp (config := { maxSteps := 1000000 }) only [RUN, PATHS, BASE, FA, POL, start_tm, Heap.empty, reduceIte, Nat.reduceLT, Nat.reduceLeDiff, Nat.reduceEqDiff, Nat.reduceAdd, Nat.reduceSub, Nat.reduceMul, Nat.reduceBEq, Int.reduceLT, Int.reduceLE, Int.reduceEq, Int.reduceNeg, Int.reduceAdd, Int.reduceSub, Int.reduceMul, Bool.false_eq_true, Bool.not_true, Bool.not_false, decide_eq_true_eq, and_self, true_and, and_true, reduceCtorEq, ne_eq, not_false_eq_true, not_true_eq_false, decide_true, decide_false, or_false, false_or, INTS, n1, n2, h1, h2, h3, h4, h5, h6, h7, c_kernel f r d k c (by omega), no True (by rintro ⟨a1, a2, a3, a4, a5, a6, a7, a8⟩; exact h7 ⟨a5, a6, a7, a8⟩)]
/-- The number of days. -/
def DAYS (k p : List Int) : Nat := if p.length = 0 then 0 else p.length + k.length - 1
theorem c_days (f r d : Int) (k p : List Int) (c c' : Option Nat) (hk : k.length ≤ 1000000) (hp : p.length ≤ 1000000) (hk0 : 0 < k.length) : ap Try.prog pol 32 [well f r d k c, ints p c'] = some (.ret (I (DAYS k p))) := by
  unfold DAYS
  rw [ap_eq _ Try.func32 rfl Try.ntmps32 Try.results32 (by kernel_rfl) rfl (by exact Nat.le_of_ble_eq_true rfl)]
  by_cases h : p.length = 0
  · simp (config := { maxSteps := 1000000 }) only [RUN, PATHS, BASE, FA, POL, start_tm, Heap.empty, reduceIte, Nat.reduceLT, Nat.reduceLeDiff, Nat.reduceEqDiff, Nat.reduceAdd, Nat.reduceSub, Nat.reduceMul, Nat.reduceBEq, Int.reduceLT, Int.reduceLE, Int.reduceEq, Int.reduceNeg, Int.reduceAdd, Int.reduceSub, Int.reduceMul, Bool.false_eq_true, Bool.not_true, Bool.not_false, decide_eq_true_eq, and_self, true_and, and_true, reduceCtorEq, ne_eq, not_false_eq_true, not_true_eq_false, decide_true, decide_false, or_false, false_or, INTS, (show (p.length : Int) = 0 by omega), h]
    rfl
  · simp (config := { maxSteps := 1000000 }) only [RUN, PATHS, BASE, FA, POL, start_tm, Heap.empty, reduceIte, Nat.reduceLT, Nat.reduceLeDiff, Nat.reduceEqDiff, Nat.reduceAdd, Nat.reduceSub, Nat.reduceMul, Nat.reduceBEq, Int.reduceLT, Int.reduceLE, Int.reduceEq, Int.reduceNeg, Int.reduceAdd, Int.reduceSub, Int.reduceMul, Bool.false_eq_true, Bool.not_true, Bool.not_false, decide_eq_true_eq, and_self, true_and, and_true, reduceCtorEq, ne_eq, not_false_eq_true, not_true_eq_false, decide_true, decide_false, or_false, false_or, INTS, (show ¬ (p.length : Int) = 0 by omega), h, (i64_in (x := (p.length : Int) + k.length) (by unfold I64; omega)), (i64_in (x := (p.length : Int) + k.length - 1) (by unfold I64; omega))]
    congr 3
    omega
theorem c_same (a b : List Int) (c c' : Option Nat) (ha : a.length ≤ 1000000) (hb : b.length ≤ 1000000) : ap Try.prog pol 19 [ints a c, ints b c'] = some (.ret (.bool (decide (a = b)))) := by
  rw [ap_eq _ Try.func19 rfl Try.ntmps19 Try.results19 (by kernel_rfl) rfl (by exact Nat.le_of_ble_eq_true rfl)]
  by_cases h : a.length = b.length
  · simp (config := { maxSteps := 1000000 }) only [RUN, PATHS, BASE, FA, POL, start_tm, Heap.empty, reduceIte, Nat.reduceLT, Nat.reduceLeDiff, Nat.reduceEqDiff, Nat.reduceAdd, Nat.reduceSub, Nat.reduceMul, Nat.reduceBEq, Int.reduceLT, Int.reduceLE, Int.reduceEq, Int.reduceNeg, Int.reduceAdd, Int.reduceSub, Int.reduceMul, Bool.false_eq_true, Bool.not_true, Bool.not_false, decide_eq_true_eq, and_self, true_and, and_true, reduceCtorEq, ne_eq, not_false_eq_true, not_true_eq_false, decide_true, decide_false, or_false, false_or, INTS, (show (a.length : Int) = b.length by omega)]
    generalize hL : W _ (.loop _) _ = L
    obtain ⟨ex, s, rfl, hex, hd⟩ := loop_at hL (α := Nat) (fun k => a.length - k)
      (fun s0 k s => k ≤ a.length ∧ a.take k = b.take k ∧ s.tmps 5 = I k ∧ s.tmps 0 = ints a c ∧ s.tmps 1 = ints b c' ∧ s.defers = [])
      (fun s0 ex s => ((ex = .exit 0 ∧ a = b) ∨ (ex = .ret ∧ ¬ a = b ∧ s.tmps 4 = .bool false)) ∧ s.defers = []) 0
      (by simp (config := { maxSteps := 1000000 }) only [RUN, PATHS, BASE, FA, POL, start_tm, Heap.empty, reduceIte, Nat.reduceLT, Nat.reduceLeDiff, Nat.reduceEqDiff, Nat.reduceAdd, Nat.reduceSub, Nat.reduceMul, Nat.reduceBEq, Int.reduceLT, Int.reduceLE, Int.reduceEq, Int.reduceNeg, Int.reduceAdd, Int.reduceSub, Int.reduceMul, Bool.false_eq_true, Bool.not_true, Bool.not_false, decide_eq_true_eq, and_self, true_and, and_true, reduceCtorEq, ne_eq, not_false_eq_true, not_true_eq_false, decide_true, decide_false, or_false, false_or]; simp) (by
        rintro k s r hW ⟨hk, ht, h5, h0, h1, hd⟩
        by_cases hp : k < a.length
        · have e0 : a[k]? = some a[k] := List.getElem?_eq_getElem hp
          have f0 : b[k]? = some (b[k]'(by omega)) := List.getElem?_eq_getElem (by omega)
          have e1 := ints_get e0
          have f1 := ints_get f0
          simp (config := { maxSteps := 1000000 }) only [RUN, PATHS, BASE, FA, POL, start_tm, Heap.empty, reduceIte, Nat.reduceLT, Nat.reduceLeDiff, Nat.reduceEqDiff, Nat.reduceAdd, Nat.reduceSub, Nat.reduceMul, Nat.reduceBEq, Int.reduceLT, Int.reduceLE, Int.reduceEq, Int.reduceNeg, Int.reduceAdd, Int.reduceSub, Int.reduceMul, Bool.false_eq_true, Bool.not_true, Bool.not_false, decide_eq_true_eq, and_self, true_and, and_true, reduceCtorEq, ne_eq, not_false_eq_true, not_true_eq_false, decide_true, decide_false, or_false, false_or, INTS, h5, h0, h1, hd, e1, f1, Int.toNat_natCast, (show (k : Int) < a.length by omega), (show (k : Int) < b.length by omega), (show (0 : Int) ≤ k by omega), (i64_in (x := (k : Int) + 1) (by unfold I64; omega))] at hW
          subst hW
          refine rd_ite (fun hx => ?_) (fun hx => ?_)
          · refine rd_ret ⟨.inr ⟨rfl, fun e => hx (by subst e; rfl), ?_⟩, rfl⟩
            simp (config := { maxSteps := 1000000 }) only [RUN, PATHS, BASE, FA, POL, start_tm, Heap.empty, reduceIte, Nat.reduceLT, Nat.reduceLeDiff, Nat.reduceEqDiff, Nat.reduceAdd, Nat.reduceSub, Nat.reduceMul, Nat.reduceBEq, Int.reduceLT, Int.reduceLE, Int.reduceEq, Int.reduceNeg, Int.reduceAdd, Int.reduceSub, Int.reduceMul, Bool.false_eq_true, Bool.not_true, Bool.not_false, decide_eq_true_eq, and_self, true_and, and_true, reduceCtorEq, ne_eq, not_false_eq_true, not_true_eq_false, decide_true, decide_false, or_false, false_or]
          · refine rd_next (k + 1) ?_ (show a.length - (k + 1) < a.length - k by omega)
            simp (config := { maxSteps := 1000000 }) only [RUN, PATHS, BASE, FA, POL, start_tm, Heap.empty, reduceIte, Nat.reduceLT, Nat.reduceLeDiff, Nat.reduceEqDiff, Nat.reduceAdd, Nat.reduceSub, Nat.reduceMul, Nat.reduceBEq, Int.reduceLT, Int.reduceLE, Int.reduceEq, Int.reduceNeg, Int.reduceAdd, Int.reduceSub, Int.reduceMul, Bool.false_eq_true, Bool.not_true, Bool.not_false, decide_eq_true_eq, and_self, true_and, and_true, reduceCtorEq, ne_eq, not_false_eq_true, not_true_eq_false, decide_true, decide_false, or_false, false_or, h0, h1]
            refine ⟨by omega, ?_, by simp⟩
            rw [List.take_add_one, List.take_add_one, ht, e0, f0]
            simp at hx
            rw [hx]
        · simp (config := { maxSteps := 1000000 }) only [RUN, PATHS, BASE, FA, POL, start_tm, Heap.empty, reduceIte, Nat.reduceLT, Nat.reduceLeDiff, Nat.reduceEqDiff, Nat.reduceAdd, Nat.reduceSub, Nat.reduceMul, Nat.reduceBEq, Int.reduceLT, Int.reduceLE, Int.reduceEq, Int.reduceNeg, Int.reduceAdd, Int.reduceSub, Int.reduceMul, Bool.false_eq_true, Bool.not_true, Bool.not_false, decide_eq_true_eq, and_self, true_and, and_true, reduceCtorEq, ne_eq, not_false_eq_true, not_true_eq_false, decide_true, decide_false, or_false, false_or, INTS, h5, h0, h1, hd, (show ¬ (k : Int) < a.length by omega)] at hW
          subst hW
          refine rd_exit ⟨.inl ⟨rfl, ?_⟩, rfl⟩
          rw [List.take_of_length_le (by omega), List.take_of_length_le (by omega)] at ht
          exact ht)
    rcases hex with ⟨rfl, h⟩ | ⟨rfl, h, h4⟩
    · simp (config := { maxSteps := 1000000 }) only [RUN, PATHS, BASE, FA, POL, start_tm, Heap.empty, reduceIte, Nat.reduceLT, Nat.reduceLeDiff, Nat.reduceEqDiff, Nat.reduceAdd, Nat.reduceSub, Nat.reduceMul, Nat.reduceBEq, Int.reduceLT, Int.reduceLE, Int.reduceEq, Int.reduceNeg, Int.reduceAdd, Int.reduceSub, Int.reduceMul, Bool.false_eq_true, Bool.not_true, Bool.not_false, decide_eq_true_eq, and_self, true_and, and_true, reduceCtorEq, ne_eq, not_false_eq_true, not_true_eq_false, decide_true, decide_false, or_false, false_or, hd, eq_true h]
    · simp (config := { maxSteps := 1000000 }) only [RUN, PATHS, BASE, FA, POL, start_tm, Heap.empty, reduceIte, Nat.reduceLT, Nat.reduceLeDiff, Nat.reduceEqDiff, Nat.reduceAdd, Nat.reduceSub, Nat.reduceMul, Nat.reduceBEq, Int.reduceLT, Int.reduceLE, Int.reduceEq, Int.reduceNeg, Int.reduceAdd, Int.reduceSub, Int.reduceMul, Bool.false_eq_true, Bool.not_true, Bool.not_false, decide_eq_true_eq, and_self, true_and, and_true, reduceCtorEq, ne_eq, not_false_eq_true, not_true_eq_false, decide_true, decide_false, or_false, false_or, hd, h, h4]
  · simp (config := { maxSteps := 1000000 }) only [RUN, PATHS, BASE, FA, POL, start_tm, Heap.empty, reduceIte, Nat.reduceLT, Nat.reduceLeDiff, Nat.reduceEqDiff, Nat.reduceAdd, Nat.reduceSub, Nat.reduceMul, Nat.reduceBEq, Int.reduceLT, Int.reduceLE, Int.reduceEq, Int.reduceNeg, Int.reduceAdd, Int.reduceSub, Int.reduceMul, Bool.false_eq_true, Bool.not_true, Bool.not_false, decide_eq_true_eq, and_self, true_and, and_true, reduceCtorEq, ne_eq, not_false_eq_true, not_true_eq_false, decide_true, decide_false, or_false, false_or, INTS, (show ¬ (a.length : Int) = b.length by omega)]
    rw [decide_eq_false (fun e => h (by rw [e]))]
def FEW (k p : List Int) : Prop := (p.length ≤ 30 ∨ 400 < p.length ∧ p.length ≤ 1000) ∧ (k.length ≤ 20 ∨ 64 < k.length ∧ k.length ≤ 200)
instance (k p : List Int) : Decidable (FEW k p) := by unfold FEW; infer_instance
theorem c_few (f r d : Int) (k p : List Int) (c c' : Option Nat) : ap Try.prog pol 14 [well f r d k c, ints p c'] = some (.ret (.bool (decide (FEW k p)))) := by
  rw [ap_eq _ Try.func14 rfl Try.ntmps14 Try.results14 (by kernel_rfl) rfl (by exact Nat.le_of_ble_eq_true rfl)]
  simp (config := { maxSteps := 1000000 }) only [RUN, PATHS, BASE, FA, POL, start_tm, Heap.empty, reduceIte, Nat.reduceLT, Nat.reduceLeDiff, Nat.reduceEqDiff, Nat.reduceAdd, Nat.reduceSub, Nat.reduceMul, Nat.reduceBEq, Int.reduceLT, Int.reduceLE, Int.reduceEq, Int.reduceNeg, Int.reduceAdd, Int.reduceSub, Int.reduceMul, Bool.false_eq_true, Bool.not_true, Bool.not_false, decide_eq_true_eq, and_self, true_and, and_true, reduceCtorEq, ne_eq, not_false_eq_true, not_true_eq_false, decide_true, decide_false, or_false, false_or, INTS]
  unfold FEW
  repeat' split
  all_goals
    simp only [Option.some.injEq, CR.ret.injEq, PV.bool.injEq]
    first
    | exact (decide_eq_true (by omega)).symm
    | exact (decide_eq_false (by omega)).symm
    | exact decide_eq_decide.2 (by omega)
end Go.Proofs.Ytbgdeimkemjklaa
