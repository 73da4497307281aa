/-
  The functions of package wells and of its reference, continued: valid wells; small functions.
-/
import Derived.Test.YtbgdeimkemjklaaC1
set_option linter.unusedSimpArgs false
set_option linter.unusedVariables false
set_option linter.unusedSectionVars false
namespace Go.Proofs.Ytbgdeimkemjklaa
open Go GoV
set_option maxRecDepth 100000

/-- The kernel's elements, one after the other, within what is left. -/
def KOK : Int → List Int → Prop
  | _, [] => True
  | left, n :: r => 0 ≤ n ∧ n ≤ left ∧ KOK (left - n) r
instance KOK.dec : ∀ (left : Int) (l : List Int), Decidable (KOK left l)
  | _, [] => isTrue trivial
  | left, n :: r => by
    unfold KOK
    have := KOK.dec (left - n) r
    infer_instance
theorem KOK_iff : ∀ (l : List Int) (left : Int), 0 ≤ left → (KOK left l ↔ (∀ x ∈ l, 0 ≤ x) ∧ l.sum ≤ left)
  | [], left, h => by simp [KOK, h]
  | n :: r, left, h => by
    simp only [KOK, List.mem_cons, forall_eq_or_imp, List.sum_cons]
    constructor
    · rintro ⟨h1, h2, h3⟩
      have := (KOK_iff r (left - n) (by omega)).1 h3
      exact ⟨⟨h1, this.1⟩, by omega⟩
    · rintro ⟨⟨h1, h2⟩, h3⟩
      have hs : 0 ≤ r.sum := by
        clear h3
        induction r with
        | nil => simp
        | cons a r ih =>
          simp only [List.sum_cons]
          have := h2 a (by simp)
          have := ih fun x hx => h2 x (by simp [hx])
          omega
      exact ⟨h1, by omega, (KOK_iff r (left - n) (by omega)).2 ⟨h2, by omega⟩⟩
theorem KOK_append : ∀ (a b : List Int) (left : Int), KOK left (a ++ b) ↔ KOK left a ∧ KOK (left - a.sum) b
  | [], b, left => by simp [KOK]
  | n :: a, b, left => by
    simp only [List.cons_append, KOK, List.sum_cons, KOK_append a b, and_assoc]
    rw [show left - n - a.sum = left - (n + a.sum) by omega]
theorem c_left1 (n left : Int) (id : Nat) (H : Heap) (hl : I64 left) (hr : H.rows id = some (.gro 1 [I left] 0)) : callF G Try.prog pol 41 [I n, .ptr id 1 0 0] H =
    if 0 ≤ n ∧ n ≤ left then some (.ret (.bool true), (⟨H.rows, H.next + 1⟩ : Heap).set id (.gro 1 [I (left - n)] 0)) else some (.ret (.bool false), ⟨H.rows, H.next + 1⟩) := by
  by_cases h1 : n < 0
  · rw [callF_eq _ _ Try.func41 rfl Try.ntmps41 Try.results41 (by kernel_rfl) rfl (by exact Nat.le_of_ble_eq_true rfl)]
    simp (config := { maxSteps := 1000000 }) only [RUN, PATHS, BASE, FA, POL, start_tm, Heap.empty, reduceIte, Nat.reduceLT, Nat.reduceLeDiff, Nat.reduceEqDiff, Nat.reduceAdd, Nat.reduceSub, Nat.reduceMul, Nat.reduceBEq, Int.reduceLT, Int.reduceLE, Int.reduceEq, Int.reduceNeg, Int.reduceAdd, Int.reduceSub, Int.reduceMul, Bool.false_eq_true, Bool.not_true, Bool.not_false, decide_eq_true_eq, and_self, true_and, and_true, reduceCtorEq, ne_eq, not_false_eq_true, not_true_eq_false, decide_true, decide_false, or_false, false_or, h1, hr, (show ¬ 0 ≤ n by omega), false_and]
  · by_cases h2 : left < n
    · rw [callF_eq _ _ Try.func41 rfl Try.ntmps41 Try.results41 (by kernel_rfl) rfl (by exact Nat.le_of_ble_eq_true rfl)]
      simp (config := { maxSteps := 1000000 }) only [RUN, PATHS, BASE, FA, POL, start_tm, Heap.empty, reduceIte, Nat.reduceLT, Nat.reduceLeDiff, Nat.reduceEqDiff, Nat.reduceAdd, Nat.reduceSub, Nat.reduceMul, Nat.reduceBEq, Int.reduceLT, Int.reduceLE, Int.reduceEq, Int.reduceNeg, Int.reduceAdd, Int.reduceSub, Int.reduceMul, Bool.false_eq_true, Bool.not_true, Bool.not_false, decide_eq_true_eq, and_self, true_and, and_true, reduceCtorEq, ne_eq, not_false_eq_true, not_true_eq_false, decide_true, decide_false, or_false, false_or, h1, h2, hr, (show ¬ n ≤ left by omega), and_false]
    · rw [callF_eq _ _ Try.func41 rfl Try.ntmps41 Try.results41 (by kernel_rfl) rfl (by exact Nat.le_of_ble_eq_true rfl)]
      unfold I64 at hl
      simp (config := { maxSteps := 1000000 }) only [RUN, PATHS, BASE, FA, POL, start_tm, Heap.empty, reduceIte, Nat.reduceLT, Nat.reduceLeDiff, Nat.reduceEqDiff, Nat.reduceAdd, Nat.reduceSub, Nat.reduceMul, Nat.reduceBEq, Int.reduceLT, Int.reduceLE, Int.reduceEq, Int.reduceNeg, Int.reduceAdd, Int.reduceSub, Int.reduceMul, Bool.false_eq_true, Bool.not_true, Bool.not_false, decide_eq_true_eq, and_self, true_and, and_true, reduceCtorEq, ne_eq, not_false_eq_true, not_true_eq_false, decide_true, decide_false, or_false, false_or, h1, h2, hr, (show 0 ≤ n by omega), (show n ≤ left by omega), (i64_in (x := left - n) (by unfold I64; omega))]
theorem c_all_left (l : List Int) (c : Option Nat) (hl : l.length ≤ 1000000) (left : Int) (h0 : 0 ≤ left) (hi : I64 left) (id : Nat) {H : Heap} {X : Option (CR × Heap)} (hX : callF G Try.prog pol 40 [ints l c, .fn 41 [.ptr id 1 0 0]] H = X)
    (hr : H.rows id = some (.gro 1 [I left] 0)) : ∃ H', X = some (.ret (.bool (decide (KOK left l))), H') := by
  subst hX
  rw [callF_eq _ _ Try.func40 rfl Try.ntmps40 Try.results40 (by kernel_rfl) rfl (by exact Nat.le_of_ble_eq_true rfl)]
  simp (config := { maxSteps := 1000000 }) only [RUN, PATHS, BASE, FA, POL, start_tm, Heap.empty, reduceIte, Nat.reduceLT, Nat.reduceLeDiff, Nat.reduceEqDiff, Nat.reduceAdd, Nat.reduceSub, Nat.reduceMul, Nat.reduceBEq, Int.reduceLT, Int.reduceLE, Int.reduceEq, Int.reduceNeg, Int.reduceAdd, Int.reduceSub, Int.reduceMul, Bool.false_eq_true, Bool.not_true, Bool.not_false, decide_eq_true_eq, and_self, true_and, and_true, reduceCtorEq, ne_eq, not_false_eq_true, not_true_eq_false, decide_true, decide_false, or_false, false_or, INTS]
  generalize hL : W _ (.loop _) _ = L
  obtain ⟨ex, s, rfl, hex, hd⟩ := loop_at hL (α := Nat) (fun k => l.length - k)
    (fun s0 k s => k ≤ l.length ∧ KOK left (l.take k) ∧ 0 ≤ left - (l.take k).sum ∧ (l.take k).sum ≤ left ∧ 0 ≤ (l.take k).sum ∧ s.tmps 9 = I k ∧ s.tmps 8 = I l.length ∧ s.tmps 7 = ints l c ∧ s.tmps 1 = .fn 41 [.ptr id 1 0 0] ∧ s.defers = [] ∧ s.H.rows id = some (.gro 1 [I (left - (l.take k).sum)] 0))
    (fun s0 ex s => ((ex = .exit 0 ∧ KOK left l) ∨ (ex = .ret ∧ ¬ KOK left l ∧ s.tmps 4 = .bool false)) ∧ s.defers = []) 0
    (by simp (config := { maxSteps := 1000000 }) only [RUN, PATHS, BASE, FA, POL, start_tm, Heap.empty, reduceIte, Nat.reduceLT, Nat.reduceLeDiff, Nat.reduceEqDiff, Nat.reduceAdd, Nat.reduceSub, Nat.reduceMul, Nat.reduceBEq, Int.reduceLT, Int.reduceLE, Int.reduceEq, Int.reduceNeg, Int.reduceAdd, Int.reduceSub, Int.reduceMul, Bool.false_eq_true, Bool.not_true, Bool.not_false, decide_eq_true_eq, and_self, true_and, and_true, reduceCtorEq, ne_eq, not_false_eq_true, not_true_eq_false, decide_true, decide_false, or_false, false_or, hr]; simp [KOK, h0]) (by
      rintro k s r hW ⟨hk, ht, hs1, hs2, hs3, h9, h8, h7, h1, hd, hR⟩
      unfold I64 at hi
      by_cases hp : k < l.length
      · have e0 : l[k]? = some l[k] := List.getElem?_eq_getElem hp
        have e1 := ints_get e0
        have cl := fun H h => c_left1 l[k] (left - (l.take k).sum) id H (by unfold I64; omega) h
        have et : l.take (k + 1) = l.take k ++ [l[k]] := by rw [List.take_add_one, e0]; rfl
        by_cases hx : 0 ≤ l[k] ∧ l[k] ≤ left - (l.take k).sum
        · simp (config := { maxSteps := 1000000 }) only [RUN, PATHS, BASE, FA, POL, start_tm, Heap.empty, reduceIte, Nat.reduceLT, Nat.reduceLeDiff, Nat.reduceEqDiff, Nat.reduceAdd, Nat.reduceSub, Nat.reduceMul, Nat.reduceBEq, Int.reduceLT, Int.reduceLE, Int.reduceEq, Int.reduceNeg, Int.reduceAdd, Int.reduceSub, Int.reduceMul, Bool.false_eq_true, Bool.not_true, Bool.not_false, decide_eq_true_eq, and_self, true_and, and_true, reduceCtorEq, ne_eq, not_false_eq_true, not_true_eq_false, decide_true, decide_false, or_false, false_or, INTS, h9, h8, h7, h1, hd, hR, e1, cl, hx, Int.toNat_natCast, (show (k : Int) < l.length by omega), (show (0 : Int) ≤ k by omega), (i64_in (x := (k : Int) + 1) (by unfold I64; omega))] at hW
          subst hW
          refine rd_next (k + 1) ?_ (show l.length - (k + 1) < l.length - k by omega)
          simp (config := { maxSteps := 1000000 }) only [RUN, PATHS, BASE, FA, POL, start_tm, Heap.empty, reduceIte, Nat.reduceLT, Nat.reduceLeDiff, Nat.reduceEqDiff, Nat.reduceAdd, Nat.reduceSub, Nat.reduceMul, Nat.reduceBEq, Int.reduceLT, Int.reduceLE, Int.reduceEq, Int.reduceNeg, Int.reduceAdd, Int.reduceSub, Int.reduceMul, Bool.false_eq_true, Bool.not_true, Bool.not_false, decide_eq_true_eq, and_self, true_and, and_true, reduceCtorEq, ne_eq, not_false_eq_true, not_true_eq_false, decide_true, decide_false, or_false, false_or, h8, h7, h1, et]
          rw [List.sum_append, KOK_append]
          simp only [List.sum_cons, List.sum_nil, KOK]
          refine ⟨by omega, ⟨ht, by omega, by omega, trivial⟩, by omega, by omega, by omega, by simp, ?_⟩
          rw [show left - ((l.take k).sum + (l[k] + 0)) = left - (l.take k).sum - l[k] by omega]
        · simp (config := { maxSteps := 1000000 }) only [RUN, PATHS, BASE, FA, POL, start_tm, Heap.empty, reduceIte, Nat.reduceLT, Nat.reduceLeDiff, Nat.reduceEqDiff, Nat.reduceAdd, Nat.reduceSub, Nat.reduceMul, Nat.reduceBEq, Int.reduceLT, Int.reduceLE, Int.reduceEq, Int.reduceNeg, Int.reduceAdd, Int.reduceSub, Int.reduceMul, Bool.false_eq_true, Bool.not_true, Bool.not_false, decide_eq_true_eq, and_self, true_and, and_true, reduceCtorEq, ne_eq, not_false_eq_true, not_true_eq_false, decide_true, decide_false, or_false, false_or, INTS, h9, h8, h7, h1, hd, hR, e1, cl, hx, Int.toNat_natCast, (show (k : Int) < l.length by omega), (show (0 : Int) ≤ k by omega)] at hW
          subst hW
          refine rd_ret ⟨.inr ⟨rfl, fun h => ?_, ?_⟩, rfl⟩
          · rw [← List.take_append_drop (k + 1) l, et, KOK_append, KOK_append] at h
            exact hx ⟨h.1.2.1, h.1.2.2.1⟩
          · simp (config := { maxSteps := 1000000 }) only [RUN, PATHS, BASE, FA, POL, start_tm, Heap.empty, reduceIte, Nat.reduceLT, Nat.reduceLeDiff, Nat.reduceEqDiff, Nat.reduceAdd, Nat.reduceSub, Nat.reduceMul, Nat.reduceBEq, Int.reduceLT, Int.reduceLE, Int.reduceEq, Int.reduceNeg, Int.reduceAdd, Int.reduceSub, Int.reduceMul, Bool.false_eq_true, Bool.not_true, Bool.not_false, decide_eq_true_eq, and_self, true_and, and_true, reduceCtorEq, ne_eq, not_false_eq_true, not_true_eq_false, decide_true, decide_false, or_false, false_or]
      · simp (config := { maxSteps := 1000000 }) only [RUN, PATHS, BASE, FA, POL, start_tm, Heap.empty, reduceIte, Nat.reduceLT, Nat.reduceLeDiff, Nat.reduceEqDiff, Nat.reduceAdd, Nat.reduceSub, Nat.reduceMul, Nat.reduceBEq, Int.reduceLT, Int.reduceLE, Int.reduceEq, Int.reduceNeg, Int.reduceAdd, Int.reduceSub, Int.reduceMul, Bool.false_eq_true, Bool.not_true, Bool.not_false, decide_eq_true_eq, and_self, true_and, and_true, reduceCtorEq, ne_eq, not_false_eq_true, not_true_eq_false, decide_true, decide_false, or_false, false_or, INTS, h9, h8, h7, h1, hd, (show ¬ (k : Int) < l.length by omega)] at hW
        subst hW
        refine rd_exit ⟨.inl ⟨rfl, ?_⟩, rfl⟩
        rw [List.take_of_length_le (by omega)] at ht; exact ht)
  rcases hex with ⟨rfl, h⟩ | ⟨rfl, h, h4⟩
  · simp (config := { maxSteps := 1000000 }) only [RUN, PATHS, BASE, FA, POL, start_tm, Heap.empty, reduceIte, Nat.reduceLT, Nat.reduceLeDiff, Nat.reduceEqDiff, Nat.reduceAdd, Nat.reduceSub, Nat.reduceMul, Nat.reduceBEq, Int.reduceLT, Int.reduceLE, Int.reduceEq, Int.reduceNeg, Int.reduceAdd, Int.reduceSub, Int.reduceMul, Bool.false_eq_true, Bool.not_true, Bool.not_false, decide_eq_true_eq, and_self, true_and, and_true, reduceCtorEq, ne_eq, not_false_eq_true, not_true_eq_false, decide_true, decide_false, or_false, false_or, hd, h]
    exact ⟨_, rfl⟩
  · simp (config := { maxSteps := 1000000 }) only [RUN, PATHS, BASE, FA, POL, start_tm, Heap.empty, reduceIte, Nat.reduceLT, Nat.reduceLeDiff, Nat.reduceEqDiff, Nat.reduceAdd, Nat.reduceSub, Nat.reduceMul, Nat.reduceBEq, Int.reduceLT, Int.reduceLE, Int.reduceEq, Int.reduceNeg, Int.reduceAdd, Int.reduceSub, Int.reduceMul, Bool.false_eq_true, Bool.not_true, Bool.not_false, decide_eq_true_eq, and_self, true_and, and_true, reduceCtorEq, ne_eq, not_false_eq_true, not_true_eq_false, decide_true, decide_false, or_false, false_or, hd, h, h4]
    exact ⟨_, rfl⟩
/-- A valid well. -/
def WOK (f r d : Int) (k : List Int) (farms reaches : Int) : Prop := 0 ≤ f ∧ f < farms ∧ 0 ≤ r ∧ r < reaches ∧ 1 ≤ d ∧ d ≤ 1048576 ∧ 0 < k.length ∧ KOK d k
instance (f r d : Int) (k : List Int) (farms reaches : Int) : Decidable (WOK f r d k farms reaches) := by unfold WOK; infer_instance
theorem c_wvalid (f r d : Int) (k : List Int) (c : Option Nat) (hk : k.length ≤ 1000000) (farms reaches : Int) : ap Try.prog pol 26 [well f r d k c, I farms, I reaches] = some (.ret (.bool (decide (WOK f r d k farms reaches)))) := by
  have no : ∀ q : Prop, (WOK f r d k farms reaches → False) → decide (WOK f r d k farms reaches) = false := fun _ h => decide_eq_false h
  rw [ap_eq _ Try.func26 rfl Try.ntmps26 Try.results26 (by kernel_rfl) rfl (by exact Nat.le_of_ble_eq_true rfl)]
  by_cases h1 : f < 0
  · simp (config := { maxSteps := 1000000 }) only [RUN, PATHS, BASE, FA, POL, start_tm, Heap.empty, reduceIte, Nat.reduceLT, Nat.reduceLeDiff, Nat.reduceEqDiff, Nat.reduceAdd, Nat.reduceSub, Nat.reduceMul, Nat.reduceBEq, Int.reduceLT, Int.reduceLE, Int.reduceEq, Int.reduceNeg, Int.reduceAdd, Int.reduceSub, Int.reduceMul, Bool.false_eq_true, Bool.not_true, Bool.not_false, decide_eq_true_eq, and_self, true_and, and_true, reduceCtorEq, ne_eq, not_false_eq_true, not_true_eq_false, decide_true, decide_false, or_false, false_or, INTS, h1]
    rw [no True (by rintro ⟨a1, a2, a3, a4, a5, a6, a7, a8⟩; omega)]
  by_cases h2 : farms ≤ f
  · simp (config := { maxSteps := 1000000 }) only [RUN, PATHS, BASE, FA, POL, start_tm, Heap.empty, reduceIte, Nat.reduceLT, Nat.reduceLeDiff, Nat.reduceEqDiff, Nat.reduceAdd, Nat.reduceSub, Nat.reduceMul, Nat.reduceBEq, Int.reduceLT, Int.reduceLE, Int.reduceEq, Int.reduceNeg, Int.reduceAdd, Int.reduceSub, Int.reduceMul, Bool.false_eq_true, Bool.not_true, Bool.not_false, decide_eq_true_eq, and_self, true_and, and_true, reduceCtorEq, ne_eq, not_false_eq_true, not_true_eq_false, decide_true, decide_false, or_false, false_or, INTS, h1, h2]
    rw [no True (by rintro ⟨a1, a2, a3, a4, a5, a6, a7, a8⟩; omega)]
  by_cases h3 : r < 0
  · simp (config := { maxSteps := 1000000 }) only [RUN, PATHS, BASE, FA, POL, start_tm, Heap.empty, reduceIte, Nat.reduceLT, Nat.reduceLeDiff, Nat.reduceEqDiff, Nat.reduceAdd, Nat.reduceSub, Nat.reduceMul, Nat.reduceBEq, Int.reduceLT, Int.reduceLE, Int.reduceEq, Int.reduceNeg, Int.reduceAdd, Int.reduceSub, Int.reduceMul, Bool.false_eq_true, Bool.not_true, Bool.not_false, decide_eq_true_eq, and_self, true_and, and_true, reduceCtorEq, ne_eq, not_false_eq_true, not_true_eq_false, decide_true, decide_false, or_false, false_or, INTS, h1, h2, h3]
    rw [no True (by rintro ⟨a1, a2, a3, a4, a5, a6, a7, a8⟩; omega)]
  by_cases h4 : reaches ≤ r
  · simp (config := { maxSteps := 1000000 }) only [RUN, PATHS, BASE, FA, POL, start_tm, Heap.empty, reduceIte, Nat.reduceLT, Nat.reduceLeDiff, Nat.reduceEqDiff, Nat.reduceAdd, Nat.reduceSub, Nat.reduceMul, Nat.reduceBEq, Int.reduceLT, Int.reduceLE, Int.reduceEq, Int.reduceNeg, Int.reduceAdd, Int.reduceSub, Int.reduceMul, Bool.false_eq_true, Bool.not_true, Bool.not_false, decide_eq_true_eq, and_self, true_and, and_true, reduceCtorEq, ne_eq, not_false_eq_true, not_true_eq_false, decide_true, decide_false, or_false, false_or, INTS, h1, h2, h3, h4]
    rw [no True (by rintro ⟨a1, a2, a3, a4, a5, a6, a7, a8⟩; omega)]
  by_cases h5 : d < 1
  · simp (config := { maxSteps := 1000000 }) only [RUN, PATHS, BASE, FA, POL, start_tm, Heap.empty, reduceIte, Nat.reduceLT, Nat.reduceLeDiff, Nat.reduceEqDiff, Nat.reduceAdd, Nat.reduceSub, Nat.reduceMul, Nat.reduceBEq, Int.reduceLT, Int.reduceLE, Int.reduceEq, Int.reduceNeg, Int.reduceAdd, Int.reduceSub, Int.reduceMul, Bool.false_eq_true, Bool.not_true, Bool.not_false, decide_eq_true_eq, and_self, true_and, and_true, reduceCtorEq, ne_eq, not_false_eq_true, not_true_eq_false, decide_true, decide_false, or_false, false_or, INTS, h1, h2, h3, h4, h5]
    rw [no True (by rintro ⟨a1, a2, a3, a4, a5, a6, a7, a8⟩; omega)]
  by_cases h6 : 1048576 < d
  · simp (config := { maxSteps := 1000000 }) only [RUN, PATHS, BASE, FA, POL, start_tm, Heap.empty, reduceIte, Nat.reduceLT, Nat.reduceLeDiff, Nat.reduceEqDiff, Nat.reduceAdd, Nat.reduceSub, Nat.reduceMul, Nat.reduceBEq, Int.reduceLT, Int.reduceLE, Int.reduceEq, Int.reduceNeg, Int.reduceAdd, Int.reduceSub, Int.reduceMul, Bool.false_eq_true, Bool.not_true, Bool.not_false, decide_eq_true_eq, and_self, true_and, and_true, reduceCtorEq, ne_eq, not_false_eq_true, not_true_eq_false, decide_true, decide_false, or_false, false_or, INTS, h1, h2, h3, h4, h5, h6]
    rw [no True (by rintro ⟨a1, a2, a3, a4, a5, a6, a7, a8⟩; omega)]
  by_cases h7 : (k.length : Int) = 0
  · simp (config := { maxSteps := 1000000 }) only [RUN, PATHS, BASE, FA, POL, start_tm, Heap.empty, reduceIte, Nat.reduceLT, Nat.reduceLeDiff, Nat.reduceEqDiff, Nat.reduceAdd, Nat.reduceSub, Nat.reduceMul, Nat.reduceBEq, Int.reduceLT, Int.reduceLE, Int.reduceEq, Int.reduceNeg, Int.reduceAdd, Int.reduceSub, Int.reduceMul, Bool.false_eq_true, Bool.not_true, Bool.not_false, decide_eq_true_eq, and_self, true_and, and_true, reduceCtorEq, ne_eq, not_false_eq_true, not_true_eq_false, decide_true, decide_false, or_false, false_or, INTS, h1, h2, h3, h4, h5, h6, h7]
    rw [no True (by rintro ⟨a1, a2, a3, a4, a5, a6, a7, a8⟩; omega)]
  simp (config := { maxSteps := 1000000 }) only [RUN, PATHS, BASE, FA, POL, start_tm, Heap.empty, reduceIte, Nat.reduceLT, Nat.reduceLeDiff, Nat.reduceEqDiff, Nat.reduceAdd, Nat.reduceSub, Nat.reduceMul, Nat.reduceBEq, Int.reduceLT, Int.reduceLE, Int.reduceEq, Int.reduceNeg, Int.reduceAdd, Int.reduceSub, Int.reduceMul, Bool.false_eq_true, Bool.not_true, Bool.not_false, decide_eq_true_eq, and_self, true_and, and_true, reduceCtorEq, ne_eq, not_false_eq_true, not_true_eq_false, decide_true, decide_false, or_false, false_or, INTS, h1, h2, h3, h4, h5, h6, h7]
  generalize hX : callF G _ _ _ _ _ = X
  obtain ⟨H', rfl⟩ := c_all_left k c hk d (by omega) (by unfold I64; omega) 1 hX (by simp (config := { maxSteps := 1000000 }) only [RUN, PATHS, BASE, FA, POL, start_tm, Heap.empty, reduceIte, Nat.reduceLT, Nat.reduceLeDiff, Nat.reduceEqDiff, Nat.reduceAdd, Nat.reduceSub, Nat.reduceMul, Nat.reduceBEq, Int.reduceLT, Int.reduceLE, Int.reduceEq, Int.reduceNeg, Int.reduceAdd, Int.reduceSub, Int.reduceMul, Bool.false_eq_true, Bool.not_true, Bool.not_false, decide_eq_true_eq, and_self, true_and, and_true, reduceCtorEq, ne_eq, not_false_eq_true, not_true_eq_false, decide_true, decide_false, or_false, false_or])
  simp (config := { maxSteps := 1000000 }) only [RUN, PATHS, BASE, FA, POL, start_tm, Heap.empty, reduceIte, Nat.reduceLT, Nat.reduceLeDiff, Nat.reduceEqDiff, Nat.reduceAdd, Nat.reduceSub, Nat.reduceMul, Nat.reduceBEq, Int.reduceLT, Int.reduceLE, Int.reduceEq, Int.reduceNeg, Int.reduceAdd, Int.reduceSub, Int.reduceMul, Bool.false_eq_true, Bool.not_true, Bool.not_false, decide_eq_true_eq, and_self, true_and, and_true, reduceCtorEq, ne_eq, not_false_eq_true, not_true_eq_false, decide_true, decide_false, or_false, false_or]
  by_cases h : KOK d k
  · rw [decide_eq_true h, decide_eq_true (show WOK f r d k farms reaches from ⟨by omega, by omega, by omega, by omega, by omega, by omega, by omega, h⟩)]
  · rw [decide_eq_false h, no True (fun w => h w.2.2.2.2.2.2.2)]
/-- What check says. -/
def CHK (f r d : Int) (k p : List Int) : Int := if 64 < k.length ∨ 400 < p.length then 2 else if WOK f r d k 600 64 ∧ LIT p then 0 else 420
theorem c_wcheck (f r d : Int) (k p : List Int) (c c' : Option Nat) (hk : k.length ≤ 1000000) (hp : p.length ≤ 1000000) : ap Try.prog pol 29 [well f r d k c, ints p c'] = some (.ret (I (CHK f r d k p))) := by
  unfold CHK
  rw [ap_eq _ Try.func29 rfl Try.ntmps29 Try.results29 (by kernel_rfl) rfl (by exact Nat.le_of_ble_eq_true rfl)]
  by_cases h1 : 64 < k.length
  · simp (config := { maxSteps := 1000000 }) only [RUN, PATHS, BASE, FA, POL, start_tm, Heap.empty, reduceIte, Nat.reduceLT, Nat.reduceLeDiff, Nat.reduceEqDiff, Nat.reduceAdd, Nat.reduceSub, Nat.reduceMul, Nat.reduceBEq, Int.reduceLT, Int.reduceLE, Int.reduceEq, Int.reduceNeg, Int.reduceAdd, Int.reduceSub, Int.reduceMul, Bool.false_eq_true, Bool.not_true, Bool.not_false, decide_eq_true_eq, and_self, true_and, and_true, reduceCtorEq, ne_eq, not_false_eq_true, not_true_eq_false, decide_true, decide_false, or_false, false_or, INTS, (show (64 : Int) < k.length by omega), h1, true_or]
  by_cases h2 : 400 < p.length
  · simp (config := { maxSteps := 1000000 }) only [RUN, PATHS, BASE, FA, POL, start_tm, Heap.empty, reduceIte, Nat.reduceLT, Nat.reduceLeDiff, Nat.reduceEqDiff, Nat.reduceAdd, Nat.reduceSub, Nat.reduceMul, Nat.reduceBEq, Int.reduceLT, Int.reduceLE, Int.reduceEq, Int.reduceNeg, Int.reduceAdd, Int.reduceSub, Int.reduceMul, Bool.false_eq_true, Bool.not_true, Bool.not_false, decide_eq_true_eq, and_self, true_and, and_true, reduceCtorEq, ne_eq, not_false_eq_true, not_true_eq_false, decide_true, decide_false, or_false, false_or, INTS, (show ¬ (64 : Int) < k.length by omega), (show (400 : Int) < p.length by omega), h1, h2]
  by_cases h3 : WOK f r d k 600 64
  · by_cases h4 : LIT p
    · simp (config := { maxSteps := 1000000 }) only [RUN, PATHS, BASE, FA, POL, start_tm, Heap.empty, reduceIte, Nat.reduceLT, Nat.reduceLeDiff, Nat.reduceEqDiff, Nat.reduceAdd, Nat.reduceSub, Nat.reduceMul, Nat.reduceBEq, Int.reduceLT, Int.reduceLE, Int.reduceEq, Int.reduceNeg, Int.reduceAdd, Int.reduceSub, Int.reduceMul, Bool.false_eq_true, Bool.not_true, Bool.not_false, decide_eq_true_eq, and_self, true_and, and_true, reduceCtorEq, ne_eq, not_false_eq_true, not_true_eq_false, decide_true, decide_false, or_false, false_or, INTS, (show ¬ (64 : Int) < k.length by omega), (show ¬ (400 : Int) < p.length by omega), h1, h2, c_wvalid f r d k c hk, h3, c_litres p c' hp, h4]
    · simp (config := { maxSteps := 1000000 }) only [RUN, PATHS, BASE, FA, POL, start_tm, Heap.empty, reduceIte, Nat.reduceLT, Nat.reduceLeDiff, Nat.reduceEqDiff, Nat.reduceAdd, Nat.reduceSub, Nat.reduceMul, Nat.reduceBEq, Int.reduceLT, Int.reduceLE, Int.reduceEq, Int.reduceNeg, Int.reduceAdd, Int.reduceSub, Int.reduceMul, Bool.false_eq_true, Bool.not_true, Bool.not_false, decide_eq_true_eq, and_self, true_and, and_true, reduceCtorEq, ne_eq, not_false_eq_true, not_true_eq_false, decide_true, decide_false, or_false, false_or, INTS, (show ¬ (64 : Int) < k.length by omega), (show ¬ (400 : Int) < p.length by omega), h1, h2, c_wvalid f r d k c hk, h3, c_litres p c' hp, h4]
  · simp (config := { maxSteps := 1000000 }) only [RUN, PATHS, BASE, FA, POL, start_tm, Heap.empty, reduceIte, Nat.reduceLT, Nat.reduceLeDiff, Nat.reduceEqDiff, Nat.reduceAdd, Nat.reduceSub, Nat.reduceMul, Nat.reduceBEq, Int.reduceLT, Int.reduceLE, Int.reduceEq, Int.reduceNeg, Int.reduceAdd, Int.reduceSub, Int.reduceMul, Bool.false_eq_true, Bool.not_true, Bool.not_false, decide_eq_true_eq, and_self, true_and, and_true, reduceCtorEq, ne_eq, not_false_eq_true, not_true_eq_false, decide_true, decide_false, or_false, false_or, INTS, (show ¬ (64 : Int) < k.length by omega), (show ¬ (400 : Int) < p.length by omega), h1, h2, c_wvalid f r d k c hk, h3, false_and]
end Go.Proofs.Ytbgdeimkemjklaa
