/-
  Right losses, and what a parcel loses.
-/
import Derived.Test.YthhhahkiflkemaaDoorC3
set_option linter.unusedSimpArgs false
set_option linter.unusedVariables false
set_option linter.unusedSectionVars false
namespace Go.Proofs.YthhhahkiflkemaaDoor
open Go GoV
set_option maxRecDepth 100000

theorem wrap_prod {a b c d : Int} (h : VALID a b ∧ VALID c d) : w64 (a * d) = a * d ∧ w64 (c * b) = c * b ∧ w64 (b * d) = b * d ∧ w64 (a * c) = a * c := by
  obtain ⟨⟨a1, a2, a3, a4, _⟩, ⟨b1, b2, b3, b4, _⟩⟩ := h
  have m1 := mul_bd (a := a) (n := d) (M := 1073741824) (N := 1073741824) ⟨by omega, by omega⟩ ⟨by omega, by omega⟩
  have m2 := mul_bd (a := c) (n := b) (M := 1073741824) (N := 1073741824) ⟨by omega, by omega⟩ ⟨by omega, by omega⟩
  have m3 := mul_bd (a := b) (n := d) (M := 1073741824) (N := 1073741824) ⟨by omega, by omega⟩ ⟨by omega, by omega⟩
  have m4 := mul_bd (a := a) (n := c) (M := 1073741824) (N := 1073741824) ⟨by omega, by omega⟩ ⟨by omega, by omega⟩
  exact ⟨i64_in (by unfold I64; omega), i64_in (by unfold I64; omega), i64_in (by unfold I64; omega), i64_in (by unfold I64; omega)⟩
theorem NUM : (((0 : Nat) : Int) = 0 ∧ ((1 : Nat) : Int) = 1 ∧ ((2 : Nat) : Int) = 2 ∧ ((3 : Nat) : Int) = 3 ∧ ((4 : Nat) : Int) = 4) ∧
    (IntKind.i64.wrap 0 = 0 ∧ IntKind.i64.wrap 1 = 1 ∧ IntKind.i64.wrap 2 = 2 ∧ IntKind.i64.wrap 3 = 3 ∧ IntKind.i64.wrap 4 = 4) ∧
    ((0 : Int).toNat = 0 ∧ (1 : Int).toNat = 1 ∧ (2 : Int).toNat = 2 ∧ (3 : Int).toNat = 3 ∧ (4 : Int).toNat = 4) ∧
    ((∀ cs, strip0 (.rop cs) = .rop (strip0L cs)) ∧ (∀ f cs, strip0 (.fn f cs) = .fn f (strip0L cs)) ∧ (∀ H cs, strip1 H (.rop cs) = .rop (strip1L H cs)) ∧ (∀ H f cs, strip1 H (.fn f cs) = .fn f (strip1L H cs)) ∧ (∀ H cs, strip2 H (.rop cs) = .rop (strip2L H cs)) ∧ (∀ H f cs, strip2 H (.fn f cs) = .fn f (strip2L H cs)) ∧ (∀ sz es c, strip0 (.vs sz es c) = .vs sz (strip0L es) c) ∧ (∀ H sz es c, strip1 H (.vs sz es c) = .vs sz (strip1L H es) c) ∧ (∀ H sz es c, strip2 H (.vs sz es c) = .vs sz (strip2L H es) c)) := by
  refine ⟨⟨rfl, rfl, rfl, rfl, rfl⟩, ⟨?_, ?_, ?_, ?_, ?_⟩, ⟨rfl, rfl, rfl, rfl, rfl⟩, ⟨fun _ => rfl, fun _ _ => rfl, fun _ _ => rfl, fun _ _ _ => rfl, fun _ _ => rfl, fun _ _ _ => rfl, fun _ _ _ => rfl, fun _ _ _ _ => rfl, fun _ _ _ _ => rfl⟩⟩ <;> exact i64_in (by unfold I64; omega)
theorem b_iff {p q : Prop} [Decidable p] [Decidable q] (h : p ↔ q) : some (CR.ret (PV.bool (decide p))) = some (CR.ret (PV.bool (decide q))) := by rw [decide_eq_decide.2 h]
theorem b_no {q : Prop} [Decidable q] (h : ¬ q) : some (CR.ret (PV.bool false)) = some (CR.ret (PV.bool (decide q))) := by rw [decide_eq_false h]
theorem b_and {p q : Prop} [Decidable p] [Decidable q] : (if p then some (CR.ret (PV.bool (decide q))) else some (CR.ret (PV.bool false))) = some (CR.ret (PV.bool (decide (p ∧ q)))) := by
  by_cases h : p <;> simp [h]
theorem b_nand {p q : Prop} [Decidable p] [Decidable q] : (if p then some (CR.ret (PV.bool false)) else some (CR.ret (PV.bool (decide q)))) = some (CR.ret (PV.bool (decide (¬ p ∧ q)))) := by
  by_cases h : p <;> simp [h]
theorem c_in (n lo hi : Int) : ap Tryd.prog pol 60 [I n, I lo, I hi] = some (.ret (.bool (decide (lo ≤ n ∧ n ≤ hi)))) := by
  rw [ap_eq _ Tryd.func60 rfl Tryd.ntmps60 Tryd.results60 (by kernel_rfl) rfl (by exact Nat.le_of_ble_eq_true rfl)]
  simp (config := { maxSteps := 1000000 }) only [RUN, PATHS, BASE, FA, POL, start_tm, Heap.empty, reduceIte, Nat.reduceLT, Nat.reduceLeDiff, Nat.reduceEqDiff, Nat.reduceAdd, Nat.reduceSub, Nat.reduceMul, Nat.reduceBEq, Int.reduceLT, Int.reduceLE, Int.reduceEq, Int.reduceNeg, Int.reduceAdd, Int.reduceSub, Int.reduceMul, Bool.false_eq_true, Bool.not_true, Bool.not_false, decide_eq_true_eq, and_self, true_and, and_true, reduceCtorEq, ne_eq, not_false_eq_true, not_true_eq_false, decide_true, decide_false, or_false, false_or, b_and]
theorem c_up (a b : Int) (h1 : 1 ≤ b) (h0 : 0 ≤ a) (hs : a + b ≤ 9223372036854775807) : ap Tryd.prog pol 37 [I a, I b] = some (.ret (I (UPD a b))) := by
  have e := Int.tdiv_eq_ediv_of_nonneg (a := a + b - 1) (b := b) (by omega)
  have q : 0 ≤ (a + b - 1) / b ∧ (a + b - 1) / b ≤ a + b - 1 := ⟨Int.ediv_nonneg (by omega) (by omega), Int.ediv_le_self _ (by omega)⟩
  rw [ap_eq _ Tryd.func37 rfl Tryd.ntmps37 Tryd.results37 (by kernel_rfl) rfl (by exact Nat.le_of_ble_eq_true rfl)]
  simp (config := { maxSteps := 1000000 }) only [RUN, PATHS, BASE, FA, POL, start_tm, Heap.empty, reduceIte, Nat.reduceLT, Nat.reduceLeDiff, Nat.reduceEqDiff, Nat.reduceAdd, Nat.reduceSub, Nat.reduceMul, Nat.reduceBEq, Int.reduceLT, Int.reduceLE, Int.reduceEq, Int.reduceNeg, Int.reduceAdd, Int.reduceSub, Int.reduceMul, Bool.false_eq_true, Bool.not_true, Bool.not_false, decide_eq_true_eq, and_self, true_and, and_true, reduceCtorEq, ne_eq, not_false_eq_true, not_true_eq_false, decide_true, decide_false, or_false, false_or, i64_in (x := a + b) (by unfold I64; omega), i64_in (x := a + b - 1) (by unfold I64; omega), (show ¬ b = 0 by omega), e, i64_in (x := (a + b - 1) / b) (by unfold I64; omega)]
  rfl
theorem c_refup (a b : Int) (h1 : 1 ≤ b) (h0 : 0 ≤ a) (hs : a + b ≤ 9223372036854775807) : ap Tryd.prog pol 45 [I a, I b] = some (.ret (I (UPD a b))) := by
  have e := Int.tdiv_eq_ediv_of_nonneg (a := a + b - 1) (b := b) (by omega)
  have q : 0 ≤ (a + b - 1) / b ∧ (a + b - 1) / b ≤ a + b - 1 := ⟨Int.ediv_nonneg (by omega) (by omega), Int.ediv_le_self _ (by omega)⟩
  rw [ap_eq _ Tryd.func45 rfl Tryd.ntmps45 Tryd.results45 (by kernel_rfl) rfl (by exact Nat.le_of_ble_eq_true rfl)]
  simp (config := { maxSteps := 1000000 }) only [RUN, PATHS, BASE, FA, POL, start_tm, Heap.empty, reduceIte, Nat.reduceLT, Nat.reduceLeDiff, Nat.reduceEqDiff, Nat.reduceAdd, Nat.reduceSub, Nat.reduceMul, Nat.reduceBEq, Int.reduceLT, Int.reduceLE, Int.reduceEq, Int.reduceNeg, Int.reduceAdd, Int.reduceSub, Int.reduceMul, Bool.false_eq_true, Bool.not_true, Bool.not_false, decide_eq_true_eq, and_self, true_and, and_true, reduceCtorEq, ne_eq, not_false_eq_true, not_true_eq_false, decide_true, decide_false, or_false, false_or, i64_in (x := a + b) (by unfold I64; omega), i64_in (x := a + b - 1) (by unfold I64; omega), (show ¬ b = 0 by omega), e, i64_in (x := (a + b - 1) / b) (by unfold I64; omega)]
  rfl
/-- A fraction from 0 to 1; two such in order. -/
def SH (n d : Int) : Prop := VALID n d ∧ 0 ≤ n ∧ n ≤ d
instance (n d : Int) : Decidable (SH n d) := by unfold SH; infer_instance
def SHS (a b c d : Int) : Prop := SH a b ∧ SH c d ∧ a * d ≤ c * b
instance (a b c d : Int) : Decidable (SHS a b c d) := by unfold SHS; infer_instance
theorem c_sh (n d : Int) (hn : I64 n) (hd : I64 d) : ap Tryd.prog pol 74 [rat n d] = some (.ret (.bool (decide (SH n d)))) := by
  rw [ap_eq _ Tryd.func74 rfl Tryd.ntmps74 Tryd.results74 (by kernel_rfl) rfl (by exact Nat.le_of_ble_eq_true rfl)]
  by_cases h : VALID n d
  · simp (config := { maxSteps := 1000000 }) only [RUN, PATHS, BASE, FA, POL, start_tm, Heap.empty, reduceIte, Nat.reduceLT, Nat.reduceLeDiff, Nat.reduceEqDiff, Nat.reduceAdd, Nat.reduceSub, Nat.reduceMul, Nat.reduceBEq, Int.reduceLT, Int.reduceLE, Int.reduceEq, Int.reduceNeg, Int.reduceAdd, Int.reduceSub, Int.reduceMul, Bool.false_eq_true, Bool.not_true, Bool.not_false, decide_eq_true_eq, and_self, true_and, and_true, reduceCtorEq, ne_eq, not_false_eq_true, not_true_eq_false, decide_true, decide_false, or_false, false_or, NUM, c_check n d hn hd, h, c_in]
    refine b_iff ?_
    simp only [SH, h, true_and]
  · simp (config := { maxSteps := 1000000 }) only [RUN, PATHS, BASE, FA, POL, start_tm, Heap.empty, reduceIte, Nat.reduceLT, Nat.reduceLeDiff, Nat.reduceEqDiff, Nat.reduceAdd, Nat.reduceSub, Nat.reduceMul, Nat.reduceBEq, Int.reduceLT, Int.reduceLE, Int.reduceEq, Int.reduceNeg, Int.reduceAdd, Int.reduceSub, Int.reduceMul, Bool.false_eq_true, Bool.not_true, Bool.not_false, decide_eq_true_eq, and_self, true_and, and_true, reduceCtorEq, ne_eq, not_false_eq_true, not_true_eq_false, decide_true, decide_false, or_false, false_or, NUM, c_check n d hn hd, h]
    exact b_no fun g => h g.1
theorem c_refsh (n d : Int) (hn : I64 n) (hd : I64 d) : ap Tryd.prog pol 76 [rat n d] = some (.ret (.bool (decide (SH n d)))) := by
  rw [ap_eq _ Tryd.func76 rfl Tryd.ntmps76 Tryd.results76 (by kernel_rfl) rfl (by exact Nat.le_of_ble_eq_true rfl)]
  simp (config := { maxSteps := 1000000 }) only [RUN, PATHS, BASE, FA, POL, start_tm, Heap.empty, reduceIte, Nat.reduceLT, Nat.reduceLeDiff, Nat.reduceEqDiff, Nat.reduceAdd, Nat.reduceSub, Nat.reduceMul, Nat.reduceBEq, Int.reduceLT, Int.reduceLE, Int.reduceEq, Int.reduceNeg, Int.reduceAdd, Int.reduceSub, Int.reduceMul, Bool.false_eq_true, Bool.not_true, Bool.not_false, decide_eq_true_eq, and_self, true_and, and_true, reduceCtorEq, ne_eq, not_false_eq_true, not_true_eq_false, decide_true, decide_false, or_false, false_or, NUM, c_valid n d hn hd, b_and]
  exact b_iff Iff.rfl
theorem CMP_le (x y : Int) : CMP x y ≤ 0 ↔ x ≤ y := by
  unfold CMP; split
  · omega
  · split <;> omega
theorem c_shares (a b c d : Int) (ha : I64 a) (hb : I64 b) (hc : I64 c) (hd : I64 d) : ap Tryd.prog pol 61 [.agg [I a, I b, I c, I d]] = some (.ret (.bool (decide (SHS a b c d)))) := by
  rw [ap_eq _ Tryd.func61 rfl Tryd.ntmps61 Tryd.results61 (by kernel_rfl) rfl (by exact Nat.le_of_ble_eq_true rfl)]
  by_cases h1 : SH a b
  rotate_left
  · simp (config := { maxSteps := 1000000 }) only [RUN, PATHS, BASE, FA, POL, start_tm, Heap.empty, reduceIte, Nat.reduceLT, Nat.reduceLeDiff, Nat.reduceEqDiff, Nat.reduceAdd, Nat.reduceSub, Nat.reduceMul, Nat.reduceBEq, Int.reduceLT, Int.reduceLE, Int.reduceEq, Int.reduceNeg, Int.reduceAdd, Int.reduceSub, Int.reduceMul, Bool.false_eq_true, Bool.not_true, Bool.not_false, decide_eq_true_eq, and_self, true_and, and_true, reduceCtorEq, ne_eq, not_false_eq_true, not_true_eq_false, decide_true, decide_false, or_false, false_or, NUM, c_sh a b ha hb, h1]
    exact b_no fun g => h1 g.1
  by_cases h2 : SH c d
  rotate_left
  · simp (config := { maxSteps := 1000000 }) only [RUN, PATHS, BASE, FA, POL, start_tm, Heap.empty, reduceIte, Nat.reduceLT, Nat.reduceLeDiff, Nat.reduceEqDiff, Nat.reduceAdd, Nat.reduceSub, Nat.reduceMul, Nat.reduceBEq, Int.reduceLT, Int.reduceLE, Int.reduceEq, Int.reduceNeg, Int.reduceAdd, Int.reduceSub, Int.reduceMul, Bool.false_eq_true, Bool.not_true, Bool.not_false, decide_eq_true_eq, and_self, true_and, and_true, reduceCtorEq, ne_eq, not_false_eq_true, not_true_eq_false, decide_true, decide_false, or_false, false_or, NUM, c_sh a b ha hb, c_sh c d hc hd, h1, h2]
    exact b_no fun g => h2 g.2.1
  have w := wrap_prod ⟨h1.1, h2.1⟩
  have e : CMPR a b c d = (CMP (a * d) (c * b), 0) := by simp only [CMPR, h1.1, h2.1, and_self, if_true, w]
  simp (config := { maxSteps := 1000000 }) only [RUN, PATHS, BASE, FA, POL, start_tm, Heap.empty, reduceIte, Nat.reduceLT, Nat.reduceLeDiff, Nat.reduceEqDiff, Nat.reduceAdd, Nat.reduceSub, Nat.reduceMul, Nat.reduceBEq, Int.reduceLT, Int.reduceLE, Int.reduceEq, Int.reduceNeg, Int.reduceAdd, Int.reduceSub, Int.reduceMul, Bool.false_eq_true, Bool.not_true, Bool.not_false, decide_eq_true_eq, and_self, true_and, and_true, reduceCtorEq, ne_eq, not_false_eq_true, not_true_eq_false, decide_true, decide_false, or_false, false_or, NUM, c_sh a b ha hb, c_sh c d hc hd, h1, h2, c_cmp a b c d ha hb hc hd, e]
  refine b_iff ?_
  rw [CMP_le]
  simp only [SHS, h1, h2, true_and]
theorem c_refshares (a b c d : Int) (ha : I64 a) (hb : I64 b) (hc : I64 c) (hd : I64 d) : ap Tryd.prog pol 69 [.agg [I a, I b, I c, I d]] = some (.ret (.bool (decide (SHS a b c d)))) := by
  rw [ap_eq _ Tryd.func69 rfl Tryd.ntmps69 Tryd.results69 (by kernel_rfl) rfl (by exact Nat.le_of_ble_eq_true rfl)]
  by_cases h1 : SH a b
  rotate_left
  · simp (config := { maxSteps := 1000000 }) only [RUN, PATHS, BASE, FA, POL, start_tm, Heap.empty, reduceIte, Nat.reduceLT, Nat.reduceLeDiff, Nat.reduceEqDiff, Nat.reduceAdd, Nat.reduceSub, Nat.reduceMul, Nat.reduceBEq, Int.reduceLT, Int.reduceLE, Int.reduceEq, Int.reduceNeg, Int.reduceAdd, Int.reduceSub, Int.reduceMul, Bool.false_eq_true, Bool.not_true, Bool.not_false, decide_eq_true_eq, and_self, true_and, and_true, reduceCtorEq, ne_eq, not_false_eq_true, not_true_eq_false, decide_true, decide_false, or_false, false_or, NUM, c_refsh a b ha hb, h1]
    exact b_no fun g => h1 g.1
  by_cases h2 : SH c d
  rotate_left
  · simp (config := { maxSteps := 1000000 }) only [RUN, PATHS, BASE, FA, POL, start_tm, Heap.empty, reduceIte, Nat.reduceLT, Nat.reduceLeDiff, Nat.reduceEqDiff, Nat.reduceAdd, Nat.reduceSub, Nat.reduceMul, Nat.reduceBEq, Int.reduceLT, Int.reduceLE, Int.reduceEq, Int.reduceNeg, Int.reduceAdd, Int.reduceSub, Int.reduceMul, Bool.false_eq_true, Bool.not_true, Bool.not_false, decide_eq_true_eq, and_self, true_and, and_true, reduceCtorEq, ne_eq, not_false_eq_true, not_true_eq_false, decide_true, decide_false, or_false, false_or, NUM, c_refsh a b ha hb, c_refsh c d hc hd, h1, h2]
    exact b_no fun g => h2 g.2.1
  have w := wrap_prod ⟨h1.1, h2.1⟩
  simp (config := { maxSteps := 1000000 }) only [RUN, PATHS, BASE, FA, POL, start_tm, Heap.empty, reduceIte, Nat.reduceLT, Nat.reduceLeDiff, Nat.reduceEqDiff, Nat.reduceAdd, Nat.reduceSub, Nat.reduceMul, Nat.reduceBEq, Int.reduceLT, Int.reduceLE, Int.reduceEq, Int.reduceNeg, Int.reduceAdd, Int.reduceSub, Int.reduceMul, Bool.false_eq_true, Bool.not_true, Bool.not_false, decide_eq_true_eq, and_self, true_and, and_true, reduceCtorEq, ne_eq, not_false_eq_true, not_true_eq_false, decide_true, decide_false, or_false, false_or, NUM, c_refsh a b ha hb, c_refsh c d hc hd, h1, h2, c_less c d a b hc hd ha hb, w]
  by_cases h3 : a * d ≤ c * b
  · rw [decide_eq_true (show SHS a b c d from ⟨h1, h2, h3⟩), decide_eq_true (show ¬ c * b < a * d by omega)]
  · rw [decide_eq_false (show ¬ SHS a b c d from fun g => h3 g.2.2), decide_eq_false (show ¬ ¬ c * b < a * d by omega)]
theorem c_ordered (lo hi most : Int) : ap Tryd.prog pol 62 [.agg [I lo, I hi], I most] = some (.ret (.bool (decide (0 ≤ lo ∧ lo ≤ hi ∧ hi ≤ most)))) := by
  rw [ap_eq _ Tryd.func62 rfl Tryd.ntmps62 Tryd.results62 (by kernel_rfl) rfl (by exact Nat.le_of_ble_eq_true rfl)]
  simp (config := { maxSteps := 1000000 }) only [RUN, PATHS, BASE, FA, POL, start_tm, Heap.empty, reduceIte, Nat.reduceLT, Nat.reduceLeDiff, Nat.reduceEqDiff, Nat.reduceAdd, Nat.reduceSub, Nat.reduceMul, Nat.reduceBEq, Int.reduceLT, Int.reduceLE, Int.reduceEq, Int.reduceNeg, Int.reduceAdd, Int.reduceSub, Int.reduceMul, Bool.false_eq_true, Bool.not_true, Bool.not_false, decide_eq_true_eq, and_self, true_and, and_true, reduceCtorEq, ne_eq, not_false_eq_true, not_true_eq_false, decide_true, decide_false, or_false, false_or, b_and]
theorem c_refwithin (lo hi most : Int) : ap Tryd.prog pol 68 [.agg [I lo, I hi], I most] = some (.ret (.bool (decide (0 ≤ lo ∧ lo ≤ hi ∧ hi ≤ most)))) := by
  rw [ap_eq _ Tryd.func68 rfl Tryd.ntmps68 Tryd.results68 (by kernel_rfl) rfl (by exact Nat.le_of_ble_eq_true rfl)]
  simp (config := { maxSteps := 1000000 }) only [RUN, PATHS, BASE, FA, POL, start_tm, Heap.empty, reduceIte, Nat.reduceLT, Nat.reduceLeDiff, Nat.reduceEqDiff, Nat.reduceAdd, Nat.reduceSub, Nat.reduceMul, Nat.reduceBEq, Int.reduceLT, Int.reduceLE, Int.reduceEq, Int.reduceNeg, Int.reduceAdd, Int.reduceSub, Int.reduceMul, Bool.false_eq_true, Bool.not_true, Bool.not_false, decide_eq_true_eq, and_self, true_and, and_true, reduceCtorEq, ne_eq, not_false_eq_true, not_true_eq_false, decide_true, decide_false, or_false, false_or, b_and]
/-- A reach. -/
structure Rch where
  (nm : ByteArray) (up dl cp bk si e0 e1 s0 s1 s2 s3 : Int)
def Rch.OK (x : Rch) : Prop := I64 x.s0 ∧ I64 x.s1 ∧ I64 x.s2 ∧ I64 x.s3
abbrev rch (x : Rch) : PV := .agg [.str x.nm, I x.up, I x.dl, I x.cp, I x.bk, I x.si, I x.e0, I x.e1, I x.s0, I x.s1, I x.s2, I x.s3]
def los (x : Rch) : Los := ⟨x.e0, x.e1, x.s0, x.s1, x.s2, x.s3⟩
def RIGHT (x : Rch) : Prop := (0 ≤ x.e0 ∧ x.e0 ≤ x.e1 ∧ x.e1 ≤ 1073741824) ∧ SHS x.s0 x.s1 x.s2 x.s3
instance (x : Rch) : Decidable (RIGHT x) := by unfold RIGHT; infer_instance
theorem RIGHT.RT {x : Rch} (h : RIGHT x) : (los x).RT := by
  obtain ⟨⟨h1, h2, h3⟩, ⟨⟨v1, v2, _⟩, a2, a3⟩, ⟨⟨w1, w2, _⟩, b2, b3⟩, h4⟩ := h
  exact ⟨h1, h2, h3, a2, a3, b2, b3, v1, w1, v2, w2, h4⟩
def VC (x : Rch) (n : Int) : Int := if RIGHT x then (if 0 ≤ n ∧ n ≤ 1073741824 then 0 else 1) else 210
theorem c_valid47 (x : Rch) (hx : x.OK) (n : Int) : ap Tryd.prog pol 47 [rch x, I n] = some (.ret (I (VC x n))) := by
  obtain ⟨nm, up, dl, cp, bk, si, e0, e1, s0, s1, s2, s3⟩ := x
  obtain ⟨ha, hb, hc, hd⟩ := hx
  simp only at ha hb hc hd
  rw [ap_eq _ Tryd.func47 rfl Tryd.ntmps47 Tryd.results47 (by kernel_rfl) rfl (by exact Nat.le_of_ble_eq_true rfl)]
  unfold VC RIGHT
  simp only
  by_cases h1 : 0 ≤ e0 ∧ e0 ≤ e1 ∧ e1 ≤ 1073741824
  rotate_left
  · simp (config := { maxSteps := 1000000 }) only [RUN, PATHS, BASE, FA, POL, start_tm, Heap.empty, reduceIte, Nat.reduceLT, Nat.reduceLeDiff, Nat.reduceEqDiff, Nat.reduceAdd, Nat.reduceSub, Nat.reduceMul, Nat.reduceBEq, Int.reduceLT, Int.reduceLE, Int.reduceEq, Int.reduceNeg, Int.reduceAdd, Int.reduceSub, Int.reduceMul, Bool.false_eq_true, Bool.not_true, Bool.not_false, decide_eq_true_eq, and_self, true_and, and_true, reduceCtorEq, ne_eq, not_false_eq_true, not_true_eq_false, decide_true, decide_false, or_false, false_or, NUM, c_ordered, h1]
    simp only [false_and, if_false]
  by_cases h2 : SHS s0 s1 s2 s3
  rotate_left
  · simp (config := { maxSteps := 1000000 }) only [RUN, PATHS, BASE, FA, POL, start_tm, Heap.empty, reduceIte, Nat.reduceLT, Nat.reduceLeDiff, Nat.reduceEqDiff, Nat.reduceAdd, Nat.reduceSub, Nat.reduceMul, Nat.reduceBEq, Int.reduceLT, Int.reduceLE, Int.reduceEq, Int.reduceNeg, Int.reduceAdd, Int.reduceSub, Int.reduceMul, Bool.false_eq_true, Bool.not_true, Bool.not_false, decide_eq_true_eq, and_self, true_and, and_true, reduceCtorEq, ne_eq, not_false_eq_true, not_true_eq_false, decide_true, decide_false, or_false, false_or, NUM, c_ordered, h1, c_shares s0 s1 s2 s3 ha hb hc hd, h2]
  by_cases h3 : 0 ≤ n ∧ n ≤ 1073741824
  · simp (config := { maxSteps := 1000000 }) only [RUN, PATHS, BASE, FA, POL, start_tm, Heap.empty, reduceIte, Nat.reduceLT, Nat.reduceLeDiff, Nat.reduceEqDiff, Nat.reduceAdd, Nat.reduceSub, Nat.reduceMul, Nat.reduceBEq, Int.reduceLT, Int.reduceLE, Int.reduceEq, Int.reduceNeg, Int.reduceAdd, Int.reduceSub, Int.reduceMul, Bool.false_eq_true, Bool.not_true, Bool.not_false, decide_eq_true_eq, and_self, true_and, and_true, reduceCtorEq, ne_eq, not_false_eq_true, not_true_eq_false, decide_true, decide_false, or_false, false_or, NUM, c_ordered, h1, c_shares s0 s1 s2 s3 ha hb hc hd, h2, c_in, h3]
  · simp (config := { maxSteps := 1000000 }) only [RUN, PATHS, BASE, FA, POL, start_tm, Heap.empty, reduceIte, Nat.reduceLT, Nat.reduceLeDiff, Nat.reduceEqDiff, Nat.reduceAdd, Nat.reduceSub, Nat.reduceMul, Nat.reduceBEq, Int.reduceLT, Int.reduceLE, Int.reduceEq, Int.reduceNeg, Int.reduceAdd, Int.reduceSub, Int.reduceMul, Bool.false_eq_true, Bool.not_true, Bool.not_false, decide_eq_true_eq, and_self, true_and, and_true, reduceCtorEq, ne_eq, not_false_eq_true, not_true_eq_false, decide_true, decide_false, or_false, false_or, NUM, c_ordered, h1, c_shares s0 s1 s2 s3 ha hb hc hd, h2, c_in, h3]
theorem c_right (x : Rch) (hx : x.OK) : ap Tryd.prog pol 49 [rch x] = some (.ret (.bool (decide (RIGHT x)))) := by
  obtain ⟨nm, up, dl, cp, bk, si, e0, e1, s0, s1, s2, s3⟩ := x
  obtain ⟨ha, hb, hc, hd⟩ := hx
  simp only at ha hb hc hd
  rw [ap_eq _ Tryd.func49 rfl Tryd.ntmps49 Tryd.results49 (by kernel_rfl) rfl (by exact Nat.le_of_ble_eq_true rfl)]
  simp (config := { maxSteps := 1000000 }) only [RUN, PATHS, BASE, FA, POL, start_tm, Heap.empty, reduceIte, Nat.reduceLT, Nat.reduceLeDiff, Nat.reduceEqDiff, Nat.reduceAdd, Nat.reduceSub, Nat.reduceMul, Nat.reduceBEq, Int.reduceLT, Int.reduceLE, Int.reduceEq, Int.reduceNeg, Int.reduceAdd, Int.reduceSub, Int.reduceMul, Bool.false_eq_true, Bool.not_true, Bool.not_false, decide_eq_true_eq, and_self, true_and, and_true, reduceCtorEq, ne_eq, not_false_eq_true, not_true_eq_false, decide_true, decide_false, or_false, false_or, NUM, c_refwithin, c_refshares s0 s1 s2 s3 ha hb hc hd, b_and]
  exact b_iff Iff.rfl
section
variable (x : Rch) (h : RIGHT x) (v : Int) (hv : 0 ≤ v ∧ v ≤ 1073741824)
include h hv
theorem c_lost (hx : x.OK) : ap Tryd.prog pol 48 [rch x, I v] = some (.ret (.agg [I (LO (los x) v), I (HI (los x) v)])) := by
  have p1 := lo_part h.RT hv.1
  have p2 := hi_part h.RT hv.1
  have hr := h.RT
  have v1 := h.2.1.1
  have v2 := h.2.2.1.1
  obtain ⟨nm, up, dl, cp, bk, si, e0, e1, s0, s1, s2, s3⟩ := x
  obtain ⟨ha, hb, hc, hd⟩ := hx
  have he := h.1
  simp only [los] at *
  have u := UPD_neg (x := s2 * v) (d := s3) hr.db
  rw [← Int.neg_mul] at u
  have vi : I64 v := by unfold I64; omega
  have t1 := c_times s0 s1 v ha hb vi
  have t2 := c_times s2 s3 v hc hd vi
  simp only [TIMES, v1, v2, if_true, if_neg (show ¬ (v < -1073741824 ∨ 1073741824 < v) by omega)] at t1 t2
  rw [u] at t2
  rw [ap_eq _ Tryd.func48 rfl Tryd.ntmps48 Tryd.results48 (by kernel_rfl) rfl (by exact Nat.le_of_ble_eq_true rfl)]
  by_cases h0 : v = 0
  · subst h0
    simp (config := { maxSteps := 1000000 }) only [RUN, PATHS, BASE, FA, POL, start_tm, Heap.empty, reduceIte, Nat.reduceLT, Nat.reduceLeDiff, Nat.reduceEqDiff, Nat.reduceAdd, Nat.reduceSub, Nat.reduceMul, Nat.reduceBEq, Int.reduceLT, Int.reduceLE, Int.reduceEq, Int.reduceNeg, Int.reduceAdd, Int.reduceSub, Int.reduceMul, Bool.false_eq_true, Bool.not_true, Bool.not_false, decide_eq_true_eq, and_self, true_and, and_true, reduceCtorEq, ne_eq, not_false_eq_true, not_true_eq_false, decide_true, decide_false, or_false, false_or, NUM]
    simp [LO, HI]
  · simp (config := { maxSteps := 1000000 }) only [RUN, PATHS, BASE, FA, POL, start_tm, Heap.empty, reduceIte, Nat.reduceLT, Nat.reduceLeDiff, Nat.reduceEqDiff, Nat.reduceAdd, Nat.reduceSub, Nat.reduceMul, Nat.reduceBEq, Int.reduceLT, Int.reduceLE, Int.reduceEq, Int.reduceNeg, Int.reduceAdd, Int.reduceSub, Int.reduceMul, Bool.false_eq_true, Bool.not_true, Bool.not_false, decide_eq_true_eq, and_self, true_and, and_true, reduceCtorEq, ne_eq, not_false_eq_true, not_true_eq_false, decide_true, decide_false, or_false, false_or, NUM, h0, t1, t2, i64_in (x := e0 + s0 * v / s1) (by unfold I64; omega), i64_in (x := e1 + UPD (s2 * v) s3) (by unfold I64; omega)]
    simp [LO, HI, h0]
theorem c_reflost : ap Tryd.prog pol 50 [rch x, I v] = some (.ret (.agg [I (LO (los x) v), I (HI (los x) v)])) := by
  have p1 := lo_part h.RT hv.1
  have p2 := hi_part h.RT hv.1
  have hr := h.RT
  obtain ⟨nm, up, dl, cp, bk, si, e0, e1, s0, s1, s2, s3⟩ := x
  have he := h.1
  simp only [los] at *
  have m1 := Int.mul_nonneg hr.na hv.1
  have m2 := Int.mul_nonneg hr.nc hv.1
  have k1 := hr.da
  have k2 := hr.db
  have k3 := hr.dc
  have k4 := hr.dd
  have k5 := hr.nb
  have k6 := hr.nd
  simp only at m1 m2 k1 k2 k3 k4 k5 k6
  have b1 := mul_bd (a := s0) (n := v) (M := 1073741824) (N := 1073741824) ⟨by have := hr.na; simp only at this; omega, by omega⟩ ⟨by omega, by omega⟩
  have b2 := mul_bd (a := s2) (n := v) (M := 1073741824) (N := 1073741824) ⟨by have := hr.nc; simp only at this; omega, by omega⟩ ⟨by omega, by omega⟩
  have e := Int.tdiv_eq_ediv_of_nonneg (a := s0 * v) (b := s1) m1
  rw [ap_eq _ Tryd.func50 rfl Tryd.ntmps50 Tryd.results50 (by kernel_rfl) rfl (by exact Nat.le_of_ble_eq_true rfl)]
  by_cases h0 : v = 0
  · subst h0
    simp (config := { maxSteps := 1000000 }) only [RUN, PATHS, BASE, FA, POL, start_tm, Heap.empty, reduceIte, Nat.reduceLT, Nat.reduceLeDiff, Nat.reduceEqDiff, Nat.reduceAdd, Nat.reduceSub, Nat.reduceMul, Nat.reduceBEq, Int.reduceLT, Int.reduceLE, Int.reduceEq, Int.reduceNeg, Int.reduceAdd, Int.reduceSub, Int.reduceMul, Bool.false_eq_true, Bool.not_true, Bool.not_false, decide_eq_true_eq, and_self, true_and, and_true, reduceCtorEq, ne_eq, not_false_eq_true, not_true_eq_false, decide_true, decide_false, or_false, false_or, NUM]
    rfl
  · simp (config := { maxSteps := 1000000 }) only [RUN, PATHS, BASE, FA, POL, start_tm, Heap.empty, reduceIte, Nat.reduceLT, Nat.reduceLeDiff, Nat.reduceEqDiff, Nat.reduceAdd, Nat.reduceSub, Nat.reduceMul, Nat.reduceBEq, Int.reduceLT, Int.reduceLE, Int.reduceEq, Int.reduceNeg, Int.reduceAdd, Int.reduceSub, Int.reduceMul, Bool.false_eq_true, Bool.not_true, Bool.not_false, decide_eq_true_eq, and_self, true_and, and_true, reduceCtorEq, ne_eq, not_false_eq_true, not_true_eq_false, decide_true, decide_false, or_false, false_or, NUM, h0, Int.mul_comm v, i64_in (x := s0 * v) (by unfold I64; omega), i64_in (x := s2 * v) (by unfold I64; omega), e, (show ¬ s1 = 0 by omega), c_refup (s2 * v) s3 k2 m2 (by omega), i64_in (x := s0 * v / s1) (by unfold I64; omega), i64_in (x := e0 + s0 * v / s1) (by unfold I64; omega), i64_in (x := e1 + UPD (s2 * v) s3) (by unfold I64; omega)]
    simp [LO, HI, h0]
end
end Go.Proofs.YthhhahkiflkemaaDoor
