/-
  The functions of package stakes: which variables other frames reach; numbers; stakes and forecasts.
-/
import Derived.Test.YtnabgahkdomeoaaFa
import Derived.IntWalk
set_option linter.unusedSimpArgs false
set_option linter.unusedVariables false
set_option linter.unusedSectionVars false
namespace Go.Proofs.Ytnabgahkdomeoaa
open Go GoV
set_option maxRecDepth 100000

/-- Which variables other frames reach; which functions are called apart. -/
def heapF (f : Nat) : List Nat := if f = 12 then [5, 6] else if f = 29 then [1000002, 1000003] else if f = 24 then [4] else if f = 45 then [1000002, 1000003] else if f = 19 then [6, 10] else []
def accsF (f : Nat) : List Nat := if f = 23 then [4] else if f = 24 then [4] else if f = 8 then [15, 16] else if f = 16 then [11] else if f = 19 then [6] else []
def inF (f : Nat) : Bool := f == 46 || f == 62 || f == 34 || f == 54 || f == 65 || f == 66 || f == 70 || f == 71 || f == 38 || f == 40
def pol : Pol := ⟨heapF, accsF, fun _ => [], fun f => !inF f⟩
theorem POL : (∀ f, pol.accs f = accsF f) ∧ (∀ f, pol.heap f = heapF f) ∧ (∀ f, pol.muts f = []) ∧ (∀ f, pol.iso f = !inF f) ∧
    (∀ f, heapF f = if f = 12 then [5, 6] else if f = 29 then [1000002, 1000003] else if f = 24 then [4] else if f = 45 then [1000002, 1000003] else if f = 19 then [6, 10] else []) ∧
    (∀ f, accsF f = if f = 23 then [4] else if f = 24 then [4] else if f = 8 then [15, 16] else if f = 16 then [11] else if f = 19 then [6] else []) ∧
    (∀ f, inF f = (f == 46 || f == 62 || f == 34 || f == 54 || f == 65 || f == 66 || f == 70 || f == 71 || f == 38 || f == 40)) :=
  ⟨fun _ => rfl, fun _ => rfl, fun _ => rfl, fun _ => rfl, fun _ => rfl, fun _ => rfl, fun _ => rfl⟩
abbrev I (n : Int) : PV := .int .i64 n
abbrev U (n : Int) : PV := .int .u64 n
theorem wrap_u64 (n : Int) : IntKind.u64.wrap n = n % 18446744073709551616 := by simp [IntKind.wrap, IntKind.bits, IntKind.signed]
theorem wrap_i64 (n : Int) : IntKind.i64.wrap n = (n + 9223372036854775808) % 18446744073709551616 - 9223372036854775808 := by rw [IntKind.wrap_i64]
def I64 (x : Int) : Prop := -9223372036854775808 ≤ x ∧ x ≤ 9223372036854775807
def U64 (x : Int) : Prop := 0 ≤ x ∧ x ≤ 18446744073709551615
theorem u64_in {x : Int} (h : U64 x) : IntKind.u64.wrap x = x := by
  unfold U64 at h; rw [wrap_u64]; omega
theorem i64_in {x : Int} (h : I64 x) : IntKind.i64.wrap x = x := IntWalk.i64_in x h
structure Rg where
  (lo hi : Int)
abbrev rg (x : Rg) : PV := .agg [I x.lo, I x.hi]
structure Stk where
  (b p d r : Int)
abbrev stk (x : Stk) : PV := .agg [I x.b, I x.p, I x.d, I x.r]
structure Pst where
  (b : Int) (bo : List Rg) (cb : Option Nat) (se : List Int) (cs : Option Nat)
abbrev pst (x : Pst) : PV := .agg [I x.b, .vs 2 (x.bo.map rg) x.cb, .vs 1 (x.se.map I) x.cs]
theorem map_get {α : Type} {f : α → PV} {l : List α} {k : Nat} {x : α} (h : l[k]? = some x) : (l.map f)[k]? = some (f x) := by simp [h]
theorem all_take {α : Type} {P : α → Prop} {l : List α} {j : Nat} {x : α} (e : l[j]? = some x) : (∀ y ∈ l.take (j + 1), P y) ↔ (∀ y ∈ l.take j, P y) ∧ P x := by
  rw [List.take_add_one, e]
  constructor
  · intro h; exact ⟨fun y hy => h y (by simp [hy]), h x (by simp)⟩
  · rintro ⟨h1, h2⟩ y hy
    simp only [Option.toList_some, List.mem_append, List.mem_singleton] at hy
    rcases hy with hy | rfl
    · exact h1 y hy
    · exact h2
section
variable {α : Type} (f : α → PV)
theorem STR (h0 : ∀ x, strip0 (f x) = f x) (h1 : ∀ H x, strip1 H (f x) = f x) (h2 : ∀ H x, strip2 H (f x) = f x) :
    (∀ l : List α, strip0L (l.map f) = l.map f) ∧ (∀ l : List α, (l.map f).map strip0 = l.map f) ∧ (∀ H (l : List α), (l.map f).map (strip1 H) = l.map f) ∧ (∀ H (l : List α), (l.map f).map (strip2 H) = l.map f) ∧ (∀ H (l : List α), strip1L H (l.map f) = l.map f) ∧ (∀ H (l : List α), strip2L H (l.map f) = l.map f) := by
  refine ⟨fun l => ?_, fun l => ?_, fun H l => ?_, fun H l => ?_, fun H l => ?_, fun H l => ?_⟩
  · rw [strip0L_map]; simp [h0]
  · simp [h0]
  · simp [h1]
  · simp [h2]
  · rw [strip1L_map]; simp [h1]
  · rw [strip2L_map]; simp [h2]
end
theorem SRG : (∀ l : List Rg, strip0L (l.map rg) = l.map rg) ∧ (∀ l : List Rg, (l.map rg).map strip0 = l.map rg) ∧ (∀ H (l : List Rg), (l.map rg).map (strip1 H) = l.map rg) ∧ (∀ H (l : List Rg), (l.map rg).map (strip2 H) = l.map rg) ∧ (∀ H (l : List Rg), strip1L H (l.map rg) = l.map rg) ∧ (∀ H (l : List Rg), strip2L H (l.map rg) = l.map rg) := STR rg (fun _ => rfl) (fun _ _ => rfl) (fun _ _ => rfl)
theorem SIN : (∀ l : List Int, strip0L (l.map I) = l.map I) ∧ (∀ l : List Int, (l.map I).map strip0 = l.map I) ∧ (∀ H (l : List Int), (l.map I).map (strip1 H) = l.map I) ∧ (∀ H (l : List Int), (l.map I).map (strip2 H) = l.map I) ∧ (∀ H (l : List Int), strip1L H (l.map I) = l.map I) ∧ (∀ H (l : List Int), strip2L H (l.map I) = l.map I) := STR I (fun _ => rfl) (fun _ _ => rfl) (fun _ _ => rfl)
theorem SST : (∀ l : List Stk, strip0L (l.map stk) = l.map stk) ∧ (∀ l : List Stk, (l.map stk).map strip0 = l.map stk) ∧ (∀ H (l : List Stk), (l.map stk).map (strip1 H) = l.map stk) ∧ (∀ H (l : List Stk), (l.map stk).map (strip2 H) = l.map stk) ∧ (∀ H (l : List Stk), strip1L H (l.map stk) = l.map stk) ∧ (∀ H (l : List Stk), strip2L H (l.map stk) = l.map stk) := STR stk (fun _ => rfl) (fun _ _ => rfl) (fun _ _ => rfl)
theorem pst_0 (x : Pst) : strip0 (pst x) = pst x := by
  show PV.agg [I x.b, .vs 2 (strip0L (x.bo.map rg)) x.cb, .vs 1 (strip0L (x.se.map I)) x.cs] = _
  rw [SRG.1, SIN.1]
theorem pst_1 (H : Heap) (x : Pst) : strip1 H (pst x) = pst x := by
  show PV.agg [I x.b, .vs 2 (strip1L H (x.bo.map rg)) x.cb, .vs 1 (strip1L H (x.se.map I)) x.cs] = _
  rw [SRG.2.2.2.2.1, SIN.2.2.2.2.1]
theorem pst_2 (H : Heap) (x : Pst) : strip2 H (pst x) = pst x := by
  show PV.agg [I x.b, .vs 2 (strip2L H (x.bo.map rg)) x.cb, .vs 1 (strip2L H (x.se.map I)) x.cs] = _
  rw [SRG.2.2.2.2.2, SIN.2.2.2.2.2]
theorem SPS : (∀ l : List Pst, strip0L (l.map pst) = l.map pst) ∧ (∀ l : List Pst, (l.map pst).map strip0 = l.map pst) ∧ (∀ H (l : List Pst), (l.map pst).map (strip1 H) = l.map pst) ∧ (∀ H (l : List Pst), (l.map pst).map (strip2 H) = l.map pst) ∧ (∀ H (l : List Pst), strip1L H (l.map pst) = l.map pst) ∧ (∀ H (l : List Pst), strip2L H (l.map pst) = l.map pst) := STR pst pst_0 pst_1 pst_2
theorem NUM : (((0 : Nat) : Int) = 0 ∧ ((1 : Nat) : Int) = 1 ∧ ((2 : Nat) : Int) = 2 ∧ ((3 : Nat) : Int) = 3 ∧ ((4 : Nat) : Int) = 4) ∧
    (IntKind.i64.wrap 0 = 0 ∧ IntKind.i64.wrap 1 = 1 ∧ IntKind.i64.wrap 2 = 2 ∧ IntKind.i64.wrap 3 = 3 ∧ IntKind.i64.wrap 4 = 4) ∧
    ((0 : Int).toNat = 0 ∧ (1 : Int).toNat = 1 ∧ (2 : Int).toNat = 2 ∧ (3 : Int).toNat = 3 ∧ (4 : Int).toNat = 4) ∧
    ((∀ cs, strip0 (.rop cs) = .rop (strip0L cs)) ∧ (∀ f cs, strip0 (.fn f cs) = .fn f (strip0L cs)) ∧ (∀ H cs, strip1 H (.rop cs) = .rop (strip1L H cs)) ∧ (∀ H f cs, strip1 H (.fn f cs) = .fn f (strip1L H cs)) ∧ (∀ H cs, strip2 H (.rop cs) = .rop (strip2L H cs)) ∧ (∀ H f cs, strip2 H (.fn f cs) = .fn f (strip2L H cs)) ∧ (∀ sz es c, strip0 (.vs sz es c) = .vs sz (strip0L es) c) ∧ (∀ H sz es c, strip1 H (.vs sz es c) = .vs sz (strip1L H es) c) ∧ (∀ H sz es c, strip2 H (.vs sz es c) = .vs sz (strip2L H es) c)) := by
  refine ⟨⟨rfl, rfl, rfl, rfl, rfl⟩, ⟨?_, ?_, ?_, ?_, ?_⟩, ⟨rfl, rfl, rfl, rfl, rfl⟩, ⟨fun _ => rfl, fun _ _ => rfl, fun _ _ => rfl, fun _ _ _ => rfl, fun _ _ => rfl, fun _ _ _ => rfl, fun _ _ _ => rfl, fun _ _ _ _ => rfl, fun _ _ _ _ => rfl⟩⟩ <;> exact i64_in (by unfold I64; omega)
theorem b_iff {p q : Prop} [Decidable p] [Decidable q] (h : p ↔ q) : some (CR.ret (PV.bool (decide p))) = some (CR.ret (PV.bool (decide q))) := by rw [decide_eq_decide.2 h]
theorem b_no {q : Prop} [Decidable q] (h : ¬ q) : some (CR.ret (PV.bool false)) = some (CR.ret (PV.bool (decide q))) := by rw [decide_eq_false h]
theorem b_and {p q : Prop} [Decidable p] [Decidable q] : (if p then some (CR.ret (PV.bool (decide q))) else some (CR.ret (PV.bool false))) = some (CR.ret (PV.bool (decide (p ∧ q)))) := by
  by_cases h : p <;> simp [h]
theorem b_nand {p q : Prop} [Decidable p] [Decidable q] : (if p then some (CR.ret (PV.bool false)) else some (CR.ret (PV.bool (decide q)))) = some (CR.ret (PV.bool (decide (¬ p ∧ q)))) := by
  by_cases h : p <;> simp [h]
theorem b_or {p q : Prop} [Decidable p] [Decidable q] : (if p then some (CR.ret (PV.bool true)) else some (CR.ret (PV.bool (decide q)))) = some (CR.ret (PV.bool (decide (p ∨ q)))) := by
  by_cases h : p <;> simp [h]
theorem c_in (n m : Int) : ap Try.prog pol 28 [I n, I m] = some (.ret (.bool (decide (0 ≤ n ∧ n ≤ m)))) := by
  rw [ap_eq _ Try.func28 rfl Try.ntmps28 Try.results28 (by kernel_rfl) rfl (by exact Nat.le_of_ble_eq_true rfl)]
  simp (config := { maxSteps := 1000000 }) only [RUN, PATHS, BASE, FA, POL, start_tm, Heap.empty, reduceIte, Nat.reduceLT, Nat.reduceLeDiff, Nat.reduceEqDiff, Nat.reduceAdd, Nat.reduceSub, Nat.reduceMul, Nat.reduceBEq, Int.reduceLT, Int.reduceLE, Int.reduceEq, Int.reduceNeg, Int.reduceAdd, Int.reduceSub, Int.reduceMul, Bool.false_eq_true, Bool.not_true, Bool.not_false, decide_eq_true_eq, and_self, true_and, and_true, reduceCtorEq, ne_eq, not_false_eq_true, not_true_eq_false, decide_true, decide_false, or_false, false_or, b_and]
theorem c_cin (n lo hi : Int) : ap Try.prog pol 43 [I n, I lo, I hi] = some (.ret (.bool (decide (lo ≤ n ∧ n ≤ hi)))) := by
  rw [ap_eq _ Try.func43 rfl Try.ntmps43 Try.results43 (by kernel_rfl) rfl (by exact Nat.le_of_ble_eq_true rfl)]
  simp (config := { maxSteps := 1000000 }) only [RUN, PATHS, BASE, FA, POL, start_tm, Heap.empty, reduceIte, Nat.reduceLT, Nat.reduceLeDiff, Nat.reduceEqDiff, Nat.reduceAdd, Nat.reduceSub, Nat.reduceMul, Nat.reduceBEq, Int.reduceLT, Int.reduceLE, Int.reduceEq, Int.reduceNeg, Int.reduceAdd, Int.reduceSub, Int.reduceMul, Bool.false_eq_true, Bool.not_true, Bool.not_false, decide_eq_true_eq, and_self, true_and, and_true, reduceCtorEq, ne_eq, not_false_eq_true, not_true_eq_false, decide_true, decide_false, or_false, false_or, b_and]
end Go.Proofs.Ytnabgahkdomeoaa
