/-
  What a stake forfeits: the search, the amount.
-/
import Derived.Test.YtnabgahkdomeoaaC5
set_option linter.unusedSimpArgs false
set_option linter.unusedVariables false
set_option linter.unusedSectionVars false
namespace Go.Proofs.Ytnabgahkdomeoaa
open Go GoV
set_option maxRecDepth 100000

theorem INC_lt {l : List Pst} (h : INC l) : ∀ (k i : Nat) (x y : Pst), i < k → l[k]? = some x → l[i]? = some y → y.b < x.b
  | 0, i, _, _, hi, _, _ => by omega
  | k + 1, i, x, y, hi, ex, ey => by
    have hk : k + 1 < l.length := by
      rcases Nat.lt_or_ge (k + 1) l.length with h | h
      · exact h
      · rw [List.getElem?_eq_none h] at ex; cases ex
    have ez : l[k]? = some (l[k]'(by omega)) := List.getElem?_eq_getElem _
    have h1 := h (k + 1) hk x ex _ (by omega) ez
    by_cases e : i = k
    · subst e; rw [ez] at ey; cases ey; exact h1
    · have := INC_lt h k i _ y (by omega) ez ey
      omega
/-- The forecast of a body. -/
def FND (b : Int) (l : List Pst) : Option Pst := l.find? fun y => decide (y.b = b)
def DIST (r : Rg) (n : Int) : Int := max (max (r.lo - n) (n - r.hi)) 0
def AMT (x : Stk) (y : Pst) : Int := if x.p < y.bo.length then (match y.bo[x.p.toNat]?, y.se[x.p.toNat]? with
  | some r, some n => min x.d (x.r * DIST r n)
  | _, _ => 0) else 0
def FORV (x : Stk) (l : List Pst) : Int := match FND x.b l with
  | some y => AMT x y
  | none => 0
theorem FND_at {l : List Pst} (h : INC l) {k : Nat} {y : Pst} {b : Int} (e : l[k]? = some y) (hb : y.b = b) : FND b l = some y := by
  unfold FND
  have hm := List.mem_of_getElem? e
  cases hf : l.find? (fun y => decide (y.b = b)) with
  | none =>
    have := List.find?_eq_none.1 hf y hm
    simp [hb] at this
  | some z =>
    have hz := List.mem_of_find?_eq_some hf
    have hz' := List.find?_some hf
    simp only [decide_eq_true_eq] at hz'
    obtain ⟨i, ei⟩ := List.mem_iff_getElem?.1 hz
    congr 1
    rcases Nat.lt_trichotomy i k with hi | hi | hi
    · have := INC_lt h k i y z hi e ei; omega
    · subst hi; rw [e] at ei; cases ei; rfl
    · have := INC_lt h i k z y hi ei e; omega
theorem FND_no {l : List Pst} {b : Int} (h : ∀ (i : Nat) (y : Pst), l[i]? = some y → y.b ≠ b) : FND b l = none := by
  unfold FND
  refine List.find?_eq_none.2 fun y hy => ?_
  obtain ⟨i, ei⟩ := List.mem_iff_getElem?.1 hy
  simp [h i y ei]
theorem c_f5 (x : Pst) (b : Int) : ap Try.prog pol 48 [pst x, I b] = some (.ret (I (IntKind.i64.wrap (x.b - b)))) := by
  rw [ap_eq _ Try.func48 rfl Try.ntmps48 Try.results48 (by kernel_rfl) rfl (by exact Nat.le_of_ble_eq_true rfl)]
  simp (config := { maxSteps := 1000000 }) only [RUN, PATHS, BASE, FA, POL, start_tm, Heap.empty, reduceIte, Nat.reduceLT, Nat.reduceLeDiff, Nat.reduceEqDiff, Nat.reduceAdd, Nat.reduceSub, Nat.reduceMul, Nat.reduceBEq, Int.reduceLT, Int.reduceLE, Int.reduceEq, Int.reduceNeg, Int.reduceAdd, Int.reduceSub, Int.reduceMul, Bool.false_eq_true, Bool.not_true, Bool.not_false, decide_eq_true_eq, and_self, true_and, and_true, reduceCtorEq, ne_eq, not_false_eq_true, not_true_eq_false, decide_true, decide_false, or_false, false_or, NUM]
theorem c_bsearch (l : List Pst) (c : Option Nat) (hi : INC l) (ok : ∀ x ∈ l, OKP x) (hl : l.length ≤ 256) (b : Int) (hb : 0 ≤ b ∧ b ≤ 63) :
    ∃ (k : Nat) (t : Bool), ap Try.prog pol 47 [.vs 3 (l.map pst) c, I b, .fn 48 []] = some (.ret (.tup [I k, .bool t])) ∧
      (t = true → ∃ y, l[k]? = some y ∧ y.b = b) ∧ (t = false → FND b l = none) := by
  rw [ap_eq _ Try.func47 rfl Try.ntmps47 Try.results47 (by kernel_rfl) rfl (by exact Nat.le_of_ble_eq_true rfl)]
  simp (config := { maxSteps := 1000000 }) only [RUN, PATHS, BASE, FA, POL, start_tm, Heap.empty, reduceIte, Nat.reduceLT, Nat.reduceLeDiff, Nat.reduceEqDiff, Nat.reduceAdd, Nat.reduceSub, Nat.reduceMul, Nat.reduceBEq, Int.reduceLT, Int.reduceLE, Int.reduceEq, Int.reduceNeg, Int.reduceAdd, Int.reduceSub, Int.reduceMul, Bool.false_eq_true, Bool.not_true, Bool.not_false, decide_eq_true_eq, and_self, true_and, and_true, reduceCtorEq, ne_eq, not_false_eq_true, not_true_eq_false, decide_true, decide_false, or_false, false_or, List.length_map]
  generalize hL : W _ (.loop _) _ = L
  obtain ⟨ex, s, rfl, rfl, k, hk, h9, h8, h2, h0, h1, hd, hf, no, yes⟩ := loop_at hL (α := Nat × Nat) (fun p => p.2 - p.1)
    (fun s0 p s => p.1 ≤ p.2 ∧ p.2 ≤ l.length ∧ s.tmps 9 = I p.1 ∧ s.tmps 10 = I p.2 ∧ s.tmps 8 = I l.length ∧ s.tmps 2 = .fn 48 [] ∧ s.tmps 0 = .vs 3 (l.map pst) c ∧ s.tmps 1 = I b ∧ s.defers = [] ∧ s.fid = 0 ∧ (∀ (i : Nat) (y : Pst), i < p.1 → l[i]? = some y → y.b < b) ∧ (∀ (i : Nat) (y : Pst), p.2 ≤ i → l[i]? = some y → b ≤ y.b))
    (fun s0 ex s => ex = .exit 0 ∧ ∃ k : Nat, k ≤ l.length ∧ s.tmps 9 = I k ∧ s.tmps 8 = I l.length ∧ s.tmps 2 = .fn 48 [] ∧ s.tmps 0 = .vs 3 (l.map pst) c ∧ s.tmps 1 = I b ∧ s.defers = [] ∧ s.fid = 0 ∧ (∀ (i : Nat) (y : Pst), i < k → l[i]? = some y → y.b < b) ∧ (∀ (i : Nat) (y : Pst), k ≤ i → l[i]? = some y → b ≤ y.b)) (0, l.length)
    (by simp (config := { maxSteps := 1000000 }) only [RUN, PATHS, BASE, FA, POL, start_tm, Heap.empty, reduceIte, Nat.reduceLT, Nat.reduceLeDiff, Nat.reduceEqDiff, Nat.reduceAdd, Nat.reduceSub, Nat.reduceMul, Nat.reduceBEq, Int.reduceLT, Int.reduceLE, Int.reduceEq, Int.reduceNeg, Int.reduceAdd, Int.reduceSub, Int.reduceMul, Bool.false_eq_true, Bool.not_true, Bool.not_false, decide_eq_true_eq, and_self, true_and, and_true, reduceCtorEq, ne_eq, not_false_eq_true, not_true_eq_false, decide_true, decide_false, or_false, false_or]
        refine ⟨Nat.zero_le _, Nat.le_refl _, by simp, fun i y hi _ => by omega, fun i y hi e => ?_⟩
        rw [List.getElem?_eq_none hi] at e; cases e) (by
      rintro ⟨a, z⟩ s r0 hW ⟨haz, hz, q9, q10, q8, q2, q0, q1, hd, hf, no, yes⟩
      simp only at *
      by_cases hp : a < z
      · obtain ⟨m, em, hm⟩ : ∃ m : Nat, ((a : Int) + z) / 2 = m ∧ (a ≤ m ∧ m < z) := ⟨(a + z) / 2, by omega, by omega⟩
        have mid : (IntKind.u64.wrap ((a : Int) + z)).fdiv (2 ^ min 1 IntKind.u64.bits) = m := by
          rw [u64_in (by unfold U64; omega), show (2 : Int) ^ min 1 IntKind.u64.bits = 2 by decide, Int.fdiv_eq_ediv_of_nonneg _ (by decide), em]
        have e0 : l[m]? = some (l[m]'(by omega)) := List.getElem?_eq_getElem _
        have e1 := map_get (f := pst) e0
        have okx := ok _ (List.getElem_mem (show m < l.length by omega))
        have lo := fun i y (h : i < m) (e : l[i]? = some y) => INC_lt hi m i _ y h e0 e
        have up := fun i y (h : m < i) (e : l[i]? = some y) => INC_lt hi i m y _ h e e0
        generalize (l[m]'(by omega)) = x at *
        have cf := c_f5 x b
        have hb' := okx.1
        rw [i64_in (by unfold I64; omega)] at cf
        by_cases hx : x.b - b < 0
        · simp (config := { maxSteps := 1000000 }) only [RUN, PATHS, BASE, FA, POL, start_tm, Heap.empty, reduceIte, Nat.reduceLT, Nat.reduceLeDiff, Nat.reduceEqDiff, Nat.reduceAdd, Nat.reduceSub, Nat.reduceMul, Nat.reduceBEq, Int.reduceLT, Int.reduceLE, Int.reduceEq, Int.reduceNeg, Int.reduceAdd, Int.reduceSub, Int.reduceMul, Bool.false_eq_true, Bool.not_true, Bool.not_false, decide_eq_true_eq, and_self, true_and, and_true, reduceCtorEq, ne_eq, not_false_eq_true, not_true_eq_false, decide_true, decide_false, or_false, false_or, NUM, SRG, SIN, q9, q10, q8, q2, q0, q1, hd, hf, (show (a : Int) < z by omega), i64_in (x := (a : Int) + z) (by unfold I64; omega), mid, i64_in (x := (m : Int)) (by unfold I64; omega), i64_in (x := (m : Int) + 1) (by unfold I64; omega), Int.toNat_natCast, (show (0 : Int) ≤ m by omega), (show (m : Int) < l.length by omega), List.length_map, e1, cf, hx] at hW
          subst hW
          refine rd_next (m + 1, z) ?_ (show z - (m + 1) < z - a by omega)
          simp (config := { maxSteps := 1000000 }) only [RUN, PATHS, BASE, FA, POL, start_tm, Heap.empty, reduceIte, Nat.reduceLT, Nat.reduceLeDiff, Nat.reduceEqDiff, Nat.reduceAdd, Nat.reduceSub, Nat.reduceMul, Nat.reduceBEq, Int.reduceLT, Int.reduceLE, Int.reduceEq, Int.reduceNeg, Int.reduceAdd, Int.reduceSub, Int.reduceMul, Bool.false_eq_true, Bool.not_true, Bool.not_false, decide_eq_true_eq, and_self, true_and, and_true, reduceCtorEq, ne_eq, not_false_eq_true, not_true_eq_false, decide_true, decide_false, or_false, false_or, q10, q8, q2, q0, q1]
          refine ⟨by omega, by omega, by simp, fun i y h e => ?_, yes⟩
          rcases Nat.lt_or_ge i m with h' | h'
          · have := lo i y h' e; omega
          · have : i = m := by omega
            subst this; rw [e0] at e; cases e; omega
        · simp (config := { maxSteps := 1000000 }) only [RUN, PATHS, BASE, FA, POL, start_tm, Heap.empty, reduceIte, Nat.reduceLT, Nat.reduceLeDiff, Nat.reduceEqDiff, Nat.reduceAdd, Nat.reduceSub, Nat.reduceMul, Nat.reduceBEq, Int.reduceLT, Int.reduceLE, Int.reduceEq, Int.reduceNeg, Int.reduceAdd, Int.reduceSub, Int.reduceMul, Bool.false_eq_true, Bool.not_true, Bool.not_false, decide_eq_true_eq, and_self, true_and, and_true, reduceCtorEq, ne_eq, not_false_eq_true, not_true_eq_false, decide_true, decide_false, or_false, false_or, NUM, SRG, SIN, q9, q10, q8, q2, q0, q1, hd, hf, (show (a : Int) < z by omega), i64_in (x := (a : Int) + z) (by unfold I64; omega), mid, i64_in (x := (m : Int)) (by unfold I64; omega), Int.toNat_natCast, (show (0 : Int) ≤ m by omega), (show (m : Int) < l.length by omega), List.length_map, e1, cf, hx] at hW
          subst hW
          refine rd_next (a, m) ?_ (show m - a < z - a by omega)
          simp (config := { maxSteps := 1000000 }) only [RUN, PATHS, BASE, FA, POL, start_tm, Heap.empty, reduceIte, Nat.reduceLT, Nat.reduceLeDiff, Nat.reduceEqDiff, Nat.reduceAdd, Nat.reduceSub, Nat.reduceMul, Nat.reduceBEq, Int.reduceLT, Int.reduceLE, Int.reduceEq, Int.reduceNeg, Int.reduceAdd, Int.reduceSub, Int.reduceMul, Bool.false_eq_true, Bool.not_true, Bool.not_false, decide_eq_true_eq, and_self, true_and, and_true, reduceCtorEq, ne_eq, not_false_eq_true, not_true_eq_false, decide_true, decide_false, or_false, false_or, q9, q8, q2, q0, q1]
          refine ⟨by omega, by omega, no, fun i y h e => ?_⟩
          rcases Nat.lt_or_ge m i with h' | h'
          · have := up i y h' e; omega
          · have : i = m := by omega
            subst this; rw [e0] at e; cases e; omega
      · simp (config := { maxSteps := 1000000 }) only [RUN, PATHS, BASE, FA, POL, start_tm, Heap.empty, reduceIte, Nat.reduceLT, Nat.reduceLeDiff, Nat.reduceEqDiff, Nat.reduceAdd, Nat.reduceSub, Nat.reduceMul, Nat.reduceBEq, Int.reduceLT, Int.reduceLE, Int.reduceEq, Int.reduceNeg, Int.reduceAdd, Int.reduceSub, Int.reduceMul, Bool.false_eq_true, Bool.not_true, Bool.not_false, decide_eq_true_eq, and_self, true_and, and_true, reduceCtorEq, ne_eq, not_false_eq_true, not_true_eq_false, decide_true, decide_false, or_false, false_or, q9, q10, hd, hf, (show ¬ (a : Int) < z by omega)] at hW
        subst hW
        have : a = z := by omega
        subst this
        refine rd_exit ⟨rfl, a, hz, ?_⟩
        simp (config := { maxSteps := 1000000 }) only [RUN, PATHS, BASE, FA, POL, start_tm, Heap.empty, reduceIte, Nat.reduceLT, Nat.reduceLeDiff, Nat.reduceEqDiff, Nat.reduceAdd, Nat.reduceSub, Nat.reduceMul, Nat.reduceBEq, Int.reduceLT, Int.reduceLE, Int.reduceEq, Int.reduceNeg, Int.reduceAdd, Int.reduceSub, Int.reduceMul, Bool.false_eq_true, Bool.not_true, Bool.not_false, decide_eq_true_eq, and_self, true_and, and_true, reduceCtorEq, ne_eq, not_false_eq_true, not_true_eq_false, decide_true, decide_false, or_false, false_or, q9, q8, q2, q0, q1]
        exact ⟨no, yes⟩)
  by_cases hk' : k < l.length
  · have e0 : l[k]? = some l[k] := List.getElem?_eq_getElem hk'
    have e1 := map_get (f := pst) e0
    have okx := ok _ (List.getElem_mem hk')
    have up := fun i y (h : k < i) (e : l[i]? = some y) => INC_lt hi i k y _ h e e0
    have yk := yes k _ (Nat.le_refl _) e0
    generalize l[k] = x at *
    have cf := c_f5 x b
    have hb' := okx.1
    rw [i64_in (by unfold I64; omega)] at cf
    by_cases hx : x.b - b = 0
    · refine ⟨k, true, ?_, fun _ => ⟨x, e0, by omega⟩, fun h => absurd h (by decide)⟩
      simp (config := { maxSteps := 1000000 }) only [RUN, PATHS, BASE, FA, POL, start_tm, Heap.empty, reduceIte, Nat.reduceLT, Nat.reduceLeDiff, Nat.reduceEqDiff, Nat.reduceAdd, Nat.reduceSub, Nat.reduceMul, Nat.reduceBEq, Int.reduceLT, Int.reduceLE, Int.reduceEq, Int.reduceNeg, Int.reduceAdd, Int.reduceSub, Int.reduceMul, Bool.false_eq_true, Bool.not_true, Bool.not_false, decide_eq_true_eq, and_self, true_and, and_true, reduceCtorEq, ne_eq, not_false_eq_true, not_true_eq_false, decide_true, decide_false, or_false, false_or, NUM, SRG, SIN, h9, h8, h2, h0, h1, hd, hf, (show (k : Int) < l.length by omega), Int.toNat_natCast, (show (0 : Int) ≤ k by omega), List.length_map, e1, cf, hx]
    · refine ⟨k, false, ?_, (fun h => absurd h (by decide)), fun _ => FND_no fun i y e hy => ?_⟩
      · simp (config := { maxSteps := 1000000 }) only [RUN, PATHS, BASE, FA, POL, start_tm, Heap.empty, reduceIte, Nat.reduceLT, Nat.reduceLeDiff, Nat.reduceEqDiff, Nat.reduceAdd, Nat.reduceSub, Nat.reduceMul, Nat.reduceBEq, Int.reduceLT, Int.reduceLE, Int.reduceEq, Int.reduceNeg, Int.reduceAdd, Int.reduceSub, Int.reduceMul, Bool.false_eq_true, Bool.not_true, Bool.not_false, decide_eq_true_eq, and_self, true_and, and_true, reduceCtorEq, ne_eq, not_false_eq_true, not_true_eq_false, decide_true, decide_false, or_false, false_or, NUM, SRG, SIN, h9, h8, h2, h0, h1, hd, hf, (show (k : Int) < l.length by omega), Int.toNat_natCast, (show (0 : Int) ≤ k by omega), List.length_map, e1, cf, hx]
      · rcases Nat.lt_trichotomy i k with h' | h' | h'
        · have := no i y h' e; omega
        · subst h'; rw [e0] at e; cases e; omega
        · have := up i y h' e; omega
  · refine ⟨k, false, ?_, (fun h => absurd h (by decide)), fun _ => FND_no fun i y e hy => ?_⟩
    · simp (config := { maxSteps := 1000000 }) only [RUN, PATHS, BASE, FA, POL, start_tm, Heap.empty, reduceIte, Nat.reduceLT, Nat.reduceLeDiff, Nat.reduceEqDiff, Nat.reduceAdd, Nat.reduceSub, Nat.reduceMul, Nat.reduceBEq, Int.reduceLT, Int.reduceLE, Int.reduceEq, Int.reduceNeg, Int.reduceAdd, Int.reduceSub, Int.reduceMul, Bool.false_eq_true, Bool.not_true, Bool.not_false, decide_eq_true_eq, and_self, true_and, and_true, reduceCtorEq, ne_eq, not_false_eq_true, not_true_eq_false, decide_true, decide_false, or_false, false_or, NUM, SRG, SIN, h9, h8, h2, h0, h1, hd, hf, (show ¬ (k : Int) < l.length by omega)]
    · rcases Nat.lt_or_ge i k with h' | h'
      · have := no i y h' e; omega
      · rw [List.getElem?_eq_none (by omega)] at e; cases e
theorem c_least (a b : Int) : ap Try.prog pol 49 [I a, .vs 1 [I b] (some 1)] = some (.ret (I (min a b))) := by
  rw [ap_eq _ Try.func49 rfl Try.ntmps49 Try.results49 (by kernel_rfl) rfl (by exact Nat.le_of_ble_eq_true rfl)]
  simp (config := { maxSteps := 1000000 }) only [RUN, PATHS, BASE, FA, POL, start_tm, Heap.empty, reduceIte, Nat.reduceLT, Nat.reduceLeDiff, Nat.reduceEqDiff, Nat.reduceAdd, Nat.reduceSub, Nat.reduceMul, Nat.reduceBEq, Int.reduceLT, Int.reduceLE, Int.reduceEq, Int.reduceNeg, Int.reduceAdd, Int.reduceSub, Int.reduceMul, Bool.false_eq_true, Bool.not_true, Bool.not_false, decide_eq_true_eq, and_self, true_and, and_true, reduceCtorEq, ne_eq, not_false_eq_true, not_true_eq_false, decide_true, decide_false, or_false, false_or, WW_loop, NUM]
theorem c_forfeits (l : List Stk) (ps : List Pst) (c c' : Option Nat) : ap Try.prog pol 29 [.vs 4 (l.map stk) c, .vs 3 (ps.map pst) c'] = some (.ret (.fn 46 [.rop [.vs 4 (l.map stk) c], .rop [.vs 3 (ps.map pst) c']])) := by
  rw [ap_eq _ Try.func29 rfl Try.ntmps29 Try.results29 (by kernel_rfl) rfl (by exact Nat.le_of_ble_eq_true rfl)]
  simp (config := { maxSteps := 1000000 }) only [RUN, PATHS, BASE, FA, POL, start_tm, Heap.empty, reduceIte, Nat.reduceLT, Nat.reduceLeDiff, Nat.reduceEqDiff, Nat.reduceAdd, Nat.reduceSub, Nat.reduceMul, Nat.reduceBEq, Int.reduceLT, Int.reduceLE, Int.reduceEq, Int.reduceNeg, Int.reduceAdd, Int.reduceSub, Int.reduceMul, Bool.false_eq_true, Bool.not_true, Bool.not_false, decide_eq_true_eq, and_self, true_and, and_true, reduceCtorEq, ne_eq, not_false_eq_true, not_true_eq_false, decide_true, decide_false, or_false, false_or, NUM, SST, SPS]
theorem c_distance (x : Rg) (n : Int) (hx : OKR x) (hn : OKI n) : ap Try.prog pol 51 [rg x, I n] = some (.ret (I (DIST x n))) := by
  unfold OKR at hx
  unfold OKI at hn
  rw [ap_eq _ Try.func51 rfl Try.ntmps51 Try.results51 (by kernel_rfl) rfl (by exact Nat.le_of_ble_eq_true rfl)]
  unfold DIST
  by_cases h : n < x.lo
  · simp (config := { maxSteps := 1000000 }) only [RUN, PATHS, BASE, FA, POL, start_tm, Heap.empty, reduceIte, Nat.reduceLT, Nat.reduceLeDiff, Nat.reduceEqDiff, Nat.reduceAdd, Nat.reduceSub, Nat.reduceMul, Nat.reduceBEq, Int.reduceLT, Int.reduceLE, Int.reduceEq, Int.reduceNeg, Int.reduceAdd, Int.reduceSub, Int.reduceMul, Bool.false_eq_true, Bool.not_true, Bool.not_false, decide_eq_true_eq, and_self, true_and, and_true, reduceCtorEq, ne_eq, not_false_eq_true, not_true_eq_false, decide_true, decide_false, or_false, false_or, NUM, h, i64_in (x := x.lo - n) (by unfold I64; omega)]
    congr 3; omega
  · simp (config := { maxSteps := 1000000 }) only [RUN, PATHS, BASE, FA, POL, start_tm, Heap.empty, reduceIte, Nat.reduceLT, Nat.reduceLeDiff, Nat.reduceEqDiff, Nat.reduceAdd, Nat.reduceSub, Nat.reduceMul, Nat.reduceBEq, Int.reduceLT, Int.reduceLE, Int.reduceEq, Int.reduceNeg, Int.reduceAdd, Int.reduceSub, Int.reduceMul, Bool.false_eq_true, Bool.not_true, Bool.not_false, decide_eq_true_eq, and_self, true_and, and_true, reduceCtorEq, ne_eq, not_false_eq_true, not_true_eq_false, decide_true, decide_false, or_false, false_or, NUM, h, i64_in (x := n - x.hi) (by unfold I64; omega)]
    congr 3; omega
end Go.Proofs.Ytnabgahkdomeoaa
