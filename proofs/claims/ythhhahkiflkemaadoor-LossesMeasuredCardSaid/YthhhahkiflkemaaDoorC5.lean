/-
  The least parcel: sort.Search over what arrives.
-/
import Derived.Test.YthhhahkiflkemaaDoorC4
set_option linter.unusedSimpArgs false
set_option linter.unusedVariables false
set_option linter.unusedSectionVars false
namespace Go.Proofs.YthhhahkiflkemaaDoor
open Go GoV
set_option maxRecDepth 100000

/-- What arrives: at worst, at best. -/
def ARR (f : Nat) (r : Los) (v : Int) : Int := if f = 54 then BE r v else WO r v
theorem ARR_mono {f : Nat} {r : Los} (h : r.RT) {a b : Int} (ha : 0 ≤ a) (hab : a ≤ b) : ARR f r a ≤ ARR f r b := by
  unfold ARR; split
  · exact BE_mono h ha hab
  · exact WO_mono h ha hab
abbrev rchc (x : Rch) : List PV := [.str x.nm, I x.up, I x.dl, I x.cp, I x.bk, I x.si, I x.e0, I x.e1, I x.s0, I x.s1, I x.s2, I x.s3]
theorem c_arr (f : Nat) (hf : f = 52 ∨ f = 54 ∨ f = 55) (x : Rch) (hx : x.OK) (h : RIGHT x) (v : Int) (hv : 0 ≤ v ∧ v ≤ 1073741824) :
    ap Tryd.prog pol f [I v, .rop (rchc x)] = some (.ret (I (ARR f (los x) v))) := by
  have cl := c_lost x h v hv hx
  have b1 := LO_bd h.RT hv.1
  have b2 := HI_bd h.RT hv.1
  rcases hf with rfl | rfl | rfl
  · rw [ap_eq _ Tryd.func52 rfl Tryd.ntmps52 Tryd.results52 (by kernel_rfl) rfl (by exact Nat.le_of_ble_eq_true rfl)]
    simp (config := { maxSteps := 1000000 }) only [RUN, PATHS, BASE, FA, POL, start_tm, Heap.empty, reduceIte, Nat.reduceLT, Nat.reduceLeDiff, Nat.reduceEqDiff, Nat.reduceAdd, Nat.reduceSub, Nat.reduceMul, Nat.reduceBEq, Int.reduceLT, Int.reduceLE, Int.reduceEq, Int.reduceNeg, Int.reduceAdd, Int.reduceSub, Int.reduceMul, Bool.false_eq_true, Bool.not_true, Bool.not_false, decide_eq_true_eq, and_self, true_and, and_true, reduceCtorEq, ne_eq, not_false_eq_true, not_true_eq_false, decide_true, decide_false, or_false, false_or, NUM, cl, i64_in (x := v - HI (los x) v) (by unfold I64; omega)]
    rfl
  · rw [ap_eq _ Tryd.func54 rfl Tryd.ntmps54 Tryd.results54 (by kernel_rfl) rfl (by exact Nat.le_of_ble_eq_true rfl)]
    simp (config := { maxSteps := 1000000 }) only [RUN, PATHS, BASE, FA, POL, start_tm, Heap.empty, reduceIte, Nat.reduceLT, Nat.reduceLeDiff, Nat.reduceEqDiff, Nat.reduceAdd, Nat.reduceSub, Nat.reduceMul, Nat.reduceBEq, Int.reduceLT, Int.reduceLE, Int.reduceEq, Int.reduceNeg, Int.reduceAdd, Int.reduceSub, Int.reduceMul, Bool.false_eq_true, Bool.not_true, Bool.not_false, decide_eq_true_eq, and_self, true_and, and_true, reduceCtorEq, ne_eq, not_false_eq_true, not_true_eq_false, decide_true, decide_false, or_false, false_or, NUM, cl, i64_in (x := v - LO (los x) v) (by unfold I64; omega)]
    rfl
  · rw [ap_eq _ Tryd.func55 rfl Tryd.ntmps55 Tryd.results55 (by kernel_rfl) rfl (by exact Nat.le_of_ble_eq_true rfl)]
    simp (config := { maxSteps := 1000000 }) only [RUN, PATHS, BASE, FA, POL, start_tm, Heap.empty, reduceIte, Nat.reduceLT, Nat.reduceLeDiff, Nat.reduceEqDiff, Nat.reduceAdd, Nat.reduceSub, Nat.reduceMul, Nat.reduceBEq, Int.reduceLT, Int.reduceLE, Int.reduceEq, Int.reduceNeg, Int.reduceAdd, Int.reduceSub, Int.reduceMul, Bool.false_eq_true, Bool.not_true, Bool.not_false, decide_eq_true_eq, and_self, true_and, and_true, reduceCtorEq, ne_eq, not_false_eq_true, not_true_eq_false, decide_true, decide_false, or_false, false_or, NUM, cl, i64_in (x := v - HI (los x) v) (by unfold I64; omega)]
    rfl
theorem c_least1 (f : Nat) (hf : f = 52 ∨ f = 54 ∨ f = 55) (x : Rch) (hx : x.OK) (h : RIGHT x) (w : Int) (v : Int) (hv : 0 ≤ v ∧ v ≤ 1073741824) :
    ap Tryd.prog pol 71 [I v, .rop [.fn f [.rop (rchc x)]], .rop [I w]] = some (.ret (.bool (decide (w < ARR f (los x) v)))) := by
  have ca := c_arr f hf x hx h v hv
  rcases hf with rfl | rfl | rfl
  · rw [ap_eq _ Tryd.func71 rfl Tryd.ntmps71 Tryd.results71 (by kernel_rfl) rfl (by exact Nat.le_of_ble_eq_true rfl)]
    simp (config := { maxSteps := 1000000 }) only [RUN, PATHS, BASE, FA, POL, start_tm, Heap.empty, reduceIte, Nat.reduceLT, Nat.reduceLeDiff, Nat.reduceEqDiff, Nat.reduceAdd, Nat.reduceSub, Nat.reduceMul, Nat.reduceBEq, Int.reduceLT, Int.reduceLE, Int.reduceEq, Int.reduceNeg, Int.reduceAdd, Int.reduceSub, Int.reduceMul, Bool.false_eq_true, Bool.not_true, Bool.not_false, decide_eq_true_eq, and_self, true_and, and_true, reduceCtorEq, ne_eq, not_false_eq_true, not_true_eq_false, decide_true, decide_false, or_false, false_or, NUM, ca]
  · rw [ap_eq _ Tryd.func71 rfl Tryd.ntmps71 Tryd.results71 (by kernel_rfl) rfl (by exact Nat.le_of_ble_eq_true rfl)]
    simp (config := { maxSteps := 1000000 }) only [RUN, PATHS, BASE, FA, POL, start_tm, Heap.empty, reduceIte, Nat.reduceLT, Nat.reduceLeDiff, Nat.reduceEqDiff, Nat.reduceAdd, Nat.reduceSub, Nat.reduceMul, Nat.reduceBEq, Int.reduceLT, Int.reduceLE, Int.reduceEq, Int.reduceNeg, Int.reduceAdd, Int.reduceSub, Int.reduceMul, Bool.false_eq_true, Bool.not_true, Bool.not_false, decide_eq_true_eq, and_self, true_and, and_true, reduceCtorEq, ne_eq, not_false_eq_true, not_true_eq_false, decide_true, decide_false, or_false, false_or, NUM, ca]
  · rw [ap_eq _ Tryd.func71 rfl Tryd.ntmps71 Tryd.results71 (by kernel_rfl) rfl (by exact Nat.le_of_ble_eq_true rfl)]
    simp (config := { maxSteps := 1000000 }) only [RUN, PATHS, BASE, FA, POL, start_tm, Heap.empty, reduceIte, Nat.reduceLT, Nat.reduceLeDiff, Nat.reduceEqDiff, Nat.reduceAdd, Nat.reduceSub, Nat.reduceMul, Nat.reduceBEq, Int.reduceLT, Int.reduceLE, Int.reduceEq, Int.reduceNeg, Int.reduceAdd, Int.reduceSub, Int.reduceMul, Bool.false_eq_true, Bool.not_true, Bool.not_false, decide_eq_true_eq, and_self, true_and, and_true, reduceCtorEq, ne_eq, not_false_eq_true, not_true_eq_false, decide_true, decide_false, or_false, false_or, NUM, ca]
theorem c_search (f : Nat) (hf : f = 52 ∨ f = 54 ∨ f = 55) (x : Rch) (hx : x.OK) (h : RIGHT x) (w : Int) :
    ∃ r, ap Tryd.prog pol 70 [I 1073741825, .fn 71 [.rop [.fn f [.rop (rchc x)]], .rop [I w]]] = some (.ret (I r)) ∧ IsL (fun v => w < ARR f (los x) v) 1073741825 r := by
  rw [ap_eq _ Tryd.func70 rfl Tryd.ntmps70 Tryd.results70 (by kernel_rfl) rfl (by exact Nat.le_of_ble_eq_true rfl)]
  simp (config := { maxSteps := 1000000 }) only [RUN, PATHS, BASE, FA, POL, start_tm, Heap.empty, reduceIte, Nat.reduceLT, Nat.reduceLeDiff, Nat.reduceEqDiff, Nat.reduceAdd, Nat.reduceSub, Nat.reduceMul, Nat.reduceBEq, Int.reduceLT, Int.reduceLE, Int.reduceEq, Int.reduceNeg, Int.reduceAdd, Int.reduceSub, Int.reduceMul, Bool.false_eq_true, Bool.not_true, Bool.not_false, decide_eq_true_eq, and_self, true_and, and_true, reduceCtorEq, ne_eq, not_false_eq_true, not_true_eq_false, decide_true, decide_false, or_false, false_or]
  generalize hL : W _ (.loop _) _ = L
  obtain ⟨ex, s, rfl, rfl, r, h5, hd, hfi, hl⟩ := loop_at hL (α := Int × Int) (fun p => (p.2 - p.1).toNat)
    (fun s0 p s => 0 ≤ p.1 ∧ p.1 ≤ p.2 ∧ p.2 ≤ 1073741825 ∧ s.tmps 5 = I p.1 ∧ s.tmps 6 = I p.2 ∧ s.tmps 1 = .fn 71 [.rop [.fn f [.rop (rchc x)]], .rop [I w]] ∧ s.defers = [] ∧ s.fid = 0 ∧ (∀ i, 0 ≤ i → i < p.1 → ¬ w < ARR f (los x) i) ∧ (∀ i, p.2 ≤ i → i < 1073741825 → w < ARR f (los x) i))
    (fun s0 ex s => ex = .exit 0 ∧ ∃ r, s.tmps 5 = I r ∧ s.defers = [] ∧ s.fid = 0 ∧ IsL (fun v => w < ARR f (los x) v) 1073741825 r) (0, 1073741825)
    (by simp (config := { maxSteps := 1000000 }) only [RUN, PATHS, BASE, FA, POL, start_tm, Heap.empty, reduceIte, Nat.reduceLT, Nat.reduceLeDiff, Nat.reduceEqDiff, Nat.reduceAdd, Nat.reduceSub, Nat.reduceMul, Nat.reduceBEq, Int.reduceLT, Int.reduceLE, Int.reduceEq, Int.reduceNeg, Int.reduceAdd, Int.reduceSub, Int.reduceMul, Bool.false_eq_true, Bool.not_true, Bool.not_false, decide_eq_true_eq, and_self, true_and, and_true, reduceCtorEq, ne_eq, not_false_eq_true, not_true_eq_false, decide_true, decide_false, or_false, false_or]; exact ⟨fun i h1 h2 => by omega, fun i h1 h2 => by omega⟩) (by
      rintro ⟨a, b⟩ s r0 hW ⟨h0a, hab, hb, q5, q6, q1, hd, hfi, no, yes⟩
      simp only at *
      by_cases hp : a < b
      · obtain ⟨m, em, hm⟩ : ∃ m, (a + b) / 2 = m ∧ (a ≤ m ∧ m < b) := ⟨_, rfl, by omega⟩
        have cl := c_least1 f hf x hx h w m (by omega)
        have mid : (IntKind.u64.wrap (a + b)).fdiv (2 ^ min 1 IntKind.u64.bits) = m := by
          rw [u64_in (by unfold U64; omega), show (2 : Int) ^ min 1 IntKind.u64.bits = 2 by decide, Int.fdiv_eq_ediv_of_nonneg _ (by decide), em]
        by_cases hm' : w < ARR f (los x) m
        · simp (config := { maxSteps := 1000000 }) only [RUN, PATHS, BASE, FA, POL, start_tm, Heap.empty, reduceIte, Nat.reduceLT, Nat.reduceLeDiff, Nat.reduceEqDiff, Nat.reduceAdd, Nat.reduceSub, Nat.reduceMul, Nat.reduceBEq, Int.reduceLT, Int.reduceLE, Int.reduceEq, Int.reduceNeg, Int.reduceAdd, Int.reduceSub, Int.reduceMul, Bool.false_eq_true, Bool.not_true, Bool.not_false, decide_eq_true_eq, and_self, true_and, and_true, reduceCtorEq, ne_eq, not_false_eq_true, not_true_eq_false, decide_true, decide_false, or_false, false_or, NUM, q5, q6, q1, hd, hfi, hp, i64_in (x := a + b) (by unfold I64; omega), mid, i64_in (x := m) (by unfold I64; omega), cl, hm'] at hW
          subst hW
          refine rd_next (a, m) ?_ (show (m - a).toNat < (b - a).toNat by omega)
          simp (config := { maxSteps := 1000000 }) only [RUN, PATHS, BASE, FA, POL, start_tm, Heap.empty, reduceIte, Nat.reduceLT, Nat.reduceLeDiff, Nat.reduceEqDiff, Nat.reduceAdd, Nat.reduceSub, Nat.reduceMul, Nat.reduceBEq, Int.reduceLT, Int.reduceLE, Int.reduceEq, Int.reduceNeg, Int.reduceAdd, Int.reduceSub, Int.reduceMul, Bool.false_eq_true, Bool.not_true, Bool.not_false, decide_eq_true_eq, and_self, true_and, and_true, reduceCtorEq, ne_eq, not_false_eq_true, not_true_eq_false, decide_true, decide_false, or_false, false_or, q5, q1]
          refine ⟨h0a, hm.1, by omega, no, fun i h1 h2 => ?_⟩
          have := ARR_mono (f := f) h.RT (show 0 ≤ m by omega) h1
          omega
        · simp (config := { maxSteps := 1000000 }) only [RUN, PATHS, BASE, FA, POL, start_tm, Heap.empty, reduceIte, Nat.reduceLT, Nat.reduceLeDiff, Nat.reduceEqDiff, Nat.reduceAdd, Nat.reduceSub, Nat.reduceMul, Nat.reduceBEq, Int.reduceLT, Int.reduceLE, Int.reduceEq, Int.reduceNeg, Int.reduceAdd, Int.reduceSub, Int.reduceMul, Bool.false_eq_true, Bool.not_true, Bool.not_false, decide_eq_true_eq, and_self, true_and, and_true, reduceCtorEq, ne_eq, not_false_eq_true, not_true_eq_false, decide_true, decide_false, or_false, false_or, NUM, q5, q6, q1, hd, hfi, hp, i64_in (x := a + b) (by unfold I64; omega), mid, i64_in (x := m) (by unfold I64; omega), i64_in (x := m + 1) (by unfold I64; omega), cl, hm'] at hW
          subst hW
          refine rd_next (m + 1, b) ?_ (show (b - (m + 1)).toNat < (b - a).toNat by omega)
          simp (config := { maxSteps := 1000000 }) only [RUN, PATHS, BASE, FA, POL, start_tm, Heap.empty, reduceIte, Nat.reduceLT, Nat.reduceLeDiff, Nat.reduceEqDiff, Nat.reduceAdd, Nat.reduceSub, Nat.reduceMul, Nat.reduceBEq, Int.reduceLT, Int.reduceLE, Int.reduceEq, Int.reduceNeg, Int.reduceAdd, Int.reduceSub, Int.reduceMul, Bool.false_eq_true, Bool.not_true, Bool.not_false, decide_eq_true_eq, and_self, true_and, and_true, reduceCtorEq, ne_eq, not_false_eq_true, not_true_eq_false, decide_true, decide_false, or_false, false_or, q6, q1]
          refine ⟨by omega, by omega, hb, fun i h1 h2 => ?_, yes⟩
          have := ARR_mono (f := f) h.RT h1 (show i ≤ m by omega)
          omega
      · simp (config := { maxSteps := 1000000 }) only [RUN, PATHS, BASE, FA, POL, start_tm, Heap.empty, reduceIte, Nat.reduceLT, Nat.reduceLeDiff, Nat.reduceEqDiff, Nat.reduceAdd, Nat.reduceSub, Nat.reduceMul, Nat.reduceBEq, Int.reduceLT, Int.reduceLE, Int.reduceEq, Int.reduceNeg, Int.reduceAdd, Int.reduceSub, Int.reduceMul, Bool.false_eq_true, Bool.not_true, Bool.not_false, decide_eq_true_eq, and_self, true_and, and_true, reduceCtorEq, ne_eq, not_false_eq_true, not_true_eq_false, decide_true, decide_false, or_false, false_or, NUM, q5, q6, q1, hd, hfi, hp] at hW
        subst hW
        have : a = b := by omega
        subst this
        refine rd_exit ⟨rfl, a, ?_⟩
        simp (config := { maxSteps := 1000000 }) only [RUN, PATHS, BASE, FA, POL, start_tm, Heap.empty, reduceIte, Nat.reduceLT, Nat.reduceLeDiff, Nat.reduceEqDiff, Nat.reduceAdd, Nat.reduceSub, Nat.reduceMul, Nat.reduceBEq, Int.reduceLT, Int.reduceLE, Int.reduceEq, Int.reduceNeg, Int.reduceAdd, Int.reduceSub, Int.reduceMul, Bool.false_eq_true, Bool.not_true, Bool.not_false, decide_eq_true_eq, and_self, true_and, and_true, reduceCtorEq, ne_eq, not_false_eq_true, not_true_eq_false, decide_true, decide_false, or_false, false_or, q5]
        exact ⟨h0a, hb, no, yes⟩)
  simp (config := { maxSteps := 1000000 }) only [RUN, PATHS, BASE, FA, POL, start_tm, Heap.empty, reduceIte, Nat.reduceLT, Nat.reduceLeDiff, Nat.reduceEqDiff, Nat.reduceAdd, Nat.reduceSub, Nat.reduceMul, Nat.reduceBEq, Int.reduceLT, Int.reduceLE, Int.reduceEq, Int.reduceNeg, Int.reduceAdd, Int.reduceSub, Int.reduceMul, Bool.false_eq_true, Bool.not_true, Bool.not_false, decide_eq_true_eq, and_self, true_and, and_true, reduceCtorEq, ne_eq, not_false_eq_true, not_true_eq_false, decide_true, decide_false, or_false, false_or, h5, hd, hfi]
  exact ⟨r, rfl, hl⟩
end Go.Proofs.YthhhahkiflkemaaDoor
