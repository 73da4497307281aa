/-
  The functions of package losses: which variables other frames reach; numbers.
-/
import Derived.Test.YthhhahkiflkemaaDoorL1
import Derived.IntWalk
set_option linter.unusedSimpArgs false
set_option linter.unusedVariables false
set_option linter.unusedSectionVars false
namespace Go.Proofs.YthhhahkiflkemaaDoor
open Go GoV
set_option maxRecDepth 100000

/-- Which variables other frames reach; which functions are called apart. -/
def heapF (f : Nat) : List Nat := if f = 67 then [4] else if f = 75 then [2, 3] else if f = 23 then [1000002] else if f = 25 then [1000002] else if f = 27 then [1000002] else if f = 51 then [1000002, 1000003] else if f = 13 then [1000002, 1000003] else if f = 15 then [1000003] else if f = 35 then [1000001] else if f = 41 then [1000001] else if f = 34 then [3, 1000005] else if f = 40 then [3, 1000005] else []
def inF (f : Nat) : Bool := f == 75 || f == 78 || f == 63 || f == 65
def pol : Pol := ⟨heapF, fun _ => [], fun _ => [], fun f => !inF f⟩
theorem POL : (∀ f, pol.accs f = []) ∧ (∀ f, pol.heap f = heapF f) ∧ (∀ f, pol.muts f = []) ∧ (∀ f, pol.iso f = !inF f) ∧
    (∀ f, heapF f = if f = 67 then [4] else if f = 75 then [2, 3] else if f = 23 then [1000002] else if f = 25 then [1000002] else if f = 27 then [1000002] else if f = 51 then [1000002, 1000003] else if f = 13 then [1000002, 1000003] else if f = 15 then [1000003] else if f = 35 then [1000001] else if f = 41 then [1000001] else if f = 34 then [3, 1000005] else if f = 40 then [3, 1000005] else []) ∧
    (∀ f, inF f = (f == 75 || f == 78 || f == 63 || f == 65)) ∧ (∀ s, evS s (.global 0) = .rop [.int .i64 0, .int .i64 64, .int .i64 64, .int .i64 512, .int .i64 256, .int .i64 1024, .int .i64 512, .int .i64 2048, .int .i64 1024, .int .i64 4096, .int .i64 2048, .int .i64 16384]) :=
  ⟨fun _ => rfl, fun _ => rfl, fun _ => rfl, fun _ => rfl, fun _ => rfl, fun _ => rfl, fun _ => rfl⟩
abbrev I (n : Int) : PV := .int .i64 n
abbrev U (n : Int) : PV := .int .u64 n
abbrev rat (n d : Int) : PV := .agg [.int .i64 n, .int .i64 d]
theorem wrap_u64 (n : Int) : IntKind.u64.wrap n = n % 18446744073709551616 := by simp [IntKind.wrap, IntKind.bits, IntKind.signed]
theorem wrap_i64 (n : Int) : IntKind.i64.wrap n = (n + 9223372036854775808) % 18446744073709551616 - 9223372036854775808 := by rw [IntKind.wrap_i64]
def mag (x : Int) : Int := if x < 0 then -x else x
def I64 (x : Int) : Prop := -9223372036854775808 ≤ x ∧ x ≤ 9223372036854775807
def U64 (x : Int) : Prop := 0 ≤ x ∧ x ≤ 18446744073709551615
theorem u64_in {x : Int} (h : U64 x) : IntKind.u64.wrap x = x := by
  unfold U64 at h; rw [wrap_u64]; omega
theorem i64_in {x : Int} (h : I64 x) : IntKind.i64.wrap x = x := IntWalk.i64_in x h
theorem c_mag (x : Int) (h : I64 x) : ap Tryd.prog pol 66 [I x] = some (.ret (U (mag x))) := by
  rw [ap_eq _ Tryd.func66 rfl Tryd.ntmps66 Tryd.results66 (by kernel_rfl) rfl (by exact Nat.le_of_ble_eq_true rfl)]
  simp (config := { maxSteps := 1000000 }) only [RUN, PATHS, BASE, FA, POL, start_tm, Heap.empty, reduceIte, Nat.reduceLT, Nat.reduceLeDiff, Nat.reduceEqDiff, Nat.reduceAdd, Nat.reduceSub, Nat.reduceMul, Nat.reduceBEq, Int.reduceLT, Int.reduceLE, Int.reduceEq, Int.reduceNeg, Int.reduceAdd, Int.reduceSub, Int.reduceMul, Bool.false_eq_true, Bool.not_true, Bool.not_false, decide_eq_true_eq, and_self, true_and, and_true, reduceCtorEq, ne_eq, not_false_eq_true, not_true_eq_false, decide_true, decide_false, or_false, false_or]
  unfold I64 at h
  unfold mag
  split
  · rw [wrap_u64, wrap_u64]; congr 3; omega
  · rw [wrap_u64]; congr 3; omega
theorem gcd_step {a b : Int} (ha : 0 ≤ a) (hb : 0 < b) : Nat.gcd b.toNat (a % b).toNat = Nat.gcd a.toNat b.toNat := by
  rw [Nat.gcd_comm, Int.toNat_emod ha (by omega), Nat.gcd_comm a.toNat, ← Nat.gcd_rec]
theorem c_refdiv (x y : Int) (hx : 0 ≤ x) (hy : 0 ≤ y) : ap Tryd.prog pol 80 [I x, I y] = some (.ret (I (Nat.gcd x.toNat y.toNat))) := by
  rw [ap_eq _ Tryd.func80 rfl Tryd.ntmps80 Tryd.results80 (by kernel_rfl) rfl (by exact Nat.le_of_ble_eq_true rfl)]
  simp (config := { maxSteps := 1000000 }) only [RUN, PATHS, BASE, FA, POL, start_tm, Heap.empty, reduceIte, Nat.reduceLT, Nat.reduceLeDiff, Nat.reduceEqDiff, Nat.reduceAdd, Nat.reduceSub, Nat.reduceMul, Nat.reduceBEq, Int.reduceLT, Int.reduceLE, Int.reduceEq, Int.reduceNeg, Int.reduceAdd, Int.reduceSub, Int.reduceMul, Bool.false_eq_true, Bool.not_true, Bool.not_false, decide_eq_true_eq, and_self, true_and, and_true, reduceCtorEq, ne_eq, not_false_eq_true, not_true_eq_false, decide_true, decide_false, or_false, false_or]
  generalize hL : W _ (.loop _) _ = L
  obtain ⟨ex, s, rfl, rfl, h0, hd⟩ := loop_at hL (α := Int × Int) (fun x => x.2.toNat)
    (fun _ q s => 0 ≤ q.1 ∧ 0 ≤ q.2 ∧ Nat.gcd q.1.toNat q.2.toNat = Nat.gcd x.toNat y.toNat ∧ s.tmps 0 = I q.1 ∧ s.tmps 1 = I q.2 ∧ s.defers = [])
    (fun _ ex s => ex = .exit 0 ∧ s.tmps 0 = I (Nat.gcd x.toNat y.toNat) ∧ s.defers = []) (x, y)
    (by simp (config := { maxSteps := 1000000 }) only [RUN, PATHS, BASE, FA, POL, start_tm, Heap.empty, reduceIte, Nat.reduceLT, Nat.reduceLeDiff, Nat.reduceEqDiff, Nat.reduceAdd, Nat.reduceSub, Nat.reduceMul, Nat.reduceBEq, Int.reduceLT, Int.reduceLE, Int.reduceEq, Int.reduceNeg, Int.reduceAdd, Int.reduceSub, Int.reduceMul, Bool.false_eq_true, Bool.not_true, Bool.not_false, decide_eq_true_eq, and_self, true_and, and_true, reduceCtorEq, ne_eq, not_false_eq_true, not_true_eq_false, decide_true, decide_false, or_false, false_or, hx, hy]) (by
      rintro ⟨a, b⟩ s r hW ⟨ha, hb, hg, h0, h1, hd⟩
      simp only at ha hb hg h0 h1
      simp (config := { maxSteps := 1000000 }) only [RUN, PATHS, BASE, FA, POL, start_tm, Heap.empty, reduceIte, Nat.reduceLT, Nat.reduceLeDiff, Nat.reduceEqDiff, Nat.reduceAdd, Nat.reduceSub, Nat.reduceMul, Nat.reduceBEq, Int.reduceLT, Int.reduceLE, Int.reduceEq, Int.reduceNeg, Int.reduceAdd, Int.reduceSub, Int.reduceMul, Bool.false_eq_true, Bool.not_true, Bool.not_false, decide_eq_true_eq, and_self, true_and, and_true, reduceCtorEq, ne_eq, not_false_eq_true, not_true_eq_false, decide_true, decide_false, or_false, false_or, h0, h1, hd] at hW
      subst hW
      refine rd_ite (fun hp => ?_) (fun hp => ?_)
      · rw [if_neg (by omega)]
        have e : a.tmod b = a % b := Int.tmod_eq_emod_of_nonneg ha
        have e1 := Int.emod_nonneg a (b := b) (by omega)
        have e2 := Int.emod_lt_of_pos a hp
        rw [e]
        refine rd_next (b, a % b) ?_ (by simp only; omega)
        simp (config := { maxSteps := 1000000 }) only [RUN, PATHS, BASE, FA, POL, start_tm, Heap.empty, reduceIte, Nat.reduceLT, Nat.reduceLeDiff, Nat.reduceEqDiff, Nat.reduceAdd, Nat.reduceSub, Nat.reduceMul, Nat.reduceBEq, Int.reduceLT, Int.reduceLE, Int.reduceEq, Int.reduceNeg, Int.reduceAdd, Int.reduceSub, Int.reduceMul, Bool.false_eq_true, Bool.not_true, Bool.not_false, decide_eq_true_eq, and_self, true_and, and_true, reduceCtorEq, ne_eq, not_false_eq_true, not_true_eq_false, decide_true, decide_false, or_false, false_or]
        exact ⟨hb, e1, (gcd_step ha hp).trans hg⟩
      · refine rd_exit ⟨rfl, ?_⟩
        have : b = 0 := by omega
        subst this
        simp only [Int.toNat_zero, Nat.gcd_zero_right] at hg
        simp (config := { maxSteps := 1000000 }) only [RUN, PATHS, BASE, FA, POL, start_tm, Heap.empty, reduceIte, Nat.reduceLT, Nat.reduceLeDiff, Nat.reduceEqDiff, Nat.reduceAdd, Nat.reduceSub, Nat.reduceMul, Nat.reduceBEq, Int.reduceLT, Int.reduceLE, Int.reduceEq, Int.reduceNeg, Int.reduceAdd, Int.reduceSub, Int.reduceMul, Bool.false_eq_true, Bool.not_true, Bool.not_false, decide_eq_true_eq, and_self, true_and, and_true, reduceCtorEq, ne_eq, not_false_eq_true, not_true_eq_false, decide_true, decide_false, or_false, false_or, h0]
        congr 1
        omega)
  simp (config := { maxSteps := 1000000 }) only [RUN, PATHS, BASE, FA, POL, start_tm, Heap.empty, reduceIte, Nat.reduceLT, Nat.reduceLeDiff, Nat.reduceEqDiff, Nat.reduceAdd, Nat.reduceSub, Nat.reduceMul, Nat.reduceBEq, Int.reduceLT, Int.reduceLE, Int.reduceEq, Int.reduceNeg, Int.reduceAdd, Int.reduceSub, Int.reduceMul, Bool.false_eq_true, Bool.not_true, Bool.not_false, decide_eq_true_eq, and_self, true_and, and_true, reduceCtorEq, ne_eq, not_false_eq_true, not_true_eq_false, decide_true, decide_false, or_false, false_or, h0, hd]
theorem c_size (x : Int) (h : I64 x) (h' : x ≠ -9223372036854775808) : ap Tryd.prog pol 81 [I x] = some (.ret (I (mag x))) := by
  rw [ap_eq _ Tryd.func81 rfl Tryd.ntmps81 Tryd.results81 (by kernel_rfl) rfl (by exact Nat.le_of_ble_eq_true rfl)]
  simp (config := { maxSteps := 1000000 }) only [RUN, PATHS, BASE, FA, POL, start_tm, Heap.empty, reduceIte, Nat.reduceLT, Nat.reduceLeDiff, Nat.reduceEqDiff, Nat.reduceAdd, Nat.reduceSub, Nat.reduceMul, Nat.reduceBEq, Int.reduceLT, Int.reduceLE, Int.reduceEq, Int.reduceNeg, Int.reduceAdd, Int.reduceSub, Int.reduceMul, Bool.false_eq_true, Bool.not_true, Bool.not_false, decide_eq_true_eq, and_self, true_and, and_true, reduceCtorEq, ne_eq, not_false_eq_true, not_true_eq_false, decide_true, decide_false, or_false, false_or]
  unfold I64 at h
  unfold mag
  split
  · rw [wrap_i64]; congr 3; omega
  · rfl
theorem c_rem (x y : Int) (H : Heap) : callF G Tryd.prog pol 75 [U x, U y] H = some (.ret (.fn 78 [.ptr (H.next + 1) 1 0 0, .ptr (H.next + 2) 1 0 0]), ((⟨H.rows, H.next + 1⟩ : Heap).add (.gro 1 [U x] 0)).add (.gro 1 [U y] 0)) := by
  rw [callF_eq _ _ Tryd.func75 rfl Tryd.ntmps75 Tryd.results75 (by kernel_rfl) rfl (by exact Nat.le_of_ble_eq_true rfl)]
  simp (config := { maxSteps := 1000000 }) only [RUN, PATHS, BASE, FA, POL, start_tm, Heap.empty, reduceIte, Nat.reduceLT, Nat.reduceLeDiff, Nat.reduceEqDiff, Nat.reduceAdd, Nat.reduceSub, Nat.reduceMul, Nat.reduceBEq, Int.reduceLT, Int.reduceLE, Int.reduceEq, Int.reduceNeg, Int.reduceAdd, Int.reduceSub, Int.reduceMul, Bool.false_eq_true, Bool.not_true, Bool.not_false, decide_eq_true_eq, and_self, true_and, and_true, reduceCtorEq, ne_eq, not_false_eq_true, not_true_eq_false, decide_true, decide_false, or_false, false_or]
theorem c_div (x y : Int) (hx : U64 x) (hy : U64 y) : ap Tryd.prog pol 67 [U x, U y] = some (.ret (U (Nat.gcd x.toNat y.toNat))) := by
  rw [ap_eq _ Tryd.func67 rfl Tryd.ntmps67 Tryd.results67 (by kernel_rfl) rfl (by exact Nat.le_of_ble_eq_true rfl)]
  simp (config := { maxSteps := 1000000 }) only [RUN, PATHS, BASE, FA, POL, start_tm, Heap.empty, reduceIte, Nat.reduceLT, Nat.reduceLeDiff, Nat.reduceEqDiff, Nat.reduceAdd, Nat.reduceSub, Nat.reduceMul, Nat.reduceBEq, Int.reduceLT, Int.reduceLE, Int.reduceEq, Int.reduceNeg, Int.reduceAdd, Int.reduceSub, Int.reduceMul, Bool.false_eq_true, Bool.not_true, Bool.not_false, decide_eq_true_eq, and_self, true_and, and_true, reduceCtorEq, ne_eq, not_false_eq_true, not_true_eq_false, decide_true, decide_false, or_false, false_or, c_rem]
  unfold U64 at hx hy
  split
  · next h => subst h; simp; omega
  · next h =>
    rw [callF_eq _ _ Tryd.func78 rfl Tryd.ntmps78 Tryd.results78 (by kernel_rfl) rfl (by exact Nat.le_of_ble_eq_true rfl)]
    simp (config := { maxSteps := 1000000 }) only [RUN, PATHS, BASE, FA, POL, start_tm, Heap.empty, reduceIte, Nat.reduceLT, Nat.reduceLeDiff, Nat.reduceEqDiff, Nat.reduceAdd, Nat.reduceSub, Nat.reduceMul, Nat.reduceBEq, Int.reduceLT, Int.reduceLE, Int.reduceEq, Int.reduceNeg, Int.reduceAdd, Int.reduceSub, Int.reduceMul, Bool.false_eq_true, Bool.not_true, Bool.not_false, decide_eq_true_eq, and_self, true_and, and_true, reduceCtorEq, ne_eq, not_false_eq_true, not_true_eq_false, decide_true, decide_false, or_false, false_or]
    generalize hL : W _ (.loop _) _ = L
    obtain ⟨ex, s, rfl, hex, h1, h5, h6, hd⟩ := loop_at hL (α := Int × Int × Int) (fun x => x.2.1.toNat)
      (fun s0 q s => 0 ≤ q.1 ∧ 0 < q.2.1 ∧ Nat.gcd q.1.toNat q.2.1.toNat = Nat.gcd x.toNat y.toNat ∧ (q.1 = 0 → q.2.2 = Nat.gcd x.toNat y.toNat) ∧ s.tmps 0 = .yield 6 ∧ s.tmps 1 = .ptr 3 1 0 0 ∧ s.tmps 2 = .ptr 4 1 0 0 ∧ s.defers = [] ∧
        s.H.rows 1 = some (.gro 1 [U q.2.2] 0) ∧ s.H.rows 3 = some (.gro 1 [U q.1] 0) ∧ s.H.rows 4 = some (.gro 1 [U q.2.1] 0) ∧ s.H.rows 5 = some .dfr ∧ s.H.rows 6 = s0.H.rows 6)
      (fun s0 ex s => (ex = .exit 0 ∨ ex = .ret) ∧ s.H.rows 1 = some (.gro 1 [U (Nat.gcd x.toNat y.toNat)] 0) ∧ s.H.rows 5 = some .dfr ∧ s.H.rows 6 = s0.H.rows 6 ∧ s.defers = []) (x, y, y)
      (by simp (config := { maxSteps := 1000000 }) only [RUN, PATHS, BASE, FA, POL, start_tm, Heap.empty, reduceIte, Nat.reduceLT, Nat.reduceLeDiff, Nat.reduceEqDiff, Nat.reduceAdd, Nat.reduceSub, Nat.reduceMul, Nat.reduceBEq, Int.reduceLT, Int.reduceLE, Int.reduceEq, Int.reduceNeg, Int.reduceAdd, Int.reduceSub, Int.reduceMul, Bool.false_eq_true, Bool.not_true, Bool.not_false, decide_eq_true_eq, and_self, true_and, and_true, reduceCtorEq, ne_eq, not_false_eq_true, not_true_eq_false, decide_true, decide_false, or_false, false_or]
          refine ⟨by omega, by omega, ?_⟩
          intro e; subst e; simp; omega) (by
        rintro ⟨a, b, d⟩ s r hW ⟨ha, hb, hg, h0d, h0, h1, h2, hd, r1, r3, r4, r5, r6⟩
        simp only at ha hb hg h0d h0 h1 h2 r1 r3 r4
        simp (config := { maxSteps := 1000000 }) only [RUN, PATHS, BASE, FA, POL, start_tm, Heap.empty, reduceIte, Nat.reduceLT, Nat.reduceLeDiff, Nat.reduceEqDiff, Nat.reduceAdd, Nat.reduceSub, Nat.reduceMul, Nat.reduceBEq, Int.reduceLT, Int.reduceLE, Int.reduceEq, Int.reduceNeg, Int.reduceAdd, Int.reduceSub, Int.reduceMul, Bool.false_eq_true, Bool.not_true, Bool.not_false, decide_eq_true_eq, and_self, true_and, and_true, reduceCtorEq, ne_eq, not_false_eq_true, not_true_eq_false, decide_true, decide_false, or_false, false_or] at r6
        simp (config := { maxSteps := 1000000 }) only [RUN, PATHS, BASE, FA, POL, start_tm, Heap.empty, reduceIte, Nat.reduceLT, Nat.reduceLeDiff, Nat.reduceEqDiff, Nat.reduceAdd, Nat.reduceSub, Nat.reduceMul, Nat.reduceBEq, Int.reduceLT, Int.reduceLE, Int.reduceEq, Int.reduceNeg, Int.reduceAdd, Int.reduceSub, Int.reduceMul, Bool.false_eq_true, Bool.not_true, Bool.not_false, decide_eq_true_eq, and_self, true_and, and_true, reduceCtorEq, ne_eq, not_false_eq_true, not_true_eq_false, decide_true, decide_false, or_false, false_or, h0, h1, h2, hd, r1, r3, r4, r5, r6, Tryd.func67] at hW
        subst hW
        have hm : max b 1 = b := by omega
        refine rd_ite (fun hp => ?_) (fun hp => ?_)
        · rw [if_neg (by omega), if_pos (by kernel_rfl), hm]
          have e : a.tmod b = a % b := Int.tmod_eq_emod_of_nonneg ha
          have e1 := Int.emod_nonneg a (b := b) (by omega)
          have e2 := Int.emod_lt_of_pos a hb
          have eg := (gcd_step ha hb).trans hg
          rw [e]
          refine rd_ite (fun hz => ?_) (fun hz => ?_)
          · refine rd_ret ⟨.inr rfl, ?_⟩
            rw [hz] at eg
            simp only [Int.toNat_zero, Nat.gcd_zero_right] at eg
            simp (config := { maxSteps := 1000000 }) only [RUN, PATHS, BASE, FA, POL, start_tm, Heap.empty, reduceIte, Nat.reduceLT, Nat.reduceLeDiff, Nat.reduceEqDiff, Nat.reduceAdd, Nat.reduceSub, Nat.reduceMul, Nat.reduceBEq, Int.reduceLT, Int.reduceLE, Int.reduceEq, Int.reduceNeg, Int.reduceAdd, Int.reduceSub, Int.reduceMul, Bool.false_eq_true, Bool.not_true, Bool.not_false, decide_eq_true_eq, and_self, true_and, and_true, reduceCtorEq, ne_eq, not_false_eq_true, not_true_eq_false, decide_true, decide_false, or_false, false_or, r5, r6]
            congr 5
            omega
          · refine rd_next (b, a % b, a) ?_ (by simp only; omega)
            simp (config := { maxSteps := 1000000 }) only [RUN, PATHS, BASE, FA, POL, start_tm, Heap.empty, reduceIte, Nat.reduceLT, Nat.reduceLeDiff, Nat.reduceEqDiff, Nat.reduceAdd, Nat.reduceSub, Nat.reduceMul, Nat.reduceBEq, Int.reduceLT, Int.reduceLE, Int.reduceEq, Int.reduceNeg, Int.reduceAdd, Int.reduceSub, Int.reduceMul, Bool.false_eq_true, Bool.not_true, Bool.not_false, decide_eq_true_eq, and_self, true_and, and_true, reduceCtorEq, ne_eq, not_false_eq_true, not_true_eq_false, decide_true, decide_false, or_false, false_or, r5, r6, eg]
            exact ⟨by omega, by omega, by omega, h0, h1, h2⟩
        · refine rd_exit ⟨.inl rfl, ?_⟩
          simp (config := { maxSteps := 1000000 }) only [RUN, PATHS, BASE, FA, POL, start_tm, Heap.empty, reduceIte, Nat.reduceLT, Nat.reduceLeDiff, Nat.reduceEqDiff, Nat.reduceAdd, Nat.reduceSub, Nat.reduceMul, Nat.reduceBEq, Int.reduceLT, Int.reduceLE, Int.reduceEq, Int.reduceNeg, Int.reduceAdd, Int.reduceSub, Int.reduceMul, Bool.false_eq_true, Bool.not_true, Bool.not_false, decide_eq_true_eq, and_self, true_and, and_true, reduceCtorEq, ne_eq, not_false_eq_true, not_true_eq_false, decide_true, decide_false, or_false, false_or, r1, r5, r6]
          rw [h0d (by omega)])
    simp (config := { maxSteps := 1000000 }) only [RUN, PATHS, BASE, FA, POL, start_tm, Heap.empty, reduceIte, Nat.reduceLT, Nat.reduceLeDiff, Nat.reduceEqDiff, Nat.reduceAdd, Nat.reduceSub, Nat.reduceMul, Nat.reduceBEq, Int.reduceLT, Int.reduceLE, Int.reduceEq, Int.reduceNeg, Int.reduceAdd, Int.reduceSub, Int.reduceMul, Bool.false_eq_true, Bool.not_true, Bool.not_false, decide_eq_true_eq, and_self, true_and, and_true, reduceCtorEq, ne_eq, not_false_eq_true, not_true_eq_false, decide_true, decide_false, or_false, false_or] at h6
    rcases hex with rfl | rfl <;> simp (config := { maxSteps := 1000000 }) only [RUN, PATHS, BASE, FA, POL, start_tm, Heap.empty, reduceIte, Nat.reduceLT, Nat.reduceLeDiff, Nat.reduceEqDiff, Nat.reduceAdd, Nat.reduceSub, Nat.reduceMul, Nat.reduceBEq, Int.reduceLT, Int.reduceLE, Int.reduceEq, Int.reduceNeg, Int.reduceAdd, Int.reduceSub, Int.reduceMul, Bool.false_eq_true, Bool.not_true, Bool.not_false, decide_eq_true_eq, and_self, true_and, and_true, reduceCtorEq, ne_eq, not_false_eq_true, not_true_eq_false, decide_true, decide_false, or_false, false_or, h1, h5, h6, hd]
end Go.Proofs.YthhhahkiflkemaaDoor
