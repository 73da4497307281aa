/-
  Fractions, as expand and its reference use them.
-/
import Derived.Test.YtaggpjlkapnonaaC1
set_option linter.unusedSimpArgs false
set_option linter.unusedVariables false
set_option linter.unusedSectionVars false
namespace Go.Proofs.Ytaggpjlkapnonaa
open Go GoV
set_option maxRecDepth 100000

abbrev U (n : Int) : PV := .int .u64 n
abbrev rat (n d : Int) : PV := .agg [.int .i64 n, .int .i64 d]
theorem wrap_u64 (n : Int) : IntKind.u64.wrap n = n % 18446744073709551616 := by simp [IntKind.wrap, IntKind.bits, IntKind.signed]
theorem wrap_i64 (n : Int) : IntKind.i64.wrap n = (n + 9223372036854775808) % 18446744073709551616 - 9223372036854775808 := by rw [IntKind.wrap_i64]
def mag (x : Int) : Int := if x < 0 then -x else x
def U64 (x : Int) : Prop := 0 ≤ x ∧ x ≤ 18446744073709551615
theorem u64_in {x : Int} (h : U64 x) : IntKind.u64.wrap x = x := by
  unfold U64 at h; rw [wrap_u64]; omega
theorem c_mag (x : Int) (h : I64 x) : ap Try.prog pol 68 [I x] = some (.ret (U (mag x))) := by
  rw [ap_eq _ Try.func68 rfl Try.ntmps68 Try.results68 (by kernel_rfl) rfl (by exact Nat.le_of_ble_eq_true rfl)]
  simp (config := { maxSteps := 1000000 }) only [RUN, PATHS, BASE, FA, POL, start_tm, Heap.empty, reduceIte, Nat.reduceLT, Nat.reduceLeDiff, Nat.reduceEqDiff, Nat.reduceAdd, Nat.reduceSub, Nat.reduceMul, Nat.reduceBEq, Int.reduceLT, Int.reduceLE, Int.reduceEq, Int.reduceNeg, Int.reduceAdd, Int.reduceSub, Int.reduceMul, Bool.false_eq_true, Bool.not_true, Bool.not_false, decide_eq_true_eq, and_self, true_and, and_true, reduceCtorEq, ne_eq, not_false_eq_true, not_true_eq_false, decide_true, decide_false, or_false, false_or]
  unfold I64 at h
  unfold mag
  split
  · rw [wrap_u64, wrap_u64]; congr 3; omega
  · rw [wrap_u64]; congr 3; omega
theorem gcd_step {a b : Int} (ha : 0 ≤ a) (hb : 0 < b) : Nat.gcd b.toNat (a % b).toNat = Nat.gcd a.toNat b.toNat := by
  rw [Nat.gcd_comm, Int.toNat_emod ha (by omega), Nat.gcd_comm a.toNat, ← Nat.gcd_rec]
theorem c_refdiv (x y : Int) (hx : 0 ≤ x) (hy : 0 ≤ y) : ap Try.prog pol 73 [I x, I y] = some (.ret (I (Nat.gcd x.toNat y.toNat))) := by
  rw [ap_eq _ Try.func73 rfl Try.ntmps73 Try.results73 (by kernel_rfl) rfl (by exact Nat.le_of_ble_eq_true rfl)]
  simp (config := { maxSteps := 1000000 }) only [RUN, PATHS, BASE, FA, POL, start_tm, Heap.empty, reduceIte, Nat.reduceLT, Nat.reduceLeDiff, Nat.reduceEqDiff, Nat.reduceAdd, Nat.reduceSub, Nat.reduceMul, Nat.reduceBEq, Int.reduceLT, Int.reduceLE, Int.reduceEq, Int.reduceNeg, Int.reduceAdd, Int.reduceSub, Int.reduceMul, Bool.false_eq_true, Bool.not_true, Bool.not_false, decide_eq_true_eq, and_self, true_and, and_true, reduceCtorEq, ne_eq, not_false_eq_true, not_true_eq_false, decide_true, decide_false, or_false, false_or]
  generalize hL : W _ (.loop _) _ = L
  obtain ⟨ex, s, rfl, rfl, h0, hd⟩ := loop_at hL (α := Int × Int) (fun x => x.2.toNat)
    (fun _ q s => 0 ≤ q.1 ∧ 0 ≤ q.2 ∧ Nat.gcd q.1.toNat q.2.toNat = Nat.gcd x.toNat y.toNat ∧ s.tmps 0 = I q.1 ∧ s.tmps 1 = I q.2 ∧ s.defers = [])
    (fun _ ex s => ex = .exit 0 ∧ s.tmps 0 = I (Nat.gcd x.toNat y.toNat) ∧ s.defers = []) (x, y)
    (by simp (config := { maxSteps := 1000000 }) only [RUN, PATHS, BASE, FA, POL, start_tm, Heap.empty, reduceIte, Nat.reduceLT, Nat.reduceLeDiff, Nat.reduceEqDiff, Nat.reduceAdd, Nat.reduceSub, Nat.reduceMul, Nat.reduceBEq, Int.reduceLT, Int.reduceLE, Int.reduceEq, Int.reduceNeg, Int.reduceAdd, Int.reduceSub, Int.reduceMul, Bool.false_eq_true, Bool.not_true, Bool.not_false, decide_eq_true_eq, and_self, true_and, and_true, reduceCtorEq, ne_eq, not_false_eq_true, not_true_eq_false, decide_true, decide_false, or_false, false_or, hx, hy]) (by
      rintro ⟨a, b⟩ s r hW ⟨ha, hb, hg, h0, h1, hd⟩
      simp only at ha hb hg h0 h1
      simp (config := { maxSteps := 1000000 }) only [RUN, PATHS, BASE, FA, POL, start_tm, Heap.empty, reduceIte, Nat.reduceLT, Nat.reduceLeDiff, Nat.reduceEqDiff, Nat.reduceAdd, Nat.reduceSub, Nat.reduceMul, Nat.reduceBEq, Int.reduceLT, Int.reduceLE, Int.reduceEq, Int.reduceNeg, Int.reduceAdd, Int.reduceSub, Int.reduceMul, Bool.false_eq_true, Bool.not_true, Bool.not_false, decide_eq_true_eq, and_self, true_and, and_true, reduceCtorEq, ne_eq, not_false_eq_true, not_true_eq_false, decide_true, decide_false, or_false, false_or, h0, h1, hd] at hW
      subst hW
      refine rd_ite (fun hp => ?_) (fun hp => ?_)
      · rw [if_neg (by omega)]
        have e : a.tmod b = a % b := Int.tmod_eq_emod_of_nonneg ha
        have e1 := Int.emod_nonneg a (b := b) (by omega)
        have e2 := Int.emod_lt_of_pos a hp
        rw [e]
        refine rd_next (b, a % b) ?_ (by simp only; omega)
        simp (config := { maxSteps := 1000000 }) only [RUN, PATHS, BASE, FA, POL, start_tm, Heap.empty, reduceIte, Nat.reduceLT, Nat.reduceLeDiff, Nat.reduceEqDiff, Nat.reduceAdd, Nat.reduceSub, Nat.reduceMul, Nat.reduceBEq, Int.reduceLT, Int.reduceLE, Int.reduceEq, Int.reduceNeg, Int.reduceAdd, Int.reduceSub, Int.reduceMul, Bool.false_eq_true, Bool.not_true, Bool.not_false, decide_eq_true_eq, and_self, true_and, and_true, reduceCtorEq, ne_eq, not_false_eq_true, not_true_eq_false, decide_true, decide_false, or_false, false_or]
        exact ⟨hb, e1, (gcd_step ha hp).trans hg⟩
      · refine rd_exit ⟨rfl, ?_⟩
        have : b = 0 := by omega
        subst this
        simp only [Int.toNat_zero, Nat.gcd_zero_right] at hg
        simp (config := { maxSteps := 1000000 }) only [RUN, PATHS, BASE, FA, POL, start_tm, Heap.empty, reduceIte, Nat.reduceLT, Nat.reduceLeDiff, Nat.reduceEqDiff, Nat.reduceAdd, Nat.reduceSub, Nat.reduceMul, Nat.reduceBEq, Int.reduceLT, Int.reduceLE, Int.reduceEq, Int.reduceNeg, Int.reduceAdd, Int.reduceSub, Int.reduceMul, Bool.false_eq_true, Bool.not_true, Bool.not_false, decide_eq_true_eq, and_self, true_and, and_true, reduceCtorEq, ne_eq, not_false_eq_true, not_true_eq_false, decide_true, decide_false, or_false, false_or, h0]
        congr 1
        omega)
  simp (config := { maxSteps := 1000000 }) only [RUN, PATHS, BASE, FA, POL, start_tm, Heap.empty, reduceIte, Nat.reduceLT, Nat.reduceLeDiff, Nat.reduceEqDiff, Nat.reduceAdd, Nat.reduceSub, Nat.reduceMul, Nat.reduceBEq, Int.reduceLT, Int.reduceLE, Int.reduceEq, Int.reduceNeg, Int.reduceAdd, Int.reduceSub, Int.reduceMul, Bool.false_eq_true, Bool.not_true, Bool.not_false, decide_eq_true_eq, and_self, true_and, and_true, reduceCtorEq, ne_eq, not_false_eq_true, not_true_eq_false, decide_true, decide_false, or_false, false_or, h0, hd]
theorem c_size (x : Int) (h : I64 x) (h' : x ≠ -9223372036854775808) : ap Try.prog pol 74 [I x] = some (.ret (I (mag x))) := by
  rw [ap_eq _ Try.func74 rfl Try.ntmps74 Try.results74 (by kernel_rfl) rfl (by exact Nat.le_of_ble_eq_true rfl)]
  simp (config := { maxSteps := 1000000 }) only [RUN, PATHS, BASE, FA, POL, start_tm, Heap.empty, reduceIte, Nat.reduceLT, Nat.reduceLeDiff, Nat.reduceEqDiff, Nat.reduceAdd, Nat.reduceSub, Nat.reduceMul, Nat.reduceBEq, Int.reduceLT, Int.reduceLE, Int.reduceEq, Int.reduceNeg, Int.reduceAdd, Int.reduceSub, Int.reduceMul, Bool.false_eq_true, Bool.not_true, Bool.not_false, decide_eq_true_eq, and_self, true_and, and_true, reduceCtorEq, ne_eq, not_false_eq_true, not_true_eq_false, decide_true, decide_false, or_false, false_or]
  unfold I64 at h
  unfold mag
  split
  · rw [wrap_i64]; congr 3; omega
  · rfl
theorem c_rem (x y : Int) (H : Heap) : callF G Try.prog pol 72 [U x, U y] H = some (.ret (.fn 75 [.ptr (H.next + 1) 1 0 0, .ptr (H.next + 2) 1 0 0]), ((⟨H.rows, H.next + 1⟩ : Heap).add (.gro 1 [U x] 0)).add (.gro 1 [U y] 0)) := by
  rw [callF_eq _ _ Try.func72 rfl Try.ntmps72 Try.results72 (by kernel_rfl) rfl (by exact Nat.le_of_ble_eq_true rfl)]
  simp (config := { maxSteps := 1000000 }) only [RUN, PATHS, BASE, FA, POL, start_tm, Heap.empty, reduceIte, Nat.reduceLT, Nat.reduceLeDiff, Nat.reduceEqDiff, Nat.reduceAdd, Nat.reduceSub, Nat.reduceMul, Nat.reduceBEq, Int.reduceLT, Int.reduceLE, Int.reduceEq, Int.reduceNeg, Int.reduceAdd, Int.reduceSub, Int.reduceMul, Bool.false_eq_true, Bool.not_true, Bool.not_false, decide_eq_true_eq, and_self, true_and, and_true, reduceCtorEq, ne_eq, not_false_eq_true, not_true_eq_false, decide_true, decide_false, or_false, false_or]
theorem c_div (x y : Int) (hx : U64 x) (hy : U64 y) : ap Try.prog pol 67 [U x, U y] = some (.ret (U (Nat.gcd x.toNat y.toNat))) := by
  rw [ap_eq _ Try.func67 rfl Try.ntmps67 Try.results67 (by kernel_rfl) rfl (by exact Nat.le_of_ble_eq_true rfl)]
  simp (config := { maxSteps := 1000000 }) only [RUN, PATHS, BASE, FA, POL, start_tm, Heap.empty, reduceIte, Nat.reduceLT, Nat.reduceLeDiff, Nat.reduceEqDiff, Nat.reduceAdd, Nat.reduceSub, Nat.reduceMul, Nat.reduceBEq, Int.reduceLT, Int.reduceLE, Int.reduceEq, Int.reduceNeg, Int.reduceAdd, Int.reduceSub, Int.reduceMul, Bool.false_eq_true, Bool.not_true, Bool.not_false, decide_eq_true_eq, and_self, true_and, and_true, reduceCtorEq, ne_eq, not_false_eq_true, not_true_eq_false, decide_true, decide_false, or_false, false_or, c_rem]
  unfold U64 at hx hy
  split
  · next h => subst h; simp; omega
  · next h =>
    rw [callF_eq _ _ Try.func75 rfl Try.ntmps75 Try.results75 (by kernel_rfl) rfl (by exact Nat.le_of_ble_eq_true rfl)]
    simp (config := { maxSteps := 1000000 }) only [RUN, PATHS, BASE, FA, POL, start_tm, Heap.empty, reduceIte, Nat.reduceLT, Nat.reduceLeDiff, Nat.reduceEqDiff, Nat.reduceAdd, Nat.reduceSub, Nat.reduceMul, Nat.reduceBEq, Int.reduceLT, Int.reduceLE, Int.reduceEq, Int.reduceNeg, Int.reduceAdd, Int.reduceSub, Int.reduceMul, Bool.false_eq_true, Bool.not_true, Bool.not_false, decide_eq_true_eq, and_self, true_and, and_true, reduceCtorEq, ne_eq, not_false_eq_true, not_true_eq_false, decide_true, decide_false, or_false, false_or]
    generalize hL : W _ (.loop _) _ = L
    obtain ⟨ex, s, rfl, hex, h1, h5, h6, hd⟩ := loop_at hL (α := Int × Int × Int) (fun x => x.2.1.toNat)
      (fun s0 q s => 0 ≤ q.1 ∧ 0 < q.2.1 ∧ Nat.gcd q.1.toNat q.2.1.toNat = Nat.gcd x.toNat y.toNat ∧ (q.1 = 0 → q.2.2 = Nat.gcd x.toNat y.toNat) ∧ s.tmps 0 = .yield 6 ∧ s.tmps 1 = .ptr 3 1 0 0 ∧ s.tmps 2 = .ptr 4 1 0 0 ∧ s.defers = [] ∧
        s.H.rows 1 = some (.gro 1 [U q.2.2] 0) ∧ s.H.rows 3 = some (.gro 1 [U q.1] 0) ∧ s.H.rows 4 = some (.gro 1 [U q.2.1] 0) ∧ s.H.rows 5 = some .dfr ∧ s.H.rows 6 = s0.H.rows 6)
      (fun s0 ex s => (ex = .exit 0 ∨ ex = .ret) ∧ s.H.rows 1 = some (.gro 1 [U (Nat.gcd x.toNat y.toNat)] 0) ∧ s.H.rows 5 = some .dfr ∧ s.H.rows 6 = s0.H.rows 6 ∧ s.defers = []) (x, y, y)
      (by simp (config := { maxSteps := 1000000 }) only [RUN, PATHS, BASE, FA, POL, start_tm, Heap.empty, reduceIte, Nat.reduceLT, Nat.reduceLeDiff, Nat.reduceEqDiff, Nat.reduceAdd, Nat.reduceSub, Nat.reduceMul, Nat.reduceBEq, Int.reduceLT, Int.reduceLE, Int.reduceEq, Int.reduceNeg, Int.reduceAdd, Int.reduceSub, Int.reduceMul, Bool.false_eq_true, Bool.not_true, Bool.not_false, decide_eq_true_eq, and_self, true_and, and_true, reduceCtorEq, ne_eq, not_false_eq_true, not_true_eq_false, decide_true, decide_false, or_false, false_or]
          refine ⟨by omega, by omega, ?_⟩
          intro e; subst e; simp; omega) (by
        rintro ⟨a, b, d⟩ s r hW ⟨ha, hb, hg, h0d, h0, h1, h2, hd, r1, r3, r4, r5, r6⟩
        simp only at ha hb hg h0d h0 h1 h2 r1 r3 r4
        simp (config := { maxSteps := 1000000 }) only [RUN, PATHS, BASE, FA, POL, start_tm, Heap.empty, reduceIte, Nat.reduceLT, Nat.reduceLeDiff, Nat.reduceEqDiff, Nat.reduceAdd, Nat.reduceSub, Nat.reduceMul, Nat.reduceBEq, Int.reduceLT, Int.reduceLE, Int.reduceEq, Int.reduceNeg, Int.reduceAdd, Int.reduceSub, Int.reduceMul, Bool.false_eq_true, Bool.not_true, Bool.not_false, decide_eq_true_eq, and_self, true_and, and_true, reduceCtorEq, ne_eq, not_false_eq_true, not_true_eq_false, decide_true, decide_false, or_false, false_or] at r6
        simp (config := { maxSteps := 1000000 }) only [RUN, PATHS, BASE, FA, POL, start_tm, Heap.empty, reduceIte, Nat.reduceLT, Nat.reduceLeDiff, Nat.reduceEqDiff, Nat.reduceAdd, Nat.reduceSub, Nat.reduceMul, Nat.reduceBEq, Int.reduceLT, Int.reduceLE, Int.reduceEq, Int.reduceNeg, Int.reduceAdd, Int.reduceSub, Int.reduceMul, Bool.false_eq_true, Bool.not_true, Bool.not_false, decide_eq_true_eq, and_self, true_and, and_true, reduceCtorEq, ne_eq, not_false_eq_true, not_true_eq_false, decide_true, decide_false, or_false, false_or, h0, h1, h2, hd, r1, r3, r4, r5, r6, Try.func67] at hW
        subst hW
        have hm : max b 1 = b := by omega
        refine rd_ite (fun hp => ?_) (fun hp => ?_)
        · rw [if_neg (by omega), if_pos (by kernel_rfl), hm]
          have e : a.tmod b = a % b := Int.tmod_eq_emod_of_nonneg ha
          have e1 := Int.emod_nonneg a (b := b) (by omega)
          have e2 := Int.emod_lt_of_pos a hb
          have eg := (gcd_step ha hb).trans hg
          rw [e]
          refine rd_ite (fun hz => ?_) (fun hz => ?_)
          · refine rd_ret ⟨.inr rfl, ?_⟩
            rw [hz] at eg
            simp only [Int.toNat_zero, Nat.gcd_zero_right] at eg
            simp (config := { maxSteps := 1000000 }) only [RUN, PATHS, BASE, FA, POL, start_tm, Heap.empty, reduceIte, Nat.reduceLT, Nat.reduceLeDiff, Nat.reduceEqDiff, Nat.reduceAdd, Nat.reduceSub, Nat.reduceMul, Nat.reduceBEq, Int.reduceLT, Int.reduceLE, Int.reduceEq, Int.reduceNeg, Int.reduceAdd, Int.reduceSub, Int.reduceMul, Bool.false_eq_true, Bool.not_true, Bool.not_false, decide_eq_true_eq, and_self, true_and, and_true, reduceCtorEq, ne_eq, not_false_eq_true, not_true_eq_false, decide_true, decide_false, or_false, false_or, r5, r6]
            congr 5
            omega
          · refine rd_next (b, a % b, a) ?_ (by simp only; omega)
            simp (config := { maxSteps := 1000000 }) only [RUN, PATHS, BASE, FA, POL, start_tm, Heap.empty, reduceIte, Nat.reduceLT, Nat.reduceLeDiff, Nat.reduceEqDiff, Nat.reduceAdd, Nat.reduceSub, Nat.reduceMul, Nat.reduceBEq, Int.reduceLT, Int.reduceLE, Int.reduceEq, Int.reduceNeg, Int.reduceAdd, Int.reduceSub, Int.reduceMul, Bool.false_eq_true, Bool.not_true, Bool.not_false, decide_eq_true_eq, and_self, true_and, and_true, reduceCtorEq, ne_eq, not_false_eq_true, not_true_eq_false, decide_true, decide_false, or_false, false_or, r5, r6, eg]
            exact ⟨by omega, by omega, by omega, h0, h1, h2⟩
        · refine rd_exit ⟨.inl rfl, ?_⟩
          simp (config := { maxSteps := 1000000 }) only [RUN, PATHS, BASE, FA, POL, start_tm, Heap.empty, reduceIte, Nat.reduceLT, Nat.reduceLeDiff, Nat.reduceEqDiff, Nat.reduceAdd, Nat.reduceSub, Nat.reduceMul, Nat.reduceBEq, Int.reduceLT, Int.reduceLE, Int.reduceEq, Int.reduceNeg, Int.reduceAdd, Int.reduceSub, Int.reduceMul, Bool.false_eq_true, Bool.not_true, Bool.not_false, decide_eq_true_eq, and_self, true_and, and_true, reduceCtorEq, ne_eq, not_false_eq_true, not_true_eq_false, decide_true, decide_false, or_false, false_or, r1, r5, r6]
          rw [h0d (by omega)])
    simp (config := { maxSteps := 1000000 }) only [RUN, PATHS, BASE, FA, POL, start_tm, Heap.empty, reduceIte, Nat.reduceLT, Nat.reduceLeDiff, Nat.reduceEqDiff, Nat.reduceAdd, Nat.reduceSub, Nat.reduceMul, Nat.reduceBEq, Int.reduceLT, Int.reduceLE, Int.reduceEq, Int.reduceNeg, Int.reduceAdd, Int.reduceSub, Int.reduceMul, Bool.false_eq_true, Bool.not_true, Bool.not_false, decide_eq_true_eq, and_self, true_and, and_true, reduceCtorEq, ne_eq, not_false_eq_true, not_true_eq_false, decide_true, decide_false, or_false, false_or] at h6
    rcases hex with rfl | rfl <;> simp (config := { maxSteps := 1000000 }) only [RUN, PATHS, BASE, FA, POL, start_tm, Heap.empty, reduceIte, Nat.reduceLT, Nat.reduceLeDiff, Nat.reduceEqDiff, Nat.reduceAdd, Nat.reduceSub, Nat.reduceMul, Nat.reduceBEq, Int.reduceLT, Int.reduceLE, Int.reduceEq, Int.reduceNeg, Int.reduceAdd, Int.reduceSub, Int.reduceMul, Bool.false_eq_true, Bool.not_true, Bool.not_false, decide_eq_true_eq, and_self, true_and, and_true, reduceCtorEq, ne_eq, not_false_eq_true, not_true_eq_false, decide_true, decide_false, or_false, false_or, h1, h5, h6, hd]
theorem U64_wrap (x : Int) : U64 (IntKind.u64.wrap x) := by unfold U64; rw [wrap_u64]; omega
theorem I64_wrap (x : Int) : I64 (IntKind.i64.wrap x) := by unfold I64; rw [wrap_i64]; omega
theorem U64_mag {x : Int} (h : I64 x) : U64 (mag x) := by unfold I64 at h; unfold U64 mag; split <;> omega
theorem mag_nat (x : Int) : mag x = x.natAbs := by unfold mag; split <;> omega
def VALID (n d : Int) : Prop := 1 ≤ d ∧ d ≤ 1073741824 ∧ -1073741824 ≤ n ∧ n ≤ 1073741824 ∧ Nat.gcd n.natAbs d.natAbs = 1
instance (n d : Int) : Decidable (VALID n d) := by unfold VALID; infer_instance

theorem c_check (n d : Int) (hn : I64 n) (hd : I64 d) : ap Try.prog pol 64 [rat n d] = some (.ret (I (if VALID n d then 0 else 120))) := by
  rw [ap_eq _ Try.func64 rfl Try.ntmps64 Try.results64 (by kernel_rfl) rfl (by exact Nat.le_of_ble_eq_true rfl)]
  simp (config := { maxSteps := 1000000 }) only [RUN, PATHS, BASE, FA, POL, start_tm, Heap.empty, reduceIte, Nat.reduceLT, Nat.reduceLeDiff, Nat.reduceEqDiff, Nat.reduceAdd, Nat.reduceSub, Nat.reduceMul, Nat.reduceBEq, Int.reduceLT, Int.reduceLE, Int.reduceEq, Int.reduceNeg, Int.reduceAdd, Int.reduceSub, Int.reduceMul, Bool.false_eq_true, Bool.not_true, Bool.not_false, decide_eq_true_eq, and_self, true_and, and_true, reduceCtorEq, ne_eq, not_false_eq_true, not_true_eq_false, decide_true, decide_false, or_false, false_or, c_mag n hn, c_div _ _ (U64_mag hn) (U64_wrap d)]
  unfold I64 at hn hd
  split
  · rw [if_neg (by unfold VALID; omega)]
  split
  · rw [if_neg (by unfold VALID; omega)]
  split
  · rw [if_neg (by unfold VALID; omega)]
  split
  · rw [if_neg (by unfold VALID; omega)]
  rw [u64_in (by unfold U64; omega), mag_nat]
  have e : d.toNat = d.natAbs := by omega
  rw [e, Int.toNat_natCast]
  split
  · next h => rw [if_neg (by unfold VALID; omega)]
  · next h => rw [if_pos (by unfold VALID; omega)]
theorem c_valid (n d : Int) (hn : I64 n) (hd : I64 d) : ap Try.prog pol 69 [rat n d] = some (.ret (.bool (decide (VALID n d)))) := by
  by_cases h : -1073741824 ≤ n
  · rw [ap_eq _ Try.func69 rfl Try.ntmps69 Try.results69 (by kernel_rfl) rfl (by exact Nat.le_of_ble_eq_true rfl)]
    by_cases h1 : 1 ≤ d
    · have hm : 0 ≤ mag n := by unfold mag; split <;> omega
      simp (config := { maxSteps := 1000000 }) only [RUN, PATHS, BASE, FA, POL, start_tm, Heap.empty, reduceIte, Nat.reduceLT, Nat.reduceLeDiff, Nat.reduceEqDiff, Nat.reduceAdd, Nat.reduceSub, Nat.reduceMul, Nat.reduceBEq, Int.reduceLT, Int.reduceLE, Int.reduceEq, Int.reduceNeg, Int.reduceAdd, Int.reduceSub, Int.reduceMul, Bool.false_eq_true, Bool.not_true, Bool.not_false, decide_eq_true_eq, and_self, true_and, and_true, reduceCtorEq, ne_eq, not_false_eq_true, not_true_eq_false, decide_true, decide_false, or_false, false_or, c_size n hn (by omega), c_refdiv _ _ hm (show 0 ≤ d by omega), h, h1]
      have e : d.toNat = d.natAbs := by omega
      rw [e, mag_nat, Int.toNat_natCast]
      unfold VALID
      split
      · split
        · next h2 h3 =>
          congr 3
          simp only [h1, h2, h, h3, true_and]
          congr 1
          apply propext
          omega
        · next h3 => simp only [h3, false_and, and_false, decide_false]
      · next h2 => simp only [h2, false_and, and_false, decide_false]
    · simp (config := { maxSteps := 1000000 }) only [RUN, PATHS, BASE, FA, POL, start_tm, Heap.empty, reduceIte, Nat.reduceLT, Nat.reduceLeDiff, Nat.reduceEqDiff, Nat.reduceAdd, Nat.reduceSub, Nat.reduceMul, Nat.reduceBEq, Int.reduceLT, Int.reduceLE, Int.reduceEq, Int.reduceNeg, Int.reduceAdd, Int.reduceSub, Int.reduceMul, Bool.false_eq_true, Bool.not_true, Bool.not_false, decide_eq_true_eq, and_self, true_and, and_true, reduceCtorEq, ne_eq, not_false_eq_true, not_true_eq_false, decide_true, decide_false, or_false, false_or, h1]
      rw [decide_eq_false (by unfold VALID; omega)]
  · rw [ap_eq _ Try.func69 rfl Try.ntmps69 Try.results69 (by kernel_rfl) rfl (by exact Nat.le_of_ble_eq_true rfl)]
    simp (config := { maxSteps := 1000000 }) only [RUN, PATHS, BASE, FA, POL, start_tm, Heap.empty, reduceIte, Nat.reduceLT, Nat.reduceLeDiff, Nat.reduceEqDiff, Nat.reduceAdd, Nat.reduceSub, Nat.reduceMul, Nat.reduceBEq, Int.reduceLT, Int.reduceLE, Int.reduceEq, Int.reduceNeg, Int.reduceAdd, Int.reduceSub, Int.reduceMul, Bool.false_eq_true, Bool.not_true, Bool.not_false, decide_eq_true_eq, and_self, true_and, and_true, reduceCtorEq, ne_eq, not_false_eq_true, not_true_eq_false, decide_true, decide_false, or_false, false_or, h]
    rw [decide_eq_false (by unfold VALID; omega)]
    repeat' split
    all_goals rfl
theorem c_refcheck12 (n d : Int) (hn : I64 n) (hd : I64 d) : ap Try.prog pol 65 [rat n d] = some (.ret (I (if VALID n d then 0 else 120))) := by
  rw [ap_eq _ Try.func65 rfl Try.ntmps65 Try.results65 (by kernel_rfl) rfl (by exact Nat.le_of_ble_eq_true rfl)]
  simp (config := { maxSteps := 1000000 }) only [RUN, PATHS, BASE, FA, POL, start_tm, Heap.empty, reduceIte, Nat.reduceLT, Nat.reduceLeDiff, Nat.reduceEqDiff, Nat.reduceAdd, Nat.reduceSub, Nat.reduceMul, Nat.reduceBEq, Int.reduceLT, Int.reduceLE, Int.reduceEq, Int.reduceNeg, Int.reduceAdd, Int.reduceSub, Int.reduceMul, Bool.false_eq_true, Bool.not_true, Bool.not_false, decide_eq_true_eq, and_self, true_and, and_true, reduceCtorEq, ne_eq, not_false_eq_true, not_true_eq_false, decide_true, decide_false, or_false, false_or, c_valid n d hn hd]
  by_cases h : VALID n d <;> simp [h]
theorem c_both (a b c d : Int) (ha : I64 a) (hb : I64 b) (hc : I64 c) (hd : I64 d) : ap Try.prog pol 70 [rat a b, rat c d] = some (.ret (.bool (decide (VALID a b ∧ VALID c d)))) := by
  rw [ap_eq _ Try.func70 rfl Try.ntmps70 Try.results70 (by kernel_rfl) rfl (by exact Nat.le_of_ble_eq_true rfl)]
  simp (config := { maxSteps := 1000000 }) only [RUN, PATHS, BASE, FA, POL, start_tm, Heap.empty, reduceIte, Nat.reduceLT, Nat.reduceLeDiff, Nat.reduceEqDiff, Nat.reduceAdd, Nat.reduceSub, Nat.reduceMul, Nat.reduceBEq, Int.reduceLT, Int.reduceLE, Int.reduceEq, Int.reduceNeg, Int.reduceAdd, Int.reduceSub, Int.reduceMul, Bool.false_eq_true, Bool.not_true, Bool.not_false, decide_eq_true_eq, and_self, true_and, and_true, reduceCtorEq, ne_eq, not_false_eq_true, not_true_eq_false, decide_true, decide_false, or_false, false_or, c_valid _ _ ha hb, c_valid _ _ hc hd]
  split
  · next h => simp [h]
  · next h => simp [h]
abbrev w64 (x : Int) : Int := IntKind.i64.wrap x
section
variable (a b c d : Int) (ha : I64 a) (hb : I64 b) (hc : I64 c) (hd : I64 d)
include ha hb hc hd
theorem c_less : ap Try.prog pol 71 [rat a b, rat c d] = some (.ret (.bool (decide (w64 (a * d) < w64 (c * b))))) := by
  rw [ap_eq _ Try.func71 rfl Try.ntmps71 Try.results71 (by kernel_rfl) rfl (by exact Nat.le_of_ble_eq_true rfl)]
  simp (config := { maxSteps := 1000000 }) only [RUN, PATHS, BASE, FA, POL, start_tm, Heap.empty, reduceIte, Nat.reduceLT, Nat.reduceLeDiff, Nat.reduceEqDiff, Nat.reduceAdd, Nat.reduceSub, Nat.reduceMul, Nat.reduceBEq, Int.reduceLT, Int.reduceLE, Int.reduceEq, Int.reduceNeg, Int.reduceAdd, Int.reduceSub, Int.reduceMul, Bool.false_eq_true, Bool.not_true, Bool.not_false, decide_eq_true_eq, and_self, true_and, and_true, reduceCtorEq, ne_eq, not_false_eq_true, not_true_eq_false, decide_true, decide_false, or_false, false_or]
def CMP (x y : Int) : Int := if x < y then -1 else if y < x then 1 else 0
def CMPR (a b c d : Int) : Int × Int := if VALID a b ∧ VALID c d then (CMP (w64 (a * d)) (w64 (c * b)), 0) else (0, 120)
omit ha hb hc hd in
theorem c_nan (x : Int) : ap Try.prog pol 59 [I x] = some (.ret (.bool false)) := by
  rw [ap_eq _ Try.func59 rfl Try.ntmps59 Try.results59 (by kernel_rfl) rfl (by exact Nat.le_of_ble_eq_true rfl)]
  simp (config := { maxSteps := 1000000 }) only [RUN, PATHS, BASE, FA, POL, start_tm, Heap.empty, reduceIte, Nat.reduceLT, Nat.reduceLeDiff, Nat.reduceEqDiff, Nat.reduceAdd, Nat.reduceSub, Nat.reduceMul, Nat.reduceBEq, Int.reduceLT, Int.reduceLE, Int.reduceEq, Int.reduceNeg, Int.reduceAdd, Int.reduceSub, Int.reduceMul, Bool.false_eq_true, Bool.not_true, Bool.not_false, decide_eq_true_eq, and_self, true_and, and_true, reduceCtorEq, ne_eq, not_false_eq_true, not_true_eq_false, decide_true, decide_false, or_false, false_or]
omit ha hb hc hd in
theorem c_compare (x y : Int) : ap Try.prog pol 50 [I x, I y] = some (.ret (I (CMP x y))) := by
  rw [ap_eq _ Try.func50 rfl Try.ntmps50 Try.results50 (by kernel_rfl) rfl (by exact Nat.le_of_ble_eq_true rfl)]
  unfold CMP
  simp (config := { maxSteps := 1000000 }) only [RUN, PATHS, BASE, FA, POL, start_tm, Heap.empty, reduceIte, Nat.reduceLT, Nat.reduceLeDiff, Nat.reduceEqDiff, Nat.reduceAdd, Nat.reduceSub, Nat.reduceMul, Nat.reduceBEq, Int.reduceLT, Int.reduceLE, Int.reduceEq, Int.reduceNeg, Int.reduceAdd, Int.reduceSub, Int.reduceMul, Bool.false_eq_true, Bool.not_true, Bool.not_false, decide_eq_true_eq, and_self, true_and, and_true, reduceCtorEq, ne_eq, not_false_eq_true, not_true_eq_false, decide_true, decide_false, or_false, false_or, c_nan]
  repeat' split
  all_goals rfl
theorem c_cmp : ap Try.prog pol 62 [rat a b, rat c d] = some (.ret (.tup [I (CMPR a b c d).1, I (CMPR a b c d).2])) := by
  rw [ap_eq _ Try.func62 rfl Try.ntmps62 Try.results62 (by kernel_rfl) rfl (by exact Nat.le_of_ble_eq_true rfl)]
  unfold CMPR
  by_cases h1 : VALID a b
  · by_cases h2 : VALID c d
    · simp (config := { maxSteps := 1000000 }) only [RUN, PATHS, BASE, FA, POL, start_tm, Heap.empty, reduceIte, Nat.reduceLT, Nat.reduceLeDiff, Nat.reduceEqDiff, Nat.reduceAdd, Nat.reduceSub, Nat.reduceMul, Nat.reduceBEq, Int.reduceLT, Int.reduceLE, Int.reduceEq, Int.reduceNeg, Int.reduceAdd, Int.reduceSub, Int.reduceMul, Bool.false_eq_true, Bool.not_true, Bool.not_false, decide_eq_true_eq, and_self, true_and, and_true, reduceCtorEq, ne_eq, not_false_eq_true, not_true_eq_false, decide_true, decide_false, or_false, false_or, c_check a b ha hb, c_check c d hc hd, h1, h2, c_compare]
    · simp (config := { maxSteps := 1000000 }) only [RUN, PATHS, BASE, FA, POL, start_tm, Heap.empty, reduceIte, Nat.reduceLT, Nat.reduceLeDiff, Nat.reduceEqDiff, Nat.reduceAdd, Nat.reduceSub, Nat.reduceMul, Nat.reduceBEq, Int.reduceLT, Int.reduceLE, Int.reduceEq, Int.reduceNeg, Int.reduceAdd, Int.reduceSub, Int.reduceMul, Bool.false_eq_true, Bool.not_true, Bool.not_false, decide_eq_true_eq, and_self, true_and, and_true, reduceCtorEq, ne_eq, not_false_eq_true, not_true_eq_false, decide_true, decide_false, or_false, false_or, c_check a b ha hb, c_check c d hc hd, h1, h2, (show ¬ (120 : Int) = 0 by omega)]
  · simp (config := { maxSteps := 1000000 }) only [RUN, PATHS, BASE, FA, POL, start_tm, Heap.empty, reduceIte, Nat.reduceLT, Nat.reduceLeDiff, Nat.reduceEqDiff, Nat.reduceAdd, Nat.reduceSub, Nat.reduceMul, Nat.reduceBEq, Int.reduceLT, Int.reduceLE, Int.reduceEq, Int.reduceNeg, Int.reduceAdd, Int.reduceSub, Int.reduceMul, Bool.false_eq_true, Bool.not_true, Bool.not_false, decide_eq_true_eq, and_self, true_and, and_true, reduceCtorEq, ne_eq, not_false_eq_true, not_true_eq_false, decide_true, decide_false, or_false, false_or, c_check a b ha hb, h1, (show ¬ (120 : Int) = 0 by omega)]
    simp only [false_and, if_false]
theorem c_refcmp : ap Try.prog pol 66 [rat a b, rat c d] = some (.ret (.tup [I (CMPR a b c d).1, I (CMPR a b c d).2])) := by
  rw [ap_eq _ Try.func66 rfl Try.ntmps66 Try.results66 (by kernel_rfl) rfl (by exact Nat.le_of_ble_eq_true rfl)]
  unfold CMPR
  by_cases h : VALID a b ∧ VALID c d
  · simp (config := { maxSteps := 1000000 }) only [RUN, PATHS, BASE, FA, POL, start_tm, Heap.empty, reduceIte, Nat.reduceLT, Nat.reduceLeDiff, Nat.reduceEqDiff, Nat.reduceAdd, Nat.reduceSub, Nat.reduceMul, Nat.reduceBEq, Int.reduceLT, Int.reduceLE, Int.reduceEq, Int.reduceNeg, Int.reduceAdd, Int.reduceSub, Int.reduceMul, Bool.false_eq_true, Bool.not_true, Bool.not_false, decide_eq_true_eq, and_self, true_and, and_true, reduceCtorEq, ne_eq, not_false_eq_true, not_true_eq_false, decide_true, decide_false, or_false, false_or, c_both a b c d ha hb hc hd, h, c_less a b c d ha hb hc hd, c_less c d a b hc hd ha hb]
    unfold CMP
    repeat' split
    all_goals rfl
  · simp (config := { maxSteps := 1000000 }) only [RUN, PATHS, BASE, FA, POL, start_tm, Heap.empty, reduceIte, Nat.reduceLT, Nat.reduceLeDiff, Nat.reduceEqDiff, Nat.reduceAdd, Nat.reduceSub, Nat.reduceMul, Nat.reduceBEq, Int.reduceLT, Int.reduceLE, Int.reduceEq, Int.reduceNeg, Int.reduceAdd, Int.reduceSub, Int.reduceMul, Bool.false_eq_true, Bool.not_true, Bool.not_false, decide_eq_true_eq, and_self, true_and, and_true, reduceCtorEq, ne_eq, not_false_eq_true, not_true_eq_false, decide_true, decide_false, or_false, false_or, c_both a b c d ha hb hc hd, h]
end
end Go.Proofs.Ytaggpjlkapnonaa
