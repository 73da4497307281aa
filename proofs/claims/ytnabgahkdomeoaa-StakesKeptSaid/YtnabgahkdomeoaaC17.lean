/-
  Division of 128 bits.
-/
import Derived.Test.YtnabgahkdomeoaaC16
set_option linter.unusedSimpArgs false
set_option linter.unusedVariables false
set_option linter.unusedSectionVars false
namespace Go.Proofs.Ytnabgahkdomeoaa
open Go GoV
set_option maxRecDepth 100000

set_option maxHeartbeats 2000000 in
theorem c_div64 (hi lo y : Nat) (hh : hi < y) (hl : lo < 18446744073709551616) (hy : y < 18446744073709551616) : ap Try.prog pol 22 [U hi, U lo, U y] =
    some (.ret (.tup [U ((hi * 18446744073709551616 + lo) / y : Nat), U ((hi * 18446744073709551616 + lo) % y : Nat)])) := by
  by_cases h0 : hi = 0
  · subst h0
    rw [Nat.zero_mul, Nat.zero_add]
    have t1 : (lo : Int).tdiv y = ((lo / y : Nat) : Int) := by rw [Int.tdiv_eq_ediv_of_nonneg (by omega)]; simp
    have t2 : (lo : Int).tmod y = ((lo % y : Nat) : Int) := by rw [Int.tmod_eq_emod_of_nonneg (by omega)]; simp
    have l1 := Nat.div_le_self lo y
    rw [ap_eq _ Try.func22 rfl Try.ntmps22 Try.results22 (by kernel_rfl) rfl (by exact Nat.le_of_ble_eq_true rfl)]
    simp (config := { maxSteps := 1000000 }) only [RUN, PATHS, BASE, FA, POL, start_tm, Heap.empty, reduceIte, Nat.reduceLT, Nat.reduceLeDiff, Nat.reduceEqDiff, Nat.reduceAdd, Nat.reduceSub, Nat.reduceMul, Nat.reduceBEq, Int.reduceLT, Int.reduceLE, Int.reduceEq, Int.reduceNeg, Int.reduceAdd, Int.reduceSub, Int.reduceMul, Bool.false_eq_true, Bool.not_true, Bool.not_false, decide_eq_true_eq, and_self, true_and, and_true, reduceCtorEq, ne_eq, not_false_eq_true, not_true_eq_false, decide_true, decide_false, or_false, false_or, NUM, (show ¬ (y : Int) = 0 by omega), (show ¬ (y : Int) ≤ (0 : Nat) by omega), Int.natCast_zero, (show ¬ (y : Int) ≤ 0 by omega), t1, t2, u64_n (n := lo / y) (by omega)]
  obtain ⟨sh, cs, s63, v1, v2⟩ := c_lz y (by omega)
  obtain ⟨k, hk⟩ : ∃ k, sh + k = 64 := ⟨64 - sh, by omega⟩
  obtain ⟨e1, e2, e3⟩ := kd_up hk hh hl v1
  obtain ⟨v, hv⟩ : ∃ v, v = y * 2 ^ sh := ⟨_, rfl⟩
  have cv : (y : Int) * 2 ^ min sh IntKind.u64.bits = (v : Int) := by rw [hv, show min sh IntKind.u64.bits = sh by simp [IntKind.bits]; omega]; simp
  rw [← hv] at v1 v2 e2
  have chi : (hi : Int) * 2 ^ min sh IntKind.u64.bits = ((2 ^ sh * hi : Nat) : Int) := by rw [show min sh IntKind.u64.bits = sh by simp [IntKind.bits]; omega, Nat.mul_comm]; simp
  have clo : (lo : Int) * 2 ^ min sh IntKind.u64.bits = ((lo * 2 ^ sh : Nat) : Int) := by rw [show min sh IntKind.u64.bits = sh by simp [IntKind.bits]; omega]; simp
  have clk := shr_n lo k (by omega)
  obtain ⟨l, hlk⟩ : ∃ l, l = lo / 2 ^ k := ⟨_, rfl⟩
  rw [← hlk] at clk e1 e2 e3
  have cor := or_add hi l sh e3 (by rw [Nat.mul_comm]; omega)
  obtain ⟨u, hu⟩ : ∃ u, u = 2 ^ sh * hi + l := ⟨_, rfl⟩
  rw [← hu] at cor
  rw [show hi * 2 ^ sh + l = u by rw [hu, Nat.mul_comm]] at e1 e2
  have u10w : IntKind.u64.wrap ((lo * 2 ^ sh : Nat) : Int) = ((lo * 2 ^ sh % 18446744073709551616 : Nat) : Int) := by rw [wrap_u64, Int.natCast_emod]; rfl
  obtain ⟨u10, hu10⟩ : ∃ u10, u10 = lo * 2 ^ sh % 18446744073709551616 := ⟨_, rfl⟩
  rw [← hu10] at u10w e1
  obtain ⟨h2, hh2⟩ : ∃ h2, h2 = 2 ^ sh * hi := ⟨_, rfl⟩
  rw [← hh2] at chi cor hu
  have l10 : u10 < 18446744073709551616 := by omega
  have su1 := shr_n u10 32 (by decide)
  have su0 := and_mask u10 l10
  obtain ⟨u1, hu1⟩ : ∃ u1, u1 = u10 / 4294967296 := ⟨_, rfl⟩
  obtain ⟨u0, hu0⟩ : ∃ u0, u0 = u10 % 4294967296 := ⟨_, rfl⟩
  rw [show u10 / 2 ^ 32 = u1 from hu1.symm] at su1
  rw [← hu0] at su0
  have sa := shr_n v 32 (by decide)
  have sb := and_mask v v1
  obtain ⟨a, ha⟩ : ∃ a, a = v / 4294967296 := ⟨_, rfl⟩
  obtain ⟨b, hb⟩ : ∃ b, b = v % 4294967296 := ⟨_, rfl⟩
  rw [show v / 2 ^ 32 = a from ha.symm] at sa
  rw [← hb] at sb
  have hab : v = a * 4294967296 + b := by omega
  have hb32 : b < 4294967296 := by omega
  have a0 : 0 < a := by omega
  have a32 : a < 4294967296 := by omega
  have huL : u < v := e2
  have hu1L : u1 < 4294967296 := by omega
  have hu1M : u0 < 4294967296 := by omega
  have tq : ∀ n : Nat, (n : Int).tdiv a = ((n / a : Nat) : Int) := fun n => by rw [Int.tdiv_eq_ediv_of_nonneg (by omega)]; simp
  have rq : ∀ n : Nat, n < 18446744073709551616 → IntKind.u64.wrap (((n / a : Nat) : Int) * a) = ((n / a * a : Nat) : Int) ∧ IntKind.u64.wrap ((n : Int) - ((n / a * a : Nat) : Int)) = ((n % a : Nat) : Int) := fun n hn => by
    have h1 := Nat.div_mul_le_self n a
    have h2 := Nat.mod_add_div n a
    rw [Nat.mul_comm] at h2
    refine ⟨by rw [← Int.natCast_mul]; exact u64_n (by omega), ?_⟩
    rw [show (n : Int) - ((n / a * a : Nat) : Int) = ((n % a : Nat) : Int) by omega]
    exact u64_n (by have := Nat.mod_lt n a0; omega)
  obtain ⟨r1, r2⟩ := rq u (by omega)
  have dl1 := Nat.div_le_self u a
  rw [ap_eq _ Try.func22 rfl Try.ntmps22 Try.results22 (by kernel_rfl) rfl (by exact Nat.le_of_ble_eq_true rfl)]
  simp (config := { maxSteps := 1000000 }) only [RUN, PATHS, BASE, FA, POL, start_tm, Heap.empty, reduceIte, Nat.reduceLT, Nat.reduceLeDiff, Nat.reduceEqDiff, Nat.reduceAdd, Nat.reduceSub, Nat.reduceMul, Nat.reduceBEq, Int.reduceLT, Int.reduceLE, Int.reduceEq, Int.reduceNeg, Int.reduceAdd, Int.reduceSub, Int.reduceMul, Bool.false_eq_true, Bool.not_true, Bool.not_false, decide_eq_true_eq, and_self, true_and, and_true, reduceCtorEq, ne_eq, not_false_eq_true, not_true_eq_false, decide_true, decide_false, or_false, false_or, NUM, cs, cv, chi, clo, clk, cor, u10w, su1, su0, sa, sb, tq, r1, r2, (show ¬ (y : Int) = 0 by omega), (show ¬ (y : Int) ≤ hi by omega), (show ¬ (hi : Int) = 0 by omega), Int.toNat_natCast, u64_n (n := sh) (by omega), u64_n (n := v) v1, u64_n (n := h2) (by omega), (show (64 : Int) - sh = (k : Int) by omega), u64_n (n := k) (by omega), (show ¬ (sh : Int) < 0 by omega), (show ¬ (k : Int) < 0 by omega), (show ¬ (a : Int) = 0 by omega), (show (32 : Int).toNat = 32 from rfl), u64_n (n := u / a) (by omega)]
  generalize hL : W _ (.loop _) _ = L
  obtain ⟨ex, s, rfl, rfl, h15, h2, h8, h9, h10, h11, h13, h14, hd, hf⟩ := loop_at hL (α := Nat × Nat) (fun p => p.1)
    (fun s0 p s => p.1 * a + p.2 = u ∧ (u * 4294967296 + u1) / v ≤ p.1 ∧ p.2 < 4294967296 ∧ p.1 < 18446744073709551616 ∧ s.tmps 15 = U p.1 ∧ s.tmps 16 = U p.2 ∧ s.tmps 2 = U v ∧ s.tmps 8 = U sh ∧ s.tmps 9 = U a ∧ s.tmps 10 = U b ∧ s.tmps 11 = U u ∧ s.tmps 13 = U u1 ∧ s.tmps 14 = U u0 ∧ s.defers = [] ∧ s.fid = 0)
    (fun s0 ex s => ex = .exit 0 ∧ s.tmps 15 = U ((u * 4294967296 + u1) / v : Nat) ∧ s.tmps 2 = U v ∧ s.tmps 8 = U sh ∧ s.tmps 9 = U a ∧ s.tmps 10 = U b ∧ s.tmps 11 = U u ∧ s.tmps 13 = U u1 ∧ s.tmps 14 = U u0 ∧ s.defers = [] ∧ s.fid = 0) (u / a, u % a)
    (by simp (config := { maxSteps := 1000000 }) only [RUN, PATHS, BASE, FA, POL, start_tm, Heap.empty, reduceIte, Nat.reduceLT, Nat.reduceLeDiff, Nat.reduceEqDiff, Nat.reduceAdd, Nat.reduceSub, Nat.reduceMul, Nat.reduceBEq, Int.reduceLT, Int.reduceLE, Int.reduceEq, Int.reduceNeg, Int.reduceAdd, Int.reduceSub, Int.reduceMul, Bool.false_eq_true, Bool.not_true, Bool.not_false, decide_eq_true_eq, and_self, true_and, and_true, reduceCtorEq, ne_eq, not_false_eq_true, not_true_eq_false, decide_true, decide_false, or_false, false_or]
        refine ⟨by rw [Nat.mul_comm]; exact Nat.div_add_mod u a, kd_first hab a0 hu1L, by have := Nat.mod_lt u a0; omega, by omega⟩) (by
      rintro ⟨q, rh⟩ s r hW ⟨he, hq, hr, hq64, hq0, h16, h2, h8, h9, h10, h11, h13, h14, hd, hf⟩
      dsimp only at he hq hr hq64 hq0 h16
      by_cases hc1 : 4294967296 ≤ q
      · obtain ⟨g1, g2⟩ := kd_less hab hb32 huL hu1L he (.inl hc1) hq
        have he' : (q - 1) * a + (rh + a) = u := by rw [Nat.sub_mul, Nat.one_mul]; have := Nat.mul_le_mul_right a g1; omega
        by_cases hov : 4294967296 ≤ rh + a
        · simp (config := { maxSteps := 1000000 }) only [RUN, PATHS, BASE, FA, POL, start_tm, Heap.empty, reduceIte, Nat.reduceLT, Nat.reduceLeDiff, Nat.reduceEqDiff, Nat.reduceAdd, Nat.reduceSub, Nat.reduceMul, Nat.reduceBEq, Int.reduceLT, Int.reduceLE, Int.reduceEq, Int.reduceNeg, Int.reduceAdd, Int.reduceSub, Int.reduceMul, Bool.false_eq_true, Bool.not_true, Bool.not_false, decide_eq_true_eq, and_self, true_and, and_true, reduceCtorEq, ne_eq, not_false_eq_true, not_true_eq_false, decide_true, decide_false, or_false, false_or, NUM, hq0, h16, h2, h8, h9, h10, h11, h13, h14, hd, hf, (show (4294967296 : Int) ≤ q by omega), (show (q : Int) - 1 = ((q - 1 : Nat) : Int) by omega), u64_n (n := q - 1) (by omega), (show (rh : Int) + a = ((rh + a : Nat) : Int) by omega), u64_n (n := rh + a) (by omega), (show (4294967296 : Int) ≤ ((rh + a : Nat) : Int) by omega)] at hW
          subst hW
          have := kd_over hab hb32 huL he' hov g2
          refine rd_exit ⟨rfl, ?_⟩
          simp (config := { maxSteps := 1000000 }) only [RUN, PATHS, BASE, FA, POL, start_tm, Heap.empty, reduceIte, Nat.reduceLT, Nat.reduceLeDiff, Nat.reduceEqDiff, Nat.reduceAdd, Nat.reduceSub, Nat.reduceMul, Nat.reduceBEq, Int.reduceLT, Int.reduceLE, Int.reduceEq, Int.reduceNeg, Int.reduceAdd, Int.reduceSub, Int.reduceMul, Bool.false_eq_true, Bool.not_true, Bool.not_false, decide_eq_true_eq, and_self, true_and, and_true, reduceCtorEq, ne_eq, not_false_eq_true, not_true_eq_false, decide_true, decide_false, or_false, false_or, h2, h8, h9, h10, h11, h13, h14, hd, hf, this]
        · simp (config := { maxSteps := 1000000 }) only [RUN, PATHS, BASE, FA, POL, start_tm, Heap.empty, reduceIte, Nat.reduceLT, Nat.reduceLeDiff, Nat.reduceEqDiff, Nat.reduceAdd, Nat.reduceSub, Nat.reduceMul, Nat.reduceBEq, Int.reduceLT, Int.reduceLE, Int.reduceEq, Int.reduceNeg, Int.reduceAdd, Int.reduceSub, Int.reduceMul, Bool.false_eq_true, Bool.not_true, Bool.not_false, decide_eq_true_eq, and_self, true_and, and_true, reduceCtorEq, ne_eq, not_false_eq_true, not_true_eq_false, decide_true, decide_false, or_false, false_or, NUM, hq0, h16, h2, h8, h9, h10, h11, h13, h14, hd, hf, (show (4294967296 : Int) ≤ q by omega), (show (q : Int) - 1 = ((q - 1 : Nat) : Int) by omega), u64_n (n := q - 1) (by omega), (show (rh : Int) + a = ((rh + a : Nat) : Int) by omega), u64_n (n := rh + a) (by omega), (show ¬ (4294967296 : Int) ≤ ((rh + a : Nat) : Int) by omega)] at hW
          subst hW
          refine rd_next (q - 1, rh + a) ?_ (show q - 1 < q by omega)
          simp (config := { maxSteps := 1000000 }) only [RUN, PATHS, BASE, FA, POL, start_tm, Heap.empty, reduceIte, Nat.reduceLT, Nat.reduceLeDiff, Nat.reduceEqDiff, Nat.reduceAdd, Nat.reduceSub, Nat.reduceMul, Nat.reduceBEq, Int.reduceLT, Int.reduceLE, Int.reduceEq, Int.reduceNeg, Int.reduceAdd, Int.reduceSub, Int.reduceMul, Bool.false_eq_true, Bool.not_true, Bool.not_false, decide_eq_true_eq, and_self, true_and, and_true, reduceCtorEq, ne_eq, not_false_eq_true, not_true_eq_false, decide_true, decide_false, or_false, false_or, h2, h8, h9, h10, h11, h13, h14, hd, hf]
          exact ⟨he', g2, by omega, by omega⟩
      have b1 : q * b ≤ 4294967295 * 4294967295 := Nat.mul_le_mul (by omega) (by omega)
      obtain ⟨w, hw⟩ : ∃ w, w = q * b := ⟨_, rfl⟩
      have hwc : (q : Int) * b = w := by rw [hw]; simp
      rw [← hw] at b1
      by_cases hc2 : 4294967296 * rh + u1 < w
      · obtain ⟨g1, g2⟩ := kd_less hab hb32 huL hu1L he (.inr (by rw [← hw]; exact hc2)) hq
        have he' : (q - 1) * a + (rh + a) = u := by rw [Nat.sub_mul, Nat.one_mul]; have := Nat.mul_le_mul_right a g1; omega
        by_cases hov : 4294967296 ≤ rh + a
        · simp (config := { maxSteps := 1000000 }) only [RUN, PATHS, BASE, FA, POL, start_tm, Heap.empty, reduceIte, Nat.reduceLT, Nat.reduceLeDiff, Nat.reduceEqDiff, Nat.reduceAdd, Nat.reduceSub, Nat.reduceMul, Nat.reduceBEq, Int.reduceLT, Int.reduceLE, Int.reduceEq, Int.reduceNeg, Int.reduceAdd, Int.reduceSub, Int.reduceMul, Bool.false_eq_true, Bool.not_true, Bool.not_false, decide_eq_true_eq, and_self, true_and, and_true, reduceCtorEq, ne_eq, not_false_eq_true, not_true_eq_false, decide_true, decide_false, or_false, false_or, NUM, hq0, h16, h2, h8, h9, h10, h11, h13, h14, hd, hf, (show ¬ (4294967296 : Int) ≤ q by omega), hwc, u64_n (n := w) (by omega), (show (4294967296 : Int) * rh = ((4294967296 * rh : Nat) : Int) by omega), u64_n (n := 4294967296 * rh) (by omega), (show ((4294967296 * rh : Nat) : Int) + u1 = ((4294967296 * rh + u1 : Nat) : Int) by omega), u64_n (n := 4294967296 * rh + u1) (by omega), (show ((4294967296 * rh + u1 : Nat) : Int) < w by omega), (show (q : Int) - 1 = ((q - 1 : Nat) : Int) by omega), u64_n (n := q - 1) (by omega), (show (rh : Int) + a = ((rh + a : Nat) : Int) by omega), u64_n (n := rh + a) (by omega), (show (4294967296 : Int) ≤ ((rh + a : Nat) : Int) by omega)] at hW
          subst hW
          have := kd_over hab hb32 huL he' hov g2
          refine rd_exit ⟨rfl, ?_⟩
          simp (config := { maxSteps := 1000000 }) only [RUN, PATHS, BASE, FA, POL, start_tm, Heap.empty, reduceIte, Nat.reduceLT, Nat.reduceLeDiff, Nat.reduceEqDiff, Nat.reduceAdd, Nat.reduceSub, Nat.reduceMul, Nat.reduceBEq, Int.reduceLT, Int.reduceLE, Int.reduceEq, Int.reduceNeg, Int.reduceAdd, Int.reduceSub, Int.reduceMul, Bool.false_eq_true, Bool.not_true, Bool.not_false, decide_eq_true_eq, and_self, true_and, and_true, reduceCtorEq, ne_eq, not_false_eq_true, not_true_eq_false, decide_true, decide_false, or_false, false_or, h2, h8, h9, h10, h11, h13, h14, hd, hf, this]
        · simp (config := { maxSteps := 1000000 }) only [RUN, PATHS, BASE, FA, POL, start_tm, Heap.empty, reduceIte, Nat.reduceLT, Nat.reduceLeDiff, Nat.reduceEqDiff, Nat.reduceAdd, Nat.reduceSub, Nat.reduceMul, Nat.reduceBEq, Int.reduceLT, Int.reduceLE, Int.reduceEq, Int.reduceNeg, Int.reduceAdd, Int.reduceSub, Int.reduceMul, Bool.false_eq_true, Bool.not_true, Bool.not_false, decide_eq_true_eq, and_self, true_and, and_true, reduceCtorEq, ne_eq, not_false_eq_true, not_true_eq_false, decide_true, decide_false, or_false, false_or, NUM, hq0, h16, h2, h8, h9, h10, h11, h13, h14, hd, hf, (show ¬ (4294967296 : Int) ≤ q by omega), hwc, u64_n (n := w) (by omega), (show (4294967296 : Int) * rh = ((4294967296 * rh : Nat) : Int) by omega), u64_n (n := 4294967296 * rh) (by omega), (show ((4294967296 * rh : Nat) : Int) + u1 = ((4294967296 * rh + u1 : Nat) : Int) by omega), u64_n (n := 4294967296 * rh + u1) (by omega), (show ((4294967296 * rh + u1 : Nat) : Int) < w by omega), (show (q : Int) - 1 = ((q - 1 : Nat) : Int) by omega), u64_n (n := q - 1) (by omega), (show (rh : Int) + a = ((rh + a : Nat) : Int) by omega), u64_n (n := rh + a) (by omega), (show ¬ (4294967296 : Int) ≤ ((rh + a : Nat) : Int) by omega)] at hW
          subst hW
          refine rd_next (q - 1, rh + a) ?_ (show q - 1 < q by omega)
          simp (config := { maxSteps := 1000000 }) only [RUN, PATHS, BASE, FA, POL, start_tm, Heap.empty, reduceIte, Nat.reduceLT, Nat.reduceLeDiff, Nat.reduceEqDiff, Nat.reduceAdd, Nat.reduceSub, Nat.reduceMul, Nat.reduceBEq, Int.reduceLT, Int.reduceLE, Int.reduceEq, Int.reduceNeg, Int.reduceAdd, Int.reduceSub, Int.reduceMul, Bool.false_eq_true, Bool.not_true, Bool.not_false, decide_eq_true_eq, and_self, true_and, and_true, reduceCtorEq, ne_eq, not_false_eq_true, not_true_eq_false, decide_true, decide_false, or_false, false_or, h2, h8, h9, h10, h11, h13, h14, hd, hf]
          exact ⟨he', g2, by omega, by omega⟩
      · simp (config := { maxSteps := 1000000 }) only [RUN, PATHS, BASE, FA, POL, start_tm, Heap.empty, reduceIte, Nat.reduceLT, Nat.reduceLeDiff, Nat.reduceEqDiff, Nat.reduceAdd, Nat.reduceSub, Nat.reduceMul, Nat.reduceBEq, Int.reduceLT, Int.reduceLE, Int.reduceEq, Int.reduceNeg, Int.reduceAdd, Int.reduceSub, Int.reduceMul, Bool.false_eq_true, Bool.not_true, Bool.not_false, decide_eq_true_eq, and_self, true_and, and_true, reduceCtorEq, ne_eq, not_false_eq_true, not_true_eq_false, decide_true, decide_false, or_false, false_or, NUM, hq0, h16, h2, h8, h9, h10, h11, h13, h14, hd, hf, (show ¬ (4294967296 : Int) ≤ q by omega), hwc, u64_n (n := w) (by omega), (show (4294967296 : Int) * rh = ((4294967296 * rh : Nat) : Int) by omega), u64_n (n := 4294967296 * rh) (by omega), (show ((4294967296 * rh : Nat) : Int) + u1 = ((4294967296 * rh + u1 : Nat) : Int) by omega), u64_n (n := 4294967296 * rh + u1) (by omega), (show ¬ ((4294967296 * rh + u1 : Nat) : Int) < w by omega)] at hW
        subst hW
        have := kd_done hab huL he (by rw [← hw]; omega) hq
        refine rd_exit ⟨rfl, ?_⟩
        simp (config := { maxSteps := 1000000 }) only [RUN, PATHS, BASE, FA, POL, start_tm, Heap.empty, reduceIte, Nat.reduceLT, Nat.reduceLeDiff, Nat.reduceEqDiff, Nat.reduceAdd, Nat.reduceSub, Nat.reduceMul, Nat.reduceBEq, Int.reduceLT, Int.reduceLE, Int.reduceEq, Int.reduceNeg, Int.reduceAdd, Int.reduceSub, Int.reduceMul, Bool.false_eq_true, Bool.not_true, Bool.not_false, decide_eq_true_eq, and_self, true_and, and_true, reduceCtorEq, ne_eq, not_false_eq_true, not_true_eq_false, decide_true, decide_false, or_false, false_or, h2, h8, h9, h10, h11, h13, h14, hd, hf, ← this, hq0])
  have dm1 := Nat.div_add_mod (u * 4294967296 + u1) v
  have md1 := Nat.mod_lt (u * 4294967296 + u1) (show 0 < v by omega)
  have lt1 := kd_lt huL hu1L
  obtain ⟨d1, hd1⟩ : ∃ d1, d1 = (u * 4294967296 + u1) / v := ⟨_, rfl⟩
  obtain ⟨u2, hu2⟩ : ∃ u2, u2 = (u * 4294967296 + u1) % v := ⟨_, rfl⟩
  rw [← hd1] at h15 dm1 lt1
  rw [← hu2] at dm1 md1
  have w2 : IntKind.u64.wrap (IntKind.u64.wrap (IntKind.u64.wrap ((u : Int) * 4294967296) + u1) - IntKind.u64.wrap ((d1 : Int) * v)) = (u2 : Int) := by
    have : (d1 : Int) * v = ((v * d1 : Nat) : Int) := by rw [Nat.mul_comm]; simp
    rw [this]
    generalize v * d1 = z at *
    simp only [wrap_u64]
    omega
  have huM : u2 < v := md1
  obtain ⟨r1', r2'⟩ := rq u2 (by omega)
  have dl2 := Nat.div_le_self u2 a
  simp (config := { maxSteps := 1000000 }) only [RUN, PATHS, BASE, FA, POL, start_tm, Heap.empty, reduceIte, Nat.reduceLT, Nat.reduceLeDiff, Nat.reduceEqDiff, Nat.reduceAdd, Nat.reduceSub, Nat.reduceMul, Nat.reduceBEq, Int.reduceLT, Int.reduceLE, Int.reduceEq, Int.reduceNeg, Int.reduceAdd, Int.reduceSub, Int.reduceMul, Bool.false_eq_true, Bool.not_true, Bool.not_false, decide_eq_true_eq, and_self, true_and, and_true, reduceCtorEq, ne_eq, not_false_eq_true, not_true_eq_false, decide_true, decide_false, or_false, false_or, NUM, h2, h8, h9, h10, h11, h13, h14, h15, hd, hf, w2, tq, r1', r2', (show ¬ (a : Int) = 0 by omega), u64_n (n := u2 / a) (by omega)]
  generalize hM : W _ (.loop _) _ = M
  obtain ⟨ex, s, rfl, rfl, h18, h2, h8, h9, h10, h14, h15, h17, hd, hf⟩ := loop_at hM (α := Nat × Nat) (fun p => p.1)
    (fun s0 p s => p.1 * a + p.2 = u2 ∧ (u2 * 4294967296 + u0) / v ≤ p.1 ∧ p.2 < 4294967296 ∧ p.1 < 18446744073709551616 ∧ s.tmps 18 = U p.1 ∧ s.tmps 16 = U p.2 ∧ s.tmps 2 = U v ∧ s.tmps 8 = U sh ∧ s.tmps 9 = U a ∧ s.tmps 10 = U b ∧ s.tmps 14 = U u0 ∧ s.tmps 15 = U d1 ∧ s.tmps 17 = U u2 ∧ s.defers = [] ∧ s.fid = 0)
    (fun s0 ex s => ex = .exit 2 ∧ s.tmps 18 = U ((u2 * 4294967296 + u0) / v : Nat) ∧ s.tmps 2 = U v ∧ s.tmps 8 = U sh ∧ s.tmps 9 = U a ∧ s.tmps 10 = U b ∧ s.tmps 14 = U u0 ∧ s.tmps 15 = U d1 ∧ s.tmps 17 = U u2 ∧ s.defers = [] ∧ s.fid = 0) (u2 / a, u2 % a)
    (by simp (config := { maxSteps := 1000000 }) only [RUN, PATHS, BASE, FA, POL, start_tm, Heap.empty, reduceIte, Nat.reduceLT, Nat.reduceLeDiff, Nat.reduceEqDiff, Nat.reduceAdd, Nat.reduceSub, Nat.reduceMul, Nat.reduceBEq, Int.reduceLT, Int.reduceLE, Int.reduceEq, Int.reduceNeg, Int.reduceAdd, Int.reduceSub, Int.reduceMul, Bool.false_eq_true, Bool.not_true, Bool.not_false, decide_eq_true_eq, and_self, true_and, and_true, reduceCtorEq, ne_eq, not_false_eq_true, not_true_eq_false, decide_true, decide_false, or_false, false_or, h2, h8, h9, h10, h14, h15, hd, hf]
        refine ⟨by rw [Nat.mul_comm]; exact Nat.div_add_mod u2 a, kd_first hab a0 hu1M, by have := Nat.mod_lt u2 a0; omega, by omega⟩) (by
      rintro ⟨q, rh⟩ s r hW ⟨he, hq, hr, hq64, hq0, h16, h2, h8, h9, h10, h14, h15, h17, hd, hf⟩
      dsimp only at he hq hr hq64 hq0 h16
      by_cases hc1 : 4294967296 ≤ q
      · obtain ⟨g1, g2⟩ := kd_less hab hb32 huM hu1M he (.inl hc1) hq
        have he' : (q - 1) * a + (rh + a) = u2 := by rw [Nat.sub_mul, Nat.one_mul]; have := Nat.mul_le_mul_right a g1; omega
        by_cases hov : 4294967296 ≤ rh + a
        · simp (config := { maxSteps := 1000000 }) only [RUN, PATHS, BASE, FA, POL, start_tm, Heap.empty, reduceIte, Nat.reduceLT, Nat.reduceLeDiff, Nat.reduceEqDiff, Nat.reduceAdd, Nat.reduceSub, Nat.reduceMul, Nat.reduceBEq, Int.reduceLT, Int.reduceLE, Int.reduceEq, Int.reduceNeg, Int.reduceAdd, Int.reduceSub, Int.reduceMul, Bool.false_eq_true, Bool.not_true, Bool.not_false, decide_eq_true_eq, and_self, true_and, and_true, reduceCtorEq, ne_eq, not_false_eq_true, not_true_eq_false, decide_true, decide_false, or_false, false_or, NUM, hq0, h16, h2, h8, h9, h10, h14, h15, h17, hd, hf, (show (4294967296 : Int) ≤ q by omega), (show (q : Int) - 1 = ((q - 1 : Nat) : Int) by omega), u64_n (n := q - 1) (by omega), (show (rh : Int) + a = ((rh + a : Nat) : Int) by omega), u64_n (n := rh + a) (by omega), (show (4294967296 : Int) ≤ ((rh + a : Nat) : Int) by omega)] at hW
          subst hW
          have := kd_over hab hb32 huM he' hov g2
          refine rd_exit ⟨rfl, ?_⟩
          simp (config := { maxSteps := 1000000 }) only [RUN, PATHS, BASE, FA, POL, start_tm, Heap.empty, reduceIte, Nat.reduceLT, Nat.reduceLeDiff, Nat.reduceEqDiff, Nat.reduceAdd, Nat.reduceSub, Nat.reduceMul, Nat.reduceBEq, Int.reduceLT, Int.reduceLE, Int.reduceEq, Int.reduceNeg, Int.reduceAdd, Int.reduceSub, Int.reduceMul, Bool.false_eq_true, Bool.not_true, Bool.not_false, decide_eq_true_eq, and_self, true_and, and_true, reduceCtorEq, ne_eq, not_false_eq_true, not_true_eq_false, decide_true, decide_false, or_false, false_or, h2, h8, h9, h10, h14, h15, h17, hd, hf, this]
        · simp (config := { maxSteps := 1000000 }) only [RUN, PATHS, BASE, FA, POL, start_tm, Heap.empty, reduceIte, Nat.reduceLT, Nat.reduceLeDiff, Nat.reduceEqDiff, Nat.reduceAdd, Nat.reduceSub, Nat.reduceMul, Nat.reduceBEq, Int.reduceLT, Int.reduceLE, Int.reduceEq, Int.reduceNeg, Int.reduceAdd, Int.reduceSub, Int.reduceMul, Bool.false_eq_true, Bool.not_true, Bool.not_false, decide_eq_true_eq, and_self, true_and, and_true, reduceCtorEq, ne_eq, not_false_eq_true, not_true_eq_false, decide_true, decide_false, or_false, false_or, NUM, hq0, h16, h2, h8, h9, h10, h14, h15, h17, hd, hf, (show (4294967296 : Int) ≤ q by omega), (show (q : Int) - 1 = ((q - 1 : Nat) : Int) by omega), u64_n (n := q - 1) (by omega), (show (rh : Int) + a = ((rh + a : Nat) : Int) by omega), u64_n (n := rh + a) (by omega), (show ¬ (4294967296 : Int) ≤ ((rh + a : Nat) : Int) by omega)] at hW
          subst hW
          refine rd_next (q - 1, rh + a) ?_ (show q - 1 < q by omega)
          simp (config := { maxSteps := 1000000 }) only [RUN, PATHS, BASE, FA, POL, start_tm, Heap.empty, reduceIte, Nat.reduceLT, Nat.reduceLeDiff, Nat.reduceEqDiff, Nat.reduceAdd, Nat.reduceSub, Nat.reduceMul, Nat.reduceBEq, Int.reduceLT, Int.reduceLE, Int.reduceEq, Int.reduceNeg, Int.reduceAdd, Int.reduceSub, Int.reduceMul, Bool.false_eq_true, Bool.not_true, Bool.not_false, decide_eq_true_eq, and_self, true_and, and_true, reduceCtorEq, ne_eq, not_false_eq_true, not_true_eq_false, decide_true, decide_false, or_false, false_or, h2, h8, h9, h10, h14, h15, h17, hd, hf]
          exact ⟨he', g2, by omega, by omega⟩
      have b1 : q * b ≤ 4294967295 * 4294967295 := Nat.mul_le_mul (by omega) (by omega)
      obtain ⟨w, hw⟩ : ∃ w, w = q * b := ⟨_, rfl⟩
      have hwc : (q : Int) * b = w := by rw [hw]; simp
      rw [← hw] at b1
      by_cases hc2 : 4294967296 * rh + u0 < w
      · obtain ⟨g1, g2⟩ := kd_less hab hb32 huM hu1M he (.inr (by rw [← hw]; exact hc2)) hq
        have he' : (q - 1) * a + (rh + a) = u2 := by rw [Nat.sub_mul, Nat.one_mul]; have := Nat.mul_le_mul_right a g1; omega
        by_cases hov : 4294967296 ≤ rh + a
        · simp (config := { maxSteps := 1000000 }) only [RUN, PATHS, BASE, FA, POL, start_tm, Heap.empty, reduceIte, Nat.reduceLT, Nat.reduceLeDiff, Nat.reduceEqDiff, Nat.reduceAdd, Nat.reduceSub, Nat.reduceMul, Nat.reduceBEq, Int.reduceLT, Int.reduceLE, Int.reduceEq, Int.reduceNeg, Int.reduceAdd, Int.reduceSub, Int.reduceMul, Bool.false_eq_true, Bool.not_true, Bool.not_false, decide_eq_true_eq, and_self, true_and, and_true, reduceCtorEq, ne_eq, not_false_eq_true, not_true_eq_false, decide_true, decide_false, or_false, false_or, NUM, hq0, h16, h2, h8, h9, h10, h14, h15, h17, hd, hf, (show ¬ (4294967296 : Int) ≤ q by omega), hwc, u64_n (n := w) (by omega), (show (4294967296 : Int) * rh = ((4294967296 * rh : Nat) : Int) by omega), u64_n (n := 4294967296 * rh) (by omega), (show ((4294967296 * rh : Nat) : Int) + u0 = ((4294967296 * rh + u0 : Nat) : Int) by omega), u64_n (n := 4294967296 * rh + u0) (by omega), (show ((4294967296 * rh + u0 : Nat) : Int) < w by omega), (show (q : Int) - 1 = ((q - 1 : Nat) : Int) by omega), u64_n (n := q - 1) (by omega), (show (rh : Int) + a = ((rh + a : Nat) : Int) by omega), u64_n (n := rh + a) (by omega), (show (4294967296 : Int) ≤ ((rh + a : Nat) : Int) by omega)] at hW
          subst hW
          have := kd_over hab hb32 huM he' hov g2
          refine rd_exit ⟨rfl, ?_⟩
          simp (config := { maxSteps := 1000000 }) only [RUN, PATHS, BASE, FA, POL, start_tm, Heap.empty, reduceIte, Nat.reduceLT, Nat.reduceLeDiff, Nat.reduceEqDiff, Nat.reduceAdd, Nat.reduceSub, Nat.reduceMul, Nat.reduceBEq, Int.reduceLT, Int.reduceLE, Int.reduceEq, Int.reduceNeg, Int.reduceAdd, Int.reduceSub, Int.reduceMul, Bool.false_eq_true, Bool.not_true, Bool.not_false, decide_eq_true_eq, and_self, true_and, and_true, reduceCtorEq, ne_eq, not_false_eq_true, not_true_eq_false, decide_true, decide_false, or_false, false_or, h2, h8, h9, h10, h14, h15, h17, hd, hf, this]
        · simp (config := { maxSteps := 1000000 }) only [RUN, PATHS, BASE, FA, POL, start_tm, Heap.empty, reduceIte, Nat.reduceLT, Nat.reduceLeDiff, Nat.reduceEqDiff, Nat.reduceAdd, Nat.reduceSub, Nat.reduceMul, Nat.reduceBEq, Int.reduceLT, Int.reduceLE, Int.reduceEq, Int.reduceNeg, Int.reduceAdd, Int.reduceSub, Int.reduceMul, Bool.false_eq_true, Bool.not_true, Bool.not_false, decide_eq_true_eq, and_self, true_and, and_true, reduceCtorEq, ne_eq, not_false_eq_true, not_true_eq_false, decide_true, decide_false, or_false, false_or, NUM, hq0, h16, h2, h8, h9, h10, h14, h15, h17, hd, hf, (show ¬ (4294967296 : Int) ≤ q by omega), hwc, u64_n (n := w) (by omega), (show (4294967296 : Int) * rh = ((4294967296 * rh : Nat) : Int) by omega), u64_n (n := 4294967296 * rh) (by omega), (show ((4294967296 * rh : Nat) : Int) + u0 = ((4294967296 * rh + u0 : Nat) : Int) by omega), u64_n (n := 4294967296 * rh + u0) (by omega), (show ((4294967296 * rh + u0 : Nat) : Int) < w by omega), (show (q : Int) - 1 = ((q - 1 : Nat) : Int) by omega), u64_n (n := q - 1) (by omega), (show (rh : Int) + a = ((rh + a : Nat) : Int) by omega), u64_n (n := rh + a) (by omega), (show ¬ (4294967296 : Int) ≤ ((rh + a : Nat) : Int) by omega)] at hW
          subst hW
          refine rd_next (q - 1, rh + a) ?_ (show q - 1 < q by omega)
          simp (config := { maxSteps := 1000000 }) only [RUN, PATHS, BASE, FA, POL, start_tm, Heap.empty, reduceIte, Nat.reduceLT, Nat.reduceLeDiff, Nat.reduceEqDiff, Nat.reduceAdd, Nat.reduceSub, Nat.reduceMul, Nat.reduceBEq, Int.reduceLT, Int.reduceLE, Int.reduceEq, Int.reduceNeg, Int.reduceAdd, Int.reduceSub, Int.reduceMul, Bool.false_eq_true, Bool.not_true, Bool.not_false, decide_eq_true_eq, and_self, true_and, and_true, reduceCtorEq, ne_eq, not_false_eq_true, not_true_eq_false, decide_true, decide_false, or_false, false_or, h2, h8, h9, h10, h14, h15, h17, hd, hf]
          exact ⟨he', g2, by omega, by omega⟩
      · simp (config := { maxSteps := 1000000 }) only [RUN, PATHS, BASE, FA, POL, start_tm, Heap.empty, reduceIte, Nat.reduceLT, Nat.reduceLeDiff, Nat.reduceEqDiff, Nat.reduceAdd, Nat.reduceSub, Nat.reduceMul, Nat.reduceBEq, Int.reduceLT, Int.reduceLE, Int.reduceEq, Int.reduceNeg, Int.reduceAdd, Int.reduceSub, Int.reduceMul, Bool.false_eq_true, Bool.not_true, Bool.not_false, decide_eq_true_eq, and_self, true_and, and_true, reduceCtorEq, ne_eq, not_false_eq_true, not_true_eq_false, decide_true, decide_false, or_false, false_or, NUM, hq0, h16, h2, h8, h9, h10, h14, h15, h17, hd, hf, (show ¬ (4294967296 : Int) ≤ q by omega), hwc, u64_n (n := w) (by omega), (show (4294967296 : Int) * rh = ((4294967296 * rh : Nat) : Int) by omega), u64_n (n := 4294967296 * rh) (by omega), (show ((4294967296 * rh : Nat) : Int) + u0 = ((4294967296 * rh + u0 : Nat) : Int) by omega), u64_n (n := 4294967296 * rh + u0) (by omega), (show ¬ ((4294967296 * rh + u0 : Nat) : Int) < w by omega)] at hW
        subst hW
        have := kd_done hab huM he (by rw [← hw]; omega) hq
        refine rd_exit ⟨rfl, ?_⟩
        simp (config := { maxSteps := 1000000 }) only [RUN, PATHS, BASE, FA, POL, start_tm, Heap.empty, reduceIte, Nat.reduceLT, Nat.reduceLeDiff, Nat.reduceEqDiff, Nat.reduceAdd, Nat.reduceSub, Nat.reduceMul, Nat.reduceBEq, Int.reduceLT, Int.reduceLE, Int.reduceEq, Int.reduceNeg, Int.reduceAdd, Int.reduceSub, Int.reduceMul, Bool.false_eq_true, Bool.not_true, Bool.not_false, decide_eq_true_eq, and_self, true_and, and_true, reduceCtorEq, ne_eq, not_false_eq_true, not_true_eq_false, decide_true, decide_false, or_false, false_or, h2, h8, h9, h10, h14, h15, h17, hd, hf, ← this, hq0])
  have dm2 := Nat.div_add_mod (u2 * 4294967296 + u0) v
  have md2 := Nat.mod_lt (u2 * 4294967296 + u0) (show 0 < v by omega)
  have lt2 := kd_lt huM hu1M
  obtain ⟨d0, hd0⟩ : ∃ d0, d0 = (u2 * 4294967296 + u0) / v := ⟨_, rfl⟩
  obtain ⟨u3, hu3⟩ : ∃ u3, u3 = (u2 * 4294967296 + u0) % v := ⟨_, rfl⟩
  rw [← hd0] at h18 dm2 lt2
  rw [← hu3] at dm2 md2
  have w3 : IntKind.u64.wrap (IntKind.u64.wrap (IntKind.u64.wrap ((u2 : Int) * 4294967296) + u0) - IntKind.u64.wrap ((d0 : Int) * v)) = (u3 : Int) := by
    have : (d0 : Int) * v = ((v * d0 : Nat) : Int) := by rw [Nat.mul_comm]; simp
    rw [this]
    generalize v * d0 = z at *
    simp only [wrap_u64]
    omega
  obtain ⟨f1, f2⟩ := kd_two (A := u * 4294967296 + u1) (u0 := u0) hv (by omega) (by rw [e1, hu1, hu0]; omega) dm1 dm2 md2
  have w4 : IntKind.u64.wrap (IntKind.u64.wrap ((d1 : Int) * 4294967296) + d0) = ((d1 * 4294967296 + d0 : Nat) : Int) := by
    simp only [wrap_u64]
    omega
  simp (config := { maxSteps := 1000000 }) only [RUN, PATHS, BASE, FA, POL, start_tm, Heap.empty, reduceIte, Nat.reduceLT, Nat.reduceLeDiff, Nat.reduceEqDiff, Nat.reduceAdd, Nat.reduceSub, Nat.reduceMul, Nat.reduceBEq, Int.reduceLT, Int.reduceLE, Int.reduceEq, Int.reduceNeg, Int.reduceAdd, Int.reduceSub, Int.reduceMul, Bool.false_eq_true, Bool.not_true, Bool.not_false, decide_eq_true_eq, and_self, true_and, and_true, reduceCtorEq, ne_eq, not_false_eq_true, not_true_eq_false, decide_true, decide_false, or_false, false_or, NUM, h2, h8, h9, h10, h14, h15, h17, h18, hd, hf, w3, w4, Int.toNat_natCast, (show ¬ (sh : Int) < 0 by omega), shr_n u3 sh (by omega), f1, f2]
end Go.Proofs.Ytnabgahkdomeoaa

