/-
  Fractions.
-/
import Derived.Test.YthhhahkiflkemaaDoorC1
set_option linter.unusedSimpArgs false
set_option linter.unusedVariables false
set_option linter.unusedSectionVars false
namespace Go.Proofs.YthhhahkiflkemaaDoor
open Go GoV
set_option maxRecDepth 100000

theorem U64_wrap (x : Int) : U64 (IntKind.u64.wrap x) := by unfold U64; rw [wrap_u64]; omega
theorem I64_wrap (x : Int) : I64 (IntKind.i64.wrap x) := by unfold I64; rw [wrap_i64]; omega
theorem U64_mag {x : Int} (h : I64 x) : U64 (mag x) := by unfold I64 at h; unfold U64 mag; split <;> omega
theorem mag_nat (x : Int) : mag x = x.natAbs := by unfold mag; split <;> omega
def VALID (n d : Int) : Prop := 1 ≤ d ∧ d ≤ 1073741824 ∧ -1073741824 ≤ n ∧ n ≤ 1073741824 ∧ Nat.gcd n.natAbs d.natAbs = 1
instance (n d : Int) : Decidable (VALID n d) := by unfold VALID; infer_instance
theorem c_check (n d : Int) (hn : I64 n) (hd : I64 d) : ap Tryd.prog pol 57 [rat n d] = some (.ret (I (if VALID n d then 0 else 120))) := by
  rw [ap_eq _ Tryd.func57 rfl Tryd.ntmps57 Tryd.results57 (by kernel_rfl) rfl (by exact Nat.le_of_ble_eq_true rfl)]
  simp (config := { maxSteps := 1000000 }) only [RUN, PATHS, BASE, FA, POL, start_tm, Heap.empty, reduceIte, Nat.reduceLT, Nat.reduceLeDiff, Nat.reduceEqDiff, Nat.reduceAdd, Nat.reduceSub, Nat.reduceMul, Nat.reduceBEq, Int.reduceLT, Int.reduceLE, Int.reduceEq, Int.reduceNeg, Int.reduceAdd, Int.reduceSub, Int.reduceMul, Bool.false_eq_true, Bool.not_true, Bool.not_false, decide_eq_true_eq, and_self, true_and, and_true, reduceCtorEq, ne_eq, not_false_eq_true, not_true_eq_false, decide_true, decide_false, or_false, false_or, c_mag n hn, c_div _ _ (U64_mag hn) (U64_wrap d)]
  unfold I64 at hn hd
  split
  · rw [if_neg (by unfold VALID; omega)]
  split
  · rw [if_neg (by unfold VALID; omega)]
  split
  · rw [if_neg (by unfold VALID; omega)]
  split
  · rw [if_neg (by unfold VALID; omega)]
  rw [u64_in (by unfold U64; omega), mag_nat]
  have e : d.toNat = d.natAbs := by omega
  rw [e, Int.toNat_natCast]
  split
  · next h => rw [if_neg (by unfold VALID; omega)]
  · next h => rw [if_pos (by unfold VALID; omega)]
theorem c_valid (n d : Int) (hn : I64 n) (hd : I64 d) : ap Tryd.prog pol 79 [rat n d] = some (.ret (.bool (decide (VALID n d)))) := by
  by_cases h : -1073741824 ≤ n
  · rw [ap_eq _ Tryd.func79 rfl Tryd.ntmps79 Tryd.results79 (by kernel_rfl) rfl (by exact Nat.le_of_ble_eq_true rfl)]
    by_cases h1 : 1 ≤ d
    · have hm : 0 ≤ mag n := by unfold mag; split <;> omega
      simp (config := { maxSteps := 1000000 }) only [RUN, PATHS, BASE, FA, POL, start_tm, Heap.empty, reduceIte, Nat.reduceLT, Nat.reduceLeDiff, Nat.reduceEqDiff, Nat.reduceAdd, Nat.reduceSub, Nat.reduceMul, Nat.reduceBEq, Int.reduceLT, Int.reduceLE, Int.reduceEq, Int.reduceNeg, Int.reduceAdd, Int.reduceSub, Int.reduceMul, Bool.false_eq_true, Bool.not_true, Bool.not_false, decide_eq_true_eq, and_self, true_and, and_true, reduceCtorEq, ne_eq, not_false_eq_true, not_true_eq_false, decide_true, decide_false, or_false, false_or, c_size n hn (by omega), c_refdiv _ _ hm (show 0 ≤ d by omega), h, h1]
      have e : d.toNat = d.natAbs := by omega
      rw [e, mag_nat, Int.toNat_natCast]
      unfold VALID
      split
      · split
        · next h2 h3 =>
          congr 3
          simp only [h1, h2, h, h3, true_and]
          congr 1
          apply propext
          omega
        · next h3 => simp only [h3, false_and, and_false, decide_false]
      · next h2 => simp only [h2, false_and, and_false, decide_false]
    · simp (config := { maxSteps := 1000000 }) only [RUN, PATHS, BASE, FA, POL, start_tm, Heap.empty, reduceIte, Nat.reduceLT, Nat.reduceLeDiff, Nat.reduceEqDiff, Nat.reduceAdd, Nat.reduceSub, Nat.reduceMul, Nat.reduceBEq, Int.reduceLT, Int.reduceLE, Int.reduceEq, Int.reduceNeg, Int.reduceAdd, Int.reduceSub, Int.reduceMul, Bool.false_eq_true, Bool.not_true, Bool.not_false, decide_eq_true_eq, and_self, true_and, and_true, reduceCtorEq, ne_eq, not_false_eq_true, not_true_eq_false, decide_true, decide_false, or_false, false_or, h1]
      rw [decide_eq_false (by unfold VALID; omega)]
  · rw [ap_eq _ Tryd.func79 rfl Tryd.ntmps79 Tryd.results79 (by kernel_rfl) rfl (by exact Nat.le_of_ble_eq_true rfl)]
    simp (config := { maxSteps := 1000000 }) only [RUN, PATHS, BASE, FA, POL, start_tm, Heap.empty, reduceIte, Nat.reduceLT, Nat.reduceLeDiff, Nat.reduceEqDiff, Nat.reduceAdd, Nat.reduceSub, Nat.reduceMul, Nat.reduceBEq, Int.reduceLT, Int.reduceLE, Int.reduceEq, Int.reduceNeg, Int.reduceAdd, Int.reduceSub, Int.reduceMul, Bool.false_eq_true, Bool.not_true, Bool.not_false, decide_eq_true_eq, and_self, true_and, and_true, reduceCtorEq, ne_eq, not_false_eq_true, not_true_eq_false, decide_true, decide_false, or_false, false_or, h]
    rw [decide_eq_false (by unfold VALID; omega)]
    repeat' split
    all_goals rfl
def MK (n d : Int) : Int × Int × Int :=
  if d = 0 then (0, 0, 120) else
  let g : Int := Nat.gcd n.natAbs d.natAbs
  let x := mag n / g
  let y := mag d / g
  if max x y > 1073741824 then (0, 0, 2) else (if ¬ decide (n < 0) = decide (d < 0) then -x else x, y, 0)
abbrev ratE (r : Int × Int × Int) : PV := .tup [rat r.1 r.2.1, I r.2.2]
theorem c_make (n d : Int) (hn : I64 n) (hd : I64 d) : ap Tryd.prog pol 43 [I n, I d] = some (.ret (ratE (MK n d))) := by
  rw [ap_eq _ Tryd.func43 rfl Tryd.ntmps43 Tryd.results43 (by kernel_rfl) rfl (by exact Nat.le_of_ble_eq_true rfl)]
  simp (config := { maxSteps := 1000000 }) only [RUN, PATHS, BASE, FA, POL, start_tm, Heap.empty, reduceIte, Nat.reduceLT, Nat.reduceLeDiff, Nat.reduceEqDiff, Nat.reduceAdd, Nat.reduceSub, Nat.reduceMul, Nat.reduceBEq, Int.reduceLT, Int.reduceLE, Int.reduceEq, Int.reduceNeg, Int.reduceAdd, Int.reduceSub, Int.reduceMul, Bool.false_eq_true, Bool.not_true, Bool.not_false, decide_eq_true_eq, and_self, true_and, and_true, reduceCtorEq, ne_eq, not_false_eq_true, not_true_eq_false, decide_true, decide_false, or_false, false_or, c_mag n hn, c_mag d hd, c_div _ _ (U64_mag hn) (U64_mag hd)]
  unfold MK
  split
  · rfl
  next h0 =>
  have hg : (0 : Int) < (Nat.gcd n.natAbs d.natAbs : Nat) := by
    have := Nat.gcd_pos_of_pos_right (m := n.natAbs) (n := d.natAbs) (by omega)
    omega
  simp only [mag_nat, Int.toNat_natCast]
  unfold I64 at hn hd
  generalize hG : ((Nat.gcd n.natAbs d.natAbs : Nat) : Int) = g at hg ⊢
  have b1 : 0 ≤ (n.natAbs : Int) / g ∧ (n.natAbs : Int) / g ≤ n.natAbs := ⟨Int.ediv_nonneg (by omega) (by omega), Int.ediv_le_self _ (by omega)⟩
  have b2 : 0 ≤ (d.natAbs : Int) / g ∧ (d.natAbs : Int) / g ≤ d.natAbs := ⟨Int.ediv_nonneg (by omega) (by omega), Int.ediv_le_self _ (by omega)⟩
  rw [Int.tdiv_eq_ediv_of_nonneg (by omega), Int.tdiv_eq_ediv_of_nonneg (by omega), u64_in (by unfold U64; omega), u64_in (by unfold U64; omega), if_neg (by omega), if_neg (by omega)]
  split
  · rfl
  · rw [i64_in (x := (n.natAbs : Int) / g) (by unfold I64; omega), i64_in (x := (d.natAbs : Int) / g) (by unfold I64; omega)]
    split
    · rw [i64_in (by unfold I64; omega), Int.zero_sub]
    · rfl
theorem tmod_neg {a b : Int} (ha : a ≤ 0) (hb : b < 0) : a.tmod b = -((-a) % (-b)) := by
  have h := Int.neg_tmod (a := -a) (b := b)
  rw [Int.neg_neg] at h
  rw [h, ← Int.tmod_neg (-a) b, Int.tmod_eq_emod_of_nonneg (by omega)]
theorem gcd_step_neg {a b : Int} (ha : a ≤ 0) (hb : b < 0) : Nat.gcd b.natAbs (a.tmod b).natAbs = Nat.gcd a.natAbs b.natAbs := by
  have := gcd_step (a := -a) (b := -b) (by omega) (by omega)
  have e1 := Int.emod_nonneg (-a) (b := -b) (by omega)
  rw [tmod_neg ha hb]
  rw [show (-b).toNat = b.natAbs by omega, show (-a).toNat = a.natAbs by omega] at this
  rw [← this]
  congr 1
  omega
set_option maxHeartbeats 2000000 in
theorem c_refmake (n d : Int) (hn : I64 n) (hd : I64 d) : ap Tryd.prog pol 46 [I n, I d] = some (.ret (ratE (MK n d))) := by
  unfold I64 at hn hd
  by_cases h0 : d = 0
  · rw [ap_eq _ Tryd.func46 rfl Tryd.ntmps46 Tryd.results46 (by kernel_rfl) rfl (by exact Nat.le_of_ble_eq_true rfl)]
    simp (config := { maxSteps := 1000000 }) only [RUN, PATHS, BASE, FA, POL, start_tm, Heap.empty, reduceIte, Nat.reduceLT, Nat.reduceLeDiff, Nat.reduceEqDiff, Nat.reduceAdd, Nat.reduceSub, Nat.reduceMul, Nat.reduceBEq, Int.reduceLT, Int.reduceLE, Int.reduceEq, Int.reduceNeg, Int.reduceAdd, Int.reduceSub, Int.reduceMul, Bool.false_eq_true, Bool.not_true, Bool.not_false, decide_eq_true_eq, and_self, true_and, and_true, reduceCtorEq, ne_eq, not_false_eq_true, not_true_eq_false, decide_true, decide_false, or_false, false_or, h0]
    unfold MK
    rfl
  have hg : (0 : Int) < (Nat.gcd n.natAbs d.natAbs : Nat) := by
    have := Nat.gcd_pos_of_pos_right (m := n.natAbs) (n := d.natAbs) (by omega)
    omega
  have hMK : MK n d = if max ((n.natAbs : Int) / (Nat.gcd n.natAbs d.natAbs : Nat)) ((d.natAbs : Int) / (Nat.gcd n.natAbs d.natAbs : Nat)) > 1073741824 then (0, 0, 2) else
      (if ¬ decide (n < 0) = decide (d < 0) then -((n.natAbs : Int) / (Nat.gcd n.natAbs d.natAbs : Nat)) else (n.natAbs : Int) / (Nat.gcd n.natAbs d.natAbs : Nat), (d.natAbs : Int) / (Nat.gcd n.natAbs d.natAbs : Nat), 0) := by
    unfold MK
    rw [if_neg h0]
    simp only [mag_nat]
  rw [hMK]
  clear hMK
  have hs1 : (0 < n ∧ n = (n.natAbs : Int)) ∨ (¬ 0 < n ∧ n = -(n.natAbs : Int)) := by omega
  have hs2 : (0 < d ∧ d = (d.natAbs : Int)) ∨ (¬ 0 < d ∧ d = -(d.natAbs : Int)) := by omega
  have hm0 : d.natAbs ≠ 0 := by omega
  have hb1 : n.natAbs ≤ 9223372036854775808 := by omega
  have hb2 : d.natAbs ≤ 9223372036854775808 := by omega
  generalize n.natAbs = m at *
  generalize d.natAbs = k at *
  rcases hs1 with ⟨hx, rfl⟩ | ⟨hx, rfl⟩ <;> rcases hs2 with ⟨hy, rfl⟩ | ⟨hy, rfl⟩ <;>
    rw [ap_eq _ Tryd.func46 rfl Tryd.ntmps46 Tryd.results46 (by kernel_rfl) rfl (by exact Nat.le_of_ble_eq_true rfl)] <;>
    (have e1 : 0 < (m : Int) → (m : Int) ≤ 9223372036854775807 → IntKind.i64.wrap (0 - (m : Int)) = -(m : Int) := fun _ _ => by rw [i64_in (by unfold I64; omega)]; omega) <;>
    (have e2 : 0 < (k : Int) → (k : Int) ≤ 9223372036854775807 → IntKind.i64.wrap (0 - (k : Int)) = -(k : Int) := fun _ _ => by rw [i64_in (by unfold I64; omega)]; omega) <;>
    simp (config := { maxSteps := 1000000 }) only [RUN, PATHS, BASE, FA, POL, start_tm, Heap.empty, reduceIte, Nat.reduceLT, Nat.reduceLeDiff, Nat.reduceEqDiff, Nat.reduceAdd, Nat.reduceSub, Nat.reduceMul, Nat.reduceBEq, Int.reduceLT, Int.reduceLE, Int.reduceEq, Int.reduceNeg, Int.reduceAdd, Int.reduceSub, Int.reduceMul, Bool.false_eq_true, Bool.not_true, Bool.not_false, decide_eq_true_eq, and_self, true_and, and_true, reduceCtorEq, ne_eq, not_false_eq_true, not_true_eq_false, decide_true, decide_false, or_false, false_or, h0, hx, hy, hn.2, hd.2, e1, e2]
  all_goals
    generalize hL : W _ (.loop _) _ = L
    obtain ⟨ex, s, rfl, rfl, ⟨a, h8, b, h9, hab⟩, -, f0, f1, f4, f6, f7, hb, hd, hf⟩ := loop_at hL (α := Int × Int) (fun x => x.2.natAbs)
      (fun s0 q s => q.1 ≤ 0 ∧ q.2 ≤ 0 ∧ (q.1 < 0 ∨ q.2 < 0) ∧ Nat.gcd q.1.natAbs q.2.natAbs = Nat.gcd m k ∧ s.tmps 8 = I q.1 ∧ s.tmps 9 = I q.2 ∧
        s.tmps 0 = s0.tmps 0 ∧ s.tmps 1 = s0.tmps 1 ∧ s.tmps 4 = s0.tmps 4 ∧ s.tmps 6 = s0.tmps 6 ∧ s.tmps 7 = s0.tmps 7 ∧ s.boxes = s0.boxes ∧ s.defers = [] ∧ s.fid = 0)
      (fun s0 ex s => ex = .exit 0 ∧ (∃ a, s.tmps 8 = I a ∧ ∃ b, s.tmps 9 = I b ∧ ((b = -1 ∧ Nat.gcd m k = 1) ∨ (b = 0 ∧ a = -(Nat.gcd m k : Nat)))) ∧ True ∧
        s.tmps 0 = s0.tmps 0 ∧ s.tmps 1 = s0.tmps 1 ∧ s.tmps 4 = s0.tmps 4 ∧ s.tmps 6 = s0.tmps 6 ∧ s.tmps 7 = s0.tmps 7 ∧ s.boxes = s0.boxes ∧ s.defers = [] ∧ s.fid = 0) (-(m : Int), -(k : Int))
      (by simp (config := { maxSteps := 1000000 }) only [RUN, PATHS, BASE, FA, POL, start_tm, Heap.empty, reduceIte, Nat.reduceLT, Nat.reduceLeDiff, Nat.reduceEqDiff, Nat.reduceAdd, Nat.reduceSub, Nat.reduceMul, Nat.reduceBEq, Int.reduceLT, Int.reduceLE, Int.reduceEq, Int.reduceNeg, Int.reduceAdd, Int.reduceSub, Int.reduceMul, Bool.false_eq_true, Bool.not_true, Bool.not_false, decide_eq_true_eq, and_self, true_and, and_true, reduceCtorEq, ne_eq, not_false_eq_true, not_true_eq_false, decide_true, decide_false, or_false, false_or, Int.natAbs_neg, Int.natAbs_natCast]; exact ⟨by omega, by omega, by omega⟩) (by
        rintro ⟨a, b⟩ s r hW ⟨ha, hb, hab, hg, h8, h9, f0, f1, f4, f6, f7, fb, fd, ff⟩
        simp only at ha hb hab hg h8 h9
        simp (config := { maxSteps := 1000000 }) only [RUN, PATHS, BASE, FA, POL, start_tm, Heap.empty, reduceIte, Nat.reduceLT, Nat.reduceLeDiff, Nat.reduceEqDiff, Nat.reduceAdd, Nat.reduceSub, Nat.reduceMul, Nat.reduceBEq, Int.reduceLT, Int.reduceLE, Int.reduceEq, Int.reduceNeg, Int.reduceAdd, Int.reduceSub, Int.reduceMul, Bool.false_eq_true, Bool.not_true, Bool.not_false, decide_eq_true_eq, and_self, true_and, and_true, reduceCtorEq, ne_eq, not_false_eq_true, not_true_eq_false, decide_true, decide_false, or_false, false_or, h8, h9, fd, ff] at hW
        subst hW
        refine rd_ite (fun hp => ?_) (fun hp => ?_)
        · rw [if_neg (by omega)]
          have e := tmod_neg ha (b := b) (by omega)
          have e1 := Int.emod_nonneg (-a) (b := -b) (by omega)
          have e2 := Int.emod_lt_of_pos (-a) (b := -b) (by omega)
          refine rd_next (b, a.tmod b) ?_ (by simp only; omega)
          simp (config := { maxSteps := 1000000 }) only [RUN, PATHS, BASE, FA, POL, start_tm, Heap.empty, reduceIte, Nat.reduceLT, Nat.reduceLeDiff, Nat.reduceEqDiff, Nat.reduceAdd, Nat.reduceSub, Nat.reduceMul, Nat.reduceBEq, Int.reduceLT, Int.reduceLE, Int.reduceEq, Int.reduceNeg, Int.reduceAdd, Int.reduceSub, Int.reduceMul, Bool.false_eq_true, Bool.not_true, Bool.not_false, decide_eq_true_eq, and_self, true_and, and_true, reduceCtorEq, ne_eq, not_false_eq_true, not_true_eq_false, decide_true, decide_false, or_false, false_or, f0, f1, f4, f6, f7, fb, fd, ff]
          exact ⟨by omega, by omega, by omega, (gcd_step_neg ha (by omega)).trans hg⟩
        · refine rd_exit ⟨rfl, ⟨a, ?_⟩, trivial, ?_⟩
          · simp (config := { maxSteps := 1000000 }) only [RUN, PATHS, BASE, FA, POL, start_tm, Heap.empty, reduceIte, Nat.reduceLT, Nat.reduceLeDiff, Nat.reduceEqDiff, Nat.reduceAdd, Nat.reduceSub, Nat.reduceMul, Nat.reduceBEq, Int.reduceLT, Int.reduceLE, Int.reduceEq, Int.reduceNeg, Int.reduceAdd, Int.reduceSub, Int.reduceMul, Bool.false_eq_true, Bool.not_true, Bool.not_false, decide_eq_true_eq, and_self, true_and, and_true, reduceCtorEq, ne_eq, not_false_eq_true, not_true_eq_false, decide_true, decide_false, or_false, false_or, h8, h9]
            refine ⟨b, rfl, ?_⟩
            rcases (show b = 0 ∨ b = -1 by omega) with rfl | rfl
            · simp only [Int.natAbs_zero, Nat.gcd_zero_right] at hg
              exact .inr ⟨rfl, by omega⟩
            · simp at hg
              exact .inl ⟨rfl, hg.symm⟩
          · simp (config := { maxSteps := 1000000 }) only [RUN, PATHS, BASE, FA, POL, start_tm, Heap.empty, reduceIte, Nat.reduceLT, Nat.reduceLeDiff, Nat.reduceEqDiff, Nat.reduceAdd, Nat.reduceSub, Nat.reduceMul, Nat.reduceBEq, Int.reduceLT, Int.reduceLE, Int.reduceEq, Int.reduceNeg, Int.reduceAdd, Int.reduceSub, Int.reduceMul, Bool.false_eq_true, Bool.not_true, Bool.not_false, decide_eq_true_eq, and_self, true_and, and_true, reduceCtorEq, ne_eq, not_false_eq_true, not_true_eq_false, decide_true, decide_false, or_false, false_or, f0, f1, f4, f6, f7, fb, fd, ff])
    simp (config := { maxSteps := 1000000 }) only [RUN, PATHS, BASE, FA, POL, start_tm, Heap.empty, reduceIte, Nat.reduceLT, Nat.reduceLeDiff, Nat.reduceEqDiff, Nat.reduceAdd, Nat.reduceSub, Nat.reduceMul, Nat.reduceBEq, Int.reduceLT, Int.reduceLE, Int.reduceEq, Int.reduceNeg, Int.reduceAdd, Int.reduceSub, Int.reduceMul, Bool.false_eq_true, Bool.not_true, Bool.not_false, decide_eq_true_eq, and_self, true_and, and_true, reduceCtorEq, ne_eq, not_false_eq_true, not_true_eq_false, decide_true, decide_false, or_false, false_or] at f0 f1 f4 f6 f7 hb
    clear hL
    have hq : ∀ z : Int, (-z).tdiv (-((Nat.gcd m k : Nat) : Int)) = z.tdiv (Nat.gcd m k : Nat) := fun z => by rw [Int.tdiv_neg, Int.neg_tdiv, Int.neg_neg]
    have hgm : ∀ z : Nat, 0 ≤ (z : Int) / (Nat.gcd m k : Nat) ∧ (z : Int) / (Nat.gcd m k : Nat) ≤ z ∧ (1 < Nat.gcd m k → (z : Int) / (Nat.gcd m k : Nat) * 2 ≤ z) ∧ (Nat.gcd m k = 1 → (z : Int) / (Nat.gcd m k : Nat) = z) := fun z => by
      have h1 : (0 : Int) ≤ (z : Int) / (Nat.gcd m k : Nat) := Int.ediv_nonneg (by omega) (by omega)
      refine ⟨h1, Int.ediv_le_self _ (by omega), fun h => ?_, fun h => by rw [h]; simp⟩
      have := Int.mul_ediv_self_le (x := (z : Int)) (k := (Nat.gcd m k : Nat)) (by omega)
      have h3 := Int.mul_le_mul_of_nonneg_right (show (2 : Int) ≤ (Nat.gcd m k : Nat) by omega) h1
      omega
    obtain ⟨m1, m2, m3, m4⟩ := hgm m
    obtain ⟨k1, k2, k3, k4⟩ := hgm k
    have eX : (-(m : Int)).tdiv (-((Nat.gcd m k : Nat) : Int)) = (m : Int) / (Nat.gcd m k : Nat) := by rw [hq, Int.tdiv_eq_ediv_of_nonneg (by omega)]
    have eY : (-(k : Int)).tdiv (-((Nat.gcd m k : Nat) : Int)) = (k : Int) / (Nat.gcd m k : Nat) := by rw [hq, Int.tdiv_eq_ediv_of_nonneg (by omega)]
    clear hgm hq
    have hab' : (b = -1 ∧ Nat.gcd m k = 1) ∨ (b = 0 ∧ a = -(Nat.gcd m k : Nat)) := hab
    have ha1 : b = -1 → (-1 : Int) = -((Nat.gcd m k : Nat) : Int) := by omega
    generalize Nat.gcd m k = g at *
    generalize (m : Int) / (g : Int) = qx at *
    generalize (k : Int) / (g : Int) = qy at *
    clear hab
    rcases hab' with ⟨rfl, hg1⟩ | ⟨rfl, rfl⟩ <;> simp (config := { maxSteps := 1000000 }) only [RUN, PATHS, BASE, FA, POL, start_tm, Heap.empty, reduceIte, Nat.reduceLT, Nat.reduceLeDiff, Nat.reduceEqDiff, Nat.reduceAdd, Nat.reduceSub, Nat.reduceMul, Nat.reduceBEq, Int.reduceLT, Int.reduceLE, Int.reduceEq, Int.reduceNeg, Int.reduceAdd, Int.reduceSub, Int.reduceMul, Bool.false_eq_true, Bool.not_true, Bool.not_false, decide_eq_true_eq, and_self, true_and, and_true, reduceCtorEq, ne_eq, not_false_eq_true, not_true_eq_false, decide_true, decide_false, or_false, false_or, h8, h9, f0, f1, f4, f6, f7, hb, hd, hf]
    all_goals
      clear e1 e2 h8 h9 f0 f1 f4 f6 f7 hb hd hf s
      by_cases hbig : 1073741824 < max qx qy
      · rw [if_pos (show max qx qy > 1073741824 from hbig)]
        by_cases g1 : g = 1
        · have q1 := m4 g1
          have q2 := k4 g1
          try rw [if_pos (show -(g : Int) = -1 by omega)]
          by_cases c1 : -(m : Int) < -1073741824
          · rw [if_pos c1]
          · rw [if_neg c1, if_pos (by omega)]
        · first
          | omega
          | (have m5 := m3 (by omega)
             have k5 := k3 (by omega)
             rw [if_neg (by omega), if_neg (by omega), if_neg (by omega), eX, eY, i64_in (x := qx) (by unfold I64; omega), i64_in (x := qy) (by unfold I64; omega)]
             split
             · rfl
             · rw [if_pos (by omega)])
      · rw [if_neg (show ¬ max qx qy > 1073741824 from hbig)]
        have wx : IntKind.i64.wrap qx = qx := i64_in (by unfold I64; omega)
        have wy : IntKind.i64.wrap qy = qy := i64_in (by unfold I64; omega)
        have w0 : IntKind.i64.wrap (-qx) = -qx := i64_in (by unfold I64; omega)
        have z0 : ¬ -(g : Int) = 0 := by omega
        have z1 : ¬ 1073741824 < qx := by omega
        have z2 : ¬ 1073741824 < qy := by omega
        try rw [show (-1 : Int) = -(g : Int) by omega] at *
        by_cases g1 : g = 1
        · have q1 := m4 g1
          have q2 := k4 g1
          have z3 : ¬ -(m : Int) < -1073741824 := by omega
          have z4 : ¬ -(k : Int) < -1073741824 := by omega
          simp only [z0, z1, z2, z3, z4, if_false, if_true, eX, eY, wx, wy, w0, Int.zero_sub, ite_self]
          split <;> rfl
        · have z3 : ¬ -(g : Int) = -1 := by omega
          first
          | (exfalso; omega)
          | (simp only [z0, z1, z2, z3, if_false, if_true, eX, eY, wx, wy, w0, Int.zero_sub, ite_self]
             split <;> rfl)
end Go.Proofs.YthhhahkiflkemaaDoor
