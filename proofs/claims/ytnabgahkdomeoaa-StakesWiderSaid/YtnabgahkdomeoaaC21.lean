/-
  The reference's division, sum and greatest member.
-/
import Derived.Test.YtnabgahkdomeoaaC20
set_option linter.unusedSimpArgs false
set_option linter.unusedVariables false
set_option linter.unusedSectionVars false
namespace Go.Proofs.Ytnabgahkdomeoaa
open Go GoV
set_option maxRecDepth 100000

theorem SHO_one {T S : Int} {w : List Int} {M M' : List Qu} {l l' : Nat} (h : SHA T S w M l) (h' : SHA T S w M' l') : h.out = h'.out := by
  obtain rfl := QS_unique (h.pm.trans h'.pm.symm) h.qs h'.qs
  have : l = l' := by have := h.lf; have := h'.lf; omega
  subst this; rfl
open Classical in
/-- The shares. -/
noncomputable def SHO (T : Int) (w : List Int) : List Int := if h : ∃ M, ∃ left, SHA T (SUMI w) w M left then h.choose_spec.choose_spec.out else []
theorem SHO_eq {T : Int} {w : List Int} {M : List Qu} {l : Nat} (h : SHA T (SUMI w) w M l) : h.out = SHO T w := by
  have hh : ∃ M, ∃ left, SHA T (SUMI w) w M left := ⟨M, l, h⟩
  unfold SHO
  rw [dif_pos hh]
  exact SHO_one _ _
/-- What Share answers. -/
noncomputable def SHV (T : Int) (w : List Int) : PV := if CKW T w ≠ 0 then .tup [.nils, I 0, I (CKW T w)] else if SUMI w = 0 then .tup [.vs 1 ((List.replicate w.length 0).map I) none, I T, I 0] else .tup [.vs 1 ((SHO T w).map I) none, I 0, I 0]
theorem c_share (T : Int) (w : List Int) (c : Option Nat) : ap Try.prog pol 16 [I T, .vs 1 (w.map I) c] = some (.ret (SHV T w)) := by
  unfold SHV
  split
  · next h => exact c_shareE T w c h
  · next h =>
    have h := Decidable.not_not.1 h
    split
    · next h0 => exact c_share0 T w c h h0
    · next h0 =>
      obtain ⟨M, l, hs, e⟩ := c_share1 T w c h h0
      rw [e, SHO_eq hs]
theorem and_one (n : Nat) (h : n < 9223372036854775808) : IntKind.i64.wrap ((BitVec.ofInt IntKind.i64.bits (n : Int) &&& BitVec.ofInt IntKind.i64.bits 1).toNat : Nat) = ((n % 2 : Nat) : Int) := by
  have e : (BitVec.ofInt IntKind.i64.bits (n : Int) &&& BitVec.ofInt IntKind.i64.bits 1).toNat = n % 2 := by
    rw [BitVec.toNat_and]
    have e1 : (BitVec.ofInt IntKind.i64.bits (n : Int)).toNat = n := by
      rw [BitVec.toNat_ofInt]; simp [IntKind.bits]; omega
    have e2 : (BitVec.ofInt IntKind.i64.bits 1).toNat = 2 ^ 1 - 1 := by decide
    rw [e1, e2, Nat.and_two_pow_sub_one_eq_mod]
  rw [e, i64_in]
  unfold I64; omega
theorem shr_i (n : Nat) (k : Nat) (hk : k ≤ 64) : (n : Int).fdiv (2 ^ min k IntKind.i64.bits) = ((n / 2 ^ k : Nat) : Int) := by
  rw [show min k IntKind.i64.bits = k by simp [IntKind.bits]; omega, Int.fdiv_eq_ediv_of_nonneg _ (by exact Int.pow_nonneg (by decide)), Int.natCast_ediv, Int.natCast_pow]; rfl
theorem c_divide (T x S : Nat) (hT : T ≤ 1099511627776) (hx : x ≤ S) (hS : 0 < S) (hb : S ≤ 4398046511104) : ap Try.prog pol 39 [I T, I x, I S] = some (.ret (.tup [I ((T * x / S : Nat) : Int), I ((T * x % S : Nat) : Int)])) := by
  rw [ap_eq _ Try.func39 rfl Try.ntmps39 Try.results39 (by kernel_rfl) rfl (by exact Nat.le_of_ble_eq_true rfl)]
  simp (config := { maxSteps := 1000000 }) only [RUN, PATHS, BASE, FA, POL, start_tm, Heap.empty, reduceIte, Nat.reduceLT, Nat.reduceLeDiff, Nat.reduceEqDiff, Nat.reduceAdd, Nat.reduceSub, Nat.reduceMul, Nat.reduceBEq, Int.reduceLT, Int.reduceLE, Int.reduceEq, Int.reduceNeg, Int.reduceAdd, Int.reduceSub, Int.reduceMul, Bool.false_eq_true, Bool.not_true, Bool.not_false, decide_eq_true_eq, and_self, true_and, and_true, reduceCtorEq, ne_eq, not_false_eq_true, not_true_eq_false, decide_true, decide_false, or_false, false_or]
  generalize hL : W _ (.loop _) _ = L
  obtain ⟨ex, s, rfl, rfl, h8, h9, hd⟩ := loop_at hL (α := Nat × Nat × Nat) (fun p => p.1)
    (fun s0 p s => p.1 ≤ 41 ∧ p.2.1 * S + p.2.2 = T / 2 ^ p.1 * x ∧ p.2.2 < S ∧ s.tmps 10 = I ((p.1 : Int) - 1) ∧ s.tmps 8 = I p.2.1 ∧ s.tmps 9 = I p.2.2 ∧ s.tmps 0 = I T ∧ s.tmps 1 = I x ∧ s.tmps 2 = I S ∧ s.defers = [] ∧ s.fid = 0)
    (fun s0 ex s => ex = .exit 0 ∧ s.tmps 8 = I ((T * x / S : Nat) : Int) ∧ s.tmps 9 = I ((T * x % S : Nat) : Int) ∧ s.defers = []) (41, 0, 0)
    (by simp (config := { maxSteps := 1000000 }) only [RUN, PATHS, BASE, FA, POL, start_tm, Heap.empty, reduceIte, Nat.reduceLT, Nat.reduceLeDiff, Nat.reduceEqDiff, Nat.reduceAdd, Nat.reduceSub, Nat.reduceMul, Nat.reduceBEq, Int.reduceLT, Int.reduceLE, Int.reduceEq, Int.reduceNeg, Int.reduceAdd, Int.reduceSub, Int.reduceMul, Bool.false_eq_true, Bool.not_true, Bool.not_false, decide_eq_true_eq, and_self, true_and, and_true, reduceCtorEq, ne_eq, not_false_eq_true, not_true_eq_false, decide_true, decide_false, or_false, false_or]
        have : T / 2 ^ 41 = 0 := by omega
        exact ⟨by rw [this]; simp, hS, by simp⟩) (by
      rintro ⟨k, q, r⟩ s r0 hW ⟨hk, he, hr, h10, h8, h9, h0, h1, h2, hd, hf⟩
      dsimp only at hk he hr h10 h8 h9
      cases k with
      | zero =>
        simp (config := { maxSteps := 1000000 }) only [RUN, PATHS, BASE, FA, POL, start_tm, Heap.empty, reduceIte, Nat.reduceLT, Nat.reduceLeDiff, Nat.reduceEqDiff, Nat.reduceAdd, Nat.reduceSub, Nat.reduceMul, Nat.reduceBEq, Int.reduceLT, Int.reduceLE, Int.reduceEq, Int.reduceNeg, Int.reduceAdd, Int.reduceSub, Int.reduceMul, Bool.false_eq_true, Bool.not_true, Bool.not_false, decide_eq_true_eq, and_self, true_and, and_true, reduceCtorEq, ne_eq, not_false_eq_true, not_true_eq_false, decide_true, decide_false, or_false, false_or, h10, h8, h9, hd, hf, (show ¬ (0 : Int) ≤ ((0 : Nat) : Int) - 1 by omega)] at hW
        subst hW
        rw [Nat.pow_zero, Nat.div_one] at he
        have d1 : T * x / S = q := by rw [← he, Nat.mul_comm q S, Nat.mul_add_div hS, Nat.div_eq_of_lt hr, Nat.add_zero]
        have d2 : T * x % S = r := by rw [← he, Nat.mul_comm q S, Nat.mul_add_mod, Nat.mod_eq_of_lt hr]
        refine rd_exit ⟨rfl, ?_⟩
        simp (config := { maxSteps := 1000000 }) only [RUN, PATHS, BASE, FA, POL, start_tm, Heap.empty, reduceIte, Nat.reduceLT, Nat.reduceLeDiff, Nat.reduceEqDiff, Nat.reduceAdd, Nat.reduceSub, Nat.reduceMul, Nat.reduceBEq, Int.reduceLT, Int.reduceLE, Int.reduceEq, Int.reduceNeg, Int.reduceAdd, Int.reduceSub, Int.reduceMul, Bool.false_eq_true, Bool.not_true, Bool.not_false, decide_eq_true_eq, and_self, true_and, and_true, reduceCtorEq, ne_eq, not_false_eq_true, not_true_eq_false, decide_true, decide_false, or_false, false_or, h8, h9, d1, d2]
      | succ k =>
        have e2 : T / 2 ^ (k + 1) = T / 2 ^ k / 2 := by rw [Nat.pow_succ, Nat.div_div_eq_div_mul]
        have sh := shr_i T k (by omega)
        have lt : T / 2 ^ k ≤ T := Nat.div_le_self _ _
        rw [e2] at he
        obtain ⟨t, ht⟩ : ∃ t, t = T / 2 ^ k := ⟨_, rfl⟩
        rw [← ht] at sh lt he
        have an := and_one t (by omega)
        have qb : q * S ≤ 1099511627776 * S := by
          have : t / 2 * x ≤ 1099511627776 * S := Nat.mul_le_mul (by omega) hx
          omega
        have qb' : q ≤ 1099511627776 := Nat.le_of_mul_le_mul_right qb hS
        have td : ∀ n : Nat, (n : Int).tdiv S = ((n / S : Nat) : Int) := fun n => by rw [Int.tdiv_eq_ediv_of_nonneg (by omega)]; simp
        have tm : ∀ n : Nat, (n : Int).tmod S = ((n % S : Nat) : Int) := fun n => by rw [Int.tmod_eq_emod_of_nonneg (by omega)]; simp
        have hk' : s.tmps 10 = I k := by rw [h10]; congr 1; omega
        have key : ∀ m : Nat, m = 2 * r + (t % 2) * x → (2 * q + m / S) * S + m % S = t * x := by
          intro m hm
          have := Nat.div_add_mod m S
          rw [Nat.mul_comm] at this
          have e3 : t = 2 * (t / 2) + t % 2 := by omega
          rw [Nat.add_mul, Nat.mul_assoc]
          conv => rhs; rw [e3]
          rw [Nat.add_mul, Nat.mul_assoc, ← he]
          omega
        rcases Nat.mod_two_eq_zero_or_one t with t2 | t2
        · have := key (2 * r) (by rw [t2]; omega)
          have dl := Nat.div_le_self (2 * r) S
          have td1 := td (2 * r)
          have tm1 := tm (2 * r)
          have ml := Nat.mod_lt (2 * r) hS
          obtain ⟨d, hdd⟩ : ∃ d, d = (2 * r) / S := ⟨_, rfl⟩
          obtain ⟨e, hee⟩ : ∃ e, e = (2 * r) % S := ⟨_, rfl⟩
          rw [← hdd] at td1 dl this
          rw [← hee] at tm1 ml this
          rw [t2] at an
          simp (config := { maxSteps := 1000000 }) only [RUN, PATHS, BASE, FA, POL, start_tm, Heap.empty, reduceIte, Nat.reduceLT, Nat.reduceLeDiff, Nat.reduceEqDiff, Nat.reduceAdd, Nat.reduceSub, Nat.reduceMul, Nat.reduceBEq, Int.reduceLT, Int.reduceLE, Int.reduceEq, Int.reduceNeg, Int.reduceAdd, Int.reduceSub, Int.reduceMul, Bool.false_eq_true, Bool.not_true, Bool.not_false, decide_eq_true_eq, and_self, true_and, and_true, reduceCtorEq, ne_eq, not_false_eq_true, not_true_eq_false, decide_true, decide_false, or_false, false_or, hk', h8, h9, h0, h1, h2, hd, hf, sh, an, td1, tm1, Int.toNat_natCast, (show (0 : Int) ≤ k by omega), (show ¬ (k : Int) < 0 by omega), (show (2 : Int) * q = ((2 * q : Nat) : Int) by omega), (show (2 : Int) * r = ((2 * r : Nat) : Int) by omega), i64_in (x := ((2 * q : Nat) : Int)) (by unfold I64; omega), i64_in (x := ((2 * r : Nat) : Int)) (by unfold I64; omega), Int.natCast_zero, (show ¬ (S : Int) = 0 by omega), i64_in (x := (d : Int)) (by unfold I64; omega), (show ((2 * q : Nat) : Int) + (d : Int) = ((2 * q + d : Nat) : Int) by omega), i64_in (x := ((2 * q + d : Nat) : Int)) (by unfold I64; omega), i64_in (x := (k : Int) - 1) (by unfold I64; omega)] at hW
          subst hW
          refine rd_next (k, 2 * q + d, e) ?_ (Nat.lt_succ_self k)
          simp (config := { maxSteps := 1000000 }) only [RUN, PATHS, BASE, FA, POL, start_tm, Heap.empty, reduceIte, Nat.reduceLT, Nat.reduceLeDiff, Nat.reduceEqDiff, Nat.reduceAdd, Nat.reduceSub, Nat.reduceMul, Nat.reduceBEq, Int.reduceLT, Int.reduceLE, Int.reduceEq, Int.reduceNeg, Int.reduceAdd, Int.reduceSub, Int.reduceMul, Bool.false_eq_true, Bool.not_true, Bool.not_false, decide_eq_true_eq, and_self, true_and, and_true, reduceCtorEq, ne_eq, not_false_eq_true, not_true_eq_false, decide_true, decide_false, or_false, false_or, h0, h1, h2, hd, hf]
          exact ⟨by omega, by rw [← ht]; exact this, ml⟩
        · have := key (2 * r + x) (by rw [t2]; omega)
          have dl := Nat.div_le_self (2 * r + x) S
          have td1 := td (2 * r + x)
          have tm1 := tm (2 * r + x)
          have ml := Nat.mod_lt (2 * r + x) hS
          obtain ⟨d, hdd⟩ : ∃ d, d = (2 * r + x) / S := ⟨_, rfl⟩
          obtain ⟨e, hee⟩ : ∃ e, e = (2 * r + x) % S := ⟨_, rfl⟩
          rw [← hdd] at td1 dl this
          rw [← hee] at tm1 ml this
          rw [t2] at an
          simp (config := { maxSteps := 1000000 }) only [RUN, PATHS, BASE, FA, POL, start_tm, Heap.empty, reduceIte, Nat.reduceLT, Nat.reduceLeDiff, Nat.reduceEqDiff, Nat.reduceAdd, Nat.reduceSub, Nat.reduceMul, Nat.reduceBEq, Int.reduceLT, Int.reduceLE, Int.reduceEq, Int.reduceNeg, Int.reduceAdd, Int.reduceSub, Int.reduceMul, Bool.false_eq_true, Bool.not_true, Bool.not_false, decide_eq_true_eq, and_self, true_and, and_true, reduceCtorEq, ne_eq, not_false_eq_true, not_true_eq_false, decide_true, decide_false, or_false, false_or, hk', h8, h9, h0, h1, h2, hd, hf, sh, an, td1, tm1, Int.toNat_natCast, (show (0 : Int) ≤ k by omega), (show ¬ (k : Int) < 0 by omega), (show (2 : Int) * q = ((2 * q : Nat) : Int) by omega), (show (2 : Int) * r = ((2 * r : Nat) : Int) by omega), i64_in (x := ((2 * q : Nat) : Int)) (by unfold I64; omega), i64_in (x := ((2 * r : Nat) : Int)) (by unfold I64; omega), (show ((2 * r : Nat) : Int) + x = ((2 * r + x : Nat) : Int) by omega), i64_in (x := ((2 * r + x : Nat) : Int)) (by unfold I64; omega), Int.natCast_one, (show ¬ (S : Int) = 0 by omega), i64_in (x := (d : Int)) (by unfold I64; omega), (show ((2 * q : Nat) : Int) + (d : Int) = ((2 * q + d : Nat) : Int) by omega), i64_in (x := ((2 * q + d : Nat) : Int)) (by unfold I64; omega), i64_in (x := (k : Int) - 1) (by unfold I64; omega)] at hW
          subst hW
          refine rd_next (k, 2 * q + d, e) ?_ (Nat.lt_succ_self k)
          simp (config := { maxSteps := 1000000 }) only [RUN, PATHS, BASE, FA, POL, start_tm, Heap.empty, reduceIte, Nat.reduceLT, Nat.reduceLeDiff, Nat.reduceEqDiff, Nat.reduceAdd, Nat.reduceSub, Nat.reduceMul, Nat.reduceBEq, Int.reduceLT, Int.reduceLE, Int.reduceEq, Int.reduceNeg, Int.reduceAdd, Int.reduceSub, Int.reduceMul, Bool.false_eq_true, Bool.not_true, Bool.not_false, decide_eq_true_eq, and_self, true_and, and_true, reduceCtorEq, ne_eq, not_false_eq_true, not_true_eq_false, decide_true, decide_false, or_false, false_or, h0, h1, h2, hd, hf]
          exact ⟨by omega, by rw [← ht]; exact this, ml⟩)
  simp (config := { maxSteps := 1000000 }) only [RUN, PATHS, BASE, FA, POL, start_tm, Heap.empty, reduceIte, Nat.reduceLT, Nat.reduceLeDiff, Nat.reduceEqDiff, Nat.reduceAdd, Nat.reduceSub, Nat.reduceMul, Nat.reduceBEq, Int.reduceLT, Int.reduceLE, Int.reduceEq, Int.reduceNeg, Int.reduceAdd, Int.reduceSub, Int.reduceMul, Bool.false_eq_true, Bool.not_true, Bool.not_false, decide_eq_true_eq, and_self, true_and, and_true, reduceCtorEq, ne_eq, not_false_eq_true, not_true_eq_false, decide_true, decide_false, or_false, false_or, h8, h9, hd]
end Go.Proofs.Ytnabgahkdomeoaa
