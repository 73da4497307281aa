/-
  What is pumped together: what the law computes.
-/
import Derived.Test.YtbgdeimkemjklaaC18
set_option linter.unusedSimpArgs false
set_option linter.unusedVariables false
set_option linter.unusedSectionVars false
namespace Go.Proofs.Ytbgdeimkemjklaa
open Go GoV
set_option maxRecDepth 100000

theorem PSUM_add {p q s k : List Int} (t : Nat) : ∀ n, (∀ i < n, s.getD i 0 = p.getD i 0 + q.getD i 0) → PSUM s k t n = PSUM p k t n + PSUM q k t n
  | 0, _ => rfl
  | n + 1, h => by
    simp only [PSUM]
    rw [PSUM_add t n fun i hi => h i (by omega), h n (by omega), Int.add_mul]; omega
def both (p q : List Int) (i : Nat) : Int := p.getD i 0 + q.getD i 0
def BOTH (p q : List Int) : List Int := (List.range p.length).map (both p q)
theorem BOTH_len (p q : List Int) : (BOTH p q).length = p.length := by simp [BOTH]
theorem BOTH_get {p q : List Int} {i : Nat} (h : i < p.length) : (BOTH p q).getD i 0 = p.getD i 0 + q.getD i 0 := by
  simp [BOTH, both, List.getD_eq_getElem?_getD, h]
theorem div_add {a b d : Int} (hd : 0 < d) : (a + b) / d = a / d + b / d ∨ (a + b) / d = a / d + b / d + 1 := by
  have h1 := Int.mul_ediv_add_emod a d
  have h2 := Int.mul_ediv_add_emod b d
  have a1 := Int.emod_nonneg a (show d ≠ 0 by omega)
  have a2 := Int.emod_lt_of_pos a hd
  have b1 := Int.emod_nonneg b (show d ≠ 0 by omega)
  have b2 := Int.emod_lt_of_pos b hd
  have e : a + b = (a % d + b % d) + d * (a / d + b / d) := by rw [Int.mul_add]; omega
  rw [e, Int.add_mul_ediv_left _ _ (by omega)]
  by_cases h : a % d + b % d < d
  · left; rw [Int.ediv_eq_zero_of_lt (by omega) h]; omega
  · right
    have : (a % d + b % d) / d = 1 := by
      have e2 : a % d + b % d = (a % d + b % d - d) + d * 1 := by omega
      rw [e2, Int.add_mul_ediv_left _ _ (by omega), Int.ediv_eq_zero_of_lt (by omega) (by omega)]; rfl
    omega
theorem UNT_both {d : Int} {k p q : List Int} (hd : 1 ≤ d) (hq : q.length = p.length) {t : Nat} (ht : t < DAYS k p) :
    (UNT d k (BOTH p q)).getD t 0 = (UNT d k p).getD t 0 + (UNT d k q).getD t 0 ∨ (UNT d k (BOTH p q)).getD t 0 = (UNT d k p).getD t 0 + (UNT d k q).getD t 0 + 1 := by
  have d1 : DAYS k (BOTH p q) = DAYS k p := by unfold DAYS; rw [BOTH_len]
  have d2 : DAYS k q = DAYS k p := by unfold DAYS; rw [hq]
  rw [UNT_get (by omega), UNT_get ht, UNT_get (by omega), BOTH_len, hq, PSUM_add t p.length fun i hi => BOTH_get hi]
  exact div_add (by omega)
theorem LIT_get {p : List Int} (h : LIT p) {i : Nat} (hi : i < p.length) : 0 ≤ p[i] ∧ p[i] ≤ 1073741824 := h _ (List.getElem_mem hi)
theorem sofar_strip0 (f : Nat → Int) (i : Nat) : (sofar f i).map strip0 = sofar f i := by
  rw [sofar_ints]; exact map_strip0_ints _
theorem w_together (f r d : Int) (k p q : List Int) : ap Try.prog pol 7 [well f r d k none, ints p none, ints q none] = some (.ret (.bool true)) := by
  rw [ap_eq _ Try.func7 rfl Try.ntmps7 Try.results7 (by kernel_rfl) rfl (by exact Nat.le_of_ble_eq_true rfl)]
  by_cases hf : FEW k p
  rotate_left
  · simp (config := { maxSteps := 1000000 }) only [RUN, PATHS, BASE, FA, POL, start_tm, Heap.empty, reduceIte, Nat.reduceLT, Nat.reduceLeDiff, Nat.reduceEqDiff, Nat.reduceAdd, Nat.reduceSub, Nat.reduceMul, Nat.reduceBEq, Int.reduceLT, Int.reduceLE, Int.reduceEq, Int.reduceNeg, Int.reduceAdd, Int.reduceSub, Int.reduceMul, Bool.false_eq_true, Bool.not_true, Bool.not_false, decide_eq_true_eq, and_self, true_and, and_true, reduceCtorEq, ne_eq, not_false_eq_true, not_true_eq_false, decide_true, decide_false, or_false, false_or, INTS, c_sane, c_few, hf]
  have hk : k.length ≤ 1000000 := by unfold FEW at hf; omega
  have hp : p.length ≤ 1000000 := by unfold FEW at hf; omega
  by_cases hq : q.length = p.length
  rotate_left
  · simp (config := { maxSteps := 1000000 }) only [RUN, PATHS, BASE, FA, POL, start_tm, Heap.empty, reduceIte, Nat.reduceLT, Nat.reduceLeDiff, Nat.reduceEqDiff, Nat.reduceAdd, Nat.reduceSub, Nat.reduceMul, Nat.reduceBEq, Int.reduceLT, Int.reduceLE, Int.reduceEq, Int.reduceNeg, Int.reduceAdd, Int.reduceSub, Int.reduceMul, Bool.false_eq_true, Bool.not_true, Bool.not_false, decide_eq_true_eq, and_self, true_and, and_true, reduceCtorEq, ne_eq, not_false_eq_true, not_true_eq_false, decide_true, decide_false, or_false, false_or, INTS, NUM, c_sane, c_few, hf, (show ¬ (p.length : Int) = q.length by omega)]
  by_cases h0 : CHK f r d k p = 0
  rotate_left
  · simp (config := { maxSteps := 1000000 }) only [RUN, PATHS, BASE, FA, POL, start_tm, Heap.empty, reduceIte, Nat.reduceLT, Nat.reduceLeDiff, Nat.reduceEqDiff, Nat.reduceAdd, Nat.reduceSub, Nat.reduceMul, Nat.reduceBEq, Int.reduceLT, Int.reduceLE, Int.reduceEq, Int.reduceNeg, Int.reduceAdd, Int.reduceSub, Int.reduceMul, Bool.false_eq_true, Bool.not_true, Bool.not_false, decide_eq_true_eq, and_self, true_and, and_true, reduceCtorEq, ne_eq, not_false_eq_true, not_true_eq_false, decide_true, decide_false, or_false, false_or, INTS, NUM, c_sane, c_few, hf, hq, h0, c_owed f r d k p none none hk hp, c_owed f r d k q none none hk (by omega)]
    by_cases h0' : CHK f r d k q = 0
    · simp (config := { maxSteps := 1000000 }) only [RUN, PATHS, BASE, FA, POL, start_tm, Heap.empty, reduceIte, Nat.reduceLT, Nat.reduceLeDiff, Nat.reduceEqDiff, Nat.reduceAdd, Nat.reduceSub, Nat.reduceMul, Nat.reduceBEq, Int.reduceLT, Int.reduceLE, Int.reduceEq, Int.reduceNeg, Int.reduceAdd, Int.reduceSub, Int.reduceMul, Bool.false_eq_true, Bool.not_true, Bool.not_false, decide_eq_true_eq, and_self, true_and, and_true, reduceCtorEq, ne_eq, not_false_eq_true, not_true_eq_false, decide_true, decide_false, or_false, false_or, INTS, NUM, h0, h0']
    · simp (config := { maxSteps := 1000000 }) only [RUN, PATHS, BASE, FA, POL, start_tm, Heap.empty, reduceIte, Nat.reduceLT, Nat.reduceLeDiff, Nat.reduceEqDiff, Nat.reduceAdd, Nat.reduceSub, Nat.reduceMul, Nat.reduceBEq, Int.reduceLT, Int.reduceLE, Int.reduceEq, Int.reduceNeg, Int.reduceAdd, Int.reduceSub, Int.reduceMul, Bool.false_eq_true, Bool.not_true, Bool.not_false, decide_eq_true_eq, and_self, true_and, and_true, reduceCtorEq, ne_eq, not_false_eq_true, not_true_eq_false, decide_true, decide_false, or_false, false_or, INTS, NUM, h0, h0']
  by_cases h0' : CHK f r d k q = 0
  rotate_left
  · simp (config := { maxSteps := 1000000 }) only [RUN, PATHS, BASE, FA, POL, start_tm, Heap.empty, reduceIte, Nat.reduceLT, Nat.reduceLeDiff, Nat.reduceEqDiff, Nat.reduceAdd, Nat.reduceSub, Nat.reduceMul, Nat.reduceBEq, Int.reduceLT, Int.reduceLE, Int.reduceEq, Int.reduceNeg, Int.reduceAdd, Int.reduceSub, Int.reduceMul, Bool.false_eq_true, Bool.not_true, Bool.not_false, decide_eq_true_eq, and_self, true_and, and_true, reduceCtorEq, ne_eq, not_false_eq_true, not_true_eq_false, decide_true, decide_false, or_false, false_or, INTS, NUM, c_sane, c_few, hf, hq, h0, h0', c_owed f r d k p none none hk hp, c_owed f r d k q none none hk (by omega)]
  have bd := BD_of h0
  have bq := BD_of h0'
  have bd' := bd
  obtain ⟨d1, d2, k0, k1, kn, ks, p1, pl⟩ := bd'
  have ql := bq.pl
  have hD := DAYS_le bd
  have dq : DAYS k q = DAYS k p := by unfold DAYS; rw [hq]
  have hl : (OWE (UNT d k p)).length = DAYS k p := by rw [OWE_len, UNT_len]
  have hlq : (OWE (UNT d k q)).length = DAYS k p := by rw [OWE_len, UNT_len, dq]
  have cs := c_sums (OWE (UNT d k p)) none (by omega)
  rw [if_pos (OWE_OKL bd), SUMS_OWE, decide_eq_true (OWE_OKL bd)] at cs
  have cq := c_sums (OWE (UNT d k q)) none (by omega)
  rw [if_pos (OWE_OKL bq), SUMS_OWE, decide_eq_true (OWE_OKL bq)] at cq
  simp (config := { maxSteps := 1000000 }) only [RUN, PATHS, BASE, FA, POL, start_tm, Heap.empty, reduceIte, Nat.reduceLT, Nat.reduceLeDiff, Nat.reduceEqDiff, Nat.reduceAdd, Nat.reduceSub, Nat.reduceMul, Nat.reduceBEq, Int.reduceLT, Int.reduceLE, Int.reduceEq, Int.reduceNeg, Int.reduceAdd, Int.reduceSub, Int.reduceMul, Bool.false_eq_true, Bool.not_true, Bool.not_false, decide_eq_true_eq, and_self, true_and, and_true, reduceCtorEq, ne_eq, not_false_eq_true, not_true_eq_false, decide_true, decide_false, or_false, false_or, INTS, NUM, SOFAR, c_sane, c_few, hf, hq, h0, h0', c_owed f r d k p none none hk hp, c_owed f r d k q none none hk (by omega)]
  generalize hL : W _ (.loop _) _ = L
  obtain ⟨ex, s, rfl, hex⟩ := loop_at hL (α := Nat) (fun j => p.length - j)
    (fun s0 j s => j ≤ p.length ∧ (∀ i < j, both p q i ≤ 1073741824) ∧ s.tmps 57 = I j ∧ s.tmps 56 = I p.length ∧ s.tmps 55 = ints p none ∧ s.tmps 2 = ints q none ∧ s.tmps 11 = .gsl 1 1 j 0 j ∧ s.H.rows 1 = some (.gro 1 (sofar (both p q) j) 0) ∧ s.tmps 7 = ints (OWE (UNT d k p)) none ∧ s.tmps 9 = ints (OWE (UNT d k q)) none ∧ s.tmps 3 = .bptr 0 3 0 0 ∧ s.boxes 3 = some (0, [I f, I r, I d, ints k none]) ∧ s.defers = [] ∧ s.fid = 0)
    (fun s0 ex s => s.defers = [] ∧ s.fid = 0 ∧ ((ex = .ret ∧ s.tmps 6 = .bool true) ∨ (ex = .exit 0 ∧ (∀ i < p.length, both p q i ≤ 1073741824) ∧ s.tmps 11 = .gsl 1 1 p.length 0 p.length ∧ s.H.rows 1 = some (.gro 1 (sofar (both p q) p.length) 0) ∧ s.tmps 7 = ints (OWE (UNT d k p)) none ∧ s.tmps 9 = ints (OWE (UNT d k q)) none ∧ s.tmps 3 = .bptr 0 3 0 0 ∧ s.boxes 3 = some (0, [I f, I r, I d, ints k none])))) 0
    (by simp (config := { maxSteps := 1000000 }) only [RUN, PATHS, BASE, FA, POL, start_tm, Heap.empty, reduceIte, Nat.reduceLT, Nat.reduceLeDiff, Nat.reduceEqDiff, Nat.reduceAdd, Nat.reduceSub, Nat.reduceMul, Nat.reduceBEq, Int.reduceLT, Int.reduceLE, Int.reduceEq, Int.reduceNeg, Int.reduceAdd, Int.reduceSub, Int.reduceMul, Bool.false_eq_true, Bool.not_true, Bool.not_false, decide_eq_true_eq, and_self, true_and, and_true, reduceCtorEq, ne_eq, not_false_eq_true, not_true_eq_false, decide_true, decide_false, or_false, false_or, sofar_zero]; simp) (by
      rintro j s r0 hW ⟨hj, hb, hi, hn, h55, h2, h11, hr, h7, h9, h3, hbx, hd, hf⟩
      by_cases hp' : j < p.length
      · have e0 : p[j]? = some p[j] := List.getElem?_eq_getElem hp'
        have e1 := ints_get e0
        have eg : p.getD j 0 = p[j] := by rw [List.getD_eq_getElem?_getD, e0]; rfl
        have u0 : q[j]? = some (q[j]'(by omega)) := List.getElem?_eq_getElem (by omega)
        have u1 := ints_get u0
        have ug : q.getD j 0 = q[j] := by rw [List.getD_eq_getElem?_getD, u0]; rfl
        have b1 := LIT_get pl hp'
        have b2 := LIT_get ql (show j < q.length by omega)
        have eb : both p q j = p[j] + q[j] := by unfold both; rw [eg, ug]
        by_cases hx : p[j] + q[j] ≤ 1073741824
        · have so := sofar_succ (both p q) j
          rw [eb] at so
          simp (config := { maxSteps := 1000000 }) only [RUN, PATHS, BASE, FA, POL, start_tm, Heap.empty, reduceIte, Nat.reduceLT, Nat.reduceLeDiff, Nat.reduceEqDiff, Nat.reduceAdd, Nat.reduceSub, Nat.reduceMul, Nat.reduceBEq, Int.reduceLT, Int.reduceLE, Int.reduceEq, Int.reduceNeg, Int.reduceAdd, Int.reduceSub, Int.reduceMul, Bool.false_eq_true, Bool.not_true, Bool.not_false, decide_eq_true_eq, and_self, true_and, and_true, reduceCtorEq, ne_eq, not_false_eq_true, not_true_eq_false, decide_true, decide_false, or_false, false_or, INTS, NUM, SOFAR, so, hi, hn, h55, h2, h11, hr, h7, h9, h3, hbx, hd, hf, hq, e1, u1, Int.toNat_natCast, (show j ≤ 67108863 by omega), (show ¬ p[j] < 0 by omega), (show ¬ q[j] < 0 by omega), (show ¬ 1073741824 < p[j] by omega), (show ¬ 1073741824 - p[j] < q[j] by omega), (show (j : Int) < p.length by omega), (show (0 : Int) ≤ j by omega), (i64_in (x := (j : Int) + 1) (by unfold I64; omega)), (i64_in (x := 1073741824 - p[j]) (by unfold I64; omega)), (i64_in (x := p[j] + q[j]) (by unfold I64; omega))] at hW
          subst hW
          refine rd_next (j + 1) ?_ (show p.length - (j + 1) < p.length - j by omega)
          simp (config := { maxSteps := 1000000 }) only [RUN, PATHS, BASE, FA, POL, start_tm, Heap.empty, reduceIte, Nat.reduceLT, Nat.reduceLeDiff, Nat.reduceEqDiff, Nat.reduceAdd, Nat.reduceSub, Nat.reduceMul, Nat.reduceBEq, Int.reduceLT, Int.reduceLE, Int.reduceEq, Int.reduceNeg, Int.reduceAdd, Int.reduceSub, Int.reduceMul, Bool.false_eq_true, Bool.not_true, Bool.not_false, decide_eq_true_eq, and_self, true_and, and_true, reduceCtorEq, ne_eq, not_false_eq_true, not_true_eq_false, decide_true, decide_false, or_false, false_or, hn, h55, h2, h7, h9, h3, hbx]
          refine ⟨by omega, ?_, by simp⟩
          intro i hi
          by_cases h : i < j
          · exact hb i h
          · have : i = j := by omega
            subst this; omega
        · simp (config := { maxSteps := 1000000 }) only [RUN, PATHS, BASE, FA, POL, start_tm, Heap.empty, reduceIte, Nat.reduceLT, Nat.reduceLeDiff, Nat.reduceEqDiff, Nat.reduceAdd, Nat.reduceSub, Nat.reduceMul, Nat.reduceBEq, Int.reduceLT, Int.reduceLE, Int.reduceEq, Int.reduceNeg, Int.reduceAdd, Int.reduceSub, Int.reduceMul, Bool.false_eq_true, Bool.not_true, Bool.not_false, decide_eq_true_eq, and_self, true_and, and_true, reduceCtorEq, ne_eq, not_false_eq_true, not_true_eq_false, decide_true, decide_false, or_false, false_or, INTS, NUM, SOFAR, hi, hn, h55, h2, h11, hr, h7, h9, h3, hbx, hd, hf, hq, e1, u1, Int.toNat_natCast, (show j ≤ 67108863 by omega), (show ¬ p[j] < 0 by omega), (show ¬ q[j] < 0 by omega), (show ¬ 1073741824 < p[j] by omega), (show 1073741824 - p[j] < q[j] by omega), (show (0 : Int) ≤ p[j] by omega), (show (0 : Int) ≤ q[j] by omega), (show (j : Int) < p.length by omega), (show (0 : Int) ≤ j by omega), (i64_in (x := 1073741824 - p[j]) (by unfold I64; omega))] at hW
          subst hW
          refine rd_ret ⟨?_, ?_, .inl ⟨rfl, ?_⟩⟩ <;> simp (config := { maxSteps := 1000000 }) only [RUN, PATHS, BASE, FA, POL, start_tm, Heap.empty, reduceIte, Nat.reduceLT, Nat.reduceLeDiff, Nat.reduceEqDiff, Nat.reduceAdd, Nat.reduceSub, Nat.reduceMul, Nat.reduceBEq, Int.reduceLT, Int.reduceLE, Int.reduceEq, Int.reduceNeg, Int.reduceAdd, Int.reduceSub, Int.reduceMul, Bool.false_eq_true, Bool.not_true, Bool.not_false, decide_eq_true_eq, and_self, true_and, and_true, reduceCtorEq, ne_eq, not_false_eq_true, not_true_eq_false, decide_true, decide_false, or_false, false_or, hd, hf]
      · simp (config := { maxSteps := 1000000 }) only [RUN, PATHS, BASE, FA, POL, start_tm, Heap.empty, reduceIte, Nat.reduceLT, Nat.reduceLeDiff, Nat.reduceEqDiff, Nat.reduceAdd, Nat.reduceSub, Nat.reduceMul, Nat.reduceBEq, Int.reduceLT, Int.reduceLE, Int.reduceEq, Int.reduceNeg, Int.reduceAdd, Int.reduceSub, Int.reduceMul, Bool.false_eq_true, Bool.not_true, Bool.not_false, decide_eq_true_eq, and_self, true_and, and_true, reduceCtorEq, ne_eq, not_false_eq_true, not_true_eq_false, decide_true, decide_false, or_false, false_or, INTS, hi, hn, h55, h2, h11, hr, h7, h9, h3, hbx, hd, hf, (show ¬ (j : Int) < p.length by omega)] at hW
        subst hW
        have : j = p.length := by omega
        subst this
        refine rd_exit ⟨?_, ?_, .inr ⟨rfl, hb, ?_⟩⟩ <;> simp (config := { maxSteps := 1000000 }) only [RUN, PATHS, BASE, FA, POL, start_tm, Heap.empty, reduceIte, Nat.reduceLT, Nat.reduceLeDiff, Nat.reduceEqDiff, Nat.reduceAdd, Nat.reduceSub, Nat.reduceMul, Nat.reduceBEq, Int.reduceLT, Int.reduceLE, Int.reduceEq, Int.reduceNeg, Int.reduceAdd, Int.reduceSub, Int.reduceMul, Bool.false_eq_true, Bool.not_true, Bool.not_false, decide_eq_true_eq, and_self, true_and, and_true, reduceCtorEq, ne_eq, not_false_eq_true, not_true_eq_false, decide_true, decide_false, or_false, false_or, hd, hf, h11, hr, h7, h9, h3, hbx])
  obtain ⟨gd, gf, ⟨rfl, g6⟩ | ⟨rfl, hb, g11, gr, g7, g9, g3, gb⟩⟩ := hex
  · simp (config := { maxSteps := 1000000 }) only [RUN, PATHS, BASE, FA, POL, start_tm, Heap.empty, reduceIte, Nat.reduceLT, Nat.reduceLeDiff, Nat.reduceEqDiff, Nat.reduceAdd, Nat.reduceSub, Nat.reduceMul, Nat.reduceBEq, Int.reduceLT, Int.reduceLE, Int.reduceEq, Int.reduceNeg, Int.reduceAdd, Int.reduceSub, Int.reduceMul, Bool.false_eq_true, Bool.not_true, Bool.not_false, decide_eq_true_eq, and_self, true_and, and_true, reduceCtorEq, ne_eq, not_false_eq_true, not_true_eq_false, decide_true, decide_false, or_false, false_or, gd, gf, g6]
  have lb : LIT (BOTH p q) := by
    intro x hx
    simp only [BOTH, List.mem_map, List.mem_range] at hx
    obtain ⟨i, hi, rfl⟩ := hx
    refine ⟨?_, hb i hi⟩
    have := pd_bd bd i
    have := pd_bd bq i
    unfold both; omega
  have hc : CHK f r d k (BOTH p q) = 0 := CHK_same h0 (by rw [BOTH_len]; omega) lb
  have bc := BD_of hc
  have db : DAYS k (BOTH p q) = DAYS k p := by unfold DAYS; rw [BOTH_len]
  have hlb : (OWE (UNT d k (BOTH p q))).length = DAYS k p := by rw [OWE_len, UNT_len, db]
  have cb := c_sums (OWE (UNT d k (BOTH p q))) none (by omega)
  rw [if_pos (OWE_OKL bc), SUMS_OWE, decide_eq_true (OWE_OKL bc)] at cb
  have co : ap Try.prog pol 15 [well f r d k none, .vs 1 (sofar (both p q) p.length) none] = some (.ret (.tup [ints (OWE (UNT d k (BOTH p q))) none, I 0])) := by
    have := c_owed f r d k (BOTH p q) none none hk (by rw [BOTH_len]; omega)
    rw [if_pos hc] at this
    rw [sofar_ints]; exact this
  simp (config := { maxSteps := 1000000 }) only [RUN, PATHS, BASE, FA, POL, start_tm, Heap.empty, reduceIte, Nat.reduceLT, Nat.reduceLeDiff, Nat.reduceEqDiff, Nat.reduceAdd, Nat.reduceSub, Nat.reduceMul, Nat.reduceBEq, Int.reduceLT, Int.reduceLE, Int.reduceEq, Int.reduceNeg, Int.reduceAdd, Int.reduceSub, Int.reduceMul, Bool.false_eq_true, Bool.not_true, Bool.not_false, decide_eq_true_eq, and_self, true_and, and_true, reduceCtorEq, ne_eq, not_false_eq_true, not_true_eq_false, decide_true, decide_false, or_false, false_or, INTS, NUM, SOFAR, gd, gf, g11, gr, g7, g9, g3, gb, co, hl, hlq, hlb, cs, cq, cb, isNils_gsl, sofar_strip0]
  clear hL
  have ul : (UNT d k (BOTH p q)).length = DAYS k p := by rw [UNT_len, db]
  have ulp : (UNT d k p).length = DAYS k p := by rw [UNT_len]
  have ulq : (UNT d k q).length = DAYS k p := by rw [UNT_len, dq]
  simp (config := { maxSteps := 1000000 }) only [RUN, PATHS, BASE, FA, POL, start_tm, Heap.empty, reduceIte, Nat.reduceLT, Nat.reduceLeDiff, Nat.reduceEqDiff, Nat.reduceAdd, Nat.reduceSub, Nat.reduceMul, Nat.reduceBEq, Int.reduceLT, Int.reduceLE, Int.reduceEq, Int.reduceNeg, Int.reduceAdd, Int.reduceSub, Int.reduceMul, Bool.false_eq_true, Bool.not_true, Bool.not_false, decide_eq_true_eq, and_self, true_and, and_true, reduceCtorEq, ne_eq, not_false_eq_true, not_true_eq_false, decide_true, decide_false, or_false, false_or, ul]
  generalize hL : W _ (.loop _) _ = L
  obtain ⟨ex, s, rfl, rfl, gd, gf⟩ := loop_at hL (α := Nat) (fun j => DAYS k p - j)
    (fun s0 j s => j ≤ DAYS k p ∧ s.tmps 152 = I j ∧ s.tmps 151 = I (DAYS k p) ∧ s.tmps 150 = ints (UNT d k (BOTH p q)) none ∧ s.tmps 16 = ints (UNT d k p) none ∧ s.tmps 18 = ints (UNT d k q) none ∧ s.defers = [] ∧ s.fid = 0)
    (fun s0 ex s => ex = .exit 2 ∧ s.defers = [] ∧ s.fid = 0) 0
    (by simp (config := { maxSteps := 1000000 }) only [RUN, PATHS, BASE, FA, POL, start_tm, Heap.empty, reduceIte, Nat.reduceLT, Nat.reduceLeDiff, Nat.reduceEqDiff, Nat.reduceAdd, Nat.reduceSub, Nat.reduceMul, Nat.reduceBEq, Int.reduceLT, Int.reduceLE, Int.reduceEq, Int.reduceNeg, Int.reduceAdd, Int.reduceSub, Int.reduceMul, Bool.false_eq_true, Bool.not_true, Bool.not_false, decide_eq_true_eq, and_self, true_and, and_true, reduceCtorEq, ne_eq, not_false_eq_true, not_true_eq_false, decide_true, decide_false, or_false, false_or]; simp) (by
      rintro j s r0 hW ⟨hj, hi, hn, h150, h16, h18, hd, hf⟩
      by_cases hp' : j < DAYS k p
      · have e1 := ints_UNT_get (d := d) (k := k) (p := p) (j := j) hp'
        have e2 := ints_UNT_get (d := d) (k := k) (p := q) (j := j) (by omega)
        have e3 := ints_UNT_get (d := d) (k := k) (p := BOTH p q) (j := j) (by omega)
        have b1 := UNT_bd bd j
        have b2 := UNT_bd bq j
        have b3 := UNT_bd bc j
        have uu := UNT_both (d := d) (k := k) (p := p) (q := q) d1 hq hp'
        generalize (UNT d k p).getD j 0 = a at *
        generalize (UNT d k q).getD j 0 = b at *
        generalize (UNT d k (BOTH p q)).getD j 0 = c at *
        rcases uu with rfl | rfl
        · simp (config := { maxSteps := 1000000 }) only [RUN, PATHS, BASE, FA, POL, start_tm, Heap.empty, reduceIte, Nat.reduceLT, Nat.reduceLeDiff, Nat.reduceEqDiff, Nat.reduceAdd, Nat.reduceSub, Nat.reduceMul, Nat.reduceBEq, Int.reduceLT, Int.reduceLE, Int.reduceEq, Int.reduceNeg, Int.reduceAdd, Int.reduceSub, Int.reduceMul, Bool.false_eq_true, Bool.not_true, Bool.not_false, decide_eq_true_eq, and_self, true_and, and_true, reduceCtorEq, ne_eq, not_false_eq_true, not_true_eq_false, decide_true, decide_false, or_false, false_or, INTS, NUM, hi, hn, h150, h16, h18, hd, hf, e1, e2, e3, ul, ulp, ulq, Int.toNat_natCast, (show (j : Int) < DAYS k p by omega), (show (0 : Int) ≤ j by omega), (i64_in (x := (j : Int) + 1) (by unfold I64; omega)), (i64_in (x := a + b) (by unfold I64; omega))] at hW
          subst hW
          refine rd_next (j + 1) ?_ (show DAYS k p - (j + 1) < DAYS k p - j by omega)
          simp (config := { maxSteps := 1000000 }) only [RUN, PATHS, BASE, FA, POL, start_tm, Heap.empty, reduceIte, Nat.reduceLT, Nat.reduceLeDiff, Nat.reduceEqDiff, Nat.reduceAdd, Nat.reduceSub, Nat.reduceMul, Nat.reduceBEq, Int.reduceLT, Int.reduceLE, Int.reduceEq, Int.reduceNeg, Int.reduceAdd, Int.reduceSub, Int.reduceMul, Bool.false_eq_true, Bool.not_true, Bool.not_false, decide_eq_true_eq, and_self, true_and, and_true, reduceCtorEq, ne_eq, not_false_eq_true, not_true_eq_false, decide_true, decide_false, or_false, false_or, hn, h150, h16, h18]
          exact ⟨by omega, by congr 1⟩
        · simp (config := { maxSteps := 1000000 }) only [RUN, PATHS, BASE, FA, POL, start_tm, Heap.empty, reduceIte, Nat.reduceLT, Nat.reduceLeDiff, Nat.reduceEqDiff, Nat.reduceAdd, Nat.reduceSub, Nat.reduceMul, Nat.reduceBEq, Int.reduceLT, Int.reduceLE, Int.reduceEq, Int.reduceNeg, Int.reduceAdd, Int.reduceSub, Int.reduceMul, Bool.false_eq_true, Bool.not_true, Bool.not_false, decide_eq_true_eq, and_self, true_and, and_true, reduceCtorEq, ne_eq, not_false_eq_true, not_true_eq_false, decide_true, decide_false, or_false, false_or, INTS, NUM, hi, hn, h150, h16, h18, hd, hf, e1, e2, e3, ul, ulp, ulq, Int.toNat_natCast, (show (j : Int) < DAYS k p by omega), (show (0 : Int) ≤ j by omega), (i64_in (x := (j : Int) + 1) (by unfold I64; omega)), (i64_in (x := a + b) (by unfold I64; omega)), (i64_in (x := a + b + 1) (by unfold I64; omega)), (show ¬ a + b + 1 = a + b by omega)] at hW
          subst hW
          refine rd_next (j + 1) ?_ (show DAYS k p - (j + 1) < DAYS k p - j by omega)
          simp (config := { maxSteps := 1000000 }) only [RUN, PATHS, BASE, FA, POL, start_tm, Heap.empty, reduceIte, Nat.reduceLT, Nat.reduceLeDiff, Nat.reduceEqDiff, Nat.reduceAdd, Nat.reduceSub, Nat.reduceMul, Nat.reduceBEq, Int.reduceLT, Int.reduceLE, Int.reduceEq, Int.reduceNeg, Int.reduceAdd, Int.reduceSub, Int.reduceMul, Bool.false_eq_true, Bool.not_true, Bool.not_false, decide_eq_true_eq, and_self, true_and, and_true, reduceCtorEq, ne_eq, not_false_eq_true, not_true_eq_false, decide_true, decide_false, or_false, false_or, hn, h150, h16, h18]
          exact ⟨by omega, by congr 1⟩
      · simp (config := { maxSteps := 1000000 }) only [RUN, PATHS, BASE, FA, POL, start_tm, Heap.empty, reduceIte, Nat.reduceLT, Nat.reduceLeDiff, Nat.reduceEqDiff, Nat.reduceAdd, Nat.reduceSub, Nat.reduceMul, Nat.reduceBEq, Int.reduceLT, Int.reduceLE, Int.reduceEq, Int.reduceNeg, Int.reduceAdd, Int.reduceSub, Int.reduceMul, Bool.false_eq_true, Bool.not_true, Bool.not_false, decide_eq_true_eq, and_self, true_and, and_true, reduceCtorEq, ne_eq, not_false_eq_true, not_true_eq_false, decide_true, decide_false, or_false, false_or, hi, hn, h150, h16, h18, hd, hf, (show ¬ (j : Int) < DAYS k p by omega)] at hW
        subst hW
        refine rd_exit ⟨rfl, ?_⟩
        simp (config := { maxSteps := 1000000 }) only [RUN, PATHS, BASE, FA, POL, start_tm, Heap.empty, reduceIte, Nat.reduceLT, Nat.reduceLeDiff, Nat.reduceEqDiff, Nat.reduceAdd, Nat.reduceSub, Nat.reduceMul, Nat.reduceBEq, Int.reduceLT, Int.reduceLE, Int.reduceEq, Int.reduceNeg, Int.reduceAdd, Int.reduceSub, Int.reduceMul, Bool.false_eq_true, Bool.not_true, Bool.not_false, decide_eq_true_eq, and_self, true_and, and_true, reduceCtorEq, ne_eq, not_false_eq_true, not_true_eq_false, decide_true, decide_false, or_false, false_or])
  simp (config := { maxSteps := 1000000 }) only [RUN, PATHS, BASE, FA, POL, start_tm, Heap.empty, reduceIte, Nat.reduceLT, Nat.reduceLeDiff, Nat.reduceEqDiff, Nat.reduceAdd, Nat.reduceSub, Nat.reduceMul, Nat.reduceBEq, Int.reduceLT, Int.reduceLE, Int.reduceEq, Int.reduceNeg, Int.reduceAdd, Int.reduceSub, Int.reduceMul, Bool.false_eq_true, Bool.not_true, Bool.not_false, decide_eq_true_eq, and_self, true_and, and_true, reduceCtorEq, ne_eq, not_false_eq_true, not_true_eq_false, decide_true, decide_false, or_false, false_or, gd, gf]
end Go.Proofs.Ytbgdeimkemjklaa
