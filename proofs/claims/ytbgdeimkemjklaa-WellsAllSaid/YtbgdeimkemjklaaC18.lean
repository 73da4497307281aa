/-
  What is pumped later does not change what is owed before: what the law computes.
-/
import Derived.Test.YtbgdeimkemjklaaC17
set_option linter.unusedSimpArgs false
set_option linter.unusedVariables false
set_option linter.unusedSectionVars false
namespace Go.Proofs.Ytbgdeimkemjklaa
open Go GoV
set_option maxRecDepth 100000

theorem PSUM_late (p k : List Int) (t : Nat) : ∀ n, PSUM p k t (t + 1 + n) = PSUM p k t (t + 1)
  | 0 => rfl
  | n + 1 => by
    rw [← Nat.add_assoc, PSUM, PSUM_late p k t n, show t + 1 - (t + 1 + n) = 0 by omega, KS_zero]; omega
theorem PSUM_past (p k : List Int) (t : Nat) : ∀ n, PSUM p k t (p.length + n) = PSUM p k t p.length
  | 0 => rfl
  | n + 1 => by
    rw [← Nat.add_assoc, PSUM, PSUM_past p k t n, List.getD_eq_getElem?_getD, List.getElem?_eq_none (by omega)]; simp
theorem PSUM_full (p k : List Int) (t : Nat) : PSUM p k t p.length = PSUM p k t (t + 1) := by
  rw [← PSUM_past p k t (t + 1), ← PSUM_late p k t p.length, Nat.add_comm]
theorem PSUM_congr {p q k : List Int} (t : Nat) : ∀ n, (∀ i < n, p.getD i 0 = q.getD i 0) → PSUM p k t n = PSUM q k t n
  | 0, _ => rfl
  | n + 1, h => by simp only [PSUM]; rw [PSUM_congr t n fun i hi => h i (by omega), h n (by omega)]
theorem PSUM_take {p k : List Int} {m t : Nat} (h : t < m) : PSUM (p.take m) k t (p.take m).length = PSUM p k t p.length := by
  rw [PSUM_full, PSUM_full]
  apply PSUM_congr
  intro i hi
  simp only [List.getD_eq_getElem?_getD, List.getElem?_take]
  rw [if_pos (by omega)]
theorem PSUM_cons (p k : List Int) (t : Nat) : ∀ n, PSUM (0 :: p) k (t + 1) (n + 1) = PSUM p k t n
  | 0 => by simp [PSUM]
  | n + 1 => by
    rw [PSUM, PSUM_cons p k t n, PSUM]
    simp [show t + 1 + 1 - (n + 1) = t + 1 - n by omega]
theorem OWEf_congr {u v : List Int} {i : Nat} (h : ∀ j ≤ i, u.getD j 0 = v.getD j 0) : OWEf u i = OWEf v i := by
  unfold OWEf PRV
  rw [h i (Nat.le_refl _)]
  split
  · rfl
  · rw [h (i - 1) (by omega)]
theorem FITS (l : List Int) : ((l.map I).all fun e => e.fits 1) = true := by simp [PV.fits, PV.cells]
theorem OWE_getE {u : List Int} {i : Nat} (hi : i < u.length) : (OWE u)[i]? = some (OWEf u i) := by simp [OWE, hi]
theorem OWE_cons (u : List Int) : OWE (0 :: u) = 0 :: OWE u := by
  unfold OWE
  rw [List.length_cons, List.range_succ_eq_map, List.map_cons, List.map_map]
  congr 1
  apply List.map_congr_left
  intro i _
  simp only [Function.comp, OWEf, PRV_succ]
  cases i <;> simp [PRV]
theorem UNT_cons {d : Int} {k p : List Int} (hp : p.length ≠ 0) (hk : 0 < k.length) : UNT d k (0 :: p) = 0 :: UNT d k p := by
  unfold UNT
  have e : DAYS k (0 :: p) = DAYS k p + 1 := by unfold DAYS; rw [if_neg hp]; simp; omega
  rw [e, List.range_succ_eq_map, List.map_cons, List.map_map]
  congr 1
  · rw [PSUM_full, PSUM, PSUM]; simp
  · apply List.map_congr_left
    intro i _
    simp only [Function.comp, List.length_cons, PSUM_cons]
theorem CHK_same {f r d : Int} {k p q : List Int} (h : CHK f r d k p = 0) (hq : q.length ≤ 400) (hl : LIT q) : CHK f r d k q = 0 := by
  unfold CHK at *
  split at h
  · omega
  · split at h
    · next h1 h2 => rw [if_neg (by omega), if_pos ⟨h2.1, hl⟩]
    · omega
theorem w_causal (f r d : Int) (k p : List Int) (n : Int) (hn : 0 ≤ n ∧ n ≤ 255) : ap Try.prog pol 6 [well f r d k none, ints p none, .int .u8 n] = some (.ret (.bool true)) := by
  rw [ap_eq _ Try.func6 rfl Try.ntmps6 Try.results6 (by kernel_rfl) rfl (by exact Nat.le_of_ble_eq_true rfl)]
  by_cases hf : FEW k p
  rotate_left
  · simp (config := { maxSteps := 1000000 }) only [RUN, PATHS, BASE, FA, POL, start_tm, Heap.empty, reduceIte, Nat.reduceLT, Nat.reduceLeDiff, Nat.reduceEqDiff, Nat.reduceAdd, Nat.reduceSub, Nat.reduceMul, Nat.reduceBEq, Int.reduceLT, Int.reduceLE, Int.reduceEq, Int.reduceNeg, Int.reduceAdd, Int.reduceSub, Int.reduceMul, Bool.false_eq_true, Bool.not_true, Bool.not_false, decide_eq_true_eq, and_self, true_and, and_true, reduceCtorEq, ne_eq, not_false_eq_true, not_true_eq_false, decide_true, decide_false, or_false, false_or, INTS, c_sane, c_few, hf]
  have hk : k.length ≤ 1000000 := by unfold FEW at hf; omega
  have hp : p.length ≤ 1000000 := by unfold FEW at hf; omega
  by_cases h0 : CHK f r d k p = 0
  rotate_left
  · simp (config := { maxSteps := 1000000 }) only [RUN, PATHS, BASE, FA, POL, start_tm, Heap.empty, reduceIte, Nat.reduceLT, Nat.reduceLeDiff, Nat.reduceEqDiff, Nat.reduceAdd, Nat.reduceSub, Nat.reduceMul, Nat.reduceBEq, Int.reduceLT, Int.reduceLE, Int.reduceEq, Int.reduceNeg, Int.reduceAdd, Int.reduceSub, Int.reduceMul, Bool.false_eq_true, Bool.not_true, Bool.not_false, decide_eq_true_eq, and_self, true_and, and_true, reduceCtorEq, ne_eq, not_false_eq_true, not_true_eq_false, decide_true, decide_false, or_false, false_or, INTS, NUM, c_sane, c_few, hf, h0, c_owed f r d k p none none hk hp]
  have bd := BD_of h0
  have bd' := bd
  obtain ⟨d1, d2, k0, k1, kn, ks, p1, pl⟩ := bd'
  have hD := DAYS_le bd
  obtain ⟨m, em, hm⟩ : ∃ m : Nat, n.tmod ((p.length : Int) + 1) = (m : Int) ∧ m ≤ p.length := by
    refine ⟨(n.tmod ((p.length : Int) + 1)).toNat, ?_, ?_⟩
    · rw [Int.toNat_of_nonneg (Int.tmod_nonneg _ hn.1)]
    · have := Int.tmod_lt_of_pos n (b := (p.length : Int) + 1) (by omega)
      have := Int.tmod_nonneg ((p.length : Int) + 1) hn.1
      omega
  have hl : (OWE (UNT d k p)).length = DAYS k p := by rw [OWE_len, UNT_len]
  have tl : (p.take m).length = m := by rw [List.length_take]; omega
  have ht : CHK f r d k (p.take m) = 0 := CHK_same h0 (by omega) fun x hx => pl x (List.mem_of_mem_take hx)
  have bt := BD_of ht
  have hl2 : (OWE (UNT d k (p.take m))).length = DAYS k (p.take m) := by rw [OWE_len, UNT_len]
  have dm : m ≤ DAYS k (p.take m) := by unfold DAYS; rw [tl]; split <;> omega
  have dp : m ≤ DAYS k p := by unfold DAYS; split <;> omega
  have mt : List.take m (List.map I p) = (p.take m).map I := List.map_take.symm
  simp (config := { maxSteps := 1000000 }) only [RUN, PATHS, BASE, FA, POL, start_tm, Heap.empty, reduceIte, Nat.reduceLT, Nat.reduceLeDiff, Nat.reduceEqDiff, Nat.reduceAdd, Nat.reduceSub, Nat.reduceMul, Nat.reduceBEq, Int.reduceLT, Int.reduceLE, Int.reduceEq, Int.reduceNeg, Int.reduceAdd, Int.reduceSub, Int.reduceMul, Bool.false_eq_true, Bool.not_true, Bool.not_false, decide_eq_true_eq, and_self, true_and, and_true, reduceCtorEq, ne_eq, not_false_eq_true, not_true_eq_false, decide_true, decide_false, or_false, false_or, INTS, NUM, c_sane, c_few, hf, h0, c_owed f r d k p none none hk hp, c_owed f r d k (p.take m) none none hk (by omega), em, hl, hl2, tl, ht, mt, (i64_in (x := n) (by unfold I64; omega)), (i64_in (x := (p.length : Int) + 1) (by unfold I64; omega)), (i64_in (x := (m : Int)) (by unfold I64; omega)), (show ¬ (p.length : Int) + 1 = 0 by omega), false_implies, true_and, Int.le_refl, (show (0 : Int) ≤ m by omega), (show (m : Int) ≤ p.length by omega), Int.toNat_natCast, List.drop_zero, (show ¬ (DAYS k p : Int) < m by omega), (show ¬ (DAYS k (p.take m) : Int) < m by omega)]
  generalize hL : W _ (.loop _) _ = L
  obtain ⟨ex, s, rfl, rfl, gH, g7, g1, g3, gb, gd, gf⟩ := loop_at hL (α := Nat) (fun j => m - j)
    (fun s0 j s => j ≤ m ∧ s.tmps 61 = I j ∧ s.tmps 60 = I m ∧ s.tmps 10 = ints (OWE (UNT d k (p.take m))) none ∧ s.tmps 7 = ints (OWE (UNT d k p)) none ∧ s.tmps 1 = ints p none ∧ s.tmps 3 = .bptr 0 3 0 0 ∧ s.boxes 3 = some (0, [I f, I r, I d, ints k none]) ∧ s.defers = [] ∧ s.fid = 0 ∧ s.H = s0.H)
    (fun s0 ex s => ex = .exit 0 ∧ s.H = s0.H ∧ s.tmps 7 = ints (OWE (UNT d k p)) none ∧ s.tmps 1 = ints p none ∧ s.tmps 3 = .bptr 0 3 0 0 ∧ s.boxes 3 = some (0, [I f, I r, I d, ints k none]) ∧ s.defers = [] ∧ s.fid = 0) 0
    (by simp (config := { maxSteps := 1000000 }) only [RUN, PATHS, BASE, FA, POL, start_tm, Heap.empty, reduceIte, Nat.reduceLT, Nat.reduceLeDiff, Nat.reduceEqDiff, Nat.reduceAdd, Nat.reduceSub, Nat.reduceMul, Nat.reduceBEq, Int.reduceLT, Int.reduceLE, Int.reduceEq, Int.reduceNeg, Int.reduceAdd, Int.reduceSub, Int.reduceMul, Bool.false_eq_true, Bool.not_true, Bool.not_false, decide_eq_true_eq, and_self, true_and, and_true, reduceCtorEq, ne_eq, not_false_eq_true, not_true_eq_false, decide_true, decide_false, or_false, false_or]; simp) (by
      rintro j s r0 hW ⟨hj, hi, hn, h10, h7, h1, h3, hb, hd, hf, hH⟩
      by_cases hp' : j < m
      · have ea : ((OWE (UNT d k (p.take m))).map I)[j]? = some (I (OWEf (UNT d k p) j)) := by
          rw [List.getElem?_map, OWE_getE (by rw [UNT_len]; omega)]
          rw [OWEf_congr (v := UNT d k p) fun i hi => by rw [UNT_get (by omega), UNT_get (by omega), PSUM_take (by omega)]]; rfl
        have eb : ((OWE (UNT d k p)).map I)[j]? = some (I (OWEf (UNT d k p) j)) := by
          rw [List.getElem?_map, OWE_getE (by rw [UNT_len]; omega)]; rfl
        simp (config := { maxSteps := 1000000 }) only [RUN, PATHS, BASE, FA, POL, start_tm, Heap.empty, reduceIte, Nat.reduceLT, Nat.reduceLeDiff, Nat.reduceEqDiff, Nat.reduceAdd, Nat.reduceSub, Nat.reduceMul, Nat.reduceBEq, Int.reduceLT, Int.reduceLE, Int.reduceEq, Int.reduceNeg, Int.reduceAdd, Int.reduceSub, Int.reduceMul, Bool.false_eq_true, Bool.not_true, Bool.not_false, decide_eq_true_eq, and_self, true_and, and_true, reduceCtorEq, ne_eq, not_false_eq_true, not_true_eq_false, decide_true, decide_false, or_false, false_or, INTS, NUM, hi, hn, h10, h7, h1, h3, hb, hd, hf, hH, ea, eb, hl, hl2, Int.toNat_natCast, (show (j : Int) < m by omega), (show (0 : Int) ≤ j by omega), (show (j : Int) < DAYS k p by omega), (show (j : Int) < DAYS k (p.take m) by omega), (i64_in (x := (j : Int) + 1) (by unfold I64; omega))] at hW
        subst hW
        refine rd_next (j + 1) ?_ (show m - (j + 1) < m - j by omega)
        simp (config := { maxSteps := 1000000 }) only [RUN, PATHS, BASE, FA, POL, start_tm, Heap.empty, reduceIte, Nat.reduceLT, Nat.reduceLeDiff, Nat.reduceEqDiff, Nat.reduceAdd, Nat.reduceSub, Nat.reduceMul, Nat.reduceBEq, Int.reduceLT, Int.reduceLE, Int.reduceEq, Int.reduceNeg, Int.reduceAdd, Int.reduceSub, Int.reduceMul, Bool.false_eq_true, Bool.not_true, Bool.not_false, decide_eq_true_eq, and_self, true_and, and_true, reduceCtorEq, ne_eq, not_false_eq_true, not_true_eq_false, decide_true, decide_false, or_false, false_or, hn, h10, h7, h1, h3, hb, hH]
        exact ⟨by omega, by congr 1⟩
      · simp (config := { maxSteps := 1000000 }) only [RUN, PATHS, BASE, FA, POL, start_tm, Heap.empty, reduceIte, Nat.reduceLT, Nat.reduceLeDiff, Nat.reduceEqDiff, Nat.reduceAdd, Nat.reduceSub, Nat.reduceMul, Nat.reduceBEq, Int.reduceLT, Int.reduceLE, Int.reduceEq, Int.reduceNeg, Int.reduceAdd, Int.reduceSub, Int.reduceMul, Bool.false_eq_true, Bool.not_true, Bool.not_false, decide_eq_true_eq, and_self, true_and, and_true, reduceCtorEq, ne_eq, not_false_eq_true, not_true_eq_false, decide_true, decide_false, or_false, false_or, hi, hn, h10, h7, h1, h3, hb, hd, hf, hH, (show ¬ (j : Int) < m by omega)] at hW
        subst hW
        refine rd_exit ⟨rfl, ?_⟩
        simp (config := { maxSteps := 1000000 }) only [RUN, PATHS, BASE, FA, POL, start_tm, Heap.empty, reduceIte, Nat.reduceLT, Nat.reduceLeDiff, Nat.reduceEqDiff, Nat.reduceAdd, Nat.reduceSub, Nat.reduceMul, Nat.reduceBEq, Int.reduceLT, Int.reduceLE, Int.reduceEq, Int.reduceNeg, Int.reduceAdd, Int.reduceSub, Int.reduceMul, Bool.false_eq_true, Bool.not_true, Bool.not_false, decide_eq_true_eq, and_self, true_and, and_true, reduceCtorEq, ne_eq, not_false_eq_true, not_true_eq_false, decide_true, decide_false, or_false, false_or, h7, h1, h3, hb, hH])
  by_cases hp0 : p.length = 0
  · simp (config := { maxSteps := 1000000 }) only [RUN, PATHS, BASE, FA, POL, start_tm, Heap.empty, reduceIte, Nat.reduceLT, Nat.reduceLeDiff, Nat.reduceEqDiff, Nat.reduceAdd, Nat.reduceSub, Nat.reduceMul, Nat.reduceBEq, Int.reduceLT, Int.reduceLE, Int.reduceEq, Int.reduceNeg, Int.reduceAdd, Int.reduceSub, Int.reduceMul, Bool.false_eq_true, Bool.not_true, Bool.not_false, decide_eq_true_eq, and_self, true_and, and_true, reduceCtorEq, ne_eq, not_false_eq_true, not_true_eq_false, decide_true, decide_false, or_false, false_or, INTS, g7, g1, g3, gb, gd, gf, hp0, (show ((0 : Nat) : Int) = 0 from rfl)]
  have hc : CHK f r d k (0 :: p) = 0 := CHK_same h0 (by unfold FEW at hf; simp; omega) fun x hx => by
    rcases List.mem_cons.1 hx with rfl | hx
    · decide
    · exact pl x hx
  have pe : (p.map I).isEmpty = false := by
    rw [List.isEmpty_map]; exact List.isEmpty_eq_false_iff.2 (fun h => hp0 (by rw [h]; rfl))
  have tk : List.take p.length (List.map I p) = List.map I p := List.take_of_length_le (by simp)
  have co : ap Try.prog pol 15 [well f r d k none, .vs 1 (I 0 :: p.map I) none] = some (.ret (.tup [.vs 1 (I 0 :: (OWE (UNT d k p)).map I) none, I 0])) := by
    have := c_owed f r d k (0 :: p) none none hk (by simp; unfold FEW at hf; omega)
    rw [if_pos hc, UNT_cons hp0 k0, OWE_cons] at this
    exact this
  simp (config := { maxSteps := 1000000 }) only [RUN, PATHS, BASE, FA, POL, start_tm, Heap.empty, reduceIte, Nat.reduceLT, Nat.reduceLeDiff, Nat.reduceEqDiff, Nat.reduceAdd, Nat.reduceSub, Nat.reduceMul, Nat.reduceBEq, Int.reduceLT, Int.reduceLE, Int.reduceEq, Int.reduceNeg, Int.reduceAdd, Int.reduceSub, Int.reduceMul, Bool.false_eq_true, Bool.not_true, Bool.not_false, decide_eq_true_eq, and_self, true_and, and_true, reduceCtorEq, ne_eq, not_false_eq_true, not_true_eq_false, decide_true, decide_false, or_false, false_or, INTS, NUM, FITS, g7, g1, g3, gb, gd, gf, gH, hp0, pe, (show ¬ (p.length : Int) = 0 by omega), (show 1 + p.length ≤ 67108864 by omega), (show 0 + (p.length + 1) ≤ p.length + 1 by omega), tk, co]
  rw [if_pos (by kernel_rfl)]
  have hD' := DAYS_le bd
  have sm : ap Try.prog pol 19 [.vs 1 (I 0 :: (OWE (UNT d k p)).map I) none, .vs 1 (I 0 :: (OWE (UNT d k p)).map I) none] = some (.ret (.bool true)) := by
    have := c_same (0 :: OWE (UNT d k p)) (0 :: OWE (UNT d k p)) none none (by simp; omega) (by simp; omega)
    rw [decide_eq_true rfl] at this
    exact this
  have oe : ((OWE (UNT d k p)).map I).isEmpty = false := by
    rw [List.isEmpty_map]; exact List.isEmpty_eq_false_iff.2 (fun h => by
      have : (OWE (UNT d k p)).length = 0 := by rw [h]; rfl
      rw [hl] at this; unfold DAYS at this; rw [if_neg hp0] at this; omega)
  have ok : List.take (DAYS k p) (List.map I (OWE (UNT d k p))) = List.map I (OWE (UNT d k p)) := List.take_of_length_le (by simp; omega)
  simp (config := { maxSteps := 1000000 }) only [RUN, PATHS, BASE, FA, POL, start_tm, Heap.empty, reduceIte, Nat.reduceLT, Nat.reduceLeDiff, Nat.reduceEqDiff, Nat.reduceAdd, Nat.reduceSub, Nat.reduceMul, Nat.reduceBEq, Int.reduceLT, Int.reduceLE, Int.reduceEq, Int.reduceNeg, Int.reduceAdd, Int.reduceSub, Int.reduceMul, Bool.false_eq_true, Bool.not_true, Bool.not_false, decide_eq_true_eq, and_self, true_and, and_true, reduceCtorEq, ne_eq, not_false_eq_true, not_true_eq_false, decide_true, decide_false, or_false, false_or, INTS, NUM, FITS, hl, oe, sm, ok, (show 1 + DAYS k p ≤ 67108864 by omega), (show 0 + (DAYS k p + 1) ≤ DAYS k p + 1 by omega)]
theorem sh_u8 {g : Nat} {cs : List PV} (h : Sh Try.prog (g + 1) 5 cs) : ∃ n, cs = [.int .u8 n] ∧ 0 ≤ n ∧ n ≤ 255 := by
  simp only [Sh, Try.underlying5] at h
  obtain ⟨n, rfl, w⟩ := h
  have := wf_bd w
  simp [IntKind.min, IntKind.max, IntKind.bits, IntKind.signed] at this
  exact ⟨n, rfl, this.1, by omega⟩
theorem sh_u16 {g : Nat} {cs : List PV} (h : Sh Try.prog (g + 1) 48 cs) : ∃ n, cs = [.int .u16 n] ∧ 0 ≤ n ∧ n ≤ 65535 := by
  simp only [Sh, Try.underlying48] at h
  obtain ⟨n, rfl, w⟩ := h
  have := wf_bd w
  simp [IntKind.min, IntKind.max, IntKind.bits, IntKind.signed] at this
  exact ⟨n, rfl, this.1, by omega⟩
theorem agg_u8 : aggB Try.prog 5 = false := by kernel_rfl
theorem agg_u16 : aggB Try.prog 48 = false := by kernel_rfl
end Go.Proofs.Ytbgdeimkemjklaa
