/-
  What is owed until a day: the program.
-/
import Derived.Test.YtbgdeimkemjklaaC5
set_option linter.unusedSimpArgs false
set_option linter.unusedVariables false
set_option linter.unusedSectionVars false
namespace Go.Proofs.Ytbgdeimkemjklaa
open Go GoV
set_option maxRecDepth 100000

theorem sofar_get (f : Nat → Int) {n m : Nat} (h : m < n) : (sofar f n)[m]? = some (I (f m)) := by simp [sofar, h]
theorem sofar_set (f g : Nat → Int) (n m : Nat) (x : Int) (h : ∀ s < n, g s = if s = m then x else f s) : (sofar f n).set m (I x) = sofar g n := by
  apply List.ext_getElem
  · simp [sofar]
  · intro s h1 h2
    have hs : s < n := by simpa [sofar] using h2
    rw [List.getElem_set]
    simp only [sofar, List.getElem_map, List.getElem_range, h s hs]
    by_cases e : m = s
    · rw [if_pos e, if_pos e.symm]
    · rw [if_neg e, if_neg (fun w => e w.symm)]
theorem sofar_congr {f g : Nat → Int} {n : Nat} (h : ∀ s < n, f s = g s) : sofar f n = sofar g n := by
  simp only [sofar]
  apply List.map_congr_left
  intro s hs
  rw [h s (by simpa using hs)]
theorem replicate_sofar (n : Nat) (p k : List Int) : List.replicate n (PV.int .i64 0) = sofar (fun s => CV p k s 0) n := by
  simp [sofar, CV, List.map_const']
/-- What is missing on day s after the first i days of pumping and j numbers of the next. -/
def VAL (p k : List Int) (i j s : Nat) : Int := CV p k s i + if i ≤ s ∧ s < i + j then p.getD i 0 * k.getD (s - i) 0 else 0
theorem VAL_zero (p k : List Int) (i s : Nat) : VAL p k i 0 s = CV p k s i := by
  unfold VAL; rw [if_neg (by omega)]; omega
theorem VAL_all (p k : List Int) (i j s : Nat) (hj : k.length ≤ j) : VAL p k i j s = CV p k s (i + 1) := by
  simp only [VAL, CV]
  by_cases h : i ≤ s
  · rw [if_pos h]
    by_cases h2 : s < i + j
    · rw [if_pos ⟨h, h2⟩]
    · rw [if_neg (by omega), List.getD_eq_getElem?_getD (l := k), List.getElem?_eq_none (by omega)]; simp
  · rw [if_neg h, if_neg (by omega)]
theorem VAL_succ (p k : List Int) (i j s : Nat) : VAL p k i (j + 1) s = if s = i + j then VAL p k i j (i + j) + p.getD i 0 * k.getD j 0 else VAL p k i j s := by
  simp only [VAL]
  by_cases h : s = i + j
  · subst h
    rw [if_pos rfl, if_pos (by omega), if_neg (by omega), show i + j - i = j by omega]; omega
  · rw [if_neg h]
    by_cases h2 : i ≤ s ∧ s < i + j
    · rw [if_pos h2, if_pos (by omega)]
    · rw [if_neg h2, if_neg (by omega)]
section
variable {d : Int} {k p : List Int} (h : BD d k p)
include h
theorem pk_bd (i j : Nat) : 0 ≤ p.getD i 0 * k.getD j 0 ∧ p.getD i 0 * k.getD j 0 ≤ 1125899906842624 := by
  obtain ⟨a, b⟩ := pd_bd h i
  obtain ⟨c, e⟩ := kd_bd h j
  have := h.d2
  exact ⟨Int.mul_nonneg a c, Int.mul_le_mul b (show k.getD j 0 ≤ 1048576 by omega) c (by omega)⟩
theorem CV_bd (s : Nat) : ∀ n, 0 ≤ CV p k s n ∧ CV p k s n ≤ n * 1125899906842624
  | 0 => by simp [CV]
  | n + 1 => by
    have := CV_bd s n
    have := pk_bd h n (s - n)
    simp only [CV]
    split <;> omega
theorem VAL_bd (i j s : Nat) : 0 ≤ VAL p k i j s ∧ VAL p k i j s ≤ (i + 1) * 1125899906842624 := by
  have := CV_bd h s i
  have := pk_bd h i (s - i)
  simp only [VAL]
  split <;> omega
end
/-- The list with the first j days summed. -/
def CUM (d : Int) (k p : List Int) (j s : Nat) : Int := if s < j then PSUM p k s p.length / d else CV p k s p.length
def LAST (k p : List Int) (i : Nat) : Int := if i = 0 then 0 else PSUM p k (i - 1) p.length
theorem LAST_succ (k p : List Int) (i : Nat) : LAST k p (i + 1) = LAST k p i + CV p k i p.length := by
  unfold LAST
  rw [if_neg (by omega)]
  cases i with
  | zero => simp [PSUM_zero]
  | succ i => rw [if_neg (by omega)]; simp only [Nat.add_sub_cancel]; exact PSUM_succ p k i _
theorem c_missing (f r d : Int) (k p : List Int) (c c' : Option Nat) (H : Heap) : callF G Try.prog pol 43 [well f r d k c, ints p c'] H =
    some (.ret (.fn 54 [.ptr (H.next + 1 + 1) 1 0 0, .ptr (H.next + 1) 1 0 0]), ((⟨H.rows, H.next + 1⟩ : Heap).add (.gro 4 [well f r d k c] 0)).add (.gro 1 [ints p c'] 0)) := by
  rw [callF_eq _ _ Try.func43 rfl Try.ntmps43 Try.results43 (by kernel_rfl) rfl (by exact Nat.le_of_ble_eq_true rfl)]
  simp (config := { maxSteps := 1000000 }) only [RUN, PATHS, BASE, FA, POL, start_tm, Heap.empty, reduceIte, Nat.reduceLT, Nat.reduceLeDiff, Nat.reduceEqDiff, Nat.reduceAdd, Nat.reduceSub, Nat.reduceMul, Nat.reduceBEq, Int.reduceLT, Int.reduceLE, Int.reduceEq, Int.reduceNeg, Int.reduceAdd, Int.reduceSub, Int.reduceMul, Bool.false_eq_true, Bool.not_true, Bool.not_false, decide_eq_true_eq, and_self, true_and, and_true, reduceCtorEq, ne_eq, not_false_eq_true, not_true_eq_false, decide_true, decide_false, or_false, false_or]
theorem c_until1 (x l : Int) (f r d : Int) (k : List Int) (c : Option Nat) (m : Nat) (H : Heap) (hm : H.rows m = some (.gro 1 [I l] 0)) (h1 : H.rows 1 = some (.gro 4 [well f r d k c] 0)) (hne : 9 < m) (h0 : 0 ≤ l + x) (hb : I64 (l + x)) (hd : 1 ≤ d) :
    callF G Try.prog pol 44 [I x, .ptr m 1 0 0, .ptr 1 1 0 0] H = some (.ret (I ((l + x) / d)), (⟨H.rows, H.next + 1⟩ : Heap).set m (.gro 1 [I (l + x)] 0)) := by
  rw [callF_eq _ _ Try.func44 rfl Try.ntmps44 Try.results44 (by kernel_rfl) rfl (by exact Nat.le_of_ble_eq_true rfl)]
  simp (config := { maxSteps := 1000000 }) only [RUN, PATHS, BASE, FA, POL, start_tm, Heap.empty, reduceIte, Nat.reduceLT, Nat.reduceLeDiff, Nat.reduceEqDiff, Nat.reduceAdd, Nat.reduceSub, Nat.reduceMul, Nat.reduceBEq, Int.reduceLT, Int.reduceLE, Int.reduceEq, Int.reduceNeg, Int.reduceAdd, Int.reduceSub, Int.reduceMul, Bool.false_eq_true, Bool.not_true, Bool.not_false, decide_eq_true_eq, and_self, true_and, and_true, reduceCtorEq, ne_eq, not_false_eq_true, not_true_eq_false, decide_true, decide_false, or_false, false_or, hm, h1, i64_in hb, (show ¬ 1 = m by omega), (show ¬ d = 0 by omega)]
  have b3 := Int.ediv_le_self d h0
  have b2 := Int.ediv_nonneg h0 (show 0 ≤ d by omega)
  unfold I64 at hb
  rw [Int.tdiv_eq_ediv_of_nonneg h0, i64_in (by unfold I64; omega)]
theorem c_until (f r d : Int) (k p : List Int) (c c' : Option Nat) (h : BD d k p) : ap Try.prog pol 30 [well f r d k c, ints p c'] = some (.ret (if p.length = 0 then .nils else ints (UNT d k p) none)) := by
  have h' := h
  obtain ⟨d1, d2, k0, k1, kn, ks, p1, pl⟩ := h'
  rw [ap_eq _ Try.func30 rfl Try.ntmps30 Try.results30 (by kernel_rfl) rfl (by exact Nat.le_of_ble_eq_true rfl)]
  by_cases hp0 : p.length = 0
  · simp (config := { maxSteps := 1000000 }) only [RUN, PATHS, BASE, FA, POL, start_tm, Heap.empty, reduceIte, Nat.reduceLT, Nat.reduceLeDiff, Nat.reduceEqDiff, Nat.reduceAdd, Nat.reduceSub, Nat.reduceMul, Nat.reduceBEq, Int.reduceLT, Int.reduceLE, Int.reduceEq, Int.reduceNeg, Int.reduceAdd, Int.reduceSub, Int.reduceMul, Bool.false_eq_true, Bool.not_true, Bool.not_false, decide_eq_true_eq, and_self, true_and, and_true, reduceCtorEq, ne_eq, not_false_eq_true, not_true_eq_false, decide_true, decide_false, or_false, false_or, INTS, hp0, (show ((0 : Nat) : Int) = 0 by rfl)]
  · have hn : (p.length : Int) + k.length - 1 = (DAYS k p : Int) := by unfold DAYS; rw [if_neg hp0]; omega
    have hn' : DAYS k p = p.length + k.length - 1 := by unfold DAYS; rw [if_neg hp0]
    have hn0 : (0 : Int) ≤ DAYS k p := by omega
    have hn1 : (DAYS k p : Int) ≤ maxN := by simp only [maxN]; omega
    have hb : 8 ≤ maxB := by simp only [maxB]; omega
    simp (config := { maxSteps := 1000000 }) only [RUN, PATHS, BASE, FA, POL, start_tm, Heap.empty, reduceIte, Nat.reduceLT, Nat.reduceLeDiff, Nat.reduceEqDiff, Nat.reduceAdd, Nat.reduceSub, Nat.reduceMul, Nat.reduceBEq, Int.reduceLT, Int.reduceLE, Int.reduceEq, Int.reduceNeg, Int.reduceAdd, Int.reduceSub, Int.reduceMul, Bool.false_eq_true, Bool.not_true, Bool.not_false, decide_eq_true_eq, and_self, true_and, and_true, reduceCtorEq, ne_eq, not_false_eq_true, not_true_eq_false, decide_true, decide_false, or_false, false_or, INTS, c_missing, hp0, (show ¬ (p.length : Int) = 0 by omega), (i64_in (x := (p.length : Int) + k.length) (by unfold I64; omega)), (i64_in (x := (DAYS k p : Int)) (by unfold I64; omega)), hn, hn0, hn1, hb, Int.toNat_natCast]
    generalize en : DAYS k p = n at *
    rw [callF_eq _ _ Try.func54 rfl Try.ntmps54 Try.results54 (by kernel_rfl) rfl (by exact Nat.le_of_ble_eq_true rfl)]
    simp (config := { maxSteps := 1000000 }) only [RUN, PATHS, BASE, FA, POL, start_tm, Heap.empty, reduceIte, Nat.reduceLT, Nat.reduceLeDiff, Nat.reduceEqDiff, Nat.reduceAdd, Nat.reduceSub, Nat.reduceMul, Nat.reduceBEq, Int.reduceLT, Int.reduceLE, Int.reduceEq, Int.reduceNeg, Int.reduceAdd, Int.reduceSub, Int.reduceMul, Bool.false_eq_true, Bool.not_true, Bool.not_false, decide_eq_true_eq, and_self, true_and, and_true, reduceCtorEq, ne_eq, not_false_eq_true, not_true_eq_false, decide_true, decide_false, or_false, false_or, INTS]
    generalize hL : W _ (.loop _) _ = L
    obtain ⟨ex, s, rfl, rfl, g1, g2, g3, g5, g6, g7, g8, hd, gx⟩ := loop_at hL (α := Nat) (fun j => p.length - j)
      (fun s0 i s => i ≤ p.length ∧ s.tmps 10 = I i ∧ s.tmps 9 = I p.length ∧ s.tmps 8 = ints p c' ∧ s.tmps 0 = .yield 8 ∧ s.tmps 2 = .ptr 5 1 0 0 ∧ s.H.rows 1 = some (.gro 4 [well f r d k c] 0) ∧ s.H.rows 2 = some (.gro 1 [.gsl 1 3 n 0 n] 0) ∧ 
        s.H.rows 3 = some (.gro 1 (sofar (fun s => CV p k s i) n) 0) ∧ s.H.rows 5 = some (.gro 4 [well f r d k c] 0) ∧ s.H.rows 6 = some (.gro 1 [ints p c'] 0) ∧ s.H.rows 7 = some .dfr ∧ s.H.rows 8 = s0.H.rows 8 ∧ s.defers = [] ∧ s.fid = 9 ∧ 9 < s.H.next)
      (fun s0 ex s => ex = .exit 0 ∧ s.H.rows 1 = some (.gro 4 [well f r d k c] 0) ∧ s.H.rows 2 = some (.gro 1 [.gsl 1 3 n 0 n] 0) ∧ s.H.rows 3 = some (.gro 1 (sofar (fun s => CV p k s p.length) n) 0) ∧ s.H.rows 5 = some (.gro 4 [well f r d k c] 0) ∧ s.H.rows 6 = some (.gro 1 [ints p c'] 0) ∧ s.H.rows 7 = some .dfr ∧ s.H.rows 8 = s0.H.rows 8 ∧ s.defers = [] ∧ 9 < s.H.next) 0
      (by simp (config := { maxSteps := 1000000 }) only [RUN, PATHS, BASE, FA, POL, start_tm, Heap.empty, reduceIte, Nat.reduceLT, Nat.reduceLeDiff, Nat.reduceEqDiff, Nat.reduceAdd, Nat.reduceSub, Nat.reduceMul, Nat.reduceBEq, Int.reduceLT, Int.reduceLE, Int.reduceEq, Int.reduceNeg, Int.reduceAdd, Int.reduceSub, Int.reduceMul, Bool.false_eq_true, Bool.not_true, Bool.not_false, decide_eq_true_eq, and_self, true_and, and_true, reduceCtorEq, ne_eq, not_false_eq_true, not_true_eq_false, decide_true, decide_false, or_false, false_or, INTS, replicate_sofar n p k]; simp) (by
        rintro i s r0 hW ⟨hi, h10, h9, h8, h0, h2, r1, r2, r3, r5, r6, r7, r8, hd, hf, hx⟩
        simp (config := { maxSteps := 1000000 }) only [RUN, PATHS, BASE, FA, POL, start_tm, Heap.empty, reduceIte, Nat.reduceLT, Nat.reduceLeDiff, Nat.reduceEqDiff, Nat.reduceAdd, Nat.reduceSub, Nat.reduceMul, Nat.reduceBEq, Int.reduceLT, Int.reduceLE, Int.reduceEq, Int.reduceNeg, Int.reduceAdd, Int.reduceSub, Int.reduceMul, Bool.false_eq_true, Bool.not_true, Bool.not_false, decide_eq_true_eq, and_self, true_and, and_true, reduceCtorEq, ne_eq, not_false_eq_true, not_true_eq_false, decide_true, decide_false, or_false, false_or] at r8
        by_cases hp' : i < p.length
        · have e0 : p[i]? = some p[i] := List.getElem?_eq_getElem hp'
          have e1 := ints_get e0
          have eg : p.getD i 0 = p[i] := by rw [List.getD_eq_getElem?_getD, e0]; rfl
          simp (config := { maxSteps := 1000000 }) only [RUN, PATHS, BASE, FA, POL, start_tm, Heap.empty, reduceIte, Nat.reduceLT, Nat.reduceLeDiff, Nat.reduceEqDiff, Nat.reduceAdd, Nat.reduceSub, Nat.reduceMul, Nat.reduceBEq, Int.reduceLT, Int.reduceLE, Int.reduceEq, Int.reduceNeg, Int.reduceAdd, Int.reduceSub, Int.reduceMul, Bool.false_eq_true, Bool.not_true, Bool.not_false, decide_eq_true_eq, and_self, true_and, and_true, reduceCtorEq, ne_eq, not_false_eq_true, not_true_eq_false, decide_true, decide_false, or_false, false_or, INTS, h10, h9, h8, h0, h2, r1, r2, r3, r5, r6, r7, r8, hd, hf, e1, Int.toNat_natCast, (show (i : Int) < p.length by omega), (show (0 : Int) ≤ i by omega)] at hW
          generalize hL2 : W _ (.loop _) _ = L2 at hW
          obtain ⟨ex, s', rfl, rfl, q10, q9, q8, q0, q2, w1, w2, w3, w5, w6, w7, w8, wd, wf, wx⟩ := loop_at hL2 (α := Nat) (fun j => k.length - j)
            (fun s0 j s => j ≤ k.length ∧ s.tmps 18 = I j ∧ s.tmps 17 = I k.length ∧ s.tmps 16 = ints k c ∧ s.tmps 4 = I i ∧ s.tmps 5 = I p[i] ∧ s.tmps 10 = I i ∧ s.tmps 9 = I p.length ∧ s.tmps 8 = ints p c' ∧ s.tmps 0 = .yield 8 ∧ s.tmps 2 = .ptr 5 1 0 0 ∧ s.H.rows 1 = some (.gro 4 [well f r d k c] 0) ∧ s.H.rows 2 = some (.gro 1 [.gsl 1 3 n 0 n] 0) ∧ 
              s.H.rows 3 = some (.gro 1 (sofar (VAL p k i j) n) 0) ∧ s.H.rows 5 = some (.gro 4 [well f r d k c] 0) ∧ s.H.rows 6 = some (.gro 1 [ints p c'] 0) ∧ s.H.rows 7 = some .dfr ∧ s.H.rows 8 = s0.H.rows 8 ∧ s.defers = [] ∧ s.fid = 9 ∧ 9 < s.H.next)
            (fun s0 ex s => ex = .exit 2 ∧ s.tmps 10 = I i ∧ s.tmps 9 = I p.length ∧ s.tmps 8 = ints p c' ∧ s.tmps 0 = .yield 8 ∧ s.tmps 2 = .ptr 5 1 0 0 ∧ s.H.rows 1 = some (.gro 4 [well f r d k c] 0) ∧ s.H.rows 2 = some (.gro 1 [.gsl 1 3 n 0 n] 0) ∧ 
              s.H.rows 3 = some (.gro 1 (sofar (fun s => CV p k s (i + 1)) n) 0) ∧ s.H.rows 5 = some (.gro 4 [well f r d k c] 0) ∧ s.H.rows 6 = some (.gro 1 [ints p c'] 0) ∧ s.H.rows 7 = some .dfr ∧ s.H.rows 8 = s0.H.rows 8 ∧ s.defers = [] ∧ s.fid = 9 ∧ 9 < s.H.next) 0
            (by simp (config := { maxSteps := 1000000 }) only [RUN, PATHS, BASE, FA, POL, start_tm, Heap.empty, reduceIte, Nat.reduceLT, Nat.reduceLeDiff, Nat.reduceEqDiff, Nat.reduceAdd, Nat.reduceSub, Nat.reduceMul, Nat.reduceBEq, Int.reduceLT, Int.reduceLE, Int.reduceEq, Int.reduceNeg, Int.reduceAdd, Int.reduceSub, Int.reduceMul, Bool.false_eq_true, Bool.not_true, Bool.not_false, decide_eq_true_eq, and_self, true_and, and_true, reduceCtorEq, ne_eq, not_false_eq_true, not_true_eq_false, decide_true, decide_false, or_false, false_or, h10, h9, h8, h0, h2, r1, r2, r3, r5, r6, r7, r8, hd, hf, hx]
                simp [sofar_congr (f := VAL p k i 0) (g := fun s => CV p k s i) (fun s _ => VAL_zero p k i s), hx]) (by
              rintro j u r1' hW2 ⟨hj, q18, q17, q16, q4, q5, q10, q9, q8, q0, q2, w1, w2, w3, w5, w6, w7, w8, wd, wf, wx⟩
              simp (config := { maxSteps := 1000000 }) only [RUN, PATHS, BASE, FA, POL, start_tm, Heap.empty, reduceIte, Nat.reduceLT, Nat.reduceLeDiff, Nat.reduceEqDiff, Nat.reduceAdd, Nat.reduceSub, Nat.reduceMul, Nat.reduceBEq, Int.reduceLT, Int.reduceLE, Int.reduceEq, Int.reduceNeg, Int.reduceAdd, Int.reduceSub, Int.reduceMul, Bool.false_eq_true, Bool.not_true, Bool.not_false, decide_eq_true_eq, and_self, true_and, and_true, reduceCtorEq, ne_eq, not_false_eq_true, not_true_eq_false, decide_true, decide_false, or_false, false_or, r8] at w8
              by_cases hk : j < k.length
              · have f0 : k[j]? = some k[j] := List.getElem?_eq_getElem hk
                have f1 := ints_get f0
                have fg : k.getD j 0 = k[j] := by rw [List.getD_eq_getElem?_getD, f0]; rfl
                have b1 := VAL_bd h i j (i + j)
                have b2 := pk_bd h i j
                rw [eg, fg] at b2
                have hij : i + j < n := by omega
                have v1 := sofar_get (VAL p k i j) hij
                have v2 := sofar_set (VAL p k i j) (VAL p k i (j + 1)) n (i + j) (VAL p k i j (i + j) + p[i] * k[j]) (fun s _ => by rw [VAL_succ, eg, fg])
                have ij : (i : Int) + j = ((i + j : Nat) : Int) := by omega
                simp (config := { maxSteps := 1000000 }) only [RUN, PATHS, BASE, FA, POL, start_tm, Heap.empty, reduceIte, Nat.reduceLT, Nat.reduceLeDiff, Nat.reduceEqDiff, Nat.reduceAdd, Nat.reduceSub, Nat.reduceMul, Nat.reduceBEq, Int.reduceLT, Int.reduceLE, Int.reduceEq, Int.reduceNeg, Int.reduceAdd, Int.reduceSub, Int.reduceMul, Bool.false_eq_true, Bool.not_true, Bool.not_false, decide_eq_true_eq, and_self, true_and, and_true, reduceCtorEq, ne_eq, not_false_eq_true, not_true_eq_false, decide_true, decide_false, or_false, false_or, INTS, Try.func30, q18, q17, q16, q4, q5, q10, q9, q8, q0, q2, w1, w2, w3, w5, w6, w7, w8, wd, wf, SOFAR, f1, v1, v2, ij, hij, (show (0 : Int) ≤ ((i + j : Nat) : Int) by omega), (show ((i + j : Nat) : Int) < n by omega), Int.toNat_natCast, (show (j : Int) < k.length by omega), (show (0 : Int) ≤ j by omega), (i64_in (x := ((i + j : Nat) : Int)) (by unfold I64; omega)), (i64_in (x := p[i] * k[j]) (by unfold I64; omega)), (i64_in (x := VAL p k i j (i + j) + p[i] * k[j]) (by unfold I64; omega)), (i64_in (x := (j : Int) + 1) (by unfold I64; omega))] at hW2
                subst hW2
                refine rd_next (j + 1) ?_ (show k.length - (j + 1) < k.length - j by omega)
                simp (config := { maxSteps := 1000000 }) only [RUN, PATHS, BASE, FA, POL, start_tm, Heap.empty, reduceIte, Nat.reduceLT, Nat.reduceLeDiff, Nat.reduceEqDiff, Nat.reduceAdd, Nat.reduceSub, Nat.reduceMul, Nat.reduceBEq, Int.reduceLT, Int.reduceLE, Int.reduceEq, Int.reduceNeg, Int.reduceAdd, Int.reduceSub, Int.reduceMul, Bool.false_eq_true, Bool.not_true, Bool.not_false, decide_eq_true_eq, and_self, true_and, and_true, reduceCtorEq, ne_eq, not_false_eq_true, not_true_eq_false, decide_true, decide_false, or_false, false_or, h8, r8]
                exact ⟨by omega, by congr 1, q17, q16, q4, q5, q10, q9, q8, q0, q2, w1, w2, w5, w6, w7, by omega⟩
              · simp (config := { maxSteps := 1000000 }) only [RUN, PATHS, BASE, FA, POL, start_tm, Heap.empty, reduceIte, Nat.reduceLT, Nat.reduceLeDiff, Nat.reduceEqDiff, Nat.reduceAdd, Nat.reduceSub, Nat.reduceMul, Nat.reduceBEq, Int.reduceLT, Int.reduceLE, Int.reduceEq, Int.reduceNeg, Int.reduceAdd, Int.reduceSub, Int.reduceMul, Bool.false_eq_true, Bool.not_true, Bool.not_false, decide_eq_true_eq, and_self, true_and, and_true, reduceCtorEq, ne_eq, not_false_eq_true, not_true_eq_false, decide_true, decide_false, or_false, false_or, INTS, q18, q17, q16, q4, q5, q10, q9, q8, q0, q2, w1, w2, w3, w5, w6, w7, w8, wd, wf, (show ¬ (j : Int) < k.length by omega)] at hW2
                subst hW2
                refine rd_exit ⟨rfl, ?_⟩
                simp (config := { maxSteps := 1000000 }) only [RUN, PATHS, BASE, FA, POL, start_tm, Heap.empty, reduceIte, Nat.reduceLT, Nat.reduceLeDiff, Nat.reduceEqDiff, Nat.reduceAdd, Nat.reduceSub, Nat.reduceMul, Nat.reduceBEq, Int.reduceLT, Int.reduceLE, Int.reduceEq, Int.reduceNeg, Int.reduceAdd, Int.reduceSub, Int.reduceMul, Bool.false_eq_true, Bool.not_true, Bool.not_false, decide_eq_true_eq, and_self, true_and, and_true, reduceCtorEq, ne_eq, not_false_eq_true, not_true_eq_false, decide_true, decide_false, or_false, false_or, q10, q9, q8, q0, q2, w1, w2, w3, w5, w6, w7, w8, r8, wx]
                rw [sofar_congr (f := VAL p k i j) (g := fun s => CV p k s (i + 1)) (fun s _ => VAL_all p k i j s (by omega))])
          simp (config := { maxSteps := 1000000 }) only [RUN, PATHS, BASE, FA, POL, start_tm, Heap.empty, reduceIte, Nat.reduceLT, Nat.reduceLeDiff, Nat.reduceEqDiff, Nat.reduceAdd, Nat.reduceSub, Nat.reduceMul, Nat.reduceBEq, Int.reduceLT, Int.reduceLE, Int.reduceEq, Int.reduceNeg, Int.reduceAdd, Int.reduceSub, Int.reduceMul, Bool.false_eq_true, Bool.not_true, Bool.not_false, decide_eq_true_eq, and_self, true_and, and_true, reduceCtorEq, ne_eq, not_false_eq_true, not_true_eq_false, decide_true, decide_false, or_false, false_or, r8] at w8
          simp (config := { maxSteps := 1000000 }) only [RUN, PATHS, BASE, FA, POL, start_tm, Heap.empty, reduceIte, Nat.reduceLT, Nat.reduceLeDiff, Nat.reduceEqDiff, Nat.reduceAdd, Nat.reduceSub, Nat.reduceMul, Nat.reduceBEq, Int.reduceLT, Int.reduceLE, Int.reduceEq, Int.reduceNeg, Int.reduceAdd, Int.reduceSub, Int.reduceMul, Bool.false_eq_true, Bool.not_true, Bool.not_false, decide_eq_true_eq, and_self, true_and, and_true, reduceCtorEq, ne_eq, not_false_eq_true, not_true_eq_false, decide_true, decide_false, or_false, false_or, q10, q9, q8, q0, q2, w1, w2, w3, w5, w6, w7, w8, wd, wf, (i64_in (x := (i : Int) + 1) (by unfold I64; omega))] at hW
          subst hW
          refine rd_next (i + 1) ?_ (show p.length - (i + 1) < p.length - i by omega)
          simp (config := { maxSteps := 1000000 }) only [RUN, PATHS, BASE, FA, POL, start_tm, Heap.empty, reduceIte, Nat.reduceLT, Nat.reduceLeDiff, Nat.reduceEqDiff, Nat.reduceAdd, Nat.reduceSub, Nat.reduceMul, Nat.reduceBEq, Int.reduceLT, Int.reduceLE, Int.reduceEq, Int.reduceNeg, Int.reduceAdd, Int.reduceSub, Int.reduceMul, Bool.false_eq_true, Bool.not_true, Bool.not_false, decide_eq_true_eq, and_self, true_and, and_true, reduceCtorEq, ne_eq, not_false_eq_true, not_true_eq_false, decide_true, decide_false, or_false, false_or, q9, q8, q0, q2, w1, w2, w3, w5, w6, w7, w8, wx]
          exact ⟨by omega, by congr 1⟩
        · simp (config := { maxSteps := 1000000 }) only [RUN, PATHS, BASE, FA, POL, start_tm, Heap.empty, reduceIte, Nat.reduceLT, Nat.reduceLeDiff, Nat.reduceEqDiff, Nat.reduceAdd, Nat.reduceSub, Nat.reduceMul, Nat.reduceBEq, Int.reduceLT, Int.reduceLE, Int.reduceEq, Int.reduceNeg, Int.reduceAdd, Int.reduceSub, Int.reduceMul, Bool.false_eq_true, Bool.not_true, Bool.not_false, decide_eq_true_eq, and_self, true_and, and_true, reduceCtorEq, ne_eq, not_false_eq_true, not_true_eq_false, decide_true, decide_false, or_false, false_or, INTS, h10, h9, h8, h0, h2, r1, r2, r3, r5, r6, r7, r8, hd, hf, (show ¬ (i : Int) < p.length by omega)] at hW
          subst hW
          have : i = p.length := by omega
          subst this
          refine rd_exit ⟨rfl, ?_⟩
          simp (config := { maxSteps := 1000000 }) only [RUN, PATHS, BASE, FA, POL, start_tm, Heap.empty, reduceIte, Nat.reduceLT, Nat.reduceLeDiff, Nat.reduceEqDiff, Nat.reduceAdd, Nat.reduceSub, Nat.reduceMul, Nat.reduceBEq, Int.reduceLT, Int.reduceLE, Int.reduceEq, Int.reduceNeg, Int.reduceAdd, Int.reduceSub, Int.reduceMul, Bool.false_eq_true, Bool.not_true, Bool.not_false, decide_eq_true_eq, and_self, true_and, and_true, reduceCtorEq, ne_eq, not_false_eq_true, not_true_eq_false, decide_true, decide_false, or_false, false_or, r1, r2, r3, r5, r6, r7, r8]
          exact hx)
    simp (config := { maxSteps := 1000000 }) only [RUN, PATHS, BASE, FA, POL, start_tm, Heap.empty, reduceIte, Nat.reduceLT, Nat.reduceLeDiff, Nat.reduceEqDiff, Nat.reduceAdd, Nat.reduceSub, Nat.reduceMul, Nat.reduceBEq, Int.reduceLT, Int.reduceLE, Int.reduceEq, Int.reduceNeg, Int.reduceAdd, Int.reduceSub, Int.reduceMul, Bool.false_eq_true, Bool.not_true, Bool.not_false, decide_eq_true_eq, and_self, true_and, and_true, reduceCtorEq, ne_eq, not_false_eq_true, not_true_eq_false, decide_true, decide_false, or_false, false_or] at g8
    simp (config := { maxSteps := 1000000 }) only [RUN, PATHS, BASE, FA, POL, start_tm, Heap.empty, reduceIte, Nat.reduceLT, Nat.reduceLeDiff, Nat.reduceEqDiff, Nat.reduceAdd, Nat.reduceSub, Nat.reduceMul, Nat.reduceBEq, Int.reduceLT, Int.reduceLE, Int.reduceEq, Int.reduceNeg, Int.reduceAdd, Int.reduceSub, Int.reduceMul, Bool.false_eq_true, Bool.not_true, Bool.not_false, decide_eq_true_eq, and_self, true_and, and_true, reduceCtorEq, ne_eq, not_false_eq_true, not_true_eq_false, decide_true, decide_false, or_false, false_or, g1, g2, g3, g5, g6, g7, g8, hd, SOFAR, Int.toNat_natCast, (show ¬ 2 = s.H.next by omega), (show ¬ 1 = s.H.next by omega), (show ¬ 3 = s.H.next by omega), (show ¬ 7 = s.H.next by omega)]
    clear hL g5 g6 g8
    obtain ⟨m, hm⟩ : ∃ m, m = s.H.next := ⟨_, rfl⟩
    simp only [← hm] at *
    generalize hL : W _ (.loop _) _ = L
    obtain ⟨ex, s2, rfl, rfl, q2, q3, q7, qd, qf, qb⟩ := loop_at hL (α := Nat) (fun j => n - j)
      (fun s0 i s => i ≤ n ∧ s.tmps 37 = I i ∧ s.tmps 36 = I n ∧ s.tmps 35 = .gsl 1 3 n 0 n ∧ s.tmps 4 = .ptr 2 1 0 0 ∧ s.tmps 8 = .fn 44 [.ptr m 1 0 0, .ptr 1 1 0 0] ∧ s.H.rows 1 = some (.gro 4 [well f r d k c] 0) ∧ s.H.rows 2 = some (.gro 1 [.gsl 1 3 n 0 n] 0) ∧ 
        s.H.rows 3 = some (.gro 1 (sofar (CUM d k p i) n) 0) ∧ s.H.rows m = some (.gro 1 [I (LAST k p i)] 0) ∧ s.H.rows 7 = some .dfr ∧ s.defers = [.coll 7] ∧ s.fid = 0)
      (fun s0 ex s => ex = .exit 2 ∧ s.H.rows 2 = some (.gro 1 [.gsl 1 3 n 0 n] 0) ∧ s.H.rows 3 = some (.gro 1 (sofar (CUM d k p n) n) 0) ∧ s.H.rows 7 = some .dfr ∧ s.defers = [.coll 7] ∧ s.fid = 0 ∧ s.tmps 4 = .ptr 2 1 0 0) 0
      (by simp (config := { maxSteps := 1000000 }) only [RUN, PATHS, BASE, FA, POL, start_tm, Heap.empty, reduceIte, Nat.reduceLT, Nat.reduceLeDiff, Nat.reduceEqDiff, Nat.reduceAdd, Nat.reduceSub, Nat.reduceMul, Nat.reduceBEq, Int.reduceLT, Int.reduceLE, Int.reduceEq, Int.reduceNeg, Int.reduceAdd, Int.reduceSub, Int.reduceMul, Bool.false_eq_true, Bool.not_true, Bool.not_false, decide_eq_true_eq, and_self, true_and, and_true, reduceCtorEq, ne_eq, not_false_eq_true, not_true_eq_false, decide_true, decide_false, or_false, false_or, g1, g2, g3, g7, (show ¬ 2 = m by omega), (show ¬ 1 = m by omega), (show ¬ 3 = m by omega), (show ¬ 7 = m by omega)]
          rw [sofar_congr (f := CUM d k p 0) (g := fun s => CV p k s p.length) (fun s _ => by simp [CUM])]
          simp [LAST]) (by
        rintro i u r0 hW ⟨hi, h37, h36, h35, h4, h8, r1, r2, r3, rm, r7, hd, hf⟩
        by_cases hp' : i < n
        · have v1 := sofar_get (CUM d k p i) hp'
          obtain ⟨uf, ut, ub, ud, uH, urc⟩ := u
          simp only at h37 h36 h35 h4 h8 r1 r2 r3 rm r7 hd hf
          subst hd hf
          rw [← tm_lf ut] at hW
          have lb : 0 ≤ LAST k p i ∧ LAST k p i ≤ p.length * 1125899906842624 := by
            unfold LAST; split
            · omega
            · exact PSUM_bd h _ _
          have cb := CV_bd h i p.length
          have lc : LAST k p i + CV p k i p.length = PSUM p k i p.length := by
            have := LAST_succ k p i
            unfold LAST at this ⊢
            rw [if_neg (by omega)] at this
            simpa using this.symm
          have lb2 := PSUM_bd h i p.length
          have cu : CUM d k p i i = CV p k i p.length := by simp [CUM]
          rw [cu] at v1
          have cc := c_until1 (CV p k i p.length) (LAST k p i) f r d k c m uH rm r1 gx (by omega) (by unfold I64; omega) d1
          rw [lc] at cc
          have v2 := sofar_set (CUM d k p i) (CUM d k p (i + 1)) n i (PSUM p k i p.length / d) (fun s hs => by
            simp only [CUM]
            by_cases e : s = i
            · subst e; rw [if_pos rfl, if_pos (by omega)]
            · rw [if_neg e]
              by_cases hs' : s < i
              · rw [if_pos hs', if_pos (by omega)]
              · rw [if_neg hs', if_neg (by omega)])
          simp (config := { maxSteps := 1000000 }) only [RUN, PATHS, BASE, FA, POL, start_tm, Heap.empty, reduceIte, Nat.reduceLT, Nat.reduceLeDiff, Nat.reduceEqDiff, Nat.reduceAdd, Nat.reduceSub, Nat.reduceMul, Nat.reduceBEq, Int.reduceLT, Int.reduceLE, Int.reduceEq, Int.reduceNeg, Int.reduceAdd, Int.reduceSub, Int.reduceMul, Bool.false_eq_true, Bool.not_true, Bool.not_false, decide_eq_true_eq, and_self, true_and, and_true, reduceCtorEq, ne_eq, not_false_eq_true, not_true_eq_false, decide_true, decide_false, or_false, false_or, BRU, SOFAR, h37, h36, h35, h4, h8, r1, r2, r3, rm, r7, v1, hp', cc, Int.toNat_natCast, (show (i : Int) < n by omega), (show (0 : Int) ≤ i by omega), (show ¬ 2 = m by omega), (show ¬ 1 = m by omega), (show ¬ 3 = m by omega), (show ¬ 7 = m by omega)] at hW
          rw [brute_eq (L := [[0, 1, 2, 3, 4, 5, 6], [0, 1, 3, 2, 4, 5, 6], [0, 2, 1, 3, 4, 5, 6], [0, 2, 3, 1, 4, 5, 6], [0, 2, 3, 4, 1, 5, 6], [0, 3, 1, 2, 4, 5, 6], [0, 3, 2, 1, 4, 5, 6], [0, 3, 2, 4, 1, 5, 6], [1, 0, 2, 3, 4, 5, 6], [1, 0, 3, 2, 4, 5, 6], [1, 2, 0, 3, 4, 5, 6], [1, 2, 3, 0, 4, 5, 6], [1, 2, 3, 4, 0, 5, 6], [1, 3, 0, 2, 4, 5, 6], [1, 3, 2, 0, 4, 5, 6], [1, 3, 2, 4, 0, 5, 6], [2, 0, 1, 3, 4, 5, 6], [2, 0, 3, 1, 4, 5, 6], [2, 0, 3, 4, 1, 5, 6], [2, 1, 0, 3, 4, 5, 6], [2, 1, 3, 0, 4, 5, 6], [2, 1, 3, 4, 0, 5, 6], [2, 3, 0, 1, 4, 5, 6], [2, 3, 0, 4, 1, 5, 6], [2, 3, 1, 0, 4, 5, 6], [2, 3, 1, 4, 0, 5, 6], [2, 3, 4, 0, 1, 5, 6], [2, 3, 4, 1, 0, 5, 6], [3, 0, 1, 2, 4, 5, 6], [3, 0, 2, 1, 4, 5, 6], [3, 0, 2, 4, 1, 5, 6], [3, 1, 0, 2, 4, 5, 6], [3, 1, 2, 0, 4, 5, 6], [3, 1, 2, 4, 0, 5, 6], [3, 2, 0, 1, 4, 5, 6], [3, 2, 0, 4, 1, 5, 6], [3, 2, 1, 0, 4, 5, 6], [3, 2, 1, 4, 0, 5, 6], [3, 2, 4, 0, 1, 5, 6], [3, 2, 4, 1, 0, 5, 6]]) (by kernel_rfl) (by kernel_rfl) ?hB] at hW
          case hB => simp (config := { maxSteps := 1000000 }) only [RUN, PATHS, BASE, FA, POL, start_tm, Heap.empty, reduceIte, Nat.reduceLT, Nat.reduceLeDiff, Nat.reduceEqDiff, Nat.reduceAdd, Nat.reduceSub, Nat.reduceMul, Nat.reduceBEq, Int.reduceLT, Int.reduceLE, Int.reduceEq, Int.reduceNeg, Int.reduceAdd, Int.reduceSub, Int.reduceMul, Bool.false_eq_true, Bool.not_true, Bool.not_false, decide_eq_true_eq, and_self, true_and, and_true, reduceCtorEq, ne_eq, not_false_eq_true, not_true_eq_false, decide_true, decide_false, or_false, false_or, BRU, SOFAR, h37, h36, h35, h4, h8, r1, r2, r3, rm, r7, v1, v2, hp', cc, Nat.zero_le, Int.toNat_natCast, (show (i : Int) < n by omega), (show (0 : Int) ≤ i by omega), (show ¬ 2 = m by omega), (show ¬ 1 = m by omega), (show ¬ 3 = m by omega), (show ¬ m = 3 by omega), (show ¬ 7 = m by omega)]
          simp (config := { maxSteps := 1000000 }) only [RUN, PATHS, BASE, FA, POL, start_tm, Heap.empty, reduceIte, Nat.reduceLT, Nat.reduceLeDiff, Nat.reduceEqDiff, Nat.reduceAdd, Nat.reduceSub, Nat.reduceMul, Nat.reduceBEq, Int.reduceLT, Int.reduceLE, Int.reduceEq, Int.reduceNeg, Int.reduceAdd, Int.reduceSub, Int.reduceMul, Bool.false_eq_true, Bool.not_true, Bool.not_false, decide_eq_true_eq, and_self, true_and, and_true, reduceCtorEq, ne_eq, not_false_eq_true, not_true_eq_false, decide_true, decide_false, or_false, false_or, BRU, SOFAR, h37, h36, h35, h4, h8, r1, r2, r3, rm, r7, v1, v2, hp', cc, Nat.zero_le, Int.toNat_natCast, (show (i : Int) < n by omega), (show (0 : Int) ≤ i by omega), (show ¬ 2 = m by omega), (show ¬ 1 = m by omega), (show ¬ 3 = m by omega), (show ¬ m = 3 by omega), (show ¬ 7 = m by omega), (i64_in (x := (i : Int) + 1) (by unfold I64; omega))] at hW
          subst hW
          refine rd_next (i + 1) ?_ (show n - (i + 1) < n - i by omega)
          simp (config := { maxSteps := 1000000 }) only [RUN, PATHS, BASE, FA, POL, start_tm, Heap.empty, reduceIte, Nat.reduceLT, Nat.reduceLeDiff, Nat.reduceEqDiff, Nat.reduceAdd, Nat.reduceSub, Nat.reduceMul, Nat.reduceBEq, Int.reduceLT, Int.reduceLE, Int.reduceEq, Int.reduceNeg, Int.reduceAdd, Int.reduceSub, Int.reduceMul, Bool.false_eq_true, Bool.not_true, Bool.not_false, decide_eq_true_eq, and_self, true_and, and_true, reduceCtorEq, ne_eq, not_false_eq_true, not_true_eq_false, decide_true, decide_false, or_false, false_or, h36, h35, h4, h8, r1, r2, r7, (show ¬ 2 = m by omega), (show ¬ 1 = m by omega), (show ¬ 3 = m by omega), (show ¬ m = 3 by omega), (show ¬ 7 = m by omega)]
          exact ⟨by omega, by congr 1, by rw [LAST_succ, lc]⟩
        · simp (config := { maxSteps := 1000000 }) only [RUN, PATHS, BASE, FA, POL, start_tm, Heap.empty, reduceIte, Nat.reduceLT, Nat.reduceLeDiff, Nat.reduceEqDiff, Nat.reduceAdd, Nat.reduceSub, Nat.reduceMul, Nat.reduceBEq, Int.reduceLT, Int.reduceLE, Int.reduceEq, Int.reduceNeg, Int.reduceAdd, Int.reduceSub, Int.reduceMul, Bool.false_eq_true, Bool.not_true, Bool.not_false, decide_eq_true_eq, and_self, true_and, and_true, reduceCtorEq, ne_eq, not_false_eq_true, not_true_eq_false, decide_true, decide_false, or_false, false_or, h37, h36, h35, h4, h8, r1, r2, r3, rm, r7, hd, hf, (show ¬ (i : Int) < n by omega)] at hW
          subst hW
          have : i = n := by omega
          subst this
          refine rd_exit ⟨rfl, ?_⟩
          simp (config := { maxSteps := 1000000 }) only [RUN, PATHS, BASE, FA, POL, start_tm, Heap.empty, reduceIte, Nat.reduceLT, Nat.reduceLeDiff, Nat.reduceEqDiff, Nat.reduceAdd, Nat.reduceSub, Nat.reduceMul, Nat.reduceBEq, Int.reduceLT, Int.reduceLE, Int.reduceEq, Int.reduceNeg, Int.reduceAdd, Int.reduceSub, Int.reduceMul, Bool.false_eq_true, Bool.not_true, Bool.not_false, decide_eq_true_eq, and_self, true_and, and_true, reduceCtorEq, ne_eq, not_false_eq_true, not_true_eq_false, decide_true, decide_false, or_false, false_or, r2, r3, r7, h4])
    simp (config := { maxSteps := 1000000 }) only [RUN, PATHS, BASE, FA, POL, start_tm, Heap.empty, reduceIte, Nat.reduceLT, Nat.reduceLeDiff, Nat.reduceEqDiff, Nat.reduceAdd, Nat.reduceSub, Nat.reduceMul, Nat.reduceBEq, Int.reduceLT, Int.reduceLE, Int.reduceEq, Int.reduceNeg, Int.reduceAdd, Int.reduceSub, Int.reduceMul, Bool.false_eq_true, Bool.not_true, Bool.not_false, decide_eq_true_eq, and_self, true_and, and_true, reduceCtorEq, ne_eq, not_false_eq_true, not_true_eq_false, decide_true, decide_false, or_false, false_or, q2, q3, q7, qd, qf, qb, SOFAR]
    rw [sofar_ints]
    simp only [UNT, en]
    have : (List.range n).map (CUM d k p n) = (List.range n).map fun t => PSUM p k t p.length / d := by
      apply List.map_congr_left
      intro t ht
      have ht : t < n := by simpa using ht
      simp only [CUM, if_pos ht]
    rw [this]
end Go.Proofs.Ytbgdeimkemjklaa
