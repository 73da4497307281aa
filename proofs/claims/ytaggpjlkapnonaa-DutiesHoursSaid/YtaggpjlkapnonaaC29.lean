/-
  Fines hour by hour: what the law computes.
-/
import Derived.Test.YtaggpjlkapnonaaC28
set_option linter.unusedSimpArgs false
set_option linter.unusedVariables false
set_option linter.unusedSectionVars false
namespace Go.Proofs.Ytaggpjlkapnonaa
open Go GoV
set_option maxRecDepth 100000

theorem LTK_nodup (D : Dis) (l : List Don) (h kn : Int) (n : Nat) : (LTK D l h kn n).Nodup := by
  unfold LTK
  refine List.Pairwise.map _ (fun a b (hab : a ≠ b) => ?_) (List.nodup_range.filter _)
  intro e
  exact hab (by omega)
theorem nodup_take {L : List Int} (h : L.Nodup) {j : Nat} {x : Int} (e : L[j]? = some x) : x ∉ L.take j := by
  obtain ⟨hj, rfl⟩ := List.getElem?_eq_some_iff.1 e
  intro hm
  obtain ⟨i, hi⟩ := List.mem_iff_getElem?.1 hm
  rw [List.getElem?_take] at hi
  split at hi
  · next hij =>
    obtain ⟨h1, h2⟩ := List.getElem?_eq_some_iff.1 hi
    exact List.pairwise_iff_getElem.1 h i j h1 hj hij h2
  · cases hi
/-- How many duties of a farm are in a list. -/
def NF (D : Dis) (f : Int) (L : List Int) : Int := ((L.filter fun i => match D.ds[i.toNat]? with
  | some x => decide (x.fm = f)
  | none => false).length : Nat)
theorem NF_app (D : Dis) (f : Int) (L : List Int) {k : Nat} {x : Dty} (e : D.ds[k]? = some x) : NF D f (L ++ [(k : Int)]) = NF D f L + if x.fm = f then 1 else 0 := by
  unfold NF
  rw [List.filter_append, List.length_append]
  by_cases hf : x.fm = f
  · simp [e, hf]
  · simp [e, hf]
theorem NF_bd (D : Dis) (f : Int) (L : List Int) : 0 ≤ NF D f L ∧ NF D f L ≤ L.length := by
  unfold NF
  have := List.length_filter_le (fun i : Int => match D.ds[i.toNat]? with
  | some x => decide (x.fm = f)
  | none => false) L
  omega
theorem NF_take {D : Dis} {f : Int} {L : List Int} {j k : Nat} {x : Dty} (e : L[j]? = some (k : Int)) (ex : D.ds[k]? = some x) : NF D f (L.take (j + 1)) = NF D f (L.take j) + if x.fm = f then 1 else 0 := by
  rw [List.take_add_one, e]
  exact NF_app D f _ ex
theorem NF_cnt (D : Dis) (l : List Don) (f h kn : Int) : ∀ n, n ≤ D.ds.length → NF D f (LTK D l h kn n) = CNT D l f h kn n
  | 0, _ => rfl
  | n + 1, hn => by
    have ih := NF_cnt D l f h kn n (by omega)
    have e0 : D.ds[n]? = some D.ds[n] := List.getElem?_eq_getElem (by omega)
    rw [LTK_succ]
    show _ = CNT D l f h kn n + if OVF D l f h kn n then 1 else 0
    by_cases ho : OVP D l h kn n
    · rw [if_pos ho, NF_app D f _ e0, ih]
      by_cases hf : D.ds[n].fm = f
      · rw [if_pos hf, if_pos ⟨ho, _, e0, hf⟩]
      · rw [if_neg hf, if_neg]
        rintro ⟨_, y, ey, hy⟩
        rw [e0] at ey
        cases ey
        exact hf hy
    · rw [if_neg ho, List.append_nil, ih, if_neg (fun g => ho g.1)]
      omega
/-- The duties that were overdue in the hour before. -/
noncomputable def LAST (D : Dis) (l : List Don) (kn : Int) : Nat → List Int
  | 0 => []
  | j + 1 => LTK D l j kn D.ds.length
theorem LAST_done {D : Dis} {l : List Don} {kn : Int} {j : Nat} (hj : (j : Int) ≤ D.hours - 1) {i : Int} (hi : i ∈ LAST D l kn j) (hn : i ∉ LTK D l j kn D.ds.length) : ∃ y ∈ l, y.du = i ∧ y.at_ = j ∧ y.kn ≤ kn := by
  cases j with
  | zero => simp [LAST] at hi
  | succ j =>
    obtain ⟨k, rfl, hk, x, ex, h1, h2⟩ := (LTK_mem D l).1 hi
    have hn' : ¬ ((j + 1 : Nat) : Int) ≤ ENDP D l kn k - 1 := fun g => hn ((LTK_mem D l).2 ⟨k, rfl, hk, x, ex, by omega, g⟩)
    have he : ENDP D l kn k = ((j + 1 : Nat) : Int) := by omega
    unfold ENDP at he
    cases hq : PERF l kn (k : Int) with
    | none =>
      rw [hq] at he
      simp only at he
      omega
    | some a =>
      rw [hq] at he
      simp only at he
      obtain ⟨⟨y, hy, y1, y2, y3⟩, _⟩ := PERF_some hq
      exact ⟨y, hy, y2, by omega, y1⟩
/-- The flag of a duty, after some entries. -/
def QH (l : List Don) (A : List Int) (kn h i : Int) (k : Nat) : Prop := i ∈ A ∨ ∃ y ∈ l.take k, y.du = i ∧ y.at_ = h ∧ y.kn ≤ kn
noncomputable instance (l : List Don) (A : List Int) (kn h i : Int) (k : Nat) : Decidable (QH l A kn h i k) := Classical.propDecidable _
theorem QH_succ {l : List Don} {A : List Int} {kn h i : Int} {k : Nat} {y : Don} (e : l[k]? = some y) : QH l A kn h i (k + 1) ↔ QH l A kn h i k ∨ (y.du = i ∧ y.at_ = h ∧ y.kn ≤ kn) := by
  unfold QH
  rw [List.take_add_one, e]
  simp only [Option.toList_some, List.mem_append, List.mem_singleton]
  constructor
  · rintro (h | ⟨z, hz | rfl, h⟩)
    · exact .inl (.inl h)
    · exact .inl (.inr ⟨z, hz, h⟩)
    · exact .inr h
  · rintro ((h | ⟨z, hz, h⟩) | h)
    · exact .inl h
    · exact .inr ⟨z, .inl hz, h⟩
    · exact .inr ⟨y, .inr rfl, h⟩
theorem LAST_len {D : Dis} {l : List Don} (hd : DC D l = 0) (kn : Int) (j : Nat) : (LAST D l kn j).length ≤ 256 := by
  cases j with
  | zero => simp [LAST]
  | succ j => exact LTK_le hd j kn
section
variable (D : Dis) (ws : List Wel) (hr : ∀ x ∈ D.rs, x.OK) (l : List Don)
include hr
set_option maxHeartbeats 8000000 in
theorem w_hours (f kn rate : Int) : ap Try.prog pol 9 [dv D ws, .vs 4 (l.map don) none, I f, I kn, I rate] = some (.ret (.bool true)) := by
  obtain ⟨b, eb, hb⟩ := c_few D ws l
  have c1 := d_fine D ws hr l f kn rate
  rw [ap_eq _ Try.func9 rfl Try.ntmps9 Try.results9 (by kernel_rfl) rfl (by exact Nat.le_of_ble_eq_true rfl)]
  cases b with
  | false => simp (config := { maxSteps := 1000000 }) only [RUN, PATHS, BASE, FA, POL, start_tm, Heap.empty, reduceIte, Nat.reduceLT, Nat.reduceLeDiff, Nat.reduceEqDiff, Nat.reduceAdd, Nat.reduceSub, Nat.reduceMul, Nat.reduceBEq, Int.reduceLT, Int.reduceLE, Int.reduceEq, Int.reduceNeg, Int.reduceAdd, Int.reduceSub, Int.reduceMul, Bool.false_eq_true, Bool.not_true, Bool.not_false, decide_eq_true_eq, and_self, true_and, and_true, reduceCtorEq, ne_eq, not_false_eq_true, not_true_eq_false, decide_true, decide_false, or_false, false_or, NUM, SRCH, SFRM, SCRP, SRGT, SDTY, SWEL, SDON, SCLM, c_sane, eb]
  | true =>
  have hb := (hb rfl).1
  rcases FINE_cases D l f kn rate with ⟨hd0, hf0, hk0, hr0, hF⟩ | ⟨e, he, hF⟩
  rotate_left
  · rw [hF] at c1
    simp (config := { maxSteps := 1000000 }) only [RUN, PATHS, BASE, FA, POL, start_tm, Heap.empty, reduceIte, Nat.reduceLT, Nat.reduceLeDiff, Nat.reduceEqDiff, Nat.reduceAdd, Nat.reduceSub, Nat.reduceMul, Nat.reduceBEq, Int.reduceLT, Int.reduceLE, Int.reduceEq, Int.reduceNeg, Int.reduceAdd, Int.reduceSub, Int.reduceMul, Bool.false_eq_true, Bool.not_true, Bool.not_false, decide_eq_true_eq, and_self, true_and, and_true, reduceCtorEq, ne_eq, not_false_eq_true, not_true_eq_false, decide_true, decide_false, or_false, false_or, NUM, SRCH, SFRM, SCRP, SRGT, SDTY, SWEL, SDON, SCLM, c_sane, eb, c1, he]
  rw [hF] at c1
  obtain ⟨hX, hl, hok⟩ := DC_0 hd0
  obtain ⟨hL0, hK⟩ := XC_0 hX
  have hh := hK.1
  have lds := hL0.2.2.2.2
  have hdu := hK.2.2.2.2.2.2.2
  have fs := FH_sum hh hok hdu f kn D.ds.length (Nat.le_refl _)
  have fbn := FH_bd hh hok hdu f kn D.ds.length
  have mb : 0 ≤ rate * FH D l f kn D.ds.length ∧ rate * FH D l f kn D.ds.length ≤ 1048576 * 1048576 := by
    refine ⟨Int.mul_nonneg hr0.1 fbn.1, ?_⟩
    exact Int.mul_le_mul hr0.2 (by omega) fbn.1 (by decide)
  obtain ⟨fn, efn⟩ : ∃ fn, rate * FH D l f kn D.ds.length = fn := ⟨_, rfl⟩
  rw [efn] at c1 mb
  simp (config := { maxSteps := 1000000 }) only [RUN, PATHS, BASE, FA, POL, start_tm, Heap.empty, reduceIte, Nat.reduceLT, Nat.reduceLeDiff, Nat.reduceEqDiff, Nat.reduceAdd, Nat.reduceSub, Nat.reduceMul, Nat.reduceBEq, Int.reduceLT, Int.reduceLE, Int.reduceEq, Int.reduceNeg, Int.reduceAdd, Int.reduceSub, Int.reduceMul, Bool.false_eq_true, Bool.not_true, Bool.not_false, decide_eq_true_eq, and_self, true_and, and_true, reduceCtorEq, ne_eq, not_false_eq_true, not_true_eq_false, decide_true, decide_false, or_false, false_or, NUM, SRCH, SFRM, SCRP, SRGT, SDTY, SWEL, SDON, SCLM, c_sane, eb, c1, (show ¬ 4096 < D.hours by omega), (show ¬ rate < 0 by omega), (show ¬ 1048576 < rate by omega)]
  generalize hL : W _ (.loop _) _ = L
  obtain ⟨ex, s, rfl, rfl, g13, g4, g11, hd, hf⟩ := loop_at hL (α := Nat) (fun j => D.hours.toNat - j)
    (fun s0 j s => j ≤ D.hours.toNat ∧ s.tmps 58 = I j ∧ s.tmps 13 = I (SUMH (fun h => CNT D l f h kn D.ds.length) j) ∧ VL (s.tmps 14) (LAST D l kn j) ∧ s.tmps 1 = .vs 4 (l.map don) none ∧ s.tmps 2 = I f ∧ s.tmps 3 = I kn ∧ s.tmps 4 = I rate ∧ s.tmps 5 = .bptr 0 5 0 0 ∧ s.boxes 5 = some (0, dc D ws) ∧ s.tmps 11 = I fn ∧ s.tmps 57 = I D.hours ∧ s.defers = [] ∧ s.fid = 0)
    (fun s0 ex s => ex = .exit 0 ∧ s.tmps 13 = I (SUMH (fun h => CNT D l f h kn D.ds.length) D.hours.toNat) ∧ s.tmps 4 = I rate ∧ s.tmps 11 = I fn ∧ s.defers = [] ∧ s.fid = 0) 0
    (by simp (config := { maxSteps := 1000000 }) only [RUN, PATHS, BASE, FA, POL, start_tm, Heap.empty, reduceIte, Nat.reduceLT, Nat.reduceLeDiff, Nat.reduceEqDiff, Nat.reduceAdd, Nat.reduceSub, Nat.reduceMul, Nat.reduceBEq, Int.reduceLT, Int.reduceLE, Int.reduceEq, Int.reduceNeg, Int.reduceAdd, Int.reduceSub, Int.reduceMul, Bool.false_eq_true, Bool.not_true, Bool.not_false, decide_eq_true_eq, and_self, true_and, and_true, reduceCtorEq, ne_eq, not_false_eq_true, not_true_eq_false, decide_true, decide_false, or_false, false_or, SUMH]; exact ⟨Nat.zero_le _, by simp, VL_nils⟩) (by
      rintro j s r hW ⟨hj, h58, h13, hv, h1, h2, h3, h4, h5, hb5, h11, h57, hd, hf⟩
      by_cases hp : j < D.hours.toNat
      rotate_left
      · simp (config := { maxSteps := 1000000 }) only [RUN, PATHS, BASE, FA, POL, start_tm, Heap.empty, reduceIte, Nat.reduceLT, Nat.reduceLeDiff, Nat.reduceEqDiff, Nat.reduceAdd, Nat.reduceSub, Nat.reduceMul, Nat.reduceBEq, Int.reduceLT, Int.reduceLE, Int.reduceEq, Int.reduceNeg, Int.reduceAdd, Int.reduceSub, Int.reduceMul, Bool.false_eq_true, Bool.not_true, Bool.not_false, decide_eq_true_eq, and_self, true_and, and_true, reduceCtorEq, ne_eq, not_false_eq_true, not_true_eq_false, decide_true, decide_false, or_false, false_or, NUM, h58, h57, hd, hf, (show ¬ (j : Int) < D.hours by omega)] at hW
        subst hW
        have : j = D.hours.toNat := by omega
        subst this
        refine rd_exit ⟨rfl, ?_⟩
        simp (config := { maxSteps := 1000000 }) only [RUN, PATHS, BASE, FA, POL, start_tm, Heap.empty, reduceIte, Nat.reduceLT, Nat.reduceLeDiff, Nat.reduceEqDiff, Nat.reduceAdd, Nat.reduceSub, Nat.reduceMul, Nat.reduceBEq, Int.reduceLT, Int.reduceLE, Int.reduceEq, Int.reduceNeg, Int.reduceAdd, Int.reduceSub, Int.reduceMul, Bool.false_eq_true, Bool.not_true, Bool.not_false, decide_eq_true_eq, and_self, true_and, and_true, reduceCtorEq, ne_eq, not_false_eq_true, not_true_eq_false, decide_true, decide_false, or_false, false_or, h13, h4, h11, hd]
      have hjh : (j : Int) ≤ D.hours - 1 := by omega
      have ca := d_late D ws hr l j kn
      have el : LATE D l j kn = (some (LTK D l j kn D.ds.length), 0) := by unfold LATE; rw [if_pos hd0, if_pos ⟨⟨by omega, hjh⟩, hk0⟩]
      rw [el] at ca
      simp only [ov] at ca
      have lA := LTK_le hd0 j kn
      have lB := LAST_len hd0 kn j
      have hmA := fun i => LTK_mem D l (h := j) (kn := kn) (n := D.ds.length) (i := i)
      have hnd := LTK_nodup D l j kn D.ds.length
      have hlast := fun i => LAST_done (D := D) (l := l) (kn := kn) hjh (i := i)
      have hcnt := NF_cnt D l f j kn D.ds.length (Nat.le_refl _)
      have sb := CNT_bd2 D l f kn D.ds.length j
      have sm : (D.ds.length : Int) * j ≤ 256 * 4096 := Int.mul_le_mul (by omega) (by omega) (by omega) (by omega)
      have ss : SUMH (fun h => CNT D l f h kn D.ds.length) (j + 1) = SUMH (fun h => CNT D l f h kn D.ds.length) j + CNT D l f j kn D.ds.length := rfl
      have hls : LAST D l kn (j + 1) = LTK D l j kn D.ds.length := rfl
      rw [← hcnt] at ss
      generalize hS1 : SUMH (fun h => CNT D l f h kn D.ds.length) (j + 1) = S1 at *
      generalize SUMH (fun h => CNT D l f h kn D.ds.length) j = S at *
      generalize LTK D l j kn D.ds.length = A at *
      generalize LAST D l kn j = B at *
      obtain ⟨N, hN⟩ : ∃ N, s.H.next = N := ⟨_, rfl⟩
      obtain ⟨v, h14⟩ : ∃ v, s.tmps 14 = v := ⟨_, rfl⟩
      rw [h14] at hv
      obtain ⟨va, vb, vc⟩ := hv
      simp (config := { maxSteps := 1000000 }) only [RUN, PATHS, BASE, FA, POL, start_tm, Heap.empty, reduceIte, Nat.reduceLT, Nat.reduceLeDiff, Nat.reduceEqDiff, Nat.reduceAdd, Nat.reduceSub, Nat.reduceMul, Nat.reduceBEq, Int.reduceLT, Int.reduceLE, Int.reduceEq, Int.reduceNeg, Int.reduceAdd, Int.reduceSub, Int.reduceMul, Bool.false_eq_true, Bool.not_true, Bool.not_false, decide_eq_true_eq, and_self, true_and, and_true, reduceCtorEq, ne_eq, not_false_eq_true, not_true_eq_false, decide_true, decide_false, or_false, false_or, NUM, SRCH, SFRM, SCRP, SRGT, SDTY, SWEL, SDON, SCLM, INTS, h58, h13, h14, h1, h2, h3, h4, h5, hb5, h11, h57, hd, hf, ca, hN, List.length_map, (show (j : Int) < D.hours by omega)] at hW
      generalize hL2 : W _ (.loop _) _ = L2' at hW
      obtain ⟨ex, s2, rfl, rfl, k13, k14, hir, k1, k2, k3, k4, k5, kb5, k11, k57, k58, k15, k16, k18, kd, kf⟩ := loop_at hL2 (α := Nat) (fun k => A.length - k)
        (fun s0 k s => k ≤ A.length ∧ s.tmps 74 = I k ∧ s.tmps 73 = I A.length ∧ s.tmps 72 = .vs 1 (A.map I) none ∧ s.tmps 13 = I (S + NF D f (A.take k)) ∧ s.tmps 14 = v ∧ IROW (A.take k) (s.H.rows N) ∧ s.tmps 1 = .vs 4 (l.map don) none ∧ s.tmps 2 = I f ∧ s.tmps 3 = I kn ∧ s.tmps 4 = I rate ∧ s.tmps 5 = .bptr 0 5 0 0 ∧ s.boxes 5 = some (0, dc D ws) ∧ s.tmps 11 = I fn ∧ s.tmps 57 = I D.hours ∧ s.tmps 58 = I j ∧ s.tmps 15 = I j ∧ s.tmps 16 = .vs 1 (A.map I) none ∧ s.tmps 18 = .map N ∧ s.defers = [] ∧ s.fid = 0)
        (fun s0 ex s => ex = .exit 2 ∧ s.tmps 13 = I (S + NF D f A) ∧ s.tmps 14 = v ∧ IROW A (s.H.rows N) ∧ s.tmps 1 = .vs 4 (l.map don) none ∧ s.tmps 2 = I f ∧ s.tmps 3 = I kn ∧ s.tmps 4 = I rate ∧ s.tmps 5 = .bptr 0 5 0 0 ∧ s.boxes 5 = some (0, dc D ws) ∧ s.tmps 11 = I fn ∧ s.tmps 57 = I D.hours ∧ s.tmps 58 = I j ∧ s.tmps 15 = I j ∧ s.tmps 16 = .vs 1 (A.map I) none ∧ s.tmps 18 = .map N ∧ s.defers = [] ∧ s.fid = 0) 0
        (by simp (config := { maxSteps := 1000000 }) only [RUN, PATHS, BASE, FA, POL, start_tm, Heap.empty, reduceIte, Nat.reduceLT, Nat.reduceLeDiff, Nat.reduceEqDiff, Nat.reduceAdd, Nat.reduceSub, Nat.reduceMul, Nat.reduceBEq, Int.reduceLT, Int.reduceLE, Int.reduceEq, Int.reduceNeg, Int.reduceAdd, Int.reduceSub, Int.reduceMul, Bool.false_eq_true, Bool.not_true, Bool.not_false, decide_eq_true_eq, and_self, true_and, and_true, reduceCtorEq, ne_eq, not_false_eq_true, not_true_eq_false, decide_true, decide_false, or_false, false_or, h1, h2, h3, h4, h5, hb5, h11, h57, h58, h13, h14, hN, List.take_zero]; exact ⟨Nat.zero_le _, by simp, by simp [NF], [], rfl, fun k => by simp [aget]⟩) (by
          rintro k s r hW2 ⟨hk, q74, q73, q72, q13, q14, ⟨m, hrow, hset⟩, q1, q2, q3, q4, q5, qb5, q11, q57, q58, q15, q16, q18, qd, qf⟩
          by_cases hpk : k < A.length
          rotate_left
          · simp (config := { maxSteps := 1000000 }) only [RUN, PATHS, BASE, FA, POL, start_tm, Heap.empty, reduceIte, Nat.reduceLT, Nat.reduceLeDiff, Nat.reduceEqDiff, Nat.reduceAdd, Nat.reduceSub, Nat.reduceMul, Nat.reduceBEq, Int.reduceLT, Int.reduceLE, Int.reduceEq, Int.reduceNeg, Int.reduceAdd, Int.reduceSub, Int.reduceMul, Bool.false_eq_true, Bool.not_true, Bool.not_false, decide_eq_true_eq, and_self, true_and, and_true, reduceCtorEq, ne_eq, not_false_eq_true, not_true_eq_false, decide_true, decide_false, or_false, false_or, NUM, q74, q73, qd, qf, (show ¬ (k : Int) < A.length by omega)] at hW2
            subst hW2
            have : k = A.length := by omega
            subst this
            rw [List.take_length] at hset q13
            refine rd_exit ⟨rfl, ?_⟩
            simp (config := { maxSteps := 1000000 }) only [RUN, PATHS, BASE, FA, POL, start_tm, Heap.empty, reduceIte, Nat.reduceLT, Nat.reduceLeDiff, Nat.reduceEqDiff, Nat.reduceAdd, Nat.reduceSub, Nat.reduceMul, Nat.reduceBEq, Int.reduceLT, Int.reduceLE, Int.reduceEq, Int.reduceNeg, Int.reduceAdd, Int.reduceSub, Int.reduceMul, Bool.false_eq_true, Bool.not_true, Bool.not_false, decide_eq_true_eq, and_self, true_and, and_true, reduceCtorEq, ne_eq, not_false_eq_true, not_true_eq_false, decide_true, decide_false, or_false, false_or, q13, q14, hrow, q1, q2, q3, q4, q5, qb5, q11, q57, q58, q15, q16, q18, qd]
            exact ⟨m, rfl, hset⟩
          obtain ⟨kk, hkk, hkn, _⟩ := (hmA A[k]).1 (List.getElem_mem hpk)
          have e0 : A[k]? = some (kk : Int) := by rw [← hkk]; exact List.getElem?_eq_getElem hpk
          have e1 := ints_get e0
          have x0 : D.ds[kk]? = some D.ds[kk] := List.getElem?_eq_getElem hkn
          have x1 := map_get (f := dty) x0
          have hset2 := ISET_set hset e0
          have gm := hset (kk : Int)
          rw [if_neg (nodup_take hnd e0)] at gm
          have nt := NF_take (f := f) e0 x0
          have nb := NF_bd D f (A.take k)
          have lt : (A.take k).length ≤ 256 := by simp; omega
          generalize D.ds[kk] = x at *
          generalize NF D f (A.take k) = F0 at *
          by_cases hx : x.fm = f
          · rw [if_pos hx] at nt
            simp (config := { maxSteps := 1000000 }) only [RUN, PATHS, BASE, FA, POL, start_tm, Heap.empty, reduceIte, Nat.reduceLT, Nat.reduceLeDiff, Nat.reduceEqDiff, Nat.reduceAdd, Nat.reduceSub, Nat.reduceMul, Nat.reduceBEq, Int.reduceLT, Int.reduceLE, Int.reduceEq, Int.reduceNeg, Int.reduceAdd, Int.reduceSub, Int.reduceMul, Bool.false_eq_true, Bool.not_true, Bool.not_false, decide_eq_true_eq, and_self, true_and, and_true, reduceCtorEq, ne_eq, not_false_eq_true, not_true_eq_false, decide_true, decide_false, or_false, false_or, NUM, SRCH, SFRM, SCRP, SRGT, SDTY, SWEL, SDON, SCLM, INTS, MAPI, q74, q73, q72, q13, q1, q2, q3, q4, q5, qb5, q11, q57, q58, q15, q16, q18, hrow, qd, qf, e1, x1, gm, eq_true hx, List.length_map, Int.toNat_natCast, (show (k : Int) < A.length by omega), (show (0 : Int) ≤ k by omega), (show (0 : Int) ≤ kk by omega), (show ¬ (kk : Int) < 0 by omega), (show ¬ (D.ds.length : Int) ≤ kk by omega), (show (kk : Int) < D.ds.length by omega), (i64_in (x := (k : Int) + 1) (by unfold I64; omega)), (i64_in (x := S + F0 + 1) (by unfold I64; omega))] at hW2
            subst hW2
            refine rd_next (k + 1) ?_ (show A.length - (k + 1) < A.length - k by omega)
            simp (config := { maxSteps := 1000000 }) only [RUN, PATHS, BASE, FA, POL, start_tm, Heap.empty, reduceIte, Nat.reduceLT, Nat.reduceLeDiff, Nat.reduceEqDiff, Nat.reduceAdd, Nat.reduceSub, Nat.reduceMul, Nat.reduceBEq, Int.reduceLT, Int.reduceLE, Int.reduceEq, Int.reduceNeg, Int.reduceAdd, Int.reduceSub, Int.reduceMul, Bool.false_eq_true, Bool.not_true, Bool.not_false, decide_eq_true_eq, and_self, true_and, and_true, reduceCtorEq, ne_eq, not_false_eq_true, not_true_eq_false, decide_true, decide_false, or_false, false_or, q73, q72, q14, q1, q2, q3, q4, q5, qb5, q11, q57, q58, q15, q16, q18, qd, nt]
            exact ⟨by omega, by simp, by rw [Int.add_assoc], _, rfl, hset2⟩
          · rw [if_neg hx, Int.add_zero] at nt
            simp (config := { maxSteps := 1000000 }) only [RUN, PATHS, BASE, FA, POL, start_tm, Heap.empty, reduceIte, Nat.reduceLT, Nat.reduceLeDiff, Nat.reduceEqDiff, Nat.reduceAdd, Nat.reduceSub, Nat.reduceMul, Nat.reduceBEq, Int.reduceLT, Int.reduceLE, Int.reduceEq, Int.reduceNeg, Int.reduceAdd, Int.reduceSub, Int.reduceMul, Bool.false_eq_true, Bool.not_true, Bool.not_false, decide_eq_true_eq, and_self, true_and, and_true, reduceCtorEq, ne_eq, not_false_eq_true, not_true_eq_false, decide_true, decide_false, or_false, false_or, NUM, SRCH, SFRM, SCRP, SRGT, SDTY, SWEL, SDON, SCLM, INTS, MAPI, q74, q73, q72, q13, q1, q2, q3, q4, q5, qb5, q11, q57, q58, q15, q16, q18, hrow, qd, qf, e1, x1, gm, hx, List.length_map, Int.toNat_natCast, (show (k : Int) < A.length by omega), (show (0 : Int) ≤ k by omega), (show (0 : Int) ≤ kk by omega), (show ¬ (kk : Int) < 0 by omega), (show ¬ (D.ds.length : Int) ≤ kk by omega), (show (kk : Int) < D.ds.length by omega), (i64_in (x := (k : Int) + 1) (by unfold I64; omega))] at hW2
            subst hW2
            refine rd_next (k + 1) ?_ (show A.length - (k + 1) < A.length - k by omega)
            simp (config := { maxSteps := 1000000 }) only [RUN, PATHS, BASE, FA, POL, start_tm, Heap.empty, reduceIte, Nat.reduceLT, Nat.reduceLeDiff, Nat.reduceEqDiff, Nat.reduceAdd, Nat.reduceSub, Nat.reduceMul, Nat.reduceBEq, Int.reduceLT, Int.reduceLE, Int.reduceEq, Int.reduceNeg, Int.reduceAdd, Int.reduceSub, Int.reduceMul, Bool.false_eq_true, Bool.not_true, Bool.not_false, decide_eq_true_eq, and_self, true_and, and_true, reduceCtorEq, ne_eq, not_false_eq_true, not_true_eq_false, decide_true, decide_false, or_false, false_or, q73, q72, q14, q13, q1, q2, q3, q4, q5, qb5, q11, q57, q58, q15, q16, q18, qd, nt]
            exact ⟨by omega, by simp, _, rfl, hset2⟩)
      obtain ⟨mm, hrow, hset⟩ := hir
      rw [← ss] at k13
      simp (config := { maxSteps := 1000000 }) only [RUN, PATHS, BASE, FA, POL, start_tm, Heap.empty, reduceIte, Nat.reduceLT, Nat.reduceLeDiff, Nat.reduceEqDiff, Nat.reduceAdd, Nat.reduceSub, Nat.reduceMul, Nat.reduceBEq, Int.reduceLT, Int.reduceLE, Int.reduceEq, Int.reduceNeg, Int.reduceAdd, Int.reduceSub, Int.reduceMul, Bool.false_eq_true, Bool.not_true, Bool.not_false, decide_eq_true_eq, and_self, true_and, and_true, reduceCtorEq, ne_eq, not_false_eq_true, not_true_eq_false, decide_true, decide_false, or_false, false_or, NUM, k14, va, kd, kf] at hW
      generalize hL3 : W _ (.loop _) _ = L3' at hW
      obtain ⟨ex, s3, rfl, rfl, k13, k1, k2, k3, k4, k5, kb5, k11, k57, k58, k15, k16, k18, kd, kf⟩ := loop_at hL3 (α := Nat) (fun k => B.length - k)
        (fun s0 k s => k ≤ B.length ∧ s.tmps 107 = I k ∧ s.tmps 106 = I B.length ∧ s.tmps 105 = v ∧ s.tmps 13 = I S1 ∧ s.H.rows N = some (.map (kmap (PV.int .i64) mm)) ∧ s.tmps 1 = .vs 4 (l.map don) none ∧ s.tmps 2 = I f ∧ s.tmps 3 = I kn ∧ s.tmps 4 = I rate ∧ s.tmps 5 = .bptr 0 5 0 0 ∧ s.boxes 5 = some (0, dc D ws) ∧ s.tmps 11 = I fn ∧ s.tmps 57 = I D.hours ∧ s.tmps 58 = I j ∧ s.tmps 15 = I j ∧ s.tmps 16 = .vs 1 (A.map I) none ∧ s.tmps 18 = .map N ∧ s.defers = [] ∧ s.fid = 0)
        (fun s0 ex s => ex = .exit 4 ∧ s.tmps 13 = I S1 ∧ s.tmps 1 = .vs 4 (l.map don) none ∧ s.tmps 2 = I f ∧ s.tmps 3 = I kn ∧ s.tmps 4 = I rate ∧ s.tmps 5 = .bptr 0 5 0 0 ∧ s.boxes 5 = some (0, dc D ws) ∧ s.tmps 11 = I fn ∧ s.tmps 57 = I D.hours ∧ s.tmps 58 = I j ∧ s.tmps 15 = I j ∧ s.tmps 16 = .vs 1 (A.map I) none ∧ s.tmps 18 = .map N ∧ s.defers = [] ∧ s.fid = 0) 0
        (by simp (config := { maxSteps := 1000000 }) only [RUN, PATHS, BASE, FA, POL, start_tm, Heap.empty, reduceIte, Nat.reduceLT, Nat.reduceLeDiff, Nat.reduceEqDiff, Nat.reduceAdd, Nat.reduceSub, Nat.reduceMul, Nat.reduceBEq, Int.reduceLT, Int.reduceLE, Int.reduceEq, Int.reduceNeg, Int.reduceAdd, Int.reduceSub, Int.reduceMul, Bool.false_eq_true, Bool.not_true, Bool.not_false, decide_eq_true_eq, and_self, true_and, and_true, reduceCtorEq, ne_eq, not_false_eq_true, not_true_eq_false, decide_true, decide_false, or_false, false_or, k13, hrow, k1, k2, k3, k4, k5, kb5, k11, k57, k58, k15, k16, k18]; exact ⟨Nat.zero_le _, by simp⟩) (by
          rintro k s r hW2 ⟨hk, q107, q106, q105, q13, hrow, q1, q2, q3, q4, q5, qb5, q11, q57, q58, q15, q16, q18, qd, qf⟩
          by_cases hpk : k < B.length
          rotate_left
          · simp (config := { maxSteps := 1000000 }) only [RUN, PATHS, BASE, FA, POL, start_tm, Heap.empty, reduceIte, Nat.reduceLT, Nat.reduceLeDiff, Nat.reduceEqDiff, Nat.reduceAdd, Nat.reduceSub, Nat.reduceMul, Nat.reduceBEq, Int.reduceLT, Int.reduceLE, Int.reduceEq, Int.reduceNeg, Int.reduceAdd, Int.reduceSub, Int.reduceMul, Bool.false_eq_true, Bool.not_true, Bool.not_false, decide_eq_true_eq, and_self, true_and, and_true, reduceCtorEq, ne_eq, not_false_eq_true, not_true_eq_false, decide_true, decide_false, or_false, false_or, NUM, q107, q106, qd, qf, (show ¬ (k : Int) < B.length by omega)] at hW2
            subst hW2
            refine rd_exit ⟨rfl, ?_⟩
            simp (config := { maxSteps := 1000000 }) only [RUN, PATHS, BASE, FA, POL, start_tm, Heap.empty, reduceIte, Nat.reduceLT, Nat.reduceLeDiff, Nat.reduceEqDiff, Nat.reduceAdd, Nat.reduceSub, Nat.reduceMul, Nat.reduceBEq, Int.reduceLT, Int.reduceLE, Int.reduceEq, Int.reduceNeg, Int.reduceAdd, Int.reduceSub, Int.reduceMul, Bool.false_eq_true, Bool.not_true, Bool.not_false, decide_eq_true_eq, and_self, true_and, and_true, reduceCtorEq, ne_eq, not_false_eq_true, not_true_eq_false, decide_true, decide_false, or_false, false_or, q13, q1, q2, q3, q4, q5, qb5, q11, q57, q58, q15, q16, q18, qd]
          have e0 : B[k]? = some B[k] := List.getElem?_eq_getElem hpk
          have e1 := ints_get e0
          have hld := hlast B[k] (List.getElem_mem hpk)
          rw [vb (by omega)] at q105
          generalize B[k] = i at *
          have gm := hset i
          have q0 : QH l A kn j i 0 ↔ i ∈ A := by unfold QH; simp
          have inn : (i ∈ A ∧ aget mm i = some (.bool true)) ∨ (i ∉ A ∧ aget mm i = none) := by
            by_cases hi : i ∈ A
            · rw [if_pos hi] at gm; exact .inl ⟨hi, gm⟩
            · rw [if_neg hi] at gm; exact .inr ⟨hi, gm⟩
          rcases inn with ⟨hi, gm⟩ | ⟨hi, gm⟩
          all_goals
            first
              | have q0' := decide_eq_true (q0.2 hi)
              | have q0' := decide_eq_false (fun g => hi (q0.1 g))
            simp (config := { maxSteps := 1000000 }) only [RUN, PATHS, BASE, FA, POL, start_tm, Heap.empty, reduceIte, Nat.reduceLT, Nat.reduceLeDiff, Nat.reduceEqDiff, Nat.reduceAdd, Nat.reduceSub, Nat.reduceMul, Nat.reduceBEq, Int.reduceLT, Int.reduceLE, Int.reduceEq, Int.reduceNeg, Int.reduceAdd, Int.reduceSub, Int.reduceMul, Bool.false_eq_true, Bool.not_true, Bool.not_false, decide_eq_true_eq, and_self, true_and, and_true, reduceCtorEq, ne_eq, not_false_eq_true, not_true_eq_false, decide_true, decide_false, or_false, false_or, NUM, SRCH, SFRM, SCRP, SRGT, SDTY, SWEL, SDON, SCLM, INTS, MAPI, q107, q106, q105, q1, q2, q3, q4, q5, qb5, q11, q57, q58, q15, q16, q18, hrow, qd, qf, e1, gm, List.length_map, Int.toNat_natCast, (show (k : Int) < B.length by omega), (show (0 : Int) ≤ k by omega)] at hW2
            generalize hL4 : W _ (.loop _) _ = L4' at hW2
            obtain ⟨ex, s4, rfl, rfl, k23, k107, k106, k105, k13, hrow4, k1, k2, k3, k4, k5, kb5, k11, k57, k58, k15, k16, k18, kd, kf⟩ := loop_at hL4 (α := Nat) (fun n => l.length - n)
              (fun s0 n s => n ≤ l.length ∧ s.tmps 116 = I n ∧ s.tmps 115 = I l.length ∧ s.tmps 114 = .vs 4 (l.map don) none ∧ s.tmps 23 = .bool (decide (QH l A kn j i n)) ∧ s.tmps 22 = I i ∧ s.tmps 107 = I k ∧ s.tmps 106 = I B.length ∧ s.tmps 105 = .vs 1 (B.map I) none ∧ s.tmps 13 = I S1 ∧ s.H.rows N = some (.map (kmap (PV.int .i64) mm)) ∧ s.tmps 1 = .vs 4 (l.map don) none ∧ s.tmps 2 = I f ∧ s.tmps 3 = I kn ∧ s.tmps 4 = I rate ∧ s.tmps 5 = .bptr 0 5 0 0 ∧ s.boxes 5 = some (0, dc D ws) ∧ s.tmps 11 = I fn ∧ s.tmps 57 = I D.hours ∧ s.tmps 58 = I j ∧ s.tmps 15 = I j ∧ s.tmps 16 = .vs 1 (A.map I) none ∧ s.tmps 18 = .map N ∧ s.defers = [] ∧ s.fid = 0)
              (fun s0 ex s => ex = .exit 6 ∧ s.tmps 23 = .bool (decide (QH l A kn j i l.length)) ∧ s.tmps 107 = I k ∧ s.tmps 106 = I B.length ∧ s.tmps 105 = .vs 1 (B.map I) none ∧ s.tmps 13 = I S1 ∧ s.H.rows N = some (.map (kmap (PV.int .i64) mm)) ∧ s.tmps 1 = .vs 4 (l.map don) none ∧ s.tmps 2 = I f ∧ s.tmps 3 = I kn ∧ s.tmps 4 = I rate ∧ s.tmps 5 = .bptr 0 5 0 0 ∧ s.boxes 5 = some (0, dc D ws) ∧ s.tmps 11 = I fn ∧ s.tmps 57 = I D.hours ∧ s.tmps 58 = I j ∧ s.tmps 15 = I j ∧ s.tmps 16 = .vs 1 (A.map I) none ∧ s.tmps 18 = .map N ∧ s.defers = [] ∧ s.fid = 0) 0
              (by
                rw [q0']
                simp (config := { maxSteps := 1000000 }) only [RUN, PATHS, BASE, FA, POL, start_tm, Heap.empty, reduceIte, Nat.reduceLT, Nat.reduceLeDiff, Nat.reduceEqDiff, Nat.reduceAdd, Nat.reduceSub, Nat.reduceMul, Nat.reduceBEq, Int.reduceLT, Int.reduceLE, Int.reduceEq, Int.reduceNeg, Int.reduceAdd, Int.reduceSub, Int.reduceMul, Bool.false_eq_true, Bool.not_true, Bool.not_false, decide_eq_true_eq, and_self, true_and, and_true, reduceCtorEq, ne_eq, not_false_eq_true, not_true_eq_false, decide_true, decide_false, or_false, false_or, q107, q106, q105, q13, q1, q2, q3, q4, q5, qb5, q11, q57, q58, q15, q16, q18, hrow]
                exact ⟨Nat.zero_le _, by simp⟩) (by
                rintro n s r hW3 ⟨hn, z116, z115, z114, z23, z22, z107, z106, z105, z13, hrow, z1, z2, z3, z4, z5, zb5, z11, z57, z58, z15, z16, z18, zd, zf⟩
                by_cases hpn : n < l.length
                rotate_left
                · simp (config := { maxSteps := 1000000 }) only [RUN, PATHS, BASE, FA, POL, start_tm, Heap.empty, reduceIte, Nat.reduceLT, Nat.reduceLeDiff, Nat.reduceEqDiff, Nat.reduceAdd, Nat.reduceSub, Nat.reduceMul, Nat.reduceBEq, Int.reduceLT, Int.reduceLE, Int.reduceEq, Int.reduceNeg, Int.reduceAdd, Int.reduceSub, Int.reduceMul, Bool.false_eq_true, Bool.not_true, Bool.not_false, decide_eq_true_eq, and_self, true_and, and_true, reduceCtorEq, ne_eq, not_false_eq_true, not_true_eq_false, decide_true, decide_false, or_false, false_or, NUM, z116, z115, zd, zf, (show ¬ (n : Int) < l.length by omega)] at hW3
                  subst hW3
                  have : n = l.length := by omega
                  subst this
                  refine rd_exit ⟨rfl, ?_⟩
                  simp (config := { maxSteps := 1000000 }) only [RUN, PATHS, BASE, FA, POL, start_tm, Heap.empty, reduceIte, Nat.reduceLT, Nat.reduceLeDiff, Nat.reduceEqDiff, Nat.reduceAdd, Nat.reduceSub, Nat.reduceMul, Nat.reduceBEq, Int.reduceLT, Int.reduceLE, Int.reduceEq, Int.reduceNeg, Int.reduceAdd, Int.reduceSub, Int.reduceMul, Bool.false_eq_true, Bool.not_true, Bool.not_false, decide_eq_true_eq, and_self, true_and, and_true, reduceCtorEq, ne_eq, not_false_eq_true, not_true_eq_false, decide_true, decide_false, or_false, false_or, z23, z107, z106, z105, z13, hrow, z1, z2, z3, z4, z5, zb5, z11, z57, z58, z15, z16, z18, zd]
                have f0 : l[n]? = some l[n] := List.getElem?_eq_getElem hpn
                have f1 := map_get (f := don) f0
                have ts := QH_succ (A := A) (kn := kn) (h := j) (i := i) f0
                generalize l[n] = y at *
                rcases hb25 : s.boxes 25 with _ | ⟨v25, c25⟩
                all_goals
                  by_cases hT : QH l A kn j i n
                  · rw [decide_eq_true hT] at z23
                    have hT' := ts.2 (.inl hT)
                    simp (config := { maxSteps := 1000000 }) only [RUN, PATHS, BASE, FA, POL, start_tm, Heap.empty, reduceIte, Nat.reduceLT, Nat.reduceLeDiff, Nat.reduceEqDiff, Nat.reduceAdd, Nat.reduceSub, Nat.reduceMul, Nat.reduceBEq, Int.reduceLT, Int.reduceLE, Int.reduceEq, Int.reduceNeg, Int.reduceAdd, Int.reduceSub, Int.reduceMul, Bool.false_eq_true, Bool.not_true, Bool.not_false, decide_eq_true_eq, and_self, true_and, and_true, reduceCtorEq, ne_eq, not_false_eq_true, not_true_eq_false, decide_true, decide_false, or_false, false_or, NUM, z116, z115, z114, z23, z22, z15, z3, zd, zf, hb25, f1, List.length_map, Int.toNat_natCast, (show (n : Int) < l.length by omega), (show (0 : Int) ≤ n by omega), (i64_in (x := (n : Int) + 1) (by unfold I64; omega))] at hW3
                    subst hW3
                    refine rd_next (n + 1) ?_ (show l.length - (n + 1) < l.length - n by omega)
                    rw [decide_eq_true hT']
                    simp (config := { maxSteps := 1000000 }) only [RUN, PATHS, BASE, FA, POL, start_tm, Heap.empty, reduceIte, Nat.reduceLT, Nat.reduceLeDiff, Nat.reduceEqDiff, Nat.reduceAdd, Nat.reduceSub, Nat.reduceMul, Nat.reduceBEq, Int.reduceLT, Int.reduceLE, Int.reduceEq, Int.reduceNeg, Int.reduceAdd, Int.reduceSub, Int.reduceMul, Bool.false_eq_true, Bool.not_true, Bool.not_false, decide_eq_true_eq, and_self, true_and, and_true, reduceCtorEq, ne_eq, not_false_eq_true, not_true_eq_false, decide_true, decide_false, or_false, false_or, z115, z114, z22, z107, z106, z105, z13, hrow, z1, z2, z3, z4, z5, zb5, z11, z57, z58, z15, z16, z18, zd]
                    exact ⟨by omega, by simp⟩
                  · rw [decide_eq_false hT] at z23
                    by_cases q1 : y.du = i
                    · by_cases q2 : y.at_ = j
                      · by_cases q3 : y.kn ≤ kn
                        · have hT' := ts.2 (.inr ⟨q1, q2, q3⟩)
                          simp (config := { maxSteps := 1000000 }) only [RUN, PATHS, BASE, FA, POL, start_tm, Heap.empty, reduceIte, Nat.reduceLT, Nat.reduceLeDiff, Nat.reduceEqDiff, Nat.reduceAdd, Nat.reduceSub, Nat.reduceMul, Nat.reduceBEq, Int.reduceLT, Int.reduceLE, Int.reduceEq, Int.reduceNeg, Int.reduceAdd, Int.reduceSub, Int.reduceMul, Bool.false_eq_true, Bool.not_true, Bool.not_false, decide_eq_true_eq, and_self, true_and, and_true, reduceCtorEq, ne_eq, not_false_eq_true, not_true_eq_false, decide_true, decide_false, or_false, false_or, NUM, z116, z115, z114, z23, z22, z15, z3, zd, zf, hb25, f1, eq_true q1, eq_true q2, q3, List.length_map, Int.toNat_natCast, (show (n : Int) < l.length by omega), (show (0 : Int) ≤ n by omega), (i64_in (x := (n : Int) + 1) (by unfold I64; omega))] at hW3
                          subst hW3
                          refine rd_next (n + 1) ?_ (show l.length - (n + 1) < l.length - n by omega)
                          rw [decide_eq_true hT']
                          simp (config := { maxSteps := 1000000 }) only [RUN, PATHS, BASE, FA, POL, start_tm, Heap.empty, reduceIte, Nat.reduceLT, Nat.reduceLeDiff, Nat.reduceEqDiff, Nat.reduceAdd, Nat.reduceSub, Nat.reduceMul, Nat.reduceBEq, Int.reduceLT, Int.reduceLE, Int.reduceEq, Int.reduceNeg, Int.reduceAdd, Int.reduceSub, Int.reduceMul, Bool.false_eq_true, Bool.not_true, Bool.not_false, decide_eq_true_eq, and_self, true_and, and_true, reduceCtorEq, ne_eq, not_false_eq_true, not_true_eq_false, decide_true, decide_false, or_false, false_or, z115, z114, z22, z107, z106, z105, z13, hrow, z1, z2, z3, z4, z5, zb5, z11, z57, z58, z15, z16, z18, zd]
                          exact ⟨by omega, by simp⟩
                        · have hT' : ¬ QH l A kn j i (n + 1) := fun g => (ts.1 g).elim hT (fun g => q3 g.2.2)
                          simp (config := { maxSteps := 1000000 }) only [RUN, PATHS, BASE, FA, POL, start_tm, Heap.empty, reduceIte, Nat.reduceLT, Nat.reduceLeDiff, Nat.reduceEqDiff, Nat.reduceAdd, Nat.reduceSub, Nat.reduceMul, Nat.reduceBEq, Int.reduceLT, Int.reduceLE, Int.reduceEq, Int.reduceNeg, Int.reduceAdd, Int.reduceSub, Int.reduceMul, Bool.false_eq_true, Bool.not_true, Bool.not_false, decide_eq_true_eq, and_self, true_and, and_true, reduceCtorEq, ne_eq, not_false_eq_true, not_true_eq_false, decide_true, decide_false, or_false, false_or, NUM, z116, z115, z114, z23, z22, z15, z3, zd, zf, hb25, f1, eq_true q1, eq_true q2, q3, List.length_map, Int.toNat_natCast, (show (n : Int) < l.length by omega), (show (0 : Int) ≤ n by omega), (i64_in (x := (n : Int) + 1) (by unfold I64; omega))] at hW3
                          subst hW3
                          refine rd_next (n + 1) ?_ (show l.length - (n + 1) < l.length - n by omega)
                          rw [decide_eq_false hT']
                          simp (config := { maxSteps := 1000000 }) only [RUN, PATHS, BASE, FA, POL, start_tm, Heap.empty, reduceIte, Nat.reduceLT, Nat.reduceLeDiff, Nat.reduceEqDiff, Nat.reduceAdd, Nat.reduceSub, Nat.reduceMul, Nat.reduceBEq, Int.reduceLT, Int.reduceLE, Int.reduceEq, Int.reduceNeg, Int.reduceAdd, Int.reduceSub, Int.reduceMul, Bool.false_eq_true, Bool.not_true, Bool.not_false, decide_eq_true_eq, and_self, true_and, and_true, reduceCtorEq, ne_eq, not_false_eq_true, not_true_eq_false, decide_true, decide_false, or_false, false_or, z115, z114, z22, z107, z106, z105, z13, hrow, z1, z2, z3, z4, z5, zb5, z11, z57, z58, z15, z16, z18, zd]
                          exact ⟨by omega, by simp⟩
                      · have hT' : ¬ QH l A kn j i (n + 1) := fun g => (ts.1 g).elim hT (fun g => q2 g.2.1)
                        simp (config := { maxSteps := 1000000 }) only [RUN, PATHS, BASE, FA, POL, start_tm, Heap.empty, reduceIte, Nat.reduceLT, Nat.reduceLeDiff, Nat.reduceEqDiff, Nat.reduceAdd, Nat.reduceSub, Nat.reduceMul, Nat.reduceBEq, Int.reduceLT, Int.reduceLE, Int.reduceEq, Int.reduceNeg, Int.reduceAdd, Int.reduceSub, Int.reduceMul, Bool.false_eq_true, Bool.not_true, Bool.not_false, decide_eq_true_eq, and_self, true_and, and_true, reduceCtorEq, ne_eq, not_false_eq_true, not_true_eq_false, decide_true, decide_false, or_false, false_or, NUM, z116, z115, z114, z23, z22, z15, z3, zd, zf, hb25, f1, eq_true q1, q2, List.length_map, Int.toNat_natCast, (show (n : Int) < l.length by omega), (show (0 : Int) ≤ n by omega), (i64_in (x := (n : Int) + 1) (by unfold I64; omega))] at hW3
                        subst hW3
                        refine rd_next (n + 1) ?_ (show l.length - (n + 1) < l.length - n by omega)
                        rw [decide_eq_false hT']
                        simp (config := { maxSteps := 1000000 }) only [RUN, PATHS, BASE, FA, POL, start_tm, Heap.empty, reduceIte, Nat.reduceLT, Nat.reduceLeDiff, Nat.reduceEqDiff, Nat.reduceAdd, Nat.reduceSub, Nat.reduceMul, Nat.reduceBEq, Int.reduceLT, Int.reduceLE, Int.reduceEq, Int.reduceNeg, Int.reduceAdd, Int.reduceSub, Int.reduceMul, Bool.false_eq_true, Bool.not_true, Bool.not_false, decide_eq_true_eq, and_self, true_and, and_true, reduceCtorEq, ne_eq, not_false_eq_true, not_true_eq_false, decide_true, decide_false, or_false, false_or, z115, z114, z22, z107, z106, z105, z13, hrow, z1, z2, z3, z4, z5, zb5, z11, z57, z58, z15, z16, z18, zd]
                        exact ⟨by omega, by simp⟩
                    · have hT' : ¬ QH l A kn j i (n + 1) := fun g => (ts.1 g).elim hT (fun g => q1 g.1)
                      simp (config := { maxSteps := 1000000 }) only [RUN, PATHS, BASE, FA, POL, start_tm, Heap.empty, reduceIte, Nat.reduceLT, Nat.reduceLeDiff, Nat.reduceEqDiff, Nat.reduceAdd, Nat.reduceSub, Nat.reduceMul, Nat.reduceBEq, Int.reduceLT, Int.reduceLE, Int.reduceEq, Int.reduceNeg, Int.reduceAdd, Int.reduceSub, Int.reduceMul, Bool.false_eq_true, Bool.not_true, Bool.not_false, decide_eq_true_eq, and_self, true_and, and_true, reduceCtorEq, ne_eq, not_false_eq_true, not_true_eq_false, decide_true, decide_false, or_false, false_or, NUM, z116, z115, z114, z23, z22, z15, z3, zd, zf, hb25, f1, q1, List.length_map, Int.toNat_natCast, (show (n : Int) < l.length by omega), (show (0 : Int) ≤ n by omega), (i64_in (x := (n : Int) + 1) (by unfold I64; omega))] at hW3
                      subst hW3
                      refine rd_next (n + 1) ?_ (show l.length - (n + 1) < l.length - n by omega)
                      rw [decide_eq_false hT']
                      simp (config := { maxSteps := 1000000 }) only [RUN, PATHS, BASE, FA, POL, start_tm, Heap.empty, reduceIte, Nat.reduceLT, Nat.reduceLeDiff, Nat.reduceEqDiff, Nat.reduceAdd, Nat.reduceSub, Nat.reduceMul, Nat.reduceBEq, Int.reduceLT, Int.reduceLE, Int.reduceEq, Int.reduceNeg, Int.reduceAdd, Int.reduceSub, Int.reduceMul, Bool.false_eq_true, Bool.not_true, Bool.not_false, decide_eq_true_eq, and_self, true_and, and_true, reduceCtorEq, ne_eq, not_false_eq_true, not_true_eq_false, decide_true, decide_false, or_false, false_or, z115, z114, z22, z107, z106, z105, z13, hrow, z1, z2, z3, z4, z5, zb5, z11, z57, z58, z15, z16, z18, zd]
                      exact ⟨by omega, by simp⟩)
            have hQ : QH l A kn j i l.length := by
              unfold QH
              rw [List.take_length]
              by_cases hi : i ∈ A
              · exact .inl hi
              · exact .inr (hld hi)
            rw [decide_eq_true hQ] at k23
            simp (config := { maxSteps := 1000000 }) only [RUN, PATHS, BASE, FA, POL, start_tm, Heap.empty, reduceIte, Nat.reduceLT, Nat.reduceLeDiff, Nat.reduceEqDiff, Nat.reduceAdd, Nat.reduceSub, Nat.reduceMul, Nat.reduceBEq, Int.reduceLT, Int.reduceLE, Int.reduceEq, Int.reduceNeg, Int.reduceAdd, Int.reduceSub, Int.reduceMul, Bool.false_eq_true, Bool.not_true, Bool.not_false, decide_eq_true_eq, and_self, true_and, and_true, reduceCtorEq, ne_eq, not_false_eq_true, not_true_eq_false, decide_true, decide_false, or_false, false_or, NUM, k23, k107, kd, kf, (i64_in (x := (k : Int) + 1) (by unfold I64; omega))] at hW2
            subst hW2
            refine rd_next (k + 1) ?_ (show B.length - (k + 1) < B.length - k by omega)
            simp (config := { maxSteps := 1000000 }) only [RUN, PATHS, BASE, FA, POL, start_tm, Heap.empty, reduceIte, Nat.reduceLT, Nat.reduceLeDiff, Nat.reduceEqDiff, Nat.reduceAdd, Nat.reduceSub, Nat.reduceMul, Nat.reduceBEq, Int.reduceLT, Int.reduceLE, Int.reduceEq, Int.reduceNeg, Int.reduceAdd, Int.reduceSub, Int.reduceMul, Bool.false_eq_true, Bool.not_true, Bool.not_false, decide_eq_true_eq, and_self, true_and, and_true, reduceCtorEq, ne_eq, not_false_eq_true, not_true_eq_false, decide_true, decide_false, or_false, false_or, k106, k105, k13, hrow4, k1, k2, k3, k4, k5, kb5, k11, k57, k58, k15, k16, k18, kd, vb (show 0 < B.length by omega)]
            exact ⟨by omega, by simp⟩)
      simp (config := { maxSteps := 1000000 }) only [RUN, PATHS, BASE, FA, POL, start_tm, Heap.empty, reduceIte, Nat.reduceLT, Nat.reduceLeDiff, Nat.reduceEqDiff, Nat.reduceAdd, Nat.reduceSub, Nat.reduceMul, Nat.reduceBEq, Int.reduceLT, Int.reduceLE, Int.reduceEq, Int.reduceNeg, Int.reduceAdd, Int.reduceSub, Int.reduceMul, Bool.false_eq_true, Bool.not_true, Bool.not_false, decide_eq_true_eq, and_self, true_and, and_true, reduceCtorEq, ne_eq, not_false_eq_true, not_true_eq_false, decide_true, decide_false, or_false, false_or, NUM, k1, k2, k3, k4, k5, kb5, k11, k57, k58, k15, k16, k18, kd, kf, (i64_in (x := (j : Int) + 1) (by unfold I64; omega))] at hW
      subst hW
      refine rd_next (j + 1) ?_ (show D.hours.toNat - (j + 1) < D.hours.toNat - j by omega)
      simp (config := { maxSteps := 1000000 }) only [RUN, PATHS, BASE, FA, POL, start_tm, Heap.empty, reduceIte, Nat.reduceLT, Nat.reduceLeDiff, Nat.reduceEqDiff, Nat.reduceAdd, Nat.reduceSub, Nat.reduceMul, Nat.reduceBEq, Int.reduceLT, Int.reduceLE, Int.reduceEq, Int.reduceNeg, Int.reduceAdd, Int.reduceSub, Int.reduceMul, Bool.false_eq_true, Bool.not_true, Bool.not_false, decide_eq_true_eq, and_self, true_and, and_true, reduceCtorEq, ne_eq, not_false_eq_true, not_true_eq_false, decide_true, decide_false, or_false, false_or, k13, k1, k2, k3, k4, k5, kb5, k11, k57, k58, k15, k16, k18, kd]
      exact ⟨by omega, by simp, by rw [hS1], by rw [hls]; exact VL_ints (by omega)⟩)
  rw [fs] at g13
  simp (config := { maxSteps := 1000000 }) only [RUN, PATHS, BASE, FA, POL, start_tm, Heap.empty, reduceIte, Nat.reduceLT, Nat.reduceLeDiff, Nat.reduceEqDiff, Nat.reduceAdd, Nat.reduceSub, Nat.reduceMul, Nat.reduceBEq, Int.reduceLT, Int.reduceLE, Int.reduceEq, Int.reduceNeg, Int.reduceAdd, Int.reduceSub, Int.reduceMul, Bool.false_eq_true, Bool.not_true, Bool.not_false, decide_eq_true_eq, and_self, true_and, and_true, reduceCtorEq, ne_eq, not_false_eq_true, not_true_eq_false, decide_true, decide_false, or_false, false_or, NUM, g13, g4, g11, hd, hf, efn, (i64_in (x := fn) (by unfold I64; omega))]
end
end Go.Proofs.Ytaggpjlkapnonaa
