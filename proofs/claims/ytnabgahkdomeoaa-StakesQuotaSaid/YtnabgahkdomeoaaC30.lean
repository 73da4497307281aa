/-
  What the shares are worth; the walk of StakesConserved.
-/
import Derived.Test.YtnabgahkdomeoaaC29
set_option linter.unusedSimpArgs false
set_option linter.unusedVariables false
set_option linter.unusedSectionVars false
namespace Go.Proofs.Ytnabgahkdomeoaa
open Go GoV
set_option maxRecDepth 100000

theorem SUMI_zero : ∀ (w : List Int), (∀ x ∈ w, 0 ≤ x) → SUMI w = 0 → ∀ x ∈ w, x = 0
  | [], _, _, x, hx => by simp at hx
  | y :: w, h, e, x, hx => by
    have h1 := (SUMI_bounds (a := 0) (b := y + SUMI w) w (fun z hz => ⟨h z (by simp [hz]), by
      have key : ∀ (l : List Int), (∀ a ∈ l, 0 ≤ a) → ∀ a ∈ l, a ≤ SUMI l := by
        intro l
        induction l with
        | nil => intro _ a ha; simp at ha
        | cons b l ih =>
          intro hl a ha
          have hs := (SUMI_bounds (a := 0) (b := 0) [] (by simp)).1
          have ih' := ih (fun c hc => hl c (by simp [hc]))
          have hb := hl b (by simp)
          have hl0 : 0 ≤ SUMI l := by
            cases l with
            | nil => simp [SUMI]
            | cons c l => have := ih' c (by simp); have := hl c (by simp); omega
          rcases List.mem_cons.1 ha with rfl | ha
          · simp only [SUMI]; omega
          · have := ih' a ha; simp only [SUMI]; omega
      have := key w (fun a ha => h a (by simp [ha])) z hz
      have := h y (by simp)
      omega⟩)).1
    have hy := h y (by simp)
    simp only [SUMI] at e
    rcases List.mem_cons.1 hx with rfl | hx
    · omega
    · exact SUMI_zero w (fun z hz => h z (by simp [hz])) (by omega) x hx
theorem OUTS_sum {T : Int} {w : List Int} (h : CKW T w = 0) : SUMI (OUTS T w) + REST T w = T := by
  unfold OUTS REST
  split
  · next h0 =>
    have : ∀ n : Nat, SUMI (List.replicate n 0) = 0 := by
      intro n
      induction n with
      | zero => rfl
      | succ n ih => simp only [List.replicate_succ, SUMI, ih]; omega
    rw [this]; omega
  · next h0 =>
    obtain ⟨M, l, hs, _⟩ := c_share1 T w none h h0
    have h1 := SUM_take_le (CKW_0 h).2.2 w.length
    rw [List.take_length] at h1
    rw [← SHO_eq hs, hs.out_sum rfl (by omega)]; omega
theorem OUTS_q {T : Int} {w : List Int} (h : CKW T w = 0) (h0 : SUMI w ≠ 0) {i : Nat} {x n : Int} (e : w[i]? = some x) (en : (OUTS T w)[i]? = some n) :
    n = T * x / SUMI w ∨ (n = T * x / SUMI w + 1 ∧ 0 < T * x % SUMI w) := by
  obtain ⟨M, l, hs, _⟩ := c_share1 T w none h h0
  have h1 := SUM_take_le (CKW_0 h).2.2 w.length
  rw [List.take_length] at h1
  have o : OUTS T w = hs.out := by unfold OUTS; rw [if_neg h0, SHO_eq hs]
  rw [o, hs.out_get e] at en
  injection en with en
  by_cases hk : (i : Int) ∈ hs.K
  · rw [if_pos hk] at en
    exact .inr ⟨en.symm, hs.k_pos rfl (by omega) e hk⟩
  · rw [if_neg hk] at en
    exact .inl en.symm
theorem OUTS_mono {T : Int} {w : List Int} (h : CKW T w = 0) (h0 : SUMI w ≠ 0) {i k : Nat} {x y n m : Int} (e : w[i]? = some x) (en : (OUTS T w)[i]? = some n) (f : w[k]? = some y) (fm : (OUTS T w)[k]? = some m) :
    (x < y → n ≤ m) ∧ (x = y → n ≤ m + 1 ∧ m ≤ n + 1) := by
  obtain ⟨M, l, hs, _⟩ := c_share1 T w none h h0
  have h1 := SUM_take_le (CKW_0 h).2.2 w.length
  rw [List.take_length] at h1
  have S0 : 0 < SUMI w := by omega
  have hT := (CKW_0 h).2.1
  have o : OUTS T w = hs.out := by unfold OUTS; rw [if_neg h0, SHO_eq hs]
  rw [o, hs.out_get e] at en
  rw [o, hs.out_get f] at fm
  injection en with en
  injection fm with fm
  constructor
  · intro hxy
    have a1 : T * x / SUMI w ≤ T * y / SUMI w := Int.ediv_le_ediv S0 (Int.mul_le_mul_of_nonneg_left (by omega) hT.1)
    have d1 := Int.mul_ediv_add_emod (T * x) (SUMI w)
    have d2 := Int.mul_ediv_add_emod (T * y) (SUMI w)
    by_cases hk : (i : Int) ∈ hs.K
    · have p := hs.k_pos rfl S0 e hk
      rcases Int.lt_or_le (T * x / SUMI w) (T * y / SUMI w) with a2 | a2
      · rw [if_pos hk] at en
        split at fm <;> omega
      · have a3 : T * x / SUMI w = T * y / SUMI w := by omega
        have t1 : T * x < T * y := by
          rcases Int.lt_or_le 0 T with ht | ht
          · exact Int.mul_lt_mul_of_pos_left hxy ht
          · have : T = 0 := by omega
            subst this
            simp at p
        rw [a3] at d1
        have hk2 := hs.k_down e f hk (by omega)
        rw [if_pos hk] at en
        rw [if_pos hk2] at fm
        omega
    · rw [if_neg hk] at en
      split at fm <;> omega
  · intro hxy
    subst hxy
    split at en <;> split at fm <;> omega
theorem OUTS_in {T : Int} {w : List Int} (h : CKW T w = 0) {i : Nat} {x n : Int} (e : w[i]? = some x) (en : (OUTS T w)[i]? = some n) : 0 ≤ n ∧ (0 < n → x ≠ 0) := by
  obtain ⟨_, hT, hw⟩ := CKW_0 h
  have hx := hw x (List.mem_of_getElem? e)
  unfold OKL at hx
  by_cases h0 : SUMI w = 0
  · unfold OUTS at en
    rw [if_pos h0, List.getElem?_replicate] at en
    split at en
    · injection en with en; omega
    · cases en
  · have h1 := SUM_take_le hw w.length
    rw [List.take_length] at h1
    have S0 : 0 < SUMI w := by omega
    have q0 : 0 ≤ T * x / SUMI w := Int.ediv_nonneg (Int.mul_nonneg hT.1 hx.1) (by omega)
    rcases OUTS_q h h0 e en with h2 | ⟨h2, h3⟩
    · refine ⟨by omega, fun h4 h5 => ?_⟩
      subst h5
      simp at h2; omega
    · refine ⟨by omega, fun h4 h5 => ?_⟩
      subst h5
      simp at h3
theorem OUTS_take {T : Int} {w : List Int} (h : CKW T w = 0) (j : Nat) : 0 ≤ SUMI ((OUTS T w).take j) ∧ SUMI ((OUTS T w).take j) ≤ T := by
  have lo := OUTS_len h
  have nn : ∀ x ∈ OUTS T w, 0 ≤ x := by
    intro x hx
    obtain ⟨i, ei⟩ := List.mem_iff_getElem?.1 hx
    have hi : i < w.length := by rw [← lo]; exact (List.getElem?_eq_some_iff.1 ei).1
    exact (OUTS_in h (List.getElem?_eq_getElem hi) ei).1
  have pos : ∀ l : List Int, (∀ x ∈ l, 0 ≤ x) → 0 ≤ SUMI l := by
    intro l
    induction l with
    | nil => intro _; simp [SUMI]
    | cons a l ih => intro hl; have := ih (fun b hb => hl b (by simp [hb])); have := hl a (by simp); simp only [SUMI]; omega
  have h1 := pos _ (fun x hx => nn x (List.mem_of_mem_take hx) : ∀ x ∈ (OUTS T w).take j, 0 ≤ x)
  have h2 := pos _ (fun x hx => nn x (List.mem_of_mem_drop hx) : ∀ x ∈ (OUTS T w).drop j, 0 ≤ x)
  have h3 : SUMI (OUTS T w) = SUMI ((OUTS T w).take j) + SUMI ((OUTS T w).drop j) := by rw [← SUMI_app, List.take_append_drop]
  have h4 := OUTS_sum h
  have h5 : 0 ≤ REST T w := by
    have := (CKW_0 h).2.1
    unfold REST; split <;> omega
  omega
/-- Somebody asks for something. -/
def ASK (w : List Int) : Bool := w.any fun x => decide (0 < x)
theorem ASK_take {w : List Int} {j : Nat} {x : Int} (e : w[j]? = some x) : ASK (w.take (j + 1)) = (ASK (w.take j) || decide (0 < x)) := by
  rw [List.take_add_one, e]; simp [ASK]
theorem ASK_rest {T : Int} {w : List Int} (h : CKW T w = 0) : REST T w = 0 ∨ ASK w = false := by
  unfold REST
  split
  · next h0 =>
    right
    have hz := SUMI_zero w (fun x hx => ((CKW_0 h).2.2 x hx).1) h0
    simp only [ASK, List.any_eq_false, decide_eq_true_eq]
    intro x hx
    have := hz x hx
    omega
  · exact .inl rfl
theorem FOR_at {l : List Stk} {ps : List Pst} (h : CHK l ps = 0) {i : Nat} {x : Stk} (e : l[i]? = some x) : FOR l ps i = (FORV x ps, 0) := by
  have hi := (List.getElem?_eq_some_iff.1 e).1
  unfold FOR
  rw [if_pos h, if_pos (by omega), Int.toNat_natCast, List.getD_eq_getElem?_getD, e]; rfl
theorem w_conserved (l : List Stk) (ps : List Pst) (w : List Int) : ap Try.prog pol 6 [.vs 4 (l.map stk) none, .vs 3 (ps.map pst) none, .vs 1 (w.map I) none] = some (.ret (.bool true)) := by
  obtain ⟨b, hb⟩ := c_fewA l ps w none none none
  cases b
  · rw [ap_eq _ Try.func6 rfl Try.ntmps6 Try.results6 (by kernel_rfl) rfl (by exact Nat.le_of_ble_eq_true rfl)]
    simp (config := { maxSteps := 1000000 }) only [RUN, PATHS, BASE, FA, POL, start_tm, Heap.empty, reduceIte, Nat.reduceLT, Nat.reduceLeDiff, Nat.reduceEqDiff, Nat.reduceAdd, Nat.reduceSub, Nat.reduceMul, Nat.reduceBEq, Int.reduceLT, Int.reduceLE, Int.reduceEq, Int.reduceNeg, Int.reduceAdd, Int.reduceSub, Int.reduceMul, Bool.false_eq_true, Bool.not_true, Bool.not_false, decide_eq_true_eq, and_self, true_and, and_true, reduceCtorEq, ne_eq, not_false_eq_true, not_true_eq_false, decide_true, decide_false, or_false, false_or, NUM, SIN, SST, SPS, c_saneV, hb]
  by_cases h : CHK l ps = 0
  rotate_left
  · have c1 := c_settle1 l ps w none none none h
    rw [ap_eq _ Try.func6 rfl Try.ntmps6 Try.results6 (by kernel_rfl) rfl (by exact Nat.le_of_ble_eq_true rfl)]
    simp (config := { maxSteps := 1000000 }) only [RUN, PATHS, BASE, FA, POL, start_tm, Heap.empty, reduceIte, Nat.reduceLT, Nat.reduceLeDiff, Nat.reduceEqDiff, Nat.reduceAdd, Nat.reduceSub, Nat.reduceMul, Nat.reduceBEq, Int.reduceLT, Int.reduceLE, Int.reduceEq, Int.reduceNeg, Int.reduceAdd, Int.reduceSub, Int.reduceMul, Bool.false_eq_true, Bool.not_true, Bool.not_false, decide_eq_true_eq, and_self, true_and, and_true, reduceCtorEq, ne_eq, not_false_eq_true, not_true_eq_false, decide_true, decide_false, or_false, false_or, NUM, SIN, SST, SPS, c_saneV, hb, c1, h]
  by_cases h2 : CKW 0 w = 0
  rotate_left
  · have c1 := c_settle2 l ps w none none none h h2
    rw [ap_eq _ Try.func6 rfl Try.ntmps6 Try.results6 (by kernel_rfl) rfl (by exact Nat.le_of_ble_eq_true rfl)]
    simp (config := { maxSteps := 1000000 }) only [RUN, PATHS, BASE, FA, POL, start_tm, Heap.empty, reduceIte, Nat.reduceLT, Nat.reduceLeDiff, Nat.reduceEqDiff, Nat.reduceAdd, Nat.reduceSub, Nat.reduceMul, Nat.reduceBEq, Int.reduceLT, Int.reduceLE, Int.reduceEq, Int.reduceNeg, Int.reduceAdd, Int.reduceSub, Int.reduceMul, Bool.false_eq_true, Bool.not_true, Bool.not_false, decide_eq_true_eq, and_self, true_and, and_true, reduceCtorEq, ne_eq, not_false_eq_true, not_true_eq_false, decide_true, decide_false, or_false, false_or, NUM, SIN, SST, SPS, c_saneV, hb, c1, h2]
  have c1 := c_settle3 l ps w none none none h h2
  obtain ⟨⟨hl, hg⟩, ⟨hp, ok⟩, hi⟩ := CHK_0 h
  have bt := PAID_sum hg ok l.length
  rw [List.take_length] at bt
  have cw := CKW_T h2 (T := SUMI (PAID l ps)) (by omega)
  have lo := OUTS_len cw
  have lp : (PAID l ps).length = l.length := by simp [PAID]
  have hl' := (CKW_0 h2).1
  have sm := OUTS_sum cw
  have ar := ASK_rest cw
  have r0 : 0 ≤ REST (SUMI (PAID l ps)) w := by unfold REST; split <;> omega
  have tk := OUTS_take cw
  have inn := fun i x n => OUTS_in cw (i := i) (x := x) (n := n)
  generalize OUTS (SUMI (PAID l ps)) w = O at *
  generalize REST (SUMI (PAID l ps)) w = R at *
  rw [ap_eq _ Try.func6 rfl Try.ntmps6 Try.results6 (by kernel_rfl) rfl (by exact Nat.le_of_ble_eq_true rfl)]
  simp (config := { maxSteps := 1000000 }) only [RUN, PATHS, BASE, FA, POL, start_tm, Heap.empty, reduceIte, Nat.reduceLT, Nat.reduceLeDiff, Nat.reduceEqDiff, Nat.reduceAdd, Nat.reduceSub, Nat.reduceMul, Nat.reduceBEq, Int.reduceLT, Int.reduceLE, Int.reduceEq, Int.reduceNeg, Int.reduceAdd, Int.reduceSub, Int.reduceMul, Bool.false_eq_true, Bool.not_true, Bool.not_false, decide_eq_true_eq, and_self, true_and, and_true, reduceCtorEq, ne_eq, not_false_eq_true, not_true_eq_false, decide_true, decide_false, or_false, false_or, NUM, SIN, SST, SPS, c_saneV, hb, c1, List.length_map, lp, lo, (show ¬ R < 0 by omega)]
  generalize hL : W _ (.loop _) _ = L
  obtain ⟨ex, s, rfl, rfl, h11, h2', h8, h9, hd, hf⟩ := loop_at hL (α := Nat) (fun j => l.length - j)
    (fun s0 j s => j ≤ l.length ∧ s.tmps 65 = I j ∧ s.tmps 64 = I l.length ∧ s.tmps 63 = .vs 1 ((PAID l ps).map I) none ∧ s.tmps 11 = I (SUMI (PAID (l.take j) ps)) ∧ s.tmps 0 = .vs 4 (l.map stk) none ∧ s.tmps 1 = .vs 3 (ps.map pst) none ∧ s.tmps 2 = .vs 1 (w.map I) none ∧ s.tmps 8 = .vs 1 (O.map I) none ∧ s.tmps 9 = I R ∧ s.defers = [] ∧ s.fid = 0)
    (fun s0 ex s => ex = .exit 0 ∧ s.tmps 11 = I (SUMI (PAID l ps)) ∧ s.tmps 2 = .vs 1 (w.map I) none ∧ s.tmps 8 = .vs 1 (O.map I) none ∧ s.tmps 9 = I R ∧ s.defers = [] ∧ s.fid = 0) 0
    (by simp (config := { maxSteps := 1000000 }) only [RUN, PATHS, BASE, FA, POL, start_tm, Heap.empty, reduceIte, Nat.reduceLT, Nat.reduceLeDiff, Nat.reduceEqDiff, Nat.reduceAdd, Nat.reduceSub, Nat.reduceMul, Nat.reduceBEq, Int.reduceLT, Int.reduceLE, Int.reduceEq, Int.reduceNeg, Int.reduceAdd, Int.reduceSub, Int.reduceMul, Bool.false_eq_true, Bool.not_true, Bool.not_false, decide_eq_true_eq, and_self, true_and, and_true, reduceCtorEq, ne_eq, not_false_eq_true, not_true_eq_false, decide_true, decide_false, or_false, false_or, List.take_zero]; exact ⟨Nat.zero_le _, rfl, rfl⟩) (by
      rintro j s r hW ⟨hj, h65, h64, h63, h11, h0, h1, h2', h8, h9, hd, hf⟩
      by_cases hp : j < l.length
      · have e0 : l[j]? = some l[j] := List.getElem?_eq_getElem hp
        have e1 := map_get (f := stk) e0
        have e2 := map_get (f := I) (PAID_get (ps := ps) e0)
        have pt := PAID_take (ps := ps) e0
        have ox := GOOD_in hg e0
        have fa := FOR_at h e0
        have fb := FORV_bd ox ok
        have b1 := PAID_sum hg ok (j + 1)
        rw [pt, SUMI_app] at b1
        generalize l[j] = x at *
        have cf := c_forfeit l ps none none j
        rw [fa] at cf
        have s1 : SUMI [FORV x ps] = FORV x ps := by simp [SUMI]
        rw [s1] at b1
        simp (config := { maxSteps := 1000000 }) only [RUN, PATHS, BASE, FA, POL, start_tm, Heap.empty, reduceIte, Nat.reduceLT, Nat.reduceLeDiff, Nat.reduceEqDiff, Nat.reduceAdd, Nat.reduceSub, Nat.reduceMul, Nat.reduceBEq, Int.reduceLT, Int.reduceLE, Int.reduceEq, Int.reduceNeg, Int.reduceAdd, Int.reduceSub, Int.reduceMul, Bool.false_eq_true, Bool.not_true, Bool.not_false, decide_eq_true_eq, and_self, true_and, and_true, reduceCtorEq, ne_eq, not_false_eq_true, not_true_eq_false, decide_true, decide_false, or_false, false_or, NUM, SIN, SST, SPS, h65, h64, h63, h11, h0, h1, h2', h8, h9, hd, hf, e1, e2, cf, lp, List.length_map, Int.toNat_natCast, (show (j : Int) < l.length by omega), (show (0 : Int) ≤ j by omega), (show ¬ FORV x ps < 0 by omega), (show ¬ x.d < FORV x ps by omega), i64_in (x := SUMI (PAID (l.take j) ps) + FORV x ps) (by unfold I64; omega), i64_in (x := (j : Int) + 1) (by unfold I64; omega)] at hW
        subst hW
        refine rd_next (j + 1) ?_ (show l.length - (j + 1) < l.length - j by omega)
        simp (config := { maxSteps := 1000000 }) only [RUN, PATHS, BASE, FA, POL, start_tm, Heap.empty, reduceIte, Nat.reduceLT, Nat.reduceLeDiff, Nat.reduceEqDiff, Nat.reduceAdd, Nat.reduceSub, Nat.reduceMul, Nat.reduceBEq, Int.reduceLT, Int.reduceLE, Int.reduceEq, Int.reduceNeg, Int.reduceAdd, Int.reduceSub, Int.reduceMul, Bool.false_eq_true, Bool.not_true, Bool.not_false, decide_eq_true_eq, and_self, true_and, and_true, reduceCtorEq, ne_eq, not_false_eq_true, not_true_eq_false, decide_true, decide_false, or_false, false_or, h64, h63, h0, h1, h2', h8, h9, pt, SUMI_app, s1]
        exact ⟨by omega, by simp⟩
      · simp (config := { maxSteps := 1000000 }) only [RUN, PATHS, BASE, FA, POL, start_tm, Heap.empty, reduceIte, Nat.reduceLT, Nat.reduceLeDiff, Nat.reduceEqDiff, Nat.reduceAdd, Nat.reduceSub, Nat.reduceMul, Nat.reduceBEq, Int.reduceLT, Int.reduceLE, Int.reduceEq, Int.reduceNeg, Int.reduceAdd, Int.reduceSub, Int.reduceMul, Bool.false_eq_true, Bool.not_true, Bool.not_false, decide_eq_true_eq, and_self, true_and, and_true, reduceCtorEq, ne_eq, not_false_eq_true, not_true_eq_false, decide_true, decide_false, or_false, false_or, h65, h64, hd, hf, (show ¬ (j : Int) < l.length by omega)] at hW
        subst hW
        rw [List.take_of_length_le (by omega)] at h11
        refine rd_exit ⟨rfl, ?_⟩
        simp (config := { maxSteps := 1000000 }) only [RUN, PATHS, BASE, FA, POL, start_tm, Heap.empty, reduceIte, Nat.reduceLT, Nat.reduceLeDiff, Nat.reduceEqDiff, Nat.reduceAdd, Nat.reduceSub, Nat.reduceMul, Nat.reduceBEq, Int.reduceLT, Int.reduceLE, Int.reduceEq, Int.reduceNeg, Int.reduceAdd, Int.reduceSub, Int.reduceMul, Bool.false_eq_true, Bool.not_true, Bool.not_false, decide_eq_true_eq, and_self, true_and, and_true, reduceCtorEq, ne_eq, not_false_eq_true, not_true_eq_false, decide_true, decide_false, or_false, false_or, h11, h2', h8, h9])
  simp (config := { maxSteps := 1000000 }) only [RUN, PATHS, BASE, FA, POL, start_tm, Heap.empty, reduceIte, Nat.reduceLT, Nat.reduceLeDiff, Nat.reduceEqDiff, Nat.reduceAdd, Nat.reduceSub, Nat.reduceMul, Nat.reduceBEq, Int.reduceLT, Int.reduceLE, Int.reduceEq, Int.reduceNeg, Int.reduceAdd, Int.reduceSub, Int.reduceMul, Bool.false_eq_true, Bool.not_true, Bool.not_false, decide_eq_true_eq, and_self, true_and, and_true, reduceCtorEq, ne_eq, not_false_eq_true, not_true_eq_false, decide_true, decide_false, or_false, false_or, NUM, SIN, h11, h2', h8, h9, hd, hf, List.length_map, lo]
  clear hL
  generalize hL : W _ (.loop _) _ = L
  obtain ⟨ex, s2, rfl, rfl, h11, h16, h9, hd⟩ := loop_at hL (α := Nat) (fun j => w.length - j)
    (fun s0 j s => j ≤ w.length ∧ s.tmps 103 = I j ∧ s.tmps 102 = I w.length ∧ s.tmps 101 = .vs 1 (O.map I) none ∧ s.tmps 11 = I (SUMI (PAID l ps) - SUMI (O.take j)) ∧ s.tmps 16 = .bool (ASK (w.take j)) ∧ s.tmps 2 = .vs 1 (w.map I) none ∧ s.tmps 9 = I R ∧ s.defers = [] ∧ s.fid = 0)
    (fun s0 ex s => ex = .exit 2 ∧ s.tmps 11 = I R ∧ s.tmps 16 = .bool (ASK w) ∧ s.tmps 9 = I R ∧ s.defers = []) 0
    (by simp (config := { maxSteps := 1000000 }) only [RUN, PATHS, BASE, FA, POL, start_tm, Heap.empty, reduceIte, Nat.reduceLT, Nat.reduceLeDiff, Nat.reduceEqDiff, Nat.reduceAdd, Nat.reduceSub, Nat.reduceMul, Nat.reduceBEq, Int.reduceLT, Int.reduceLE, Int.reduceEq, Int.reduceNeg, Int.reduceAdd, Int.reduceSub, Int.reduceMul, Bool.false_eq_true, Bool.not_true, Bool.not_false, decide_eq_true_eq, and_self, true_and, and_true, reduceCtorEq, ne_eq, not_false_eq_true, not_true_eq_false, decide_true, decide_false, or_false, false_or, List.take_zero, h11, h2', h8, h9]; exact ⟨Nat.zero_le _, by simp, by simp [SUMI], rfl⟩) (by
      rintro j s r hW ⟨hj, h103, h102, h101, h11, h16, h2', h9, hd, hf⟩
      by_cases hp : j < w.length
      · have e0 : w[j]? = some w[j] := List.getElem?_eq_getElem hp
        have f0 : O[j]? = some (O[j]'(by omega)) := List.getElem?_eq_getElem _
        have e1 := map_get (f := I) e0
        have f1 := map_get (f := I) f0
        have at1 := ASK_take e0
        have st := SUMI_take f0
        have k1 := tk (j + 1)
        have k0 := tk j
        have oi := inn _ _ _ e0 f0
        have wx := (CKW_0 h2).2.2 _ (List.mem_of_getElem? e0)
        unfold OKL at wx
        rw [st] at k1
        generalize w[j] = x at *
        generalize O[j]'(by omega) = n at *
        by_cases hn : 0 < n
        · have hx := oi.2 hn
          cases hb : ASK (w.take j)
          · rw [hb] at h16 at1
            simp (config := { maxSteps := 1000000 }) only [RUN, PATHS, BASE, FA, POL, start_tm, Heap.empty, reduceIte, Nat.reduceLT, Nat.reduceLeDiff, Nat.reduceEqDiff, Nat.reduceAdd, Nat.reduceSub, Nat.reduceMul, Nat.reduceBEq, Int.reduceLT, Int.reduceLE, Int.reduceEq, Int.reduceNeg, Int.reduceAdd, Int.reduceSub, Int.reduceMul, Bool.false_eq_true, Bool.not_true, Bool.not_false, decide_eq_true_eq, and_self, true_and, and_true, reduceCtorEq, ne_eq, not_false_eq_true, not_true_eq_false, decide_true, decide_false, or_false, false_or, NUM, SIN, h103, h102, h101, h11, h16, h2', h9, hd, hf, e1, f1, lo, hn, hx, List.length_map, Int.toNat_natCast, (show (j : Int) < w.length by omega), (show (0 : Int) ≤ j by omega), (show ¬ n < 0 by omega), (show ¬ SUMI (PAID l ps) - SUMI (O.take j) < n by omega), i64_in (x := SUMI (PAID l ps) - SUMI (O.take j) - n) (by unfold I64; omega), i64_in (x := (j : Int) + 1) (by unfold I64; omega), (show 0 < x by omega)] at hW
            subst hW
            refine rd_next (j + 1) ?_ (show w.length - (j + 1) < w.length - j by omega)
            simp (config := { maxSteps := 1000000 }) only [RUN, PATHS, BASE, FA, POL, start_tm, Heap.empty, reduceIte, Nat.reduceLT, Nat.reduceLeDiff, Nat.reduceEqDiff, Nat.reduceAdd, Nat.reduceSub, Nat.reduceMul, Nat.reduceBEq, Int.reduceLT, Int.reduceLE, Int.reduceEq, Int.reduceNeg, Int.reduceAdd, Int.reduceSub, Int.reduceMul, Bool.false_eq_true, Bool.not_true, Bool.not_false, decide_eq_true_eq, and_self, true_and, and_true, reduceCtorEq, ne_eq, not_false_eq_true, not_true_eq_false, decide_true, decide_false, or_false, false_or, h102, h101, h2', h9, st, at1]
            exact ⟨by omega, by simp, by congr 1; omega, by simp; omega⟩
          · rw [hb] at h16 at1
            simp (config := { maxSteps := 1000000 }) only [RUN, PATHS, BASE, FA, POL, start_tm, Heap.empty, reduceIte, Nat.reduceLT, Nat.reduceLeDiff, Nat.reduceEqDiff, Nat.reduceAdd, Nat.reduceSub, Nat.reduceMul, Nat.reduceBEq, Int.reduceLT, Int.reduceLE, Int.reduceEq, Int.reduceNeg, Int.reduceAdd, Int.reduceSub, Int.reduceMul, Bool.false_eq_true, Bool.not_true, Bool.not_false, decide_eq_true_eq, and_self, true_and, and_true, reduceCtorEq, ne_eq, not_false_eq_true, not_true_eq_false, decide_true, decide_false, or_false, false_or, NUM, SIN, h103, h102, h101, h11, h16, h2', h9, hd, hf, e1, f1, lo, hn, hx, List.length_map, Int.toNat_natCast, (show (j : Int) < w.length by omega), (show (0 : Int) ≤ j by omega), (show ¬ n < 0 by omega), (show ¬ SUMI (PAID l ps) - SUMI (O.take j) < n by omega), i64_in (x := SUMI (PAID l ps) - SUMI (O.take j) - n) (by unfold I64; omega), i64_in (x := (j : Int) + 1) (by unfold I64; omega)] at hW
            subst hW
            refine rd_next (j + 1) ?_ (show w.length - (j + 1) < w.length - j by omega)
            simp (config := { maxSteps := 1000000 }) only [RUN, PATHS, BASE, FA, POL, start_tm, Heap.empty, reduceIte, Nat.reduceLT, Nat.reduceLeDiff, Nat.reduceEqDiff, Nat.reduceAdd, Nat.reduceSub, Nat.reduceMul, Nat.reduceBEq, Int.reduceLT, Int.reduceLE, Int.reduceEq, Int.reduceNeg, Int.reduceAdd, Int.reduceSub, Int.reduceMul, Bool.false_eq_true, Bool.not_true, Bool.not_false, decide_eq_true_eq, and_self, true_and, and_true, reduceCtorEq, ne_eq, not_false_eq_true, not_true_eq_false, decide_true, decide_false, or_false, false_or, h102, h101, h2', h9, st, at1]
            exact ⟨by omega, by simp, by congr 1; omega⟩
        · cases hb : ASK (w.take j)
          · rw [hb] at h16 at1
            simp (config := { maxSteps := 1000000 }) only [RUN, PATHS, BASE, FA, POL, start_tm, Heap.empty, reduceIte, Nat.reduceLT, Nat.reduceLeDiff, Nat.reduceEqDiff, Nat.reduceAdd, Nat.reduceSub, Nat.reduceMul, Nat.reduceBEq, Int.reduceLT, Int.reduceLE, Int.reduceEq, Int.reduceNeg, Int.reduceAdd, Int.reduceSub, Int.reduceMul, Bool.false_eq_true, Bool.not_true, Bool.not_false, decide_eq_true_eq, and_self, true_and, and_true, reduceCtorEq, ne_eq, not_false_eq_true, not_true_eq_false, decide_true, decide_false, or_false, false_or, NUM, SIN, h103, h102, h101, h11, h16, h2', h9, hd, hf, e1, f1, lo, hn, List.length_map, Int.toNat_natCast, (show (j : Int) < w.length by omega), (show (0 : Int) ≤ j by omega), (show ¬ n < 0 by omega), (show ¬ SUMI (PAID l ps) - SUMI (O.take j) < n by omega), i64_in (x := SUMI (PAID l ps) - SUMI (O.take j) - n) (by unfold I64; omega), i64_in (x := (j : Int) + 1) (by unfold I64; omega)] at hW
            subst hW
            refine rd_next (j + 1) ?_ (show w.length - (j + 1) < w.length - j by omega)
            simp (config := { maxSteps := 1000000 }) only [RUN, PATHS, BASE, FA, POL, start_tm, Heap.empty, reduceIte, Nat.reduceLT, Nat.reduceLeDiff, Nat.reduceEqDiff, Nat.reduceAdd, Nat.reduceSub, Nat.reduceMul, Nat.reduceBEq, Int.reduceLT, Int.reduceLE, Int.reduceEq, Int.reduceNeg, Int.reduceAdd, Int.reduceSub, Int.reduceMul, Bool.false_eq_true, Bool.not_true, Bool.not_false, decide_eq_true_eq, and_self, true_and, and_true, reduceCtorEq, ne_eq, not_false_eq_true, not_true_eq_false, decide_true, decide_false, or_false, false_or, h102, h101, h2', h9, st, at1]
            exact ⟨by omega, by simp, by congr 1; omega⟩
          · rw [hb] at h16 at1
            simp (config := { maxSteps := 1000000 }) only [RUN, PATHS, BASE, FA, POL, start_tm, Heap.empty, reduceIte, Nat.reduceLT, Nat.reduceLeDiff, Nat.reduceEqDiff, Nat.reduceAdd, Nat.reduceSub, Nat.reduceMul, Nat.reduceBEq, Int.reduceLT, Int.reduceLE, Int.reduceEq, Int.reduceNeg, Int.reduceAdd, Int.reduceSub, Int.reduceMul, Bool.false_eq_true, Bool.not_true, Bool.not_false, decide_eq_true_eq, and_self, true_and, and_true, reduceCtorEq, ne_eq, not_false_eq_true, not_true_eq_false, decide_true, decide_false, or_false, false_or, NUM, SIN, h103, h102, h101, h11, h16, h2', h9, hd, hf, e1, f1, lo, hn, List.length_map, Int.toNat_natCast, (show (j : Int) < w.length by omega), (show (0 : Int) ≤ j by omega), (show ¬ n < 0 by omega), (show ¬ SUMI (PAID l ps) - SUMI (O.take j) < n by omega), i64_in (x := SUMI (PAID l ps) - SUMI (O.take j) - n) (by unfold I64; omega), i64_in (x := (j : Int) + 1) (by unfold I64; omega)] at hW
            subst hW
            refine rd_next (j + 1) ?_ (show w.length - (j + 1) < w.length - j by omega)
            simp (config := { maxSteps := 1000000 }) only [RUN, PATHS, BASE, FA, POL, start_tm, Heap.empty, reduceIte, Nat.reduceLT, Nat.reduceLeDiff, Nat.reduceEqDiff, Nat.reduceAdd, Nat.reduceSub, Nat.reduceMul, Nat.reduceBEq, Int.reduceLT, Int.reduceLE, Int.reduceEq, Int.reduceNeg, Int.reduceAdd, Int.reduceSub, Int.reduceMul, Bool.false_eq_true, Bool.not_true, Bool.not_false, decide_eq_true_eq, and_self, true_and, and_true, reduceCtorEq, ne_eq, not_false_eq_true, not_true_eq_false, decide_true, decide_false, or_false, false_or, h102, h101, h2', h9, st, at1]
            exact ⟨by omega, by simp, by congr 1; omega⟩
      · simp (config := { maxSteps := 1000000 }) only [RUN, PATHS, BASE, FA, POL, start_tm, Heap.empty, reduceIte, Nat.reduceLT, Nat.reduceLeDiff, Nat.reduceEqDiff, Nat.reduceAdd, Nat.reduceSub, Nat.reduceMul, Nat.reduceBEq, Int.reduceLT, Int.reduceLE, Int.reduceEq, Int.reduceNeg, Int.reduceAdd, Int.reduceSub, Int.reduceMul, Bool.false_eq_true, Bool.not_true, Bool.not_false, decide_eq_true_eq, and_self, true_and, and_true, reduceCtorEq, ne_eq, not_false_eq_true, not_true_eq_false, decide_true, decide_false, or_false, false_or, h103, h102, hd, hf, (show ¬ (j : Int) < w.length by omega)] at hW
        subst hW
        have : j = w.length := by omega
        subst this
        rw [List.take_length] at h16
        rw [List.take_of_length_le (by omega), show SUMI (PAID l ps) - SUMI O = R by omega] at h11
        refine rd_exit ⟨rfl, ?_⟩
        simp (config := { maxSteps := 1000000 }) only [RUN, PATHS, BASE, FA, POL, start_tm, Heap.empty, reduceIte, Nat.reduceLT, Nat.reduceLeDiff, Nat.reduceEqDiff, Nat.reduceAdd, Nat.reduceSub, Nat.reduceMul, Nat.reduceBEq, Int.reduceLT, Int.reduceLE, Int.reduceEq, Int.reduceNeg, Int.reduceAdd, Int.reduceSub, Int.reduceMul, Bool.false_eq_true, Bool.not_true, Bool.not_false, decide_eq_true_eq, and_self, true_and, and_true, reduceCtorEq, ne_eq, not_false_eq_true, not_true_eq_false, decide_true, decide_false, or_false, false_or, h11, h16, h9])
  rcases ar with ar | ar
  · simp (config := { maxSteps := 1000000 }) only [RUN, PATHS, BASE, FA, POL, start_tm, Heap.empty, reduceIte, Nat.reduceLT, Nat.reduceLeDiff, Nat.reduceEqDiff, Nat.reduceAdd, Nat.reduceSub, Nat.reduceMul, Nat.reduceBEq, Int.reduceLT, Int.reduceLE, Int.reduceEq, Int.reduceNeg, Int.reduceAdd, Int.reduceSub, Int.reduceMul, Bool.false_eq_true, Bool.not_true, Bool.not_false, decide_eq_true_eq, and_self, true_and, and_true, reduceCtorEq, ne_eq, not_false_eq_true, not_true_eq_false, decide_true, decide_false, or_false, false_or, NUM, h11, h16, h9, hd, ar]
  · rw [ar] at h16
    by_cases hR : R = 0
    · simp (config := { maxSteps := 1000000 }) only [RUN, PATHS, BASE, FA, POL, start_tm, Heap.empty, reduceIte, Nat.reduceLT, Nat.reduceLeDiff, Nat.reduceEqDiff, Nat.reduceAdd, Nat.reduceSub, Nat.reduceMul, Nat.reduceBEq, Int.reduceLT, Int.reduceLE, Int.reduceEq, Int.reduceNeg, Int.reduceAdd, Int.reduceSub, Int.reduceMul, Bool.false_eq_true, Bool.not_true, Bool.not_false, decide_eq_true_eq, and_self, true_and, and_true, reduceCtorEq, ne_eq, not_false_eq_true, not_true_eq_false, decide_true, decide_false, or_false, false_or, NUM, h11, h16, h9, hd, hR]
    · simp (config := { maxSteps := 1000000 }) only [RUN, PATHS, BASE, FA, POL, start_tm, Heap.empty, reduceIte, Nat.reduceLT, Nat.reduceLeDiff, Nat.reduceEqDiff, Nat.reduceAdd, Nat.reduceSub, Nat.reduceMul, Nat.reduceBEq, Int.reduceLT, Int.reduceLE, Int.reduceEq, Int.reduceNeg, Int.reduceAdd, Int.reduceSub, Int.reduceMul, Bool.false_eq_true, Bool.not_true, Bool.not_false, decide_eq_true_eq, and_self, true_and, and_true, reduceCtorEq, ne_eq, not_false_eq_true, not_true_eq_false, decide_true, decide_false, or_false, false_or, NUM, h11, h16, h9, hd, hR]
end Go.Proofs.Ytnabgahkdomeoaa
