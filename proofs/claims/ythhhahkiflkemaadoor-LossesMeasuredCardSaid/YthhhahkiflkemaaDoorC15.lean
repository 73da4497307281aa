/-
  Surveyed losses are right ones, and are what a parcel loses.
-/
import Derived.Test.YthhhahkiflkemaaDoorC12
set_option linter.unusedSimpArgs false
set_option linter.unusedVariables false
set_option linter.unusedSectionVars false
namespace Go.Proofs.YthhhahkiflkemaaDoor
open Go GoV
set_option maxRecDepth 100000

theorem MEET_in (a : Rg) (l : List Rg) : (MEET a l).hi ≤ a.hi ∧ a.lo ≤ (MEET a l).lo ∧ ∀ z ∈ l, (MEET a l).hi ≤ z.hi ∧ z.lo ≤ (MEET a l).lo := by
  induction l generalizing a with
  | nil => exact ⟨Int.le_refl _, Int.le_refl _, by simp⟩
  | cons y l ih =>
    obtain ⟨h1, h2, h3⟩ := ih ⟨max a.lo y.lo, min a.hi y.hi⟩
    simp only at h1 h2
    refine ⟨by simp only [MEET]; omega, by simp only [MEET]; omega, ?_⟩
    intro z hz
    rcases List.mem_cons.1 hz with rfl | hz
    · simp only [MEET]; omega
    · exact h3 z hz
theorem MK_sh (n : Int) (h : 0 ≤ n ∧ n ≤ 1048576) : ∃ g : Int, 0 < g ∧ (MK n 1048576).1 * g = n ∧ (MK n 1048576).2.1 * g = 1048576 ∧ VALID (MK n 1048576).1 (MK n 1048576).2.1 ∧ 0 ≤ (MK n 1048576).1 ∧ (MK n 1048576).1 ≤ (MK n 1048576).2.1 := by
  obtain ⟨k, rfl⟩ := Int.eq_ofNat_of_zero_le h.1
  have hk : k ≤ 1048576 := by omega
  have gp : 0 < Nat.gcd k 1048576 := Nat.gcd_pos_of_pos_right _ (by decide)
  have d1 := Nat.gcd_dvd_left k 1048576
  have d2 := Nat.gcd_dvd_right k 1048576
  have e : MK (k : Int) 1048576 = (((k / Nat.gcd k 1048576 : Nat) : Int), ((1048576 / Nat.gcd k 1048576 : Nat) : Int), 0) := by
    unfold MK
    rw [if_neg (by decide)]
    have m1 : mag (k : Int) = (k : Int) := by unfold mag; rw [if_neg (by omega)]
    have m2 : mag 1048576 = ((1048576 : Nat) : Int) := by decide
    simp only [m1, m2, Int.natAbs_natCast, show (1048576 : Int).natAbs = 1048576 from rfl, ← Int.natCast_ediv]
    have b1 : k / Nat.gcd k 1048576 ≤ k := Nat.div_le_self _ _
    have b2 : 1048576 / Nat.gcd k 1048576 ≤ 1048576 := Nat.div_le_self _ _
    rw [if_neg (by omega)]
    simp [show ¬ ((k : Int) < 0) by omega]
  rw [e]
  simp only
  have c1 := Nat.div_mul_cancel d1
  have c2 := Nat.div_mul_cancel d2
  have cop : Nat.gcd (k / Nat.gcd k 1048576) (1048576 / Nat.gcd k 1048576) = 1 := Nat.coprime_div_gcd_div_gcd gp
  have b1 : k / Nat.gcd k 1048576 ≤ k := Nat.div_le_self _ _
  have b2 : 1048576 / Nat.gcd k 1048576 ≤ 1048576 := Nat.div_le_self _ _
  have b3 : 0 < 1048576 / Nat.gcd k 1048576 := Nat.div_pos (Nat.le_of_dvd (by decide) d2) gp
  have b4 : k / Nat.gcd k 1048576 ≤ 1048576 / Nat.gcd k 1048576 := Nat.div_le_div_right hk
  generalize k / Nat.gcd k 1048576 = A at *
  generalize 1048576 / Nat.gcd k 1048576 = B at *
  refine ⟨(Nat.gcd k 1048576 : Nat), by omega, by rw [← Int.natCast_mul, c1], by rw [← Int.natCast_mul, c2]; rfl, ⟨by omega, by omega, by omega, by omega, ?_⟩, by omega, by omega⟩
  rw [Int.natAbs_natCast, Int.natAbs_natCast]; exact cop
theorem MK_shs (n m : Int) (h0 : 0 ≤ n) (h : n ≤ m) (h1 : m ≤ 1048576) : SHS (MK n 1048576).1 (MK n 1048576).2.1 (MK m 1048576).1 (MK m 1048576).2.1 := by
  obtain ⟨g, g0, a1, a2, v, s0, s1⟩ := MK_sh n ⟨h0, by omega⟩
  obtain ⟨f, f0, b1, b2, w, t0, t1⟩ := MK_sh m ⟨by omega, h1⟩
  refine ⟨⟨v, s0, s1⟩, ⟨w, t0, t1⟩, ?_⟩
  generalize (MK n 1048576).1 = a at *
  generalize (MK n 1048576).2.1 = b at *
  generalize (MK m 1048576).1 = c at *
  generalize (MK m 1048576).2.1 = d at *
  have key : g * f * (a * d) ≤ g * f * (c * b) := by
    calc g * f * (a * d) = (a * g) * (d * f) := by rw [Int.mul_comm a g, Int.mul_comm d f, Int.mul_assoc, Int.mul_assoc, Int.mul_left_comm f a d]
      _ = n * 1048576 := by rw [a1, b2]
      _ ≤ m * 1048576 := by omega
      _ = (c * f) * (b * g) := by rw [b1, a2]
      _ = g * f * (c * b) := by rw [Int.mul_comm c f, Int.mul_comm b g, Int.mul_assoc, Int.mul_left_comm c g b, Int.mul_left_comm f g (c * b), ← Int.mul_assoc g f]
  exact Int.le_of_mul_le_mul_left key (Int.mul_pos g0 f0)
theorem EVR_bd {S : Srv} {delay : Int} (hK : SRVK S) (hd : 1 ≤ delay ∧ delay ≤ 16) : 0 ≤ (EVR S delay).lo ∧ (EVR S delay).hi ≤ 1073741824 := by
  have m := MEET_in ⟨0, 1099511627776⟩ (((DEPTHS S).take (DEPTHS S).length).map (EVL S delay))
  refine ⟨m.2.1, ?_⟩
  obtain ⟨x, hx, px⟩ : ∃ x, x ∈ DEPTHS S ∧ PANK x := by
    unfold DEPTHS
    by_cases h0 : S.pans.length = 0
    · rw [if_pos h0]; exact ⟨⟨0, 240⟩, by simp, by unfold PANK; decide⟩
    · rw [if_neg h0]
      have hl : 0 < S.pans.length := by omega
      exact ⟨S.pans[0], List.getElem_mem hl, hK.2.1 _ (List.getElem_mem hl)⟩
  have m2 := m.2.2 (EVL S delay x) (List.mem_map.2 ⟨x, by rw [List.take_length]; exact hx, rfl⟩)
  refine Int.le_trans m2.1 ?_
  obtain ⟨b1, b2, b3, b4, b5, b6, b7⟩ := ev_bd hK hd px
  show UPD (S.n1 * x.hi * (S.su * delay)) (240 * S.d1) ≤ 1073741824
  refine UPD_le (by omega) ?_
  have n1 := hK.1.2.2.1.2.1.2
  have p1 : S.n1 * x.hi ≤ S.d1 * 1000 := Int.mul_le_mul n1.2 px.2.2 (by have := px.1; have := px.2.1; omega) (by omega)
  have p2 : S.n1 * x.hi * (S.su * delay) ≤ S.d1 * 1000 * 16777216 := Int.mul_le_mul p1 b1.2 b1.1 (by omega)
  omega
theorem c_few (S : Srv) (c c' : Option Nat) : ∃ b, ap Tryd.prog pol 12 [srv S c c'] = some (.ret (.bool b)) := by
  rw [ap_eq _ Tryd.func12 rfl Tryd.ntmps12 Tryd.results12 (by kernel_rfl) rfl (by exact Nat.le_of_ble_eq_true rfl)]
  simp (config := { maxSteps := 1000000 }) only [RUN, PATHS, BASE, FA, POL, start_tm, Heap.empty, reduceIte, Nat.reduceLT, Nat.reduceLeDiff, Nat.reduceEqDiff, Nat.reduceAdd, Nat.reduceSub, Nat.reduceMul, Nat.reduceBEq, Int.reduceLT, Int.reduceLE, Int.reduceEq, Int.reduceNeg, Int.reduceAdd, Int.reduceSub, Int.reduceMul, Bool.false_eq_true, Bool.not_true, Bool.not_false, decide_eq_true_eq, and_self, true_and, and_true, reduceCtorEq, ne_eq, not_false_eq_true, not_true_eq_false, decide_true, decide_false, or_false, false_or, NUM, List.length_map, b_and]
  exact ⟨_, rfl⟩
theorem w_surveyed (S : Srv) (hS : S.OK) (delay v : Int) (hde : I64 delay) (hvi : I64 v) : ap Tryd.prog pol 10 [srv S none none, I delay, I v] = some (.ret (.bool true)) := by
  obtain ⟨b, eb⟩ := c_few S none none
  have ce := c_evap S hS none none delay
  have cs := c_seep S hS none none delay
  by_cases h : CK S delay = 0
  rotate_left
  · rw [if_neg h] at ce cs
    rw [ap_eq _ Tryd.func10 rfl Tryd.ntmps10 Tryd.results10 (by kernel_rfl) rfl (by exact Nat.le_of_ble_eq_true rfl)]
    cases b <;> simp (config := { maxSteps := 1000000 }) only [RUN, PATHS, BASE, FA, POL, start_tm, Heap.empty, reduceIte, Nat.reduceLT, Nat.reduceLeDiff, Nat.reduceEqDiff, Nat.reduceAdd, Nat.reduceSub, Nat.reduceMul, Nat.reduceBEq, Int.reduceLT, Int.reduceLE, Int.reduceEq, Int.reduceNeg, Int.reduceAdd, Int.reduceSub, Int.reduceMul, Bool.false_eq_true, Bool.not_true, Bool.not_false, decide_eq_true_eq, and_self, true_and, and_true, reduceCtorEq, ne_eq, not_false_eq_true, not_true_eq_false, decide_true, decide_false, or_false, false_or, NUM, SRG, SPND, c_sane, eb, ce, cs, h]
  rw [if_pos h] at ce cs
  by_cases he : (EVR S delay).hi < (EVR S delay).lo
  · rw [if_pos he] at ce
    rw [ap_eq _ Tryd.func10 rfl Tryd.ntmps10 Tryd.results10 (by kernel_rfl) rfl (by exact Nat.le_of_ble_eq_true rfl)]
    by_cases hs : (SER S delay).hi < (SER S delay).lo
    · rw [if_pos hs] at cs
      cases b <;> simp (config := { maxSteps := 1000000 }) only [RUN, PATHS, BASE, FA, POL, start_tm, Heap.empty, reduceIte, Nat.reduceLT, Nat.reduceLeDiff, Nat.reduceEqDiff, Nat.reduceAdd, Nat.reduceSub, Nat.reduceMul, Nat.reduceBEq, Int.reduceLT, Int.reduceLE, Int.reduceEq, Int.reduceNeg, Int.reduceAdd, Int.reduceSub, Int.reduceMul, Bool.false_eq_true, Bool.not_true, Bool.not_false, decide_eq_true_eq, and_self, true_and, and_true, reduceCtorEq, ne_eq, not_false_eq_true, not_true_eq_false, decide_true, decide_false, or_false, false_or, NUM, SRG, SPND, c_sane, eb, ce, cs]
    · rw [if_neg hs] at cs
      cases b <;> simp (config := { maxSteps := 1000000 }) only [RUN, PATHS, BASE, FA, POL, start_tm, Heap.empty, reduceIte, Nat.reduceLT, Nat.reduceLeDiff, Nat.reduceEqDiff, Nat.reduceAdd, Nat.reduceSub, Nat.reduceMul, Nat.reduceBEq, Int.reduceLT, Int.reduceLE, Int.reduceEq, Int.reduceNeg, Int.reduceAdd, Int.reduceSub, Int.reduceMul, Bool.false_eq_true, Bool.not_true, Bool.not_false, decide_eq_true_eq, and_self, true_and, and_true, reduceCtorEq, ne_eq, not_false_eq_true, not_true_eq_false, decide_true, decide_false, or_false, false_or, NUM, SRG, SPND, c_sane, eb, ce, cs]
  rw [if_neg he] at ce
  by_cases hs : (SER S delay).hi < (SER S delay).lo
  · rw [if_pos hs] at cs
    rw [ap_eq _ Tryd.func10 rfl Tryd.ntmps10 Tryd.results10 (by kernel_rfl) rfl (by exact Nat.le_of_ble_eq_true rfl)]
    cases b <;> simp (config := { maxSteps := 1000000 }) only [RUN, PATHS, BASE, FA, POL, start_tm, Heap.empty, reduceIte, Nat.reduceLT, Nat.reduceLeDiff, Nat.reduceEqDiff, Nat.reduceAdd, Nat.reduceSub, Nat.reduceMul, Nat.reduceBEq, Int.reduceLT, Int.reduceLE, Int.reduceEq, Int.reduceNeg, Int.reduceAdd, Int.reduceSub, Int.reduceMul, Bool.false_eq_true, Bool.not_true, Bool.not_false, decide_eq_true_eq, and_self, true_and, and_true, reduceCtorEq, ne_eq, not_false_eq_true, not_true_eq_false, decide_true, decide_false, or_false, false_or, NUM, SRG, SPND, c_sane, eb, ce, cs]
  rw [if_neg hs] at cs
  obtain ⟨⟨l1, l2⟩, hK, d1, d2⟩ := CK_0.1 h
  have eb' := EVR_bd hK ⟨d1, d2⟩
  have sb := soil_bd S.so
  have mb := MEET_bd (SE0 S delay) ((S.ponds.take S.ponds.length).map (SEL delay)) ⟨Int.mul_nonneg sb.1 (by omega), by show min 1048576 (shi S.so * delay) ≤ 1048576; omega⟩
  change (SER S delay).hi ≤ 1048576 ∧ 0 ≤ (SER S delay).lo ∧ _ at mb
  have sh := MK_shs (SER S delay).lo (SER S delay).hi mb.2.1 (by omega) mb.1
  have rr : RIGHT ⟨.empty, 0, 0, 0, 0, 0, (EVR S delay).lo, (EVR S delay).hi, (MK (SER S delay).lo 1048576).1, (MK (SER S delay).lo 1048576).2.1, (MK (SER S delay).hi 1048576).1, (MK (SER S delay).hi 1048576).2.1⟩ := ⟨⟨eb'.1, by show (EVR S delay).lo ≤ (EVR S delay).hi; omega, eb'.2⟩, sh⟩
  have ce : ap Tryd.prog pol 13 [srv S none none, I delay] = some (.ret (.tup [.agg [I (EVR S delay).lo, I (EVR S delay).hi], I 0])) := ce
  generalize (MK (SER S delay).lo 1048576).1 = n0 at *
  generalize (MK (SER S delay).lo 1048576).2.1 = k0 at *
  generalize (MK (SER S delay).hi 1048576).1 = n1 at *
  generalize (MK (SER S delay).hi 1048576).2.1 = k1 at *
  generalize (EVR S delay).lo = e0 at *
  generalize (EVR S delay).hi = e1 at *
  obtain ⟨⟨v1, x1, x2⟩, ⟨v2, y1, y2⟩, _⟩ := sh
  have iv : I64 n0 ∧ I64 k0 ∧ I64 n1 ∧ I64 k1 := by
    obtain ⟨p1, p2, p3, p4, _⟩ := v1
    obtain ⟨q1, q2, q3, q4, _⟩ := v2
    unfold I64; omega
  have cl := c_Lost ⟨.empty, 0, 0, 0, 0, 0, e0, e1, n0, k0, n1, k1⟩ iv v
  by_cases hv : 0 ≤ v ∧ v ≤ 1073741824
  rotate_left
  · have hc : VC ⟨.empty, 0, 0, 0, 0, 0, e0, e1, n0, k0, n1, k1⟩ v = 1 := by unfold VC; rw [if_pos rr, if_neg hv]
    rw [hc, if_neg (by decide)] at cl
    rw [ap_eq _ Tryd.func10 rfl Tryd.ntmps10 Tryd.results10 (by kernel_rfl) rfl (by exact Nat.le_of_ble_eq_true rfl)]
    cases b
    · simp (config := { maxSteps := 1000000 }) only [RUN, PATHS, BASE, FA, POL, start_tm, Heap.empty, reduceIte, Nat.reduceLT, Nat.reduceLeDiff, Nat.reduceEqDiff, Nat.reduceAdd, Nat.reduceSub, Nat.reduceMul, Nat.reduceBEq, Int.reduceLT, Int.reduceLE, Int.reduceEq, Int.reduceNeg, Int.reduceAdd, Int.reduceSub, Int.reduceMul, Bool.false_eq_true, Bool.not_true, Bool.not_false, decide_eq_true_eq, and_self, true_and, and_true, reduceCtorEq, ne_eq, not_false_eq_true, not_true_eq_false, decide_true, decide_false, or_false, false_or, NUM, SRG, SPND, c_sane, eb]
    by_cases h3 : v < 0
    · simp (config := { maxSteps := 1000000 }) only [RUN, PATHS, BASE, FA, POL, start_tm, Heap.empty, reduceIte, Nat.reduceLT, Nat.reduceLeDiff, Nat.reduceEqDiff, Nat.reduceAdd, Nat.reduceSub, Nat.reduceMul, Nat.reduceBEq, Int.reduceLT, Int.reduceLE, Int.reduceEq, Int.reduceNeg, Int.reduceAdd, Int.reduceSub, Int.reduceMul, Bool.false_eq_true, Bool.not_true, Bool.not_false, decide_eq_true_eq, and_self, true_and, and_true, reduceCtorEq, ne_eq, not_false_eq_true, not_true_eq_false, decide_true, decide_false, or_false, false_or, NUM, SRG, SPND, c_sane, eb, ce, cs, cl, h3]
    · simp (config := { maxSteps := 1000000 }) only [RUN, PATHS, BASE, FA, POL, start_tm, Heap.empty, reduceIte, Nat.reduceLT, Nat.reduceLeDiff, Nat.reduceEqDiff, Nat.reduceAdd, Nat.reduceSub, Nat.reduceMul, Nat.reduceBEq, Int.reduceLT, Int.reduceLE, Int.reduceEq, Int.reduceNeg, Int.reduceAdd, Int.reduceSub, Int.reduceMul, Bool.false_eq_true, Bool.not_true, Bool.not_false, decide_eq_true_eq, and_self, true_and, and_true, reduceCtorEq, ne_eq, not_false_eq_true, not_true_eq_false, decide_true, decide_false, or_false, false_or, NUM, SRG, SPND, c_sane, eb, ce, cs, cl, h3, (show 1073741824 < v by omega)]
  have hc := (VC_0 ⟨.empty, 0, 0, 0, 0, 0, e0, e1, n0, k0, n1, k1⟩ v).2 ⟨rr, hv⟩
  rw [if_pos hc] at cl
  have p1 := lo_part rr.RT hv.1
  have p2 := hi_part rr.RT hv.1
  have u := UPD_neg (x := n1 * v) (d := k1) v2.1
  rw [← Int.neg_mul] at u
  have t1 := c_times n0 k0 v iv.1 iv.2.1 hvi
  have t2 := c_times n1 k1 v iv.2.2.1 iv.2.2.2 hvi
  simp only [TIMES, v1, v2, if_true, if_neg (show ¬ (v < -1073741824 ∨ 1073741824 < v) by omega)] at t1 t2
  rw [u] at t2
  simp only [los] at p1 p2 cl
  rw [ap_eq _ Tryd.func10 rfl Tryd.ntmps10 Tryd.results10 (by kernel_rfl) rfl (by exact Nat.le_of_ble_eq_true rfl)]
  cases b
  · simp (config := { maxSteps := 1000000 }) only [RUN, PATHS, BASE, FA, POL, start_tm, Heap.empty, reduceIte, Nat.reduceLT, Nat.reduceLeDiff, Nat.reduceEqDiff, Nat.reduceAdd, Nat.reduceSub, Nat.reduceMul, Nat.reduceBEq, Int.reduceLT, Int.reduceLE, Int.reduceEq, Int.reduceNeg, Int.reduceAdd, Int.reduceSub, Int.reduceMul, Bool.false_eq_true, Bool.not_true, Bool.not_false, decide_eq_true_eq, and_self, true_and, and_true, reduceCtorEq, ne_eq, not_false_eq_true, not_true_eq_false, decide_true, decide_false, or_false, false_or, NUM, SRG, SPND, c_sane, eb]
  by_cases hv0 : v = 0
  · subst hv0
    simp only [LO, HI, if_true] at cl
    simp (config := { maxSteps := 1000000 }) only [RUN, PATHS, BASE, FA, POL, start_tm, Heap.empty, reduceIte, Nat.reduceLT, Nat.reduceLeDiff, Nat.reduceEqDiff, Nat.reduceAdd, Nat.reduceSub, Nat.reduceMul, Nat.reduceBEq, Int.reduceLT, Int.reduceLE, Int.reduceEq, Int.reduceNeg, Int.reduceAdd, Int.reduceSub, Int.reduceMul, Bool.false_eq_true, Bool.not_true, Bool.not_false, decide_eq_true_eq, and_self, true_and, and_true, reduceCtorEq, ne_eq, not_false_eq_true, not_true_eq_false, decide_true, decide_false, or_false, false_or, NUM, SRG, SPND, c_sane, eb, ce, cs, cl, eq_rng, and_self]
  · simp only [LO, HI, if_neg hv0] at cl
    simp (config := { maxSteps := 1000000 }) only [RUN, PATHS, BASE, FA, POL, start_tm, Heap.empty, reduceIte, Nat.reduceLT, Nat.reduceLeDiff, Nat.reduceEqDiff, Nat.reduceAdd, Nat.reduceSub, Nat.reduceMul, Nat.reduceBEq, Int.reduceLT, Int.reduceLE, Int.reduceEq, Int.reduceNeg, Int.reduceAdd, Int.reduceSub, Int.reduceMul, Bool.false_eq_true, Bool.not_true, Bool.not_false, decide_eq_true_eq, and_self, true_and, and_true, reduceCtorEq, ne_eq, not_false_eq_true, not_true_eq_false, decide_true, decide_false, or_false, false_or, NUM, SRG, SPND, c_sane, eb, ce, cs, cl, eq_rng, and_self, hv0, t1, t2, i64_in (x := e0 + n0 * v / k0) (by have := rr.1; simp only at this; unfold I64; omega), i64_in (x := e1 + UPD (n1 * v) k1) (by have := rr.1; simp only at this; unfold I64; omega)]
end Go.Proofs.YthhhahkiflkemaaDoor
