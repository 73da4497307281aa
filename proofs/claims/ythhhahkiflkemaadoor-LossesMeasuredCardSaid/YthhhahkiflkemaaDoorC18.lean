/-
  A further measurement never widens what is known.
-/
import Derived.Test.YthhhahkiflkemaaDoorC17
set_option linter.unusedSimpArgs false
set_option linter.unusedVariables false
set_option linter.unusedSectionVars false
namespace Go.Proofs.YthhhahkiflkemaaDoor
open Go GoV
set_option maxRecDepth 100000

/-- With a further measurement of each kind. -/
def Srv.more (S : Srv) (pan : Rg) (pond : Pnd) : Srv := ⟨S.su, S.so, S.n0, S.d0, S.n1, S.d1, S.pans ++ [pan], S.ponds ++ [pond]⟩
theorem EVR_more {S : Srv} {pan : Rg} {pond : Pnd} {delay : Int} (h0 : S.pans.length ≠ 0) : (EVR S delay).lo ≤ (EVR (S.more pan pond) delay).lo ∧ (EVR (S.more pan pond) delay).hi ≤ (EVR S delay).hi := by
  have e : EVR S delay = MEET ⟨0, 1099511627776⟩ (S.pans.map (EVL S delay)) := by
    unfold EVR EVS DEPTHS
    rw [if_neg h0, List.take_length]
  have e' : EVR (S.more pan pond) delay = MEET ⟨0, 1099511627776⟩ (S.pans.map (EVL S delay) ++ [EVL S delay pan]) := by
    unfold EVR EVS DEPTHS
    rw [if_neg (show ¬ (S.more pan pond).pans.length = 0 by simp [Srv.more]), List.take_length]
    show MEET _ ((S.pans ++ [pan]).map (EVL S delay)) = _
    rw [List.map_append]; rfl
  rw [e, e', MEET_app]
  simp only
  omega
theorem SER_more {S : Srv} {pan : Rg} {pond : Pnd} {delay : Int} : (SER S delay).lo ≤ (SER (S.more pan pond) delay).lo ∧ (SER (S.more pan pond) delay).hi ≤ (SER S delay).hi := by
  have e : SER S delay = MEET (SE0 S delay) (S.ponds.map (SEL delay)) := by
    unfold SER SES
    rw [List.take_length]
  have e' : SER (S.more pan pond) delay = MEET (SE0 S delay) (S.ponds.map (SEL delay) ++ [SEL delay pond]) := by
    unfold SER SES
    rw [List.take_length]
    show MEET _ ((S.ponds ++ [pond]).map (SEL delay)) = _
    rw [List.map_append]; rfl
  rw [e, e', MEET_app]
  simp only
  omega
theorem MK_cmp (n m : Int) (h0 : 0 ≤ n) (h : n ≤ m) (h1 : m ≤ 1048576) : ∃ z : Int, z ≤ 0 ∧
    ap Tryd.prog pol 29 [.agg [I (MK n 1048576).1, I (MK n 1048576).2.1], .agg [I (MK m 1048576).1, I (MK m 1048576).2.1]] = some (.ret (.tup [I z, I 0])) := by
  obtain ⟨⟨v, a0, a1⟩, ⟨w, b0, b1⟩, c⟩ := MK_shs n m h0 h h1
  generalize (MK n 1048576).1 = a at *
  generalize (MK n 1048576).2.1 = b at *
  generalize (MK m 1048576).1 = c' at *
  generalize (MK m 1048576).2.1 = d at *
  have iv : I64 a ∧ I64 b ∧ I64 c' ∧ I64 d := by
    obtain ⟨p1, p2, p3, p4, _⟩ := v
    obtain ⟨q1, q2, q3, q4, _⟩ := w
    unfold I64; omega
  have wp := wrap_prod ⟨v, w⟩
  have e : CMPR a b c' d = (CMP (a * d) (c' * b), 0) := by simp only [CMPR, v, w, and_self, if_true, wp]
  refine ⟨CMP (a * d) (c' * b), (CMP_le _ _).2 c, ?_⟩
  have := c_cmp a b c' d iv.1 iv.2.1 iv.2.2.1 iv.2.2.2
  rw [e] at this
  exact this
theorem FITS : (∀ l : List Rg, ((l.map rg).all fun e => e.fits 2) = true) ∧ (∀ l : List Pnd, ((l.map pnd).all fun e => e.fits 4) = true) := by
  refine ⟨fun l => ?_, fun l => ?_⟩ <;> · rw [List.all_map]; exact List.all_eq_true.2 fun x _ => rfl
/-- What both surveys tell, or what is wrong. -/
theorem ev_t (S : Srv) (hS : S.OK) (delay : Int) : ∃ (a : Rg) (e : Int), ap Tryd.prog pol 13 [srv S none none, I delay] = some (.ret (.tup [.agg [I a.lo, I a.hi], I e])) ∧ (e = 0 → a = EVR S delay) := by
  have ce := c_evap S hS none none delay
  by_cases h : CK S delay = 0
  · by_cases he : (EVR S delay).hi < (EVR S delay).lo
    · rw [if_pos h, if_pos he] at ce; exact ⟨⟨0, 0⟩, 210, ce, fun e => absurd e (by decide)⟩
    · rw [if_pos h, if_neg he] at ce; exact ⟨_, 0, ce, fun _ => rfl⟩
  · rw [if_neg h] at ce; exact ⟨⟨0, 0⟩, CK S delay, ce, fun e => absurd e h⟩
theorem se_t (S : Srv) (hS : S.OK) (delay : Int) : ∃ (a b c d : Int) (e : Int), ap Tryd.prog pol 15 [srv S none none, I delay] = some (.ret (.tup [.agg [I a, I b, I c, I d], I e])) ∧
    (e = 0 → a = (MK (SER S delay).lo 1048576).1 ∧ b = (MK (SER S delay).lo 1048576).2.1 ∧ c = (MK (SER S delay).hi 1048576).1 ∧ d = (MK (SER S delay).hi 1048576).2.1 ∧ 0 ≤ (SER S delay).lo ∧ (SER S delay).lo ≤ (SER S delay).hi ∧ (SER S delay).hi ≤ 1048576) := by
  have cs := c_seep S hS none none delay
  by_cases h : CK S delay = 0
  · by_cases he : (SER S delay).hi < (SER S delay).lo
    · rw [if_pos h, if_pos he] at cs; exact ⟨0, 0, 0, 0, 210, cs, fun e => absurd e (by decide)⟩
    · rw [if_pos h, if_neg he] at cs
      obtain ⟨⟨l1, l2⟩, hK, d1, d2⟩ := CK_0.1 h
      have sb := soil_bd S.so
      have mb := MEET_bd (SE0 S delay) ((S.ponds.take S.ponds.length).map (SEL delay)) ⟨Int.mul_nonneg sb.1 (by omega), by show min 1048576 (shi S.so * delay) ≤ 1048576; omega⟩
      change (SER S delay).hi ≤ 1048576 ∧ 0 ≤ (SER S delay).lo ∧ _ at mb
      exact ⟨_, _, _, _, 0, cs, fun _ => ⟨rfl, rfl, rfl, rfl, mb.2.1, by omega, mb.1⟩⟩
  · rw [if_neg h] at cs; exact ⟨0, 0, 0, 0, CK S delay, cs, fun e => absurd e h⟩
theorem w_measured (S : Srv) (hS : S.OK) (pan : Rg) (pond : Pnd) (delay : Int) : ap Tryd.prog pol 9 [srv S none none, rg pan, pnd pond, I delay] = some (.ret (.bool true)) := by
  by_cases l1 : 15 < S.pans.length
  · rw [ap_eq _ Tryd.func9 rfl Tryd.ntmps9 Tryd.results9 (by kernel_rfl) rfl (by exact Nat.le_of_ble_eq_true rfl)]
    simp (config := { maxSteps := 1000000 }) only [RUN, PATHS, BASE, FA, POL, start_tm, Heap.empty, reduceIte, Nat.reduceLT, Nat.reduceLeDiff, Nat.reduceEqDiff, Nat.reduceAdd, Nat.reduceSub, Nat.reduceMul, Nat.reduceBEq, Int.reduceLT, Int.reduceLE, Int.reduceEq, Int.reduceNeg, Int.reduceAdd, Int.reduceSub, Int.reduceMul, Bool.false_eq_true, Bool.not_true, Bool.not_false, decide_eq_true_eq, and_self, true_and, and_true, reduceCtorEq, ne_eq, not_false_eq_true, not_true_eq_false, decide_true, decide_false, or_false, false_or, NUM, SRG, SPND, c_sane, List.length_map, l1, (show (15 : Int) < S.pans.length by omega)]
  by_cases l2 : 15 < S.ponds.length
  · rw [ap_eq _ Tryd.func9 rfl Tryd.ntmps9 Tryd.results9 (by kernel_rfl) rfl (by exact Nat.le_of_ble_eq_true rfl)]
    simp (config := { maxSteps := 1000000 }) only [RUN, PATHS, BASE, FA, POL, start_tm, Heap.empty, reduceIte, Nat.reduceLT, Nat.reduceLeDiff, Nat.reduceEqDiff, Nat.reduceAdd, Nat.reduceSub, Nat.reduceMul, Nat.reduceBEq, Int.reduceLT, Int.reduceLE, Int.reduceEq, Int.reduceNeg, Int.reduceAdd, Int.reduceSub, Int.reduceMul, Bool.false_eq_true, Bool.not_true, Bool.not_false, decide_eq_true_eq, and_self, true_and, and_true, reduceCtorEq, ne_eq, not_false_eq_true, not_true_eq_false, decide_true, decide_false, or_false, false_or, NUM, SRG, SPND, c_sane, List.length_map, l1, l2, (show ¬ (15 : Int) < S.pans.length by omega), (show (15 : Int) < S.ponds.length by omega)]
  by_cases l3 : S.pans.length = 0
  · rw [ap_eq _ Tryd.func9 rfl Tryd.ntmps9 Tryd.results9 (by kernel_rfl) rfl (by exact Nat.le_of_ble_eq_true rfl)]
    simp (config := { maxSteps := 1000000 }) only [RUN, PATHS, BASE, FA, POL, start_tm, Heap.empty, reduceIte, Nat.reduceLT, Nat.reduceLeDiff, Nat.reduceEqDiff, Nat.reduceAdd, Nat.reduceSub, Nat.reduceMul, Nat.reduceBEq, Int.reduceLT, Int.reduceLE, Int.reduceEq, Int.reduceNeg, Int.reduceAdd, Int.reduceSub, Int.reduceMul, Bool.false_eq_true, Bool.not_true, Bool.not_false, decide_eq_true_eq, and_self, true_and, and_true, reduceCtorEq, ne_eq, not_false_eq_true, not_true_eq_false, decide_true, decide_false, or_false, false_or, NUM, SRG, SPND, c_sane, List.length_map, (show ¬ (15 : Int) < S.pans.length by omega), (show ¬ (15 : Int) < S.ponds.length by omega), (show (S.pans.length : Int) = 0 by omega)]
  have e1 : (S.pans.map rg).isEmpty = false := by cases h : S.pans <;> simp [h] at l3 ⊢
  obtain ⟨a, e, ce, ha⟩ := ev_t S hS delay
  obtain ⟨b, f, ce', hb⟩ := ev_t (S.more pan pond) hS delay
  obtain ⟨c0, c1, c2, c3, g, cs, hc⟩ := se_t S hS delay
  obtain ⟨d0, d1, d2, d3, h, cs', hd⟩ := se_t (S.more pan pond) hS delay
  have em := EVR_more (pan := pan) (pond := pond) (delay := delay) l3
  have sm := SER_more (S := S) (pan := pan) (pond := pond) (delay := delay)
  have n1 : e = 0 → f = 0 → ¬ b.lo < a.lo ∧ ¬ a.hi < b.hi := fun he hf => by rw [ha he, hb hf]; omega
  obtain ⟨z, y, n2⟩ : ∃ z y : Int, g = 0 → h = 0 → z ≤ 0 ∧ y ≤ 0 ∧ ap Tryd.prog pol 29 [.agg [I c0, I c1], .agg [I d0, I d1]] = some (.ret (.tup [I z, I 0])) ∧ ap Tryd.prog pol 29 [.agg [I d2, I d3], .agg [I c2, I c3]] = some (.ret (.tup [I y, I 0])) := by
    by_cases hg : g = 0
    rotate_left
    · exact ⟨0, 0, fun g => absurd g hg⟩
    by_cases hh : h = 0
    rotate_left
    · exact ⟨0, 0, fun _ g => absurd g hh⟩
    obtain ⟨p1, p2, p3, p4, p5, p6, p7⟩ := hc hg
    obtain ⟨q1, q2, q3, q4, q5, q6, q7⟩ := hd hh
    obtain ⟨z, z0, ez⟩ := MK_cmp (SER S delay).lo (SER (S.more pan pond) delay).lo p5 sm.1 (by omega)
    obtain ⟨y, y0, ey⟩ := MK_cmp (SER (S.more pan pond) delay).hi (SER S delay).hi (by omega) sm.2 (by omega)
    rw [p1, p2, p3, p4, q1, q2, q3, q4]
    exact ⟨z, y, fun _ _ => ⟨z0, y0, ez, ey⟩⟩
  simp only [srv, Srv.more, List.map_append, List.map_cons, List.map_nil] at ce' cs'
  clear ha hb hc hd em sm
  have k1 : ∀ x, List.take (S.pans.length + 1) (S.pans.map rg ++ [x]) = S.pans.map rg ++ [x] := fun x => List.take_of_length_le (by simp)
  have k2 : ∀ x, List.take (S.ponds.length + 1) (S.ponds.map pnd ++ [x]) = S.ponds.map pnd ++ [x] := fun x => List.take_of_length_le (by simp)
  rw [ap_eq _ Tryd.func9 rfl Tryd.ntmps9 Tryd.results9 (by kernel_rfl) rfl (by exact Nat.le_of_ble_eq_true rfl)]
  by_cases l4 : S.ponds.length = 0
  · have e2 : S.ponds = [] := List.length_eq_zero_iff.1 l4
    simp only [srv, e2, List.map_nil, List.nil_append] at ce ce' cs cs'
    simp (config := { maxSteps := 1000000 }) only [RUN, PATHS, BASE, FA, POL, start_tm, Heap.empty, reduceIte, Nat.reduceLT, Nat.reduceLeDiff, Nat.reduceEqDiff, Nat.reduceAdd, Nat.reduceSub, Nat.reduceMul, Nat.reduceBEq, Int.reduceLT, Int.reduceLE, Int.reduceEq, Int.reduceNeg, Int.reduceAdd, Int.reduceSub, Int.reduceMul, Bool.false_eq_true, Bool.not_true, Bool.not_false, decide_eq_true_eq, and_self, true_and, and_true, reduceCtorEq, ne_eq, not_false_eq_true, not_true_eq_false, decide_true, decide_false, or_false, false_or, NUM, SRG, SPND, FITS, or_self, e1, e2, c_sane, List.length_map, (show ¬ (15 : Int) < S.pans.length by omega), (show ¬ (S.pans.length : Int) = 0 by omega), (show 0 + S.pans.length ≤ 67108864 by omega), (show S.pans.length ≤ 67108863 by omega)]
    rw [if_pos (by kernel_rfl), if_pos (by kernel_rfl)]
    by_cases he : e = 0
    · by_cases hf : f = 0
      · obtain ⟨n3, n4⟩ := n1 he hf
        by_cases hg : g = 0
        · by_cases hh : h = 0
          · obtain ⟨z0, y0, ez, ey⟩ := n2 hg hh
            simp (config := { maxSteps := 1000000 }) only [RUN, PATHS, BASE, FA, POL, start_tm, Heap.empty, reduceIte, Nat.reduceLT, Nat.reduceLeDiff, Nat.reduceEqDiff, Nat.reduceAdd, Nat.reduceSub, Nat.reduceMul, Nat.reduceBEq, Int.reduceLT, Int.reduceLE, Int.reduceEq, Int.reduceNeg, Int.reduceAdd, Int.reduceSub, Int.reduceMul, Bool.false_eq_true, Bool.not_true, Bool.not_false, decide_eq_true_eq, and_self, true_and, and_true, reduceCtorEq, ne_eq, not_false_eq_true, not_true_eq_false, decide_true, decide_false, or_false, false_or, NUM, SRG, SPND, List.length_append, List.length_map, List.map_append, Nat.zero_add, Nat.le_refl, k1, k2, ce, ce', cs, cs', he, hf, n3, n4, hg, hh, ez, ey, z0, y0]
          · simp (config := { maxSteps := 1000000 }) only [RUN, PATHS, BASE, FA, POL, start_tm, Heap.empty, reduceIte, Nat.reduceLT, Nat.reduceLeDiff, Nat.reduceEqDiff, Nat.reduceAdd, Nat.reduceSub, Nat.reduceMul, Nat.reduceBEq, Int.reduceLT, Int.reduceLE, Int.reduceEq, Int.reduceNeg, Int.reduceAdd, Int.reduceSub, Int.reduceMul, Bool.false_eq_true, Bool.not_true, Bool.not_false, decide_eq_true_eq, and_self, true_and, and_true, reduceCtorEq, ne_eq, not_false_eq_true, not_true_eq_false, decide_true, decide_false, or_false, false_or, NUM, SRG, SPND, List.length_append, List.length_map, List.map_append, Nat.zero_add, Nat.le_refl, k1, k2, ce, ce', cs, cs', he, hf, n3, n4, hg, hh]
        · simp (config := { maxSteps := 1000000 }) only [RUN, PATHS, BASE, FA, POL, start_tm, Heap.empty, reduceIte, Nat.reduceLT, Nat.reduceLeDiff, Nat.reduceEqDiff, Nat.reduceAdd, Nat.reduceSub, Nat.reduceMul, Nat.reduceBEq, Int.reduceLT, Int.reduceLE, Int.reduceEq, Int.reduceNeg, Int.reduceAdd, Int.reduceSub, Int.reduceMul, Bool.false_eq_true, Bool.not_true, Bool.not_false, decide_eq_true_eq, and_self, true_and, and_true, reduceCtorEq, ne_eq, not_false_eq_true, not_true_eq_false, decide_true, decide_false, or_false, false_or, NUM, SRG, SPND, List.length_append, List.length_map, List.map_append, Nat.zero_add, Nat.le_refl, k1, k2, ce, ce', cs, cs', he, hf, n3, n4, hg]
      · by_cases hg : g = 0
        · by_cases hh : h = 0
          · obtain ⟨z0, y0, ez, ey⟩ := n2 hg hh
            simp (config := { maxSteps := 1000000 }) only [RUN, PATHS, BASE, FA, POL, start_tm, Heap.empty, reduceIte, Nat.reduceLT, Nat.reduceLeDiff, Nat.reduceEqDiff, Nat.reduceAdd, Nat.reduceSub, Nat.reduceMul, Nat.reduceBEq, Int.reduceLT, Int.reduceLE, Int.reduceEq, Int.reduceNeg, Int.reduceAdd, Int.reduceSub, Int.reduceMul, Bool.false_eq_true, Bool.not_true, Bool.not_false, decide_eq_true_eq, and_self, true_and, and_true, reduceCtorEq, ne_eq, not_false_eq_true, not_true_eq_false, decide_true, decide_false, or_false, false_or, NUM, SRG, SPND, List.length_append, List.length_map, List.map_append, Nat.zero_add, Nat.le_refl, k1, k2, ce, ce', cs, cs', he, hf, hg, hh, ez, ey, z0, y0]
          · simp (config := { maxSteps := 1000000 }) only [RUN, PATHS, BASE, FA, POL, start_tm, Heap.empty, reduceIte, Nat.reduceLT, Nat.reduceLeDiff, Nat.reduceEqDiff, Nat.reduceAdd, Nat.reduceSub, Nat.reduceMul, Nat.reduceBEq, Int.reduceLT, Int.reduceLE, Int.reduceEq, Int.reduceNeg, Int.reduceAdd, Int.reduceSub, Int.reduceMul, Bool.false_eq_true, Bool.not_true, Bool.not_false, decide_eq_true_eq, and_self, true_and, and_true, reduceCtorEq, ne_eq, not_false_eq_true, not_true_eq_false, decide_true, decide_false, or_false, false_or, NUM, SRG, SPND, List.length_append, List.length_map, List.map_append, Nat.zero_add, Nat.le_refl, k1, k2, ce, ce', cs, cs', he, hf, hg, hh]
        · simp (config := { maxSteps := 1000000 }) only [RUN, PATHS, BASE, FA, POL, start_tm, Heap.empty, reduceIte, Nat.reduceLT, Nat.reduceLeDiff, Nat.reduceEqDiff, Nat.reduceAdd, Nat.reduceSub, Nat.reduceMul, Nat.reduceBEq, Int.reduceLT, Int.reduceLE, Int.reduceEq, Int.reduceNeg, Int.reduceAdd, Int.reduceSub, Int.reduceMul, Bool.false_eq_true, Bool.not_true, Bool.not_false, decide_eq_true_eq, and_self, true_and, and_true, reduceCtorEq, ne_eq, not_false_eq_true, not_true_eq_false, decide_true, decide_false, or_false, false_or, NUM, SRG, SPND, List.length_append, List.length_map, List.map_append, Nat.zero_add, Nat.le_refl, k1, k2, ce, ce', cs, cs', he, hf, hg]
    · by_cases hg : g = 0
      · by_cases hh : h = 0
        · obtain ⟨z0, y0, ez, ey⟩ := n2 hg hh
          simp (config := { maxSteps := 1000000 }) only [RUN, PATHS, BASE, FA, POL, start_tm, Heap.empty, reduceIte, Nat.reduceLT, Nat.reduceLeDiff, Nat.reduceEqDiff, Nat.reduceAdd, Nat.reduceSub, Nat.reduceMul, Nat.reduceBEq, Int.reduceLT, Int.reduceLE, Int.reduceEq, Int.reduceNeg, Int.reduceAdd, Int.reduceSub, Int.reduceMul, Bool.false_eq_true, Bool.not_true, Bool.not_false, decide_eq_true_eq, and_self, true_and, and_true, reduceCtorEq, ne_eq, not_false_eq_true, not_true_eq_false, decide_true, decide_false, or_false, false_or, NUM, SRG, SPND, List.length_append, List.length_map, List.map_append, Nat.zero_add, Nat.le_refl, k1, k2, ce, ce', cs, cs', he, hg, hh, ez, ey, z0, y0]
        · simp (config := { maxSteps := 1000000 }) only [RUN, PATHS, BASE, FA, POL, start_tm, Heap.empty, reduceIte, Nat.reduceLT, Nat.reduceLeDiff, Nat.reduceEqDiff, Nat.reduceAdd, Nat.reduceSub, Nat.reduceMul, Nat.reduceBEq, Int.reduceLT, Int.reduceLE, Int.reduceEq, Int.reduceNeg, Int.reduceAdd, Int.reduceSub, Int.reduceMul, Bool.false_eq_true, Bool.not_true, Bool.not_false, decide_eq_true_eq, and_self, true_and, and_true, reduceCtorEq, ne_eq, not_false_eq_true, not_true_eq_false, decide_true, decide_false, or_false, false_or, NUM, SRG, SPND, List.length_append, List.length_map, List.map_append, Nat.zero_add, Nat.le_refl, k1, k2, ce, ce', cs, cs', he, hg, hh]
      · simp (config := { maxSteps := 1000000 }) only [RUN, PATHS, BASE, FA, POL, start_tm, Heap.empty, reduceIte, Nat.reduceLT, Nat.reduceLeDiff, Nat.reduceEqDiff, Nat.reduceAdd, Nat.reduceSub, Nat.reduceMul, Nat.reduceBEq, Int.reduceLT, Int.reduceLE, Int.reduceEq, Int.reduceNeg, Int.reduceAdd, Int.reduceSub, Int.reduceMul, Bool.false_eq_true, Bool.not_true, Bool.not_false, decide_eq_true_eq, and_self, true_and, and_true, reduceCtorEq, ne_eq, not_false_eq_true, not_true_eq_false, decide_true, decide_false, or_false, false_or, NUM, SRG, SPND, List.length_append, List.length_map, List.map_append, Nat.zero_add, Nat.le_refl, k1, k2, ce, ce', cs, cs', he, hg]
  · have e2 : (S.ponds.map pnd).isEmpty = false := by cases h : S.ponds <;> simp [h] at l4 ⊢
    simp (config := { maxSteps := 1000000 }) only [RUN, PATHS, BASE, FA, POL, start_tm, Heap.empty, reduceIte, Nat.reduceLT, Nat.reduceLeDiff, Nat.reduceEqDiff, Nat.reduceAdd, Nat.reduceSub, Nat.reduceMul, Nat.reduceBEq, Int.reduceLT, Int.reduceLE, Int.reduceEq, Int.reduceNeg, Int.reduceAdd, Int.reduceSub, Int.reduceMul, Bool.false_eq_true, Bool.not_true, Bool.not_false, decide_eq_true_eq, and_self, true_and, and_true, reduceCtorEq, ne_eq, not_false_eq_true, not_true_eq_false, decide_true, decide_false, or_false, false_or, NUM, SRG, SPND, FITS, or_self, e1, e2, c_sane, List.length_map, (show ¬ (15 : Int) < S.pans.length by omega), (show ¬ (15 : Int) < S.ponds.length by omega), (show ¬ (S.pans.length : Int) = 0 by omega), (show 0 + S.pans.length ≤ 67108864 by omega), (show S.pans.length ≤ 67108863 by omega), (show 0 + S.ponds.length ≤ 67108864 by omega), (show S.ponds.length ≤ 67108863 by omega)]
    rw [if_pos (by kernel_rfl), if_pos (by kernel_rfl)]
    by_cases he : e = 0
    · by_cases hf : f = 0
      · obtain ⟨n3, n4⟩ := n1 he hf
        by_cases hg : g = 0
        · by_cases hh : h = 0
          · obtain ⟨z0, y0, ez, ey⟩ := n2 hg hh
            simp (config := { maxSteps := 1000000 }) only [RUN, PATHS, BASE, FA, POL, start_tm, Heap.empty, reduceIte, Nat.reduceLT, Nat.reduceLeDiff, Nat.reduceEqDiff, Nat.reduceAdd, Nat.reduceSub, Nat.reduceMul, Nat.reduceBEq, Int.reduceLT, Int.reduceLE, Int.reduceEq, Int.reduceNeg, Int.reduceAdd, Int.reduceSub, Int.reduceMul, Bool.false_eq_true, Bool.not_true, Bool.not_false, decide_eq_true_eq, and_self, true_and, and_true, reduceCtorEq, ne_eq, not_false_eq_true, not_true_eq_false, decide_true, decide_false, or_false, false_or, NUM, SRG, SPND, List.length_append, List.length_map, List.map_append, Nat.zero_add, Nat.le_refl, k1, k2, ce, ce', cs, cs', he, hf, n3, n4, hg, hh, ez, ey, z0, y0]
          · simp (config := { maxSteps := 1000000 }) only [RUN, PATHS, BASE, FA, POL, start_tm, Heap.empty, reduceIte, Nat.reduceLT, Nat.reduceLeDiff, Nat.reduceEqDiff, Nat.reduceAdd, Nat.reduceSub, Nat.reduceMul, Nat.reduceBEq, Int.reduceLT, Int.reduceLE, Int.reduceEq, Int.reduceNeg, Int.reduceAdd, Int.reduceSub, Int.reduceMul, Bool.false_eq_true, Bool.not_true, Bool.not_false, decide_eq_true_eq, and_self, true_and, and_true, reduceCtorEq, ne_eq, not_false_eq_true, not_true_eq_false, decide_true, decide_false, or_false, false_or, NUM, SRG, SPND, List.length_append, List.length_map, List.map_append, Nat.zero_add, Nat.le_refl, k1, k2, ce, ce', cs, cs', he, hf, n3, n4, hg, hh]
        · simp (config := { maxSteps := 1000000 }) only [RUN, PATHS, BASE, FA, POL, start_tm, Heap.empty, reduceIte, Nat.reduceLT, Nat.reduceLeDiff, Nat.reduceEqDiff, Nat.reduceAdd, Nat.reduceSub, Nat.reduceMul, Nat.reduceBEq, Int.reduceLT, Int.reduceLE, Int.reduceEq, Int.reduceNeg, Int.reduceAdd, Int.reduceSub, Int.reduceMul, Bool.false_eq_true, Bool.not_true, Bool.not_false, decide_eq_true_eq, and_self, true_and, and_true, reduceCtorEq, ne_eq, not_false_eq_true, not_true_eq_false, decide_true, decide_false, or_false, false_or, NUM, SRG, SPND, List.length_append, List.length_map, List.map_append, Nat.zero_add, Nat.le_refl, k1, k2, ce, ce', cs, cs', he, hf, n3, n4, hg]
      · by_cases hg : g = 0
        · by_cases hh : h = 0
          · obtain ⟨z0, y0, ez, ey⟩ := n2 hg hh
            simp (config := { maxSteps := 1000000 }) only [RUN, PATHS, BASE, FA, POL, start_tm, Heap.empty, reduceIte, Nat.reduceLT, Nat.reduceLeDiff, Nat.reduceEqDiff, Nat.reduceAdd, Nat.reduceSub, Nat.reduceMul, Nat.reduceBEq, Int.reduceLT, Int.reduceLE, Int.reduceEq, Int.reduceNeg, Int.reduceAdd, Int.reduceSub, Int.reduceMul, Bool.false_eq_true, Bool.not_true, Bool.not_false, decide_eq_true_eq, and_self, true_and, and_true, reduceCtorEq, ne_eq, not_false_eq_true, not_true_eq_false, decide_true, decide_false, or_false, false_or, NUM, SRG, SPND, List.length_append, List.length_map, List.map_append, Nat.zero_add, Nat.le_refl, k1, k2, ce, ce', cs, cs', he, hf, hg, hh, ez, ey, z0, y0]
          · simp (config := { maxSteps := 1000000 }) only [RUN, PATHS, BASE, FA, POL, start_tm, Heap.empty, reduceIte, Nat.reduceLT, Nat.reduceLeDiff, Nat.reduceEqDiff, Nat.reduceAdd, Nat.reduceSub, Nat.reduceMul, Nat.reduceBEq, Int.reduceLT, Int.reduceLE, Int.reduceEq, Int.reduceNeg, Int.reduceAdd, Int.reduceSub, Int.reduceMul, Bool.false_eq_true, Bool.not_true, Bool.not_false, decide_eq_true_eq, and_self, true_and, and_true, reduceCtorEq, ne_eq, not_false_eq_true, not_true_eq_false, decide_true, decide_false, or_false, false_or, NUM, SRG, SPND, List.length_append, List.length_map, List.map_append, Nat.zero_add, Nat.le_refl, k1, k2, ce, ce', cs, cs', he, hf, hg, hh]
        · simp (config := { maxSteps := 1000000 }) only [RUN, PATHS, BASE, FA, POL, start_tm, Heap.empty, reduceIte, Nat.reduceLT, Nat.reduceLeDiff, Nat.reduceEqDiff, Nat.reduceAdd, Nat.reduceSub, Nat.reduceMul, Nat.reduceBEq, Int.reduceLT, Int.reduceLE, Int.reduceEq, Int.reduceNeg, Int.reduceAdd, Int.reduceSub, Int.reduceMul, Bool.false_eq_true, Bool.not_true, Bool.not_false, decide_eq_true_eq, and_self, true_and, and_true, reduceCtorEq, ne_eq, not_false_eq_true, not_true_eq_false, decide_true, decide_false, or_false, false_or, NUM, SRG, SPND, List.length_append, List.length_map, List.map_append, Nat.zero_add, Nat.le_refl, k1, k2, ce, ce', cs, cs', he, hf, hg]
    · by_cases hg : g = 0
      · by_cases hh : h = 0
        · obtain ⟨z0, y0, ez, ey⟩ := n2 hg hh
          simp (config := { maxSteps := 1000000 }) only [RUN, PATHS, BASE, FA, POL, start_tm, Heap.empty, reduceIte, Nat.reduceLT, Nat.reduceLeDiff, Nat.reduceEqDiff, Nat.reduceAdd, Nat.reduceSub, Nat.reduceMul, Nat.reduceBEq, Int.reduceLT, Int.reduceLE, Int.reduceEq, Int.reduceNeg, Int.reduceAdd, Int.reduceSub, Int.reduceMul, Bool.false_eq_true, Bool.not_true, Bool.not_false, decide_eq_true_eq, and_self, true_and, and_true, reduceCtorEq, ne_eq, not_false_eq_true, not_true_eq_false, decide_true, decide_false, or_false, false_or, NUM, SRG, SPND, List.length_append, List.length_map, List.map_append, Nat.zero_add, Nat.le_refl, k1, k2, ce, ce', cs, cs', he, hg, hh, ez, ey, z0, y0]
        · simp (config := { maxSteps := 1000000 }) only [RUN, PATHS, BASE, FA, POL, start_tm, Heap.empty, reduceIte, Nat.reduceLT, Nat.reduceLeDiff, Nat.reduceEqDiff, Nat.reduceAdd, Nat.reduceSub, Nat.reduceMul, Nat.reduceBEq, Int.reduceLT, Int.reduceLE, Int.reduceEq, Int.reduceNeg, Int.reduceAdd, Int.reduceSub, Int.reduceMul, Bool.false_eq_true, Bool.not_true, Bool.not_false, decide_eq_true_eq, and_self, true_and, and_true, reduceCtorEq, ne_eq, not_false_eq_true, not_true_eq_false, decide_true, decide_false, or_false, false_or, NUM, SRG, SPND, List.length_append, List.length_map, List.map_append, Nat.zero_add, Nat.le_refl, k1, k2, ce, ce', cs, cs', he, hg, hh]
      · simp (config := { maxSteps := 1000000 }) only [RUN, PATHS, BASE, FA, POL, start_tm, Heap.empty, reduceIte, Nat.reduceLT, Nat.reduceLeDiff, Nat.reduceEqDiff, Nat.reduceAdd, Nat.reduceSub, Nat.reduceMul, Nat.reduceBEq, Int.reduceLT, Int.reduceLE, Int.reduceEq, Int.reduceNeg, Int.reduceAdd, Int.reduceSub, Int.reduceMul, Bool.false_eq_true, Bool.not_true, Bool.not_false, decide_eq_true_eq, and_self, true_and, and_true, reduceCtorEq, ne_eq, not_false_eq_true, not_true_eq_false, decide_true, decide_false, or_false, false_or, NUM, SRG, SPND, List.length_append, List.length_map, List.map_append, Nat.zero_add, Nat.le_refl, k1, k2, ce, ce', cs, cs', he, hg]
end Go.Proofs.YthhhahkiflkemaaDoor
