/-
  Surveys: both answers are one.
-/
import Derived.Test.YthhhahkiflkemaaDoorC16
set_option linter.unusedSimpArgs false
set_option linter.unusedVariables false
set_option linter.unusedSectionVars false
namespace Go.Proofs.YthhhahkiflkemaaDoor
open Go GoV
set_option maxRecDepth 100000

theorem EVL_bd {S : Srv} {delay : Int} (hK : SRVK S) (hd : 1 ≤ delay ∧ delay ≤ 16) {x : Rg} (hx : PANK x) : 0 ≤ (EVL S delay x).lo ∧ (EVL S delay x).hi ≤ 1073741824 := by
  obtain ⟨b1, b2, b3, b4, b5, b6, b7⟩ := ev_bd hK hd hx
  refine ⟨Int.ediv_nonneg b4.1 (by omega), ?_⟩
  show UPD (S.n1 * x.hi * (S.su * delay)) (240 * S.d1) ≤ 1073741824
  refine UPD_le (by omega) ?_
  have n1 := hK.1.2.2.1.2.1.2
  have p1 : S.n1 * x.hi ≤ S.d1 * 1000 := Int.mul_le_mul n1.2 hx.2.2 (by have := hx.1; have := hx.2.1; omega) (by omega)
  have p2 : S.n1 * x.hi * (S.su * delay) ≤ S.d1 * 1000 * 16777216 := Int.mul_le_mul p1 b1.2 b1.1 (by omega)
  omega
theorem EVS_1 {S : Srv} {delay : Int} (hK : SRVK S) (hd : 1 ≤ delay ∧ delay ≤ 16) {l : List Rg} {x : Rg} (e : l[0]? = some x) (hx : PANK x) : EVS S delay l 1 = EVL S delay x := by
  have b := EVL_bd hK hd hx
  rw [EVS_succ e]
  have e0 : EVS S delay l 0 = ⟨0, 1099511627776⟩ := by simp [EVS, MEET]
  rw [e0]
  simp only
  rw [show max 0 (EVL S delay x).lo = (EVL S delay x).lo by omega, show min 1099511627776 (EVL S delay x).hi = (EVL S delay x).hi by omega]
theorem c_refEvap (S : Srv) (hS : S.OK) (c c' : Option Nat) (delay : Int) : ap Tryd.prog pol 14 [srv S c c', I delay] = some (.ret (if CK S delay = 0 then (if (EVR S delay).hi < (EVR S delay).lo then .tup [rg ⟨0, 0⟩, I 210] else .tup [rg (EVR S delay), I 0]) else .tup [rg ⟨0, 0⟩, I (CK S delay)])) := by
  have ck := c_refcheck38 S hS c c' delay
  by_cases h : CK S delay = 0
  rotate_left
  · rw [ap_eq _ Tryd.func14 rfl Tryd.ntmps14 Tryd.results14 (by kernel_rfl) rfl (by exact Nat.le_of_ble_eq_true rfl)]
    simp (config := { maxSteps := 1000000 }) only [RUN, PATHS, BASE, FA, POL, start_tm, Heap.empty, reduceIte, Nat.reduceLT, Nat.reduceLeDiff, Nat.reduceEqDiff, Nat.reduceAdd, Nat.reduceSub, Nat.reduceMul, Nat.reduceBEq, Int.reduceLT, Int.reduceLE, Int.reduceEq, Int.reduceNeg, Int.reduceAdd, Int.reduceSub, Int.reduceMul, Bool.false_eq_true, Bool.not_true, Bool.not_false, decide_eq_true_eq, and_self, true_and, and_true, reduceCtorEq, ne_eq, not_false_eq_true, not_true_eq_false, decide_true, decide_false, or_false, false_or, NUM, SRG, SPND, ck, h]
  obtain ⟨⟨l1, l2⟩, hK, d1, d2⟩ := CK_0.1 h
  rw [ap_eq _ Tryd.func14 rfl Tryd.ntmps14 Tryd.results14 (by kernel_rfl) rfl (by exact Nat.le_of_ble_eq_true rfl)]
  by_cases h0 : S.pans.length = 0
  · have hK' : SRVK ⟨S.su, S.so, S.n0, S.d0, S.n1, S.d1, [⟨0, 240⟩], S.ponds⟩ := ⟨hK.1, by intro y hy; simp at hy; subst hy; unfold PANK; decide, hK.2.2⟩
    have c1 : ap Tryd.prog pol 39 [.agg [I S.su, I S.so, I S.n0, I S.d0, I S.n1, I S.d1, .vs 2 [.agg [I 0, I 240]] (some 1), .vs 4 (S.ponds.map pnd) c'], .agg [I 0, I 240], I delay] = some (.ret (rg (EVL S delay ⟨0, 240⟩))) := c_refevap ⟨S.su, S.so, S.n0, S.d0, S.n1, S.d1, [⟨0, 240⟩], S.ponds⟩ (some 1) c' delay hK' ⟨d1, d2⟩ ⟨0, 240⟩ (by unfold PANK; decide)
    have e : EVR S delay = EVL S delay ⟨0, 240⟩ := by
      unfold EVR DEPTHS
      rw [if_pos h0]
      exact EVS_1 hK ⟨d1, d2⟩ rfl (by unfold PANK; decide)
    rw [e]
    simp (config := { maxSteps := 1000000 }) only [RUN, PATHS, BASE, FA, POL, start_tm, Heap.empty, reduceIte, Nat.reduceLT, Nat.reduceLeDiff, Nat.reduceEqDiff, Nat.reduceAdd, Nat.reduceSub, Nat.reduceMul, Nat.reduceBEq, Int.reduceLT, Int.reduceLE, Int.reduceEq, Int.reduceNeg, Int.reduceAdd, Int.reduceSub, Int.reduceMul, Bool.false_eq_true, Bool.not_true, Bool.not_false, decide_eq_true_eq, and_self, true_and, and_true, reduceCtorEq, ne_eq, not_false_eq_true, not_true_eq_false, decide_true, decide_false, or_false, false_or, NUM, SRG, SPND, ck, h, List.length_map, h0, c1, WW_loop]
    rw [if_pos (by kernel_rfl)]
    split <;> rfl
  · have e : EVR S delay = EVS S delay S.pans S.pans.length := by unfold EVR DEPTHS; rw [if_neg h0]
    rw [e]
    have f0 : S.pans[0]? = some (S.pans[0]'(by omega)) := List.getElem?_eq_getElem (by omega)
    have f1 := map_get (f := rg) f0
    have hx0 : PANK (S.pans[0]'(by omega)) := hK.2.1 _ (List.getElem_mem (by omega))
    have c1 := c_refevap S c c' delay hK ⟨d1, d2⟩ _ hx0
    have v1 := EVS_1 (S := S) (delay := delay) hK ⟨d1, d2⟩ f0 hx0
    simp (config := { maxSteps := 1000000 }) only [RUN, PATHS, BASE, FA, POL, start_tm, Heap.empty, reduceIte, Nat.reduceLT, Nat.reduceLeDiff, Nat.reduceEqDiff, Nat.reduceAdd, Nat.reduceSub, Nat.reduceMul, Nat.reduceBEq, Int.reduceLT, Int.reduceLE, Int.reduceEq, Int.reduceNeg, Int.reduceAdd, Int.reduceSub, Int.reduceMul, Bool.false_eq_true, Bool.not_true, Bool.not_false, decide_eq_true_eq, and_self, true_and, and_true, reduceCtorEq, ne_eq, not_false_eq_true, not_true_eq_false, decide_true, decide_false, or_false, false_or, NUM, SRG, SPND, ck, h, List.length_map, (show ¬ (S.pans.length : Int) = 0 by omega), (show (0 : Int) < S.pans.length by omega), f1, c1]
    rw [if_pos (by kernel_rfl)]
    generalize hL : W _ (.loop _) _ = L
    obtain ⟨ex, s, rfl, rfl, g7, gb7, g4, gb4, hd, hf⟩ := loop_at hL (α := Nat) (fun j => S.pans.length - j)
      (fun s0 j s => 1 ≤ j ∧ j ≤ S.pans.length ∧ s.tmps 8 = I j ∧ s.tmps 1 = I delay ∧ s.tmps 2 = .bptr 0 2 0 0 ∧ s.boxes 2 = some (0, srvc S c c') ∧ s.tmps 7 = .bptr 0 7 0 0 ∧ s.boxes 7 = some (0, [I (EVS S delay S.pans j).lo, I (EVS S delay S.pans j).hi]) ∧ s.tmps 4 = .bptr 0 4 0 0 ∧ s.boxes 4 = some (0, [I 0, I 0]) ∧ s.defers = [] ∧ s.fid = 0)
      (fun s0 ex s => ex = .exit 0 ∧ s.tmps 7 = .bptr 0 7 0 0 ∧ s.boxes 7 = some (0, [I (EVS S delay S.pans S.pans.length).lo, I (EVS S delay S.pans S.pans.length).hi]) ∧ s.tmps 4 = .bptr 0 4 0 0 ∧ s.boxes 4 = some (0, [I 0, I 0]) ∧ s.defers = [] ∧ s.fid = 0) 1
      (by simp (config := { maxSteps := 1000000 }) only [RUN, PATHS, BASE, FA, POL, start_tm, Heap.empty, reduceIte, Nat.reduceLT, Nat.reduceLeDiff, Nat.reduceEqDiff, Nat.reduceAdd, Nat.reduceSub, Nat.reduceMul, Nat.reduceBEq, Int.reduceLT, Int.reduceLE, Int.reduceEq, Int.reduceNeg, Int.reduceAdd, Int.reduceSub, Int.reduceMul, Bool.false_eq_true, Bool.not_true, Bool.not_false, decide_eq_true_eq, and_self, true_and, and_true, reduceCtorEq, ne_eq, not_false_eq_true, not_true_eq_false, decide_true, decide_false, or_false, false_or]; exact ⟨by omega, by rw [v1]; simp⟩) (by
        rintro j s r0 hW ⟨h1j, hj, h8, h1, h2, hb2, h7, hb7, h4, hb4, hd, hf⟩
        by_cases hp : j < S.pans.length
        · have e0 : S.pans[j]? = some S.pans[j] := List.getElem?_eq_getElem hp
          have e1 := map_get (f := rg) e0
          have cx := c_refevap S c c' delay hK ⟨d1, d2⟩ S.pans[j] (hK.2.1 _ (List.getElem_mem hp))
          have es := EVS_succ (S := S) (delay := delay) e0
          simp (config := { maxSteps := 1000000 }) only [RUN, PATHS, BASE, FA, POL, start_tm, Heap.empty, reduceIte, Nat.reduceLT, Nat.reduceLeDiff, Nat.reduceEqDiff, Nat.reduceAdd, Nat.reduceSub, Nat.reduceMul, Nat.reduceBEq, Int.reduceLT, Int.reduceLE, Int.reduceEq, Int.reduceNeg, Int.reduceAdd, Int.reduceSub, Int.reduceMul, Bool.false_eq_true, Bool.not_true, Bool.not_false, decide_eq_true_eq, and_self, true_and, and_true, reduceCtorEq, ne_eq, not_false_eq_true, not_true_eq_false, decide_true, decide_false, or_false, false_or, NUM, SRG, SPND, h8, h1, h2, hb2, h7, hb7, h4, hb4, hd, hf, e1, cx, List.length_map, Int.toNat_natCast, (show (j : Int) < S.pans.length by omega), (show (0 : Int) ≤ j by omega), (i64_in (x := (j : Int) + 1) (by unfold I64; omega))] at hW
          rw [if_pos (by kernel_rfl)] at hW
          subst hW
          refine rd_next (j + 1) ?_ (show S.pans.length - (j + 1) < S.pans.length - j by omega)
          simp (config := { maxSteps := 1000000 }) only [RUN, PATHS, BASE, FA, POL, start_tm, Heap.empty, reduceIte, Nat.reduceLT, Nat.reduceLeDiff, Nat.reduceEqDiff, Nat.reduceAdd, Nat.reduceSub, Nat.reduceMul, Nat.reduceBEq, Int.reduceLT, Int.reduceLE, Int.reduceEq, Int.reduceNeg, Int.reduceAdd, Int.reduceSub, Int.reduceMul, Bool.false_eq_true, Bool.not_true, Bool.not_false, decide_eq_true_eq, and_self, true_and, and_true, reduceCtorEq, ne_eq, not_false_eq_true, not_true_eq_false, decide_true, decide_false, or_false, false_or, h1, h2, hb2, h7, hb7, h4, hb4, es]
          exact ⟨by omega, by simp⟩
        · simp (config := { maxSteps := 1000000 }) only [RUN, PATHS, BASE, FA, POL, start_tm, Heap.empty, reduceIte, Nat.reduceLT, Nat.reduceLeDiff, Nat.reduceEqDiff, Nat.reduceAdd, Nat.reduceSub, Nat.reduceMul, Nat.reduceBEq, Int.reduceLT, Int.reduceLE, Int.reduceEq, Int.reduceNeg, Int.reduceAdd, Int.reduceSub, Int.reduceMul, Bool.false_eq_true, Bool.not_true, Bool.not_false, decide_eq_true_eq, and_self, true_and, and_true, reduceCtorEq, ne_eq, not_false_eq_true, not_true_eq_false, decide_true, decide_false, or_false, false_or, List.length_map, h8, h1, h2, hb2, h7, hb7, h4, hb4, hd, hf, (show ¬ (j : Int) < S.pans.length by omega)] at hW
          subst hW
          have : j = S.pans.length := by omega
          subst this
          refine rd_exit ⟨rfl, ?_⟩
          simp (config := { maxSteps := 1000000 }) only [RUN, PATHS, BASE, FA, POL, start_tm, Heap.empty, reduceIte, Nat.reduceLT, Nat.reduceLeDiff, Nat.reduceEqDiff, Nat.reduceAdd, Nat.reduceSub, Nat.reduceMul, Nat.reduceBEq, Int.reduceLT, Int.reduceLE, Int.reduceEq, Int.reduceNeg, Int.reduceAdd, Int.reduceSub, Int.reduceMul, Bool.false_eq_true, Bool.not_true, Bool.not_false, decide_eq_true_eq, and_self, true_and, and_true, reduceCtorEq, ne_eq, not_false_eq_true, not_true_eq_false, decide_true, decide_false, or_false, false_or, h7, hb7, h4, hb4])
    simp (config := { maxSteps := 1000000 }) only [RUN, PATHS, BASE, FA, POL, start_tm, Heap.empty, reduceIte, Nat.reduceLT, Nat.reduceLeDiff, Nat.reduceEqDiff, Nat.reduceAdd, Nat.reduceSub, Nat.reduceMul, Nat.reduceBEq, Int.reduceLT, Int.reduceLE, Int.reduceEq, Int.reduceNeg, Int.reduceAdd, Int.reduceSub, Int.reduceMul, Bool.false_eq_true, Bool.not_true, Bool.not_false, decide_eq_true_eq, and_self, true_and, and_true, reduceCtorEq, ne_eq, not_false_eq_true, not_true_eq_false, decide_true, decide_false, or_false, false_or, NUM, g7, gb7, g4, gb4, hd, hf]
    split <;> rfl
theorem c_refSeep (S : Srv) (hS : S.OK) (c c' : Option Nat) (delay : Int) : ap Tryd.prog pol 16 [srv S c c', I delay] = some (.ret (if CK S delay = 0 then (if (SER S delay).hi < (SER S delay).lo then .tup [.agg [I 0, I 0, I 0, I 0], I 210] else .tup [.agg [I (MK (SER S delay).lo 1048576).1, I (MK (SER S delay).lo 1048576).2.1, I (MK (SER S delay).hi 1048576).1, I (MK (SER S delay).hi 1048576).2.1], I 0]) else .tup [.agg [I 0, I 0, I 0, I 0], I (CK S delay)])) := by
  have ck := c_refcheck38 S hS c c' delay
  by_cases h : CK S delay = 0
  rotate_left
  · rw [ap_eq _ Tryd.func16 rfl Tryd.ntmps16 Tryd.results16 (by kernel_rfl) rfl (by exact Nat.le_of_ble_eq_true rfl)]
    simp (config := { maxSteps := 1000000 }) only [RUN, PATHS, BASE, FA, POL, start_tm, Heap.empty, reduceIte, Nat.reduceLT, Nat.reduceLeDiff, Nat.reduceEqDiff, Nat.reduceAdd, Nat.reduceSub, Nat.reduceMul, Nat.reduceBEq, Int.reduceLT, Int.reduceLE, Int.reduceEq, Int.reduceNeg, Int.reduceAdd, Int.reduceSub, Int.reduceMul, Bool.false_eq_true, Bool.not_true, Bool.not_false, decide_eq_true_eq, and_self, true_and, and_true, reduceCtorEq, ne_eq, not_false_eq_true, not_true_eq_false, decide_true, decide_false, or_false, false_or, NUM, SRG, SPND, ck, h]
  obtain ⟨⟨l1, l2⟩, hK, d1, d2⟩ := CK_0.1 h
  have sb := soil_bd S.so
  have m1 : slo S.so * delay ≤ 2048 * 16 := Int.mul_le_mul sb.2.1 d2 (by omega) (by decide)
  have m0 : 0 ≤ slo S.so * delay := Int.mul_nonneg sb.1 (by omega)
  have m3 : shi S.so * delay ≤ 16384 * 16 := Int.mul_le_mul sb.2.2.2 d2 (by omega) (by decide)
  have m2 : 0 ≤ shi S.so * delay := Int.mul_nonneg sb.2.2.1 (by omega)
  have cl := c_soil S.so
  have mb := MEET_bd (SE0 S delay) ((S.ponds.take S.ponds.length).map (SEL delay)) ⟨m0, by show min 1048576 (shi S.so * delay) ≤ 1048576; omega⟩
  change (SER S delay).hi ≤ 1048576 ∧ 0 ≤ (SER S delay).lo ∧ _ at mb
  rw [ap_eq _ Tryd.func16 rfl Tryd.ntmps16 Tryd.results16 (by kernel_rfl) rfl (by exact Nat.le_of_ble_eq_true rfl)]
  simp (config := { maxSteps := 1000000 }) only [RUN, PATHS, BASE, FA, POL, start_tm, Heap.empty, reduceIte, Nat.reduceLT, Nat.reduceLeDiff, Nat.reduceEqDiff, Nat.reduceAdd, Nat.reduceSub, Nat.reduceMul, Nat.reduceBEq, Int.reduceLT, Int.reduceLE, Int.reduceEq, Int.reduceNeg, Int.reduceAdd, Int.reduceSub, Int.reduceMul, Bool.false_eq_true, Bool.not_true, Bool.not_false, decide_eq_true_eq, and_self, true_and, and_true, reduceCtorEq, ne_eq, not_false_eq_true, not_true_eq_false, decide_true, decide_false, or_false, false_or, NUM, SRG, SPND, ck, h, cl, List.length_map, i64_in (x := slo S.so * delay) (by unfold I64; omega), i64_in (x := shi S.so * delay) (by unfold I64; omega)]
  generalize hL : W _ (.loop _) _ = L
  obtain ⟨ex, s, rfl, rfl, g7, g8, gb8, g4, gb4, hd, hf⟩ := loop_at hL (α := Nat) (fun j => S.ponds.length - j)
    (fun s0 j s => j ≤ S.ponds.length ∧ s.tmps 9 = I j ∧ s.tmps 1 = I delay ∧ s.tmps 7 = I 1048576 ∧ s.tmps 2 = .bptr 0 2 0 0 ∧ s.boxes 2 = some (0, srvc S c c') ∧ s.tmps 8 = .bptr 0 8 0 0 ∧ s.boxes 8 = some (0, [I (SES (SE0 S delay) delay S.ponds j).lo, I (SES (SE0 S delay) delay S.ponds j).hi]) ∧ s.tmps 4 = .bptr 0 4 0 0 ∧ s.boxes 4 = some (0, [I 0, I 0, I 0, I 0]) ∧ s.defers = [] ∧ s.fid = 0)
    (fun s0 ex s => ex = .exit 0 ∧ s.tmps 7 = I 1048576 ∧ s.tmps 8 = .bptr 0 8 0 0 ∧ s.boxes 8 = some (0, [I (SER S delay).lo, I (SER S delay).hi]) ∧ s.tmps 4 = .bptr 0 4 0 0 ∧ s.boxes 4 = some (0, [I 0, I 0, I 0, I 0]) ∧ s.defers = [] ∧ s.fid = 0) 0
    (by simp (config := { maxSteps := 1000000 }) only [RUN, PATHS, BASE, FA, POL, start_tm, Heap.empty, reduceIte, Nat.reduceLT, Nat.reduceLeDiff, Nat.reduceEqDiff, Nat.reduceAdd, Nat.reduceSub, Nat.reduceMul, Nat.reduceBEq, Int.reduceLT, Int.reduceLE, Int.reduceEq, Int.reduceNeg, Int.reduceAdd, Int.reduceSub, Int.reduceMul, Bool.false_eq_true, Bool.not_true, Bool.not_false, decide_eq_true_eq, and_self, true_and, and_true, reduceCtorEq, ne_eq, not_false_eq_true, not_true_eq_false, decide_true, decide_false, or_false, false_or]; exact ⟨by omega, by simp [SES, MEET, SE0]⟩) (by
      rintro j s r0 hW ⟨hj, h9, h1, h7, h2, hb2, h8, hb8, h4, hb4, hd, hf⟩
      by_cases hp : j < S.ponds.length
      · have e0 : S.ponds[j]? = some S.ponds[j] := List.getElem?_eq_getElem hp
        have e1 := map_get (f := pnd) e0
        have hx := hK.2.2 _ (List.getElem_mem hp)
        have es := SES_succ (a := SE0 S delay) (delay := delay) e0
        obtain ⟨b1, b2, b3, b4, b5⟩ := se_bd ⟨d1, d2⟩ hx
        generalize S.ponds[j] = x at *
        have q1 := Int.tdiv_eq_ediv_of_nonneg (a := 1048576 * x.lo * delay) (b := x.v * x.h) b3.1
        have q : 0 ≤ 1048576 * x.lo * delay / (x.v * x.h) ∧ 1048576 * x.lo * delay / (x.v * x.h) ≤ 1048576 * x.lo * delay := ⟨Int.ediv_nonneg b3.1 (by omega), Int.ediv_le_self _ b3.1⟩
        have cu := c_refup (1048576 * x.hi * delay) (x.v * x.h) (by omega) b4.1 (by omega)
        simp (config := { maxSteps := 1000000 }) only [RUN, PATHS, BASE, FA, POL, start_tm, Heap.empty, reduceIte, Nat.reduceLT, Nat.reduceLeDiff, Nat.reduceEqDiff, Nat.reduceAdd, Nat.reduceSub, Nat.reduceMul, Nat.reduceBEq, Int.reduceLT, Int.reduceLE, Int.reduceEq, Int.reduceNeg, Int.reduceAdd, Int.reduceSub, Int.reduceMul, Bool.false_eq_true, Bool.not_true, Bool.not_false, decide_eq_true_eq, and_self, true_and, and_true, reduceCtorEq, ne_eq, not_false_eq_true, not_true_eq_false, decide_true, decide_false, or_false, false_or, NUM, SRG, SPND, h9, h1, h7, h2, hb2, h8, hb8, h4, hb4, hd, hf, e1, q1, cu, List.length_map, Int.toNat_natCast, (show (j : Int) < S.ponds.length by omega), (show (0 : Int) ≤ j by omega), (i64_in (x := (j : Int) + 1) (by unfold I64; omega)), (show ¬ x.v * x.h = 0 by omega), i64_in (x := 1048576 * x.lo) (by unfold I64; omega), i64_in (x := 1048576 * x.hi) (by unfold I64; omega), i64_in (x := 1048576 * x.lo * delay) (by unfold I64; omega), i64_in (x := 1048576 * x.hi * delay) (by unfold I64; omega), i64_in (x := x.v * x.h) (by unfold I64; omega), i64_in (x := 1048576 * x.lo * delay / (x.v * x.h)) (by unfold I64; omega)] at hW
        rw [if_pos (by kernel_rfl)] at hW
        rw [if_pos (by kernel_rfl)] at hW
        subst hW
        refine rd_next (j + 1) ?_ (show S.ponds.length - (j + 1) < S.ponds.length - j by omega)
        simp (config := { maxSteps := 1000000 }) only [RUN, PATHS, BASE, FA, POL, start_tm, Heap.empty, reduceIte, Nat.reduceLT, Nat.reduceLeDiff, Nat.reduceEqDiff, Nat.reduceAdd, Nat.reduceSub, Nat.reduceMul, Nat.reduceBEq, Int.reduceLT, Int.reduceLE, Int.reduceEq, Int.reduceNeg, Int.reduceAdd, Int.reduceSub, Int.reduceMul, Bool.false_eq_true, Bool.not_true, Bool.not_false, decide_eq_true_eq, and_self, true_and, and_true, reduceCtorEq, ne_eq, not_false_eq_true, not_true_eq_false, decide_true, decide_false, or_false, false_or, h1, h7, h2, hb2, h8, hb8, h4, hb4, es]
        exact ⟨by omega, by simp, rfl⟩
      · simp (config := { maxSteps := 1000000 }) only [RUN, PATHS, BASE, FA, POL, start_tm, Heap.empty, reduceIte, Nat.reduceLT, Nat.reduceLeDiff, Nat.reduceEqDiff, Nat.reduceAdd, Nat.reduceSub, Nat.reduceMul, Nat.reduceBEq, Int.reduceLT, Int.reduceLE, Int.reduceEq, Int.reduceNeg, Int.reduceAdd, Int.reduceSub, Int.reduceMul, Bool.false_eq_true, Bool.not_true, Bool.not_false, decide_eq_true_eq, and_self, true_and, and_true, reduceCtorEq, ne_eq, not_false_eq_true, not_true_eq_false, decide_true, decide_false, or_false, false_or, List.length_map, h9, h1, h7, h2, hb2, h8, hb8, h4, hb4, hd, hf, (show ¬ (j : Int) < S.ponds.length by omega)] at hW
        subst hW
        have : j = S.ponds.length := by omega
        subst this
        refine rd_exit ⟨rfl, ?_⟩
        simp (config := { maxSteps := 1000000 }) only [RUN, PATHS, BASE, FA, POL, start_tm, Heap.empty, reduceIte, Nat.reduceLT, Nat.reduceLeDiff, Nat.reduceEqDiff, Nat.reduceAdd, Nat.reduceSub, Nat.reduceMul, Nat.reduceBEq, Int.reduceLT, Int.reduceLE, Int.reduceEq, Int.reduceNeg, Int.reduceAdd, Int.reduceSub, Int.reduceMul, Bool.false_eq_true, Bool.not_true, Bool.not_false, decide_eq_true_eq, and_self, true_and, and_true, reduceCtorEq, ne_eq, not_false_eq_true, not_true_eq_false, decide_true, decide_false, or_false, false_or, h7, h8, hb8, h4, hb4]
        rfl)
  by_cases hm : (SER S delay).hi < (SER S delay).lo
  · simp (config := { maxSteps := 1000000 }) only [RUN, PATHS, BASE, FA, POL, start_tm, Heap.empty, reduceIte, Nat.reduceLT, Nat.reduceLeDiff, Nat.reduceEqDiff, Nat.reduceAdd, Nat.reduceSub, Nat.reduceMul, Nat.reduceBEq, Int.reduceLT, Int.reduceLE, Int.reduceEq, Int.reduceNeg, Int.reduceAdd, Int.reduceSub, Int.reduceMul, Bool.false_eq_true, Bool.not_true, Bool.not_false, decide_eq_true_eq, and_self, true_and, and_true, reduceCtorEq, ne_eq, not_false_eq_true, not_true_eq_false, decide_true, decide_false, or_false, false_or, NUM, g7, g8, gb8, g4, gb4, hd, hf, hm]
  · have k1 := c_refmake (SER S delay).lo 1048576 (by unfold I64; omega) (by unfold I64; omega)
    have k2 := c_refmake (SER S delay).hi 1048576 (by unfold I64; omega) (by unfold I64; omega)
    simp (config := { maxSteps := 1000000 }) only [RUN, PATHS, BASE, FA, POL, start_tm, Heap.empty, reduceIte, Nat.reduceLT, Nat.reduceLeDiff, Nat.reduceEqDiff, Nat.reduceAdd, Nat.reduceSub, Nat.reduceMul, Nat.reduceBEq, Int.reduceLT, Int.reduceLE, Int.reduceEq, Int.reduceNeg, Int.reduceAdd, Int.reduceSub, Int.reduceMul, Bool.false_eq_true, Bool.not_true, Bool.not_false, decide_eq_true_eq, and_self, true_and, and_true, reduceCtorEq, ne_eq, not_false_eq_true, not_true_eq_false, decide_true, decide_false, or_false, false_or, NUM, g7, g8, gb8, g4, gb4, hd, hf, hm, k1, k2]
theorem w_surveyspec (S : Srv) (hS : S.OK) (delay : Int) (hde : I64 delay) : ap Tryd.prog pol 3 [srv S none none, I delay] = some (.ret (.bool true)) := by
  obtain ⟨b, eb⟩ := c_few S none none
  have ce := c_evap S hS none none delay
  have cs := c_seep S hS none none delay
  have re := c_refEvap S hS none none delay
  have rs := c_refSeep S hS none none delay
  rw [ap_eq _ Tryd.func3 rfl Tryd.ntmps3 Tryd.results3 (by kernel_rfl) rfl (by exact Nat.le_of_ble_eq_true rfl)]
  cases b
  · simp (config := { maxSteps := 1000000 }) only [RUN, PATHS, BASE, FA, POL, start_tm, Heap.empty, reduceIte, Nat.reduceLT, Nat.reduceLeDiff, Nat.reduceEqDiff, Nat.reduceAdd, Nat.reduceSub, Nat.reduceMul, Nat.reduceBEq, Int.reduceLT, Int.reduceLE, Int.reduceEq, Int.reduceNeg, Int.reduceAdd, Int.reduceSub, Int.reduceMul, Bool.false_eq_true, Bool.not_true, Bool.not_false, decide_eq_true_eq, and_self, true_and, and_true, reduceCtorEq, ne_eq, not_false_eq_true, not_true_eq_false, decide_true, decide_false, or_false, false_or, NUM, SRG, SPND, c_sane, eb]
  by_cases h : CK S delay = 0
  rotate_left
  · rw [if_neg h] at ce cs re rs
    simp (config := { maxSteps := 1000000 }) only [RUN, PATHS, BASE, FA, POL, start_tm, Heap.empty, reduceIte, Nat.reduceLT, Nat.reduceLeDiff, Nat.reduceEqDiff, Nat.reduceAdd, Nat.reduceSub, Nat.reduceMul, Nat.reduceBEq, Int.reduceLT, Int.reduceLE, Int.reduceEq, Int.reduceNeg, Int.reduceAdd, Int.reduceSub, Int.reduceMul, Bool.false_eq_true, Bool.not_true, Bool.not_false, decide_eq_true_eq, and_self, true_and, and_true, reduceCtorEq, ne_eq, not_false_eq_true, not_true_eq_false, decide_true, decide_false, or_false, false_or, NUM, SRG, SPND, c_sane, eb, ce, cs, re, rs, eq_rng, eq_seep, and_self]
  rw [if_pos h] at ce cs re rs
  by_cases he : (EVR S delay).hi < (EVR S delay).lo
  · rw [if_pos he] at ce re
    by_cases hs : (SER S delay).hi < (SER S delay).lo
    · rw [if_pos hs] at cs rs
      simp (config := { maxSteps := 1000000 }) only [RUN, PATHS, BASE, FA, POL, start_tm, Heap.empty, reduceIte, Nat.reduceLT, Nat.reduceLeDiff, Nat.reduceEqDiff, Nat.reduceAdd, Nat.reduceSub, Nat.reduceMul, Nat.reduceBEq, Int.reduceLT, Int.reduceLE, Int.reduceEq, Int.reduceNeg, Int.reduceAdd, Int.reduceSub, Int.reduceMul, Bool.false_eq_true, Bool.not_true, Bool.not_false, decide_eq_true_eq, and_self, true_and, and_true, reduceCtorEq, ne_eq, not_false_eq_true, not_true_eq_false, decide_true, decide_false, or_false, false_or, NUM, SRG, SPND, c_sane, eb, ce, cs, re, rs, eq_rng, eq_seep, and_self]
    · rw [if_neg hs] at cs rs
      simp (config := { maxSteps := 1000000 }) only [RUN, PATHS, BASE, FA, POL, start_tm, Heap.empty, reduceIte, Nat.reduceLT, Nat.reduceLeDiff, Nat.reduceEqDiff, Nat.reduceAdd, Nat.reduceSub, Nat.reduceMul, Nat.reduceBEq, Int.reduceLT, Int.reduceLE, Int.reduceEq, Int.reduceNeg, Int.reduceAdd, Int.reduceSub, Int.reduceMul, Bool.false_eq_true, Bool.not_true, Bool.not_false, decide_eq_true_eq, and_self, true_and, and_true, reduceCtorEq, ne_eq, not_false_eq_true, not_true_eq_false, decide_true, decide_false, or_false, false_or, NUM, SRG, SPND, c_sane, eb, ce, cs, re, rs, eq_rng, eq_seep, and_self]
  · rw [if_neg he] at ce re
    by_cases hs : (SER S delay).hi < (SER S delay).lo
    · rw [if_pos hs] at cs rs
      simp (config := { maxSteps := 1000000 }) only [RUN, PATHS, BASE, FA, POL, start_tm, Heap.empty, reduceIte, Nat.reduceLT, Nat.reduceLeDiff, Nat.reduceEqDiff, Nat.reduceAdd, Nat.reduceSub, Nat.reduceMul, Nat.reduceBEq, Int.reduceLT, Int.reduceLE, Int.reduceEq, Int.reduceNeg, Int.reduceAdd, Int.reduceSub, Int.reduceMul, Bool.false_eq_true, Bool.not_true, Bool.not_false, decide_eq_true_eq, and_self, true_and, and_true, reduceCtorEq, ne_eq, not_false_eq_true, not_true_eq_false, decide_true, decide_false, or_false, false_or, NUM, SRG, SPND, c_sane, eb, ce, cs, re, rs, eq_rng, eq_seep, and_self]
    · rw [if_neg hs] at cs rs
      simp (config := { maxSteps := 1000000 }) only [RUN, PATHS, BASE, FA, POL, start_tm, Heap.empty, reduceIte, Nat.reduceLT, Nat.reduceLeDiff, Nat.reduceEqDiff, Nat.reduceAdd, Nat.reduceSub, Nat.reduceMul, Nat.reduceBEq, Int.reduceLT, Int.reduceLE, Int.reduceEq, Int.reduceNeg, Int.reduceAdd, Int.reduceSub, Int.reduceMul, Bool.false_eq_true, Bool.not_true, Bool.not_false, decide_eq_true_eq, and_self, true_and, and_true, reduceCtorEq, ne_eq, not_false_eq_true, not_true_eq_false, decide_true, decide_false, or_false, false_or, NUM, SRG, SPND, c_sane, eb, ce, cs, re, rs, eq_rng, eq_seep, and_self]
end Go.Proofs.YthhhahkiflkemaaDoor
