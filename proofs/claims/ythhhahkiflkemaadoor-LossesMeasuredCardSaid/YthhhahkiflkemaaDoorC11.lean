/-
  What seeps.
-/
import Derived.Test.YthhhahkiflkemaaDoorC10
set_option linter.unusedSimpArgs false
set_option linter.unusedVariables false
set_option linter.unusedSectionVars false
namespace Go.Proofs.YthhhahkiflkemaaDoor
open Go GoV
set_option maxRecDepth 100000

/-- What one ponding test tells. -/
def SEL (delay : Int) (x : Pnd) : Rg := ⟨min 1048576 (1048576 * x.lo * delay / (x.v * x.h)), UPD (1048576 * x.hi * delay) (x.v * x.h)⟩
theorem se_bd {delay : Int} (hd : 1 ≤ delay ∧ delay ≤ 16) {x : Pnd} (hx : PNDK x) :
    (0 ≤ 1048576 * x.lo ∧ 1048576 * x.lo ≤ 1125899906842624) ∧ (0 ≤ 1048576 * x.hi ∧ 1048576 * x.hi ≤ 1125899906842624) ∧ (0 ≤ 1048576 * x.lo * delay ∧ 1048576 * x.lo * delay ≤ 18014398509481984) ∧
    (0 ≤ 1048576 * x.hi * delay ∧ 1048576 * x.hi * delay ≤ 18014398509481984) ∧ (1 ≤ x.v * x.h ∧ x.v * x.h ≤ 4398046511104) := by
  obtain ⟨⟨v1, v2⟩, ⟨h1, h2⟩, x1, x2, x3⟩ := hx
  have p1 : 1048576 * x.lo * delay ≤ 1125899906842624 * 16 := Int.mul_le_mul (by omega) hd.2 (by omega) (by decide)
  have p0 : 0 ≤ 1048576 * x.lo * delay := Int.mul_nonneg (by omega) (by omega)
  have q1 : 1048576 * x.hi * delay ≤ 1125899906842624 * 16 := Int.mul_le_mul (by omega) hd.2 (by omega) (by decide)
  have q0 : 0 ≤ 1048576 * x.hi * delay := Int.mul_nonneg (by omega) (by omega)
  have r1 : x.v * x.h ≤ 1073741824 * 4096 := Int.mul_le_mul v2 h2 (by omega) (by decide)
  have r0 : 1 * 1 ≤ x.v * x.h := Int.mul_le_mul v1 h1 (by decide) (by omega)
  exact ⟨⟨by omega, by omega⟩, ⟨by omega, by omega⟩, ⟨p0, by omega⟩, ⟨q0, by omega⟩, ⟨by omega, by omega⟩⟩
theorem c_se1 (delay : Int) (hde : 1 ≤ delay ∧ delay ≤ 16) (x : Pnd) (hx : PNDK x) : ap Tryd.prog pol 42 [pnd x, .rop [I delay]] = some (.ret (rg (SEL delay x))) := by
  obtain ⟨b1, b2, b3, b4, b5⟩ := se_bd hde hx
  have e1 := Int.tdiv_eq_ediv_of_nonneg (a := 1048576 * x.lo * delay) (b := x.v * x.h) b3.1
  have q : 0 ≤ 1048576 * x.lo * delay / (x.v * x.h) ∧ 1048576 * x.lo * delay / (x.v * x.h) ≤ 1048576 * x.lo * delay := ⟨Int.ediv_nonneg b3.1 (by omega), Int.ediv_le_self _ b3.1⟩
  have cu := c_up (1048576 * x.hi * delay) (x.v * x.h) (by omega) b4.1 (by omega)
  rw [ap_eq _ Tryd.func42 rfl Tryd.ntmps42 Tryd.results42 (by kernel_rfl) rfl (by exact Nat.le_of_ble_eq_true rfl)]
  simp (config := { maxSteps := 1000000 }) only [RUN, PATHS, BASE, FA, POL, start_tm, Heap.empty, reduceIte, Nat.reduceLT, Nat.reduceLeDiff, Nat.reduceEqDiff, Nat.reduceAdd, Nat.reduceSub, Nat.reduceMul, Nat.reduceBEq, Int.reduceLT, Int.reduceLE, Int.reduceEq, Int.reduceNeg, Int.reduceAdd, Int.reduceSub, Int.reduceMul, Bool.false_eq_true, Bool.not_true, Bool.not_false, decide_eq_true_eq, and_self, true_and, and_true, reduceCtorEq, ne_eq, not_false_eq_true, not_true_eq_false, decide_true, decide_false, or_false, false_or, NUM, e1, cu, (show ¬ x.v * x.h = 0 by omega), i64_in (x := 1048576 * x.lo) (by unfold I64; omega), i64_in (x := 1048576 * x.hi) (by unfold I64; omega), i64_in (x := 1048576 * x.lo * delay) (by unfold I64; omega), i64_in (x := 1048576 * x.hi * delay) (by unfold I64; omega), i64_in (x := x.v * x.h) (by unfold I64; omega), i64_in (x := 1048576 * x.lo * delay / (x.v * x.h)) (by unfold I64; omega)]
  rw [if_pos (by kernel_rfl)]
  rfl
def SES (a : Rg) (delay : Int) (l : List Pnd) (j : Nat) : Rg := MEET a ((l.take j).map (SEL delay))
theorem SES_succ {a : Rg} {delay : Int} {l : List Pnd} {j : Nat} {x : Pnd} (e : l[j]? = some x) : SES a delay l (j + 1) = ⟨max (SES a delay l j).lo (SEL delay x).lo, min (SES a delay l j).hi (SEL delay x).hi⟩ := by
  unfold SES
  rw [List.take_add_one, e, List.map_append]
  exact MEET_app _ _ _
theorem c_meetS (a : Rg) (l : List Pnd) (c : Option Nat) (delay : Int) (hde : 1 ≤ delay ∧ delay ≤ 16) (hK : PO l) (hl : l.length ≤ 16) : ap Tryd.prog pol 40 [rg a, .fn 65 [.rop [.vs 4 (l.map pnd) c]], .fn 42 [.rop [I delay]]] = some (.ret (if (SES a delay l l.length).hi < (SES a delay l l.length).lo then .tup [rg ⟨0, 0⟩, I 210] else .tup [rg (SES a delay l l.length), I 0])) := by
  rw [ap_eq _ Tryd.func40 rfl Tryd.ntmps40 Tryd.results40 (by kernel_rfl) rfl (by exact Nat.le_of_ble_eq_true rfl)]
  simp (config := { maxSteps := 1000000 }) only [RUN, PATHS, BASE, FA, POL, start_tm, Heap.empty, reduceIte, Nat.reduceLT, Nat.reduceLeDiff, Nat.reduceEqDiff, Nat.reduceAdd, Nat.reduceSub, Nat.reduceMul, Nat.reduceBEq, Int.reduceLT, Int.reduceLE, Int.reduceEq, Int.reduceNeg, Int.reduceAdd, Int.reduceSub, Int.reduceMul, Bool.false_eq_true, Bool.not_true, Bool.not_false, decide_eq_true_eq, and_self, true_and, and_true, reduceCtorEq, ne_eq, not_false_eq_true, not_true_eq_false, decide_true, decide_false, or_false, false_or, NUM, SRG, SPND]
  rw [callF_eq _ _ Tryd.func65 rfl Tryd.ntmps65 Tryd.results65 (by kernel_rfl) rfl (by exact Nat.le_of_ble_eq_true rfl)]
  simp (config := { maxSteps := 1000000 }) only [RUN, PATHS, BASE, FA, POL, start_tm, Heap.empty, reduceIte, Nat.reduceLT, Nat.reduceLeDiff, Nat.reduceEqDiff, Nat.reduceAdd, Nat.reduceSub, Nat.reduceMul, Nat.reduceBEq, Int.reduceLT, Int.reduceLE, Int.reduceEq, Int.reduceNeg, Int.reduceAdd, Int.reduceSub, Int.reduceMul, Bool.false_eq_true, Bool.not_true, Bool.not_false, decide_eq_true_eq, and_self, true_and, and_true, reduceCtorEq, ne_eq, not_false_eq_true, not_true_eq_false, decide_true, decide_false, or_false, false_or, NUM, SRG, SPND, List.length_map]
  generalize hL : W _ (.loop _) _ = L
  obtain ⟨ex, s, rfl, rfl, r1, r2, r3, hd, hf, hx⟩ := loop_at hL (α := Nat) (fun j => l.length - j)
    (fun s0 j s => j ≤ l.length ∧ s.tmps 7 = I j ∧ s.tmps 6 = I l.length ∧ s.tmps 5 = .vs 4 (l.map pnd) c ∧ s.tmps 0 = .yield 3 ∧ s.H.rows 1 = some (.gro 2 [rg (SES a delay l j)] 0) ∧ s.H.rows 2 = s0.H.rows 2 ∧ s.H.rows 3 = s0.H.rows 3 ∧ s.defers = [] ∧ s.fid = 4 ∧ 4 < s.H.next)
    (fun s0 ex s => ex = .exit 0 ∧ s.H.rows 1 = some (.gro 2 [rg (SES a delay l l.length)] 0) ∧ s.H.rows 2 = s0.H.rows 2 ∧ s.H.rows 3 = s0.H.rows 3 ∧ s.defers = [] ∧ s.fid = 4 ∧ 4 < s.H.next) 0
    (by simp (config := { maxSteps := 1000000 }) only [RUN, PATHS, BASE, FA, POL, start_tm, Heap.empty, reduceIte, Nat.reduceLT, Nat.reduceLeDiff, Nat.reduceEqDiff, Nat.reduceAdd, Nat.reduceSub, Nat.reduceMul, Nat.reduceBEq, Int.reduceLT, Int.reduceLE, Int.reduceEq, Int.reduceNeg, Int.reduceAdd, Int.reduceSub, Int.reduceMul, Bool.false_eq_true, Bool.not_true, Bool.not_false, decide_eq_true_eq, and_self, true_and, and_true, reduceCtorEq, ne_eq, not_false_eq_true, not_true_eq_false, decide_true, decide_false, or_false, false_or]; exact ⟨Nat.zero_le _, by simp, by simp [SES, MEET]⟩) (by
      rintro j s r0 hW ⟨hj, h13, h12, h11, h0', r1, r2, r3, hd, hf, hx⟩
      simp (config := { maxSteps := 1000000 }) only [RUN, PATHS, BASE, FA, POL, start_tm, Heap.empty, reduceIte, Nat.reduceLT, Nat.reduceLeDiff, Nat.reduceEqDiff, Nat.reduceAdd, Nat.reduceSub, Nat.reduceMul, Nat.reduceBEq, Int.reduceLT, Int.reduceLE, Int.reduceEq, Int.reduceNeg, Int.reduceAdd, Int.reduceSub, Int.reduceMul, Bool.false_eq_true, Bool.not_true, Bool.not_false, decide_eq_true_eq, and_self, true_and, and_true, reduceCtorEq, ne_eq, not_false_eq_true, not_true_eq_false, decide_true, decide_false, or_false, false_or] at r2
      simp (config := { maxSteps := 1000000 }) only [RUN, PATHS, BASE, FA, POL, start_tm, Heap.empty, reduceIte, Nat.reduceLT, Nat.reduceLeDiff, Nat.reduceEqDiff, Nat.reduceAdd, Nat.reduceSub, Nat.reduceMul, Nat.reduceBEq, Int.reduceLT, Int.reduceLE, Int.reduceEq, Int.reduceNeg, Int.reduceAdd, Int.reduceSub, Int.reduceMul, Bool.false_eq_true, Bool.not_true, Bool.not_false, decide_eq_true_eq, and_self, true_and, and_true, reduceCtorEq, ne_eq, not_false_eq_true, not_true_eq_false, decide_true, decide_false, or_false, false_or] at r3
      by_cases hp : j < l.length
      · have e0 : l[j]? = some l[j] := List.getElem?_eq_getElem hp
        have e1 := map_get (f := pnd) e0
        have hx' : PNDK l[j] := hK _ (List.getElem_mem hp)
        have es := SES_succ (a := a) (delay := delay) e0
        have c1 := c_se1 delay hde l[j] hx'
        simp (config := { maxSteps := 1000000 }) only [RUN, PATHS, BASE, FA, POL, start_tm, Heap.empty, reduceIte, Nat.reduceLT, Nat.reduceLeDiff, Nat.reduceEqDiff, Nat.reduceAdd, Nat.reduceSub, Nat.reduceMul, Nat.reduceBEq, Int.reduceLT, Int.reduceLE, Int.reduceEq, Int.reduceNeg, Int.reduceAdd, Int.reduceSub, Int.reduceMul, Bool.false_eq_true, Bool.not_true, Bool.not_false, decide_eq_true_eq, and_self, true_and, and_true, reduceCtorEq, ne_eq, not_false_eq_true, not_true_eq_false, decide_true, decide_false, or_false, false_or, NUM, SRG, SPND, Tryd.func40, h13, h12, h11, h0', r1, r2, r3, hd, hf, e1, c1, List.length_map, Int.toNat_natCast, (show (j : Int) < l.length by omega), (show (0 : Int) ≤ j by omega), (i64_in (x := (j : Int) + 1) (by unfold I64; omega))] at hW
        subst hW
        refine rd_next (j + 1) ?_ (show l.length - (j + 1) < l.length - j by omega)
        simp (config := { maxSteps := 1000000 }) only [RUN, PATHS, BASE, FA, POL, start_tm, Heap.empty, reduceIte, Nat.reduceLT, Nat.reduceLeDiff, Nat.reduceEqDiff, Nat.reduceAdd, Nat.reduceSub, Nat.reduceMul, Nat.reduceBEq, Int.reduceLT, Int.reduceLE, Int.reduceEq, Int.reduceNeg, Int.reduceAdd, Int.reduceSub, Int.reduceMul, Bool.false_eq_true, Bool.not_true, Bool.not_false, decide_eq_true_eq, and_self, true_and, and_true, reduceCtorEq, ne_eq, not_false_eq_true, not_true_eq_false, decide_true, decide_false, or_false, false_or, h12, h11, h0', r1, r2, r3, es]
        exact ⟨by omega, by simp, by omega⟩
      · simp (config := { maxSteps := 1000000 }) only [RUN, PATHS, BASE, FA, POL, start_tm, Heap.empty, reduceIte, Nat.reduceLT, Nat.reduceLeDiff, Nat.reduceEqDiff, Nat.reduceAdd, Nat.reduceSub, Nat.reduceMul, Nat.reduceBEq, Int.reduceLT, Int.reduceLE, Int.reduceEq, Int.reduceNeg, Int.reduceAdd, Int.reduceSub, Int.reduceMul, Bool.false_eq_true, Bool.not_true, Bool.not_false, decide_eq_true_eq, and_self, true_and, and_true, reduceCtorEq, ne_eq, not_false_eq_true, not_true_eq_false, decide_true, decide_false, or_false, false_or, List.length_map, h13, h12, h11, h0', r1, r2, r3, hd, hf, (show ¬ (j : Int) < l.length by omega)] at hW
        subst hW
        have : j = l.length := by omega
        subst this
        refine rd_exit ⟨rfl, ?_⟩
        simp (config := { maxSteps := 1000000 }) only [RUN, PATHS, BASE, FA, POL, start_tm, Heap.empty, reduceIte, Nat.reduceLT, Nat.reduceLeDiff, Nat.reduceEqDiff, Nat.reduceAdd, Nat.reduceSub, Nat.reduceMul, Nat.reduceBEq, Int.reduceLT, Int.reduceLE, Int.reduceEq, Int.reduceNeg, Int.reduceAdd, Int.reduceSub, Int.reduceMul, Bool.false_eq_true, Bool.not_true, Bool.not_false, decide_eq_true_eq, and_self, true_and, and_true, reduceCtorEq, ne_eq, not_false_eq_true, not_true_eq_false, decide_true, decide_false, or_false, false_or, r1, r2, r3, hx])
  simp (config := { maxSteps := 1000000 }) only [RUN, PATHS, BASE, FA, POL, start_tm, Heap.empty, reduceIte, Nat.reduceLT, Nat.reduceLeDiff, Nat.reduceEqDiff, Nat.reduceAdd, Nat.reduceSub, Nat.reduceMul, Nat.reduceBEq, Int.reduceLT, Int.reduceLE, Int.reduceEq, Int.reduceNeg, Int.reduceAdd, Int.reduceSub, Int.reduceMul, Bool.false_eq_true, Bool.not_true, Bool.not_false, decide_eq_true_eq, and_self, true_and, and_true, reduceCtorEq, ne_eq, not_false_eq_true, not_true_eq_false, decide_true, decide_false, or_false, false_or] at r2
  simp (config := { maxSteps := 1000000 }) only [RUN, PATHS, BASE, FA, POL, start_tm, Heap.empty, reduceIte, Nat.reduceLT, Nat.reduceLeDiff, Nat.reduceEqDiff, Nat.reduceAdd, Nat.reduceSub, Nat.reduceMul, Nat.reduceBEq, Int.reduceLT, Int.reduceLE, Int.reduceEq, Int.reduceNeg, Int.reduceAdd, Int.reduceSub, Int.reduceMul, Bool.false_eq_true, Bool.not_true, Bool.not_false, decide_eq_true_eq, and_self, true_and, and_true, reduceCtorEq, ne_eq, not_false_eq_true, not_true_eq_false, decide_true, decide_false, or_false, false_or] at r3
  simp (config := { maxSteps := 1000000 }) only [RUN, PATHS, BASE, FA, POL, start_tm, Heap.empty, reduceIte, Nat.reduceLT, Nat.reduceLeDiff, Nat.reduceEqDiff, Nat.reduceAdd, Nat.reduceSub, Nat.reduceMul, Nat.reduceBEq, Int.reduceLT, Int.reduceLE, Int.reduceEq, Int.reduceNeg, Int.reduceAdd, Int.reduceSub, Int.reduceMul, Bool.false_eq_true, Bool.not_true, Bool.not_false, decide_eq_true_eq, and_self, true_and, and_true, reduceCtorEq, ne_eq, not_false_eq_true, not_true_eq_false, decide_true, decide_false, or_false, false_or, NUM, r1, r2, r3, hd, hf]
  split <;> rfl
/-- The table of soils. -/
def SOLS : List PV := [.int .i64 0, .int .i64 64, .int .i64 64, .int .i64 512, .int .i64 256, .int .i64 1024, .int .i64 512, .int .i64 2048, .int .i64 1024, .int .i64 4096, .int .i64 2048, .int .i64 16384]
def slo (n : Int) : Int := if n = 0 then 0 else if n = 1 then 64 else if n = 2 then 256 else if n = 3 then 512 else if n = 4 then 1024 else 2048
def shi (n : Int) : Int := if n = 0 then 64 else if n = 1 then 512 else if n = 2 then 1024 else if n = 3 then 2048 else if n = 4 then 4096 else 16384
def SE0 (S : Srv) (delay : Int) : Rg := ⟨slo S.so * delay, min 1048576 (shi S.so * delay)⟩
def SER (S : Srv) (delay : Int) : Rg := SES (SE0 S delay) delay S.ponds S.ponds.length
theorem soil_at (n : Int) (h : 0 ≤ n ∧ n ≤ 5) : List.take 2 (List.drop (n.toNat * 2) SOLS) = [I (slo n), I (shi n)] ∧ 2 ≤ (List.drop (n.toNat * 2) SOLS).length := by
  obtain rfl | rfl | rfl | rfl | rfl | rfl : n = 0 ∨ n = 1 ∨ n = 2 ∨ n = 3 ∨ n = 4 ∨ n = 5 := by omega
  all_goals exact ⟨by kernel_rfl, by decide⟩
theorem soil_bd (n : Int) : 0 ≤ slo n ∧ slo n ≤ 2048 ∧ 0 ≤ shi n ∧ shi n ≤ 16384 := by
  unfold slo shi
  refine ⟨?_, ?_, ?_, ?_⟩ <;> repeat' split
  all_goals omega
theorem MEET_bd (a : Rg) (l : List Rg) (ha : 0 ≤ a.lo ∧ a.hi ≤ 1048576) : (MEET a l).hi ≤ 1048576 ∧ 0 ≤ (MEET a l).lo ∧ a.lo ≤ (MEET a l).lo ∧ (MEET a l).hi ≤ a.hi := by
  induction l generalizing a with
  | nil => exact ⟨ha.2, ha.1, Int.le_refl _, Int.le_refl _⟩
  | cons z l ih =>
    have := ih ⟨max a.lo z.lo, min a.hi z.hi⟩ ⟨by show 0 ≤ max a.lo z.lo; omega, by show min a.hi z.hi ≤ 1048576; omega⟩
    simp only [MEET]
    simp only at this
    omega
theorem c_seep (S : Srv) (hS : S.OK) (c c' : Option Nat) (delay : Int) : ap Tryd.prog pol 15 [srv S c c', I delay] = some (.ret (if CK S delay = 0 then (if (SER S delay).hi < (SER S delay).lo then .tup [.agg [I 0, I 0, I 0, I 0], I 210] else .tup [.agg [I (MK (SER S delay).lo 1048576).1, I (MK (SER S delay).lo 1048576).2.1, I (MK (SER S delay).hi 1048576).1, I (MK (SER S delay).hi 1048576).2.1], I 0]) else .tup [.agg [I 0, I 0, I 0, I 0], I (CK S delay)])) := by
  have ck := c_check33 S hS c c' delay
  by_cases h : CK S delay = 0
  rotate_left
  · rw [ap_eq _ Tryd.func15 rfl Tryd.ntmps15 Tryd.results15 (by kernel_rfl) rfl (by exact Nat.le_of_ble_eq_true rfl)]
    simp (config := { maxSteps := 1000000 }) only [RUN, PATHS, BASE, FA, POL, start_tm, Heap.empty, reduceIte, Nat.reduceLT, Nat.reduceLeDiff, Nat.reduceEqDiff, Nat.reduceAdd, Nat.reduceSub, Nat.reduceMul, Nat.reduceBEq, Int.reduceLT, Int.reduceLE, Int.reduceEq, Int.reduceNeg, Int.reduceAdd, Int.reduceSub, Int.reduceMul, Bool.false_eq_true, Bool.not_true, Bool.not_false, decide_eq_true_eq, and_self, true_and, and_true, reduceCtorEq, ne_eq, not_false_eq_true, not_true_eq_false, decide_true, decide_false, or_false, false_or, NUM, SRG, SPND, ck, h]
  obtain ⟨⟨l1, l2⟩, hK, d1, d2⟩ := CK_0.1 h
  have hso := hK.1.2.1
  have st := soil_at S.so hso
  have sb := soil_bd S.so
  have cm := c_meetS (SE0 S delay) S.ponds c' delay ⟨d1, d2⟩ hK.2.2 l2
  have m1 : slo S.so * delay ≤ 2048 * 16 := Int.mul_le_mul sb.2.1 d2 (by omega) (by decide)
  have m0 : 0 ≤ slo S.so * delay := Int.mul_nonneg sb.1 (by omega)
  have m3 : shi S.so * delay ≤ 16384 * 16 := Int.mul_le_mul sb.2.2.2 d2 (by omega) (by decide)
  have m2 : 0 ≤ shi S.so * delay := Int.mul_nonneg sb.2.2.1 (by omega)
  have mb := MEET_bd (SE0 S delay) ((S.ponds.take S.ponds.length).map (SEL delay)) ⟨m0, by show min 1048576 (shi S.so * delay) ≤ 1048576; omega⟩
  change (SER S delay).hi ≤ 1048576 ∧ 0 ≤ (SER S delay).lo ∧ _ at mb
  rw [show SES (SE0 S delay) delay S.ponds S.ponds.length = SER S delay from rfl] at cm
  simp only [SOLS] at st
  by_cases hm : (SER S delay).hi < (SER S delay).lo
  · rw [if_pos hm] at cm
    simp only [SE0] at cm
    rw [ap_eq _ Tryd.func15 rfl Tryd.ntmps15 Tryd.results15 (by kernel_rfl) rfl (by exact Nat.le_of_ble_eq_true rfl)]
    simp (config := { maxSteps := 1000000 }) only [RUN, PATHS, BASE, FA, POL, start_tm, Heap.empty, reduceIte, Nat.reduceLT, Nat.reduceLeDiff, Nat.reduceEqDiff, Nat.reduceAdd, Nat.reduceSub, Nat.reduceMul, Nat.reduceBEq, Int.reduceLT, Int.reduceLE, Int.reduceEq, Int.reduceNeg, Int.reduceAdd, Int.reduceSub, Int.reduceMul, Bool.false_eq_true, Bool.not_true, Bool.not_false, decide_eq_true_eq, and_self, true_and, and_true, reduceCtorEq, ne_eq, not_false_eq_true, not_true_eq_false, decide_true, decide_false, or_false, false_or, NUM, SRG, SPND, ck, h, c_ponds, cm, hm, st, hso.1, i64_in (x := slo S.so * delay) (by unfold I64; omega), i64_in (x := shi S.so * delay) (by unfold I64; omega)]
    rw [if_pos (by omega), if_pos (by kernel_rfl)]
  · rw [if_neg hm] at cm
    simp only [SE0] at cm
    have k1 := c_make (SER S delay).lo 1048576 (by unfold I64; omega) (by unfold I64; omega)
    have k2 := c_make (SER S delay).hi 1048576 (by unfold I64; omega) (by unfold I64; omega)
    rw [ap_eq _ Tryd.func15 rfl Tryd.ntmps15 Tryd.results15 (by kernel_rfl) rfl (by exact Nat.le_of_ble_eq_true rfl)]
    simp (config := { maxSteps := 1000000 }) only [RUN, PATHS, BASE, FA, POL, start_tm, Heap.empty, reduceIte, Nat.reduceLT, Nat.reduceLeDiff, Nat.reduceEqDiff, Nat.reduceAdd, Nat.reduceSub, Nat.reduceMul, Nat.reduceBEq, Int.reduceLT, Int.reduceLE, Int.reduceEq, Int.reduceNeg, Int.reduceAdd, Int.reduceSub, Int.reduceMul, Bool.false_eq_true, Bool.not_true, Bool.not_false, decide_eq_true_eq, and_self, true_and, and_true, reduceCtorEq, ne_eq, not_false_eq_true, not_true_eq_false, decide_true, decide_false, or_false, false_or, NUM, SRG, SPND, ck, h, c_ponds, cm, hm, st, hso.1, i64_in (x := slo S.so * delay) (by unfold I64; omega), i64_in (x := shi S.so * delay) (by unfold I64; omega), k1, k2]
    rw [if_pos (by omega), if_pos (by kernel_rfl)]
end Go.Proofs.YthhhahkiflkemaaDoor
