/-
  What evaporates.
-/
import Derived.Test.YthhhahkiflkemaaDoorC9
set_option linter.unusedSimpArgs false
set_option linter.unusedVariables false
set_option linter.unusedSectionVars false
namespace Go.Proofs.YthhhahkiflkemaaDoor
open Go GoV
set_option maxRecDepth 100000

theorem CK_0 {S : Srv} {delay : Int} : CK S delay = 0 ↔ (S.pans.length ≤ 16 ∧ S.ponds.length ≤ 16) ∧ SRVK S ∧ 1 ≤ delay ∧ delay ≤ 16 := by
  unfold CK
  split
  · simp; omega
  · split
    · split
      · next h => simp [*]; omega
      · next h => simp [*]
    · simp [*]
/-- What one depth tells. -/
def EVL (S : Srv) (delay : Int) (x : Rg) : Rg := ⟨S.n0 * x.lo * (S.su * delay) / (240 * S.d0), UPD (S.n1 * x.hi * (S.su * delay)) (240 * S.d1)⟩
def MEET (a : Rg) : List Rg → Rg
  | [] => a
  | z :: l => MEET ⟨max a.lo z.lo, min a.hi z.hi⟩ l
theorem ev_bd {S : Srv} {delay : Int} (hK : SRVK S) (hd : 1 ≤ delay ∧ delay ≤ 16) {x : Rg} (hx : PANK x) :
    (0 ≤ S.su * delay ∧ S.su * delay ≤ 16777216) ∧ (0 ≤ S.n0 * x.lo ∧ S.n0 * x.lo ≤ 1000000) ∧ (0 ≤ S.n1 * x.hi ∧ S.n1 * x.hi ≤ 1000000) ∧
    (0 ≤ S.n0 * x.lo * (S.su * delay) ∧ S.n0 * x.lo * (S.su * delay) ≤ 16777216000000) ∧ (0 ≤ S.n1 * x.hi * (S.su * delay) ∧ S.n1 * x.hi * (S.su * delay) ≤ 16777216000000) ∧
    (1 ≤ S.d0 ∧ S.d0 ≤ 1000) ∧ (1 ≤ S.d1 ∧ S.d1 ≤ 1000) := by
  obtain ⟨⟨⟨a1, a2⟩, _, ⟨⟨⟨v1, _⟩, b1, b2⟩, ⟨⟨v2, _⟩, c1, c2⟩, _⟩, m⟩, _, _⟩ := hK
  obtain ⟨x1, x2, x3⟩ := hx
  have p1 : S.su * delay ≤ 1048576 * 16 := Int.mul_le_mul a2 hd.2 (by omega) (by decide)
  have p0 : 0 ≤ S.su * delay := Int.mul_nonneg a1 (by omega)
  have q1 : S.n0 * x.lo ≤ 1000 * 1000 := Int.mul_le_mul (by omega) (by omega) x1 (by decide)
  have q0 : 0 ≤ S.n0 * x.lo := Int.mul_nonneg b1 x1
  have r1 : S.n1 * x.hi ≤ 1000 * 1000 := Int.mul_le_mul (by omega) (by omega) (by omega) (by decide)
  have r0 : 0 ≤ S.n1 * x.hi := Int.mul_nonneg c1 (by omega)
  have s1 : S.n0 * x.lo * (S.su * delay) ≤ 1000000 * 16777216 := Int.mul_le_mul (by omega) (by omega) p0 (by decide)
  have t1 : S.n1 * x.hi * (S.su * delay) ≤ 1000000 * 16777216 := Int.mul_le_mul (by omega) (by omega) p0 (by decide)
  exact ⟨⟨p0, by omega⟩, ⟨q0, by omega⟩, ⟨r0, by omega⟩, ⟨Int.mul_nonneg q0 p0, by omega⟩, ⟨Int.mul_nonneg r0 p0, by omega⟩, ⟨v1, by omega⟩, ⟨v2, by omega⟩⟩
abbrev srvc (S : Srv) (c c' : Option Nat) : List PV := [I S.su, I S.so, I S.n0, I S.d0, I S.n1, I S.d1, .vs 2 (S.pans.map rg) c, .vs 4 (S.ponds.map pnd) c']
theorem c_ev1 (S : Srv) (c c' : Option Nat) (delay : Int) (hK : SRVK S) (hde : 1 ≤ delay ∧ delay ≤ 16) (x : Rg) (hx : PANK x) :
    ap Tryd.prog pol 36 [rg x, .rop (srvc S c c'), .rop [I delay]] = some (.ret (rg (EVL S delay x))) := by
  obtain ⟨b1, b2, b3, b4, b5, b6, b7⟩ := ev_bd hK hde hx
  have e1 := Int.tdiv_eq_ediv_of_nonneg (a := S.n0 * x.lo * (S.su * delay)) (b := 240 * S.d0) b4.1
  have q : 0 ≤ S.n0 * x.lo * (S.su * delay) / (240 * S.d0) ∧ S.n0 * x.lo * (S.su * delay) / (240 * S.d0) ≤ S.n0 * x.lo * (S.su * delay) := ⟨Int.ediv_nonneg b4.1 (by omega), Int.ediv_le_self _ b4.1⟩
  have cu := c_up (S.n1 * x.hi * (S.su * delay)) (240 * S.d1) (by omega) b5.1 (by omega)
  rw [ap_eq _ Tryd.func36 rfl Tryd.ntmps36 Tryd.results36 (by kernel_rfl) rfl (by exact Nat.le_of_ble_eq_true rfl)]
  simp (config := { maxSteps := 1000000 }) only [RUN, PATHS, BASE, FA, POL, start_tm, Heap.empty, reduceIte, Nat.reduceLT, Nat.reduceLeDiff, Nat.reduceEqDiff, Nat.reduceAdd, Nat.reduceSub, Nat.reduceMul, Nat.reduceBEq, Int.reduceLT, Int.reduceLE, Int.reduceEq, Int.reduceNeg, Int.reduceAdd, Int.reduceSub, Int.reduceMul, Bool.false_eq_true, Bool.not_true, Bool.not_false, decide_eq_true_eq, and_self, true_and, and_true, reduceCtorEq, ne_eq, not_false_eq_true, not_true_eq_false, decide_true, decide_false, or_false, false_or, NUM, e1, cu, (show ¬ 240 * S.d0 = 0 by omega), i64_in (x := S.su * delay) (by unfold I64; omega), i64_in (x := S.n0 * x.lo) (by unfold I64; omega), i64_in (x := S.n1 * x.hi) (by unfold I64; omega), i64_in (x := S.n0 * x.lo * (S.su * delay)) (by unfold I64; omega), i64_in (x := S.n1 * x.hi * (S.su * delay)) (by unfold I64; omega), i64_in (x := 240 * S.d0) (by unfold I64; omega), i64_in (x := 240 * S.d1) (by unfold I64; omega), i64_in (x := S.n0 * x.lo * (S.su * delay) / (240 * S.d0)) (by unfold I64; omega)]
  rw [if_pos (by kernel_rfl)]
  rfl
/-- What a loop over depths leaves. -/
def EVS (S : Srv) (delay : Int) (l : List Rg) (j : Nat) : Rg := MEET ⟨0, 1099511627776⟩ ((l.take j).map (EVL S delay))
theorem MEET_app (a : Rg) (l : List Rg) (z : Rg) : MEET a (l ++ [z]) = ⟨max (MEET a l).lo z.lo, min (MEET a l).hi z.hi⟩ := by
  induction l generalizing a with
  | nil => rfl
  | cons y l ih => exact ih _
theorem EVS_succ {S : Srv} {delay : Int} {l : List Rg} {j : Nat} {x : Rg} (e : l[j]? = some x) : EVS S delay l (j + 1) = ⟨max (EVS S delay l j).lo (EVL S delay x).lo, min (EVS S delay l j).hi (EVL S delay x).hi⟩ := by
  unfold EVS
  rw [List.take_add_one, e, List.map_append]
  exact MEET_app _ _ _
def DEPTHS (S : Srv) : List Rg := if S.pans.length = 0 then [⟨0, 240⟩] else S.pans
def EVR (S : Srv) (delay : Int) : Rg := EVS S delay (DEPTHS S) (DEPTHS S).length
theorem c_meetE (S : Srv) (c c' : Option Nat) (delay : Int) (hK : SRVK S) (hde : 1 ≤ delay ∧ delay ≤ 16) (hl : S.pans.length ≤ 16) : ap Tryd.prog pol 34 [rg ⟨0, 1099511627776⟩, .fn 63 [.rop [.vs 2 (S.pans.map rg) c]], .fn 36 [.rop (srvc S c c'), .rop [I delay]]] = some (.ret (if (EVR S delay).hi < (EVR S delay).lo then .tup [rg ⟨0, 0⟩, I 210] else .tup [rg (EVR S delay), I 0])) := by
  rw [ap_eq _ Tryd.func34 rfl Tryd.ntmps34 Tryd.results34 (by kernel_rfl) rfl (by exact Nat.le_of_ble_eq_true rfl)]
  simp (config := { maxSteps := 1000000 }) only [RUN, PATHS, BASE, FA, POL, start_tm, Heap.empty, reduceIte, Nat.reduceLT, Nat.reduceLeDiff, Nat.reduceEqDiff, Nat.reduceAdd, Nat.reduceSub, Nat.reduceMul, Nat.reduceBEq, Int.reduceLT, Int.reduceLE, Int.reduceEq, Int.reduceNeg, Int.reduceAdd, Int.reduceSub, Int.reduceMul, Bool.false_eq_true, Bool.not_true, Bool.not_false, decide_eq_true_eq, and_self, true_and, and_true, reduceCtorEq, ne_eq, not_false_eq_true, not_true_eq_false, decide_true, decide_false, or_false, false_or, NUM, SRG, SPND]
  rw [callF_eq _ _ Tryd.func63 rfl Tryd.ntmps63 Tryd.results63 (by kernel_rfl) rfl (by exact Nat.le_of_ble_eq_true rfl)]
  by_cases h0 : S.pans.length = 0
  · have c1 := c_ev1 S c c' delay hK hde ⟨0, 240⟩ (by unfold PANK; decide)
    simp (config := { maxSteps := 1000000 }) only [RUN, PATHS, BASE, FA, POL, start_tm, Heap.empty, reduceIte, Nat.reduceLT, Nat.reduceLeDiff, Nat.reduceEqDiff, Nat.reduceAdd, Nat.reduceSub, Nat.reduceMul, Nat.reduceBEq, Int.reduceLT, Int.reduceLE, Int.reduceEq, Int.reduceNeg, Int.reduceAdd, Int.reduceSub, Int.reduceMul, Bool.false_eq_true, Bool.not_true, Bool.not_false, decide_eq_true_eq, and_self, true_and, and_true, reduceCtorEq, ne_eq, not_false_eq_true, not_true_eq_false, decide_true, decide_false, or_false, false_or, NUM, SRG, SPND, Tryd.func34, List.length_map, h0, c1]
    have e : EVR S delay = ⟨max 0 (EVL S delay ⟨0, 240⟩).lo, min 1099511627776 (EVL S delay ⟨0, 240⟩).hi⟩ := by
      unfold EVR EVS DEPTHS
      rw [if_pos h0]; rfl
    rw [e]
    split <;> rfl
  · have e : EVR S delay = EVS S delay S.pans S.pans.length := by unfold EVR DEPTHS; rw [if_neg h0]
    rw [e]
    simp (config := { maxSteps := 1000000 }) only [RUN, PATHS, BASE, FA, POL, start_tm, Heap.empty, reduceIte, Nat.reduceLT, Nat.reduceLeDiff, Nat.reduceEqDiff, Nat.reduceAdd, Nat.reduceSub, Nat.reduceMul, Nat.reduceBEq, Int.reduceLT, Int.reduceLE, Int.reduceEq, Int.reduceNeg, Int.reduceAdd, Int.reduceSub, Int.reduceMul, Bool.false_eq_true, Bool.not_true, Bool.not_false, decide_eq_true_eq, and_self, true_and, and_true, reduceCtorEq, ne_eq, not_false_eq_true, not_true_eq_false, decide_true, decide_false, or_false, false_or, NUM, SRG, SPND, List.length_map, h0, (show ¬ (S.pans.length : Int) = 0 by omega)]
    generalize hL : W _ (.loop _) _ = L
    obtain ⟨ex, s, rfl, rfl, r1, r2, r3, hd, hf, hx⟩ := loop_at hL (α := Nat) (fun j => S.pans.length - j)
      (fun s0 j s => j ≤ S.pans.length ∧ s.tmps 13 = I j ∧ s.tmps 12 = I S.pans.length ∧ s.tmps 11 = .vs 2 (S.pans.map rg) c ∧ s.tmps 0 = .yield 3 ∧ s.H.rows 1 = some (.gro 2 [rg (EVS S delay S.pans j)] 0) ∧ s.H.rows 2 = s0.H.rows 2 ∧ s.H.rows 3 = s0.H.rows 3 ∧ s.defers = [] ∧ s.fid = 4 ∧ 4 < s.H.next)
      (fun s0 ex s => ex = .exit 0 ∧ s.H.rows 1 = some (.gro 2 [rg (EVS S delay S.pans S.pans.length)] 0) ∧ s.H.rows 2 = s0.H.rows 2 ∧ s.H.rows 3 = s0.H.rows 3 ∧ s.defers = [] ∧ s.fid = 4 ∧ 4 < s.H.next) 0
      (by simp (config := { maxSteps := 1000000 }) only [RUN, PATHS, BASE, FA, POL, start_tm, Heap.empty, reduceIte, Nat.reduceLT, Nat.reduceLeDiff, Nat.reduceEqDiff, Nat.reduceAdd, Nat.reduceSub, Nat.reduceMul, Nat.reduceBEq, Int.reduceLT, Int.reduceLE, Int.reduceEq, Int.reduceNeg, Int.reduceAdd, Int.reduceSub, Int.reduceMul, Bool.false_eq_true, Bool.not_true, Bool.not_false, decide_eq_true_eq, and_self, true_and, and_true, reduceCtorEq, ne_eq, not_false_eq_true, not_true_eq_false, decide_true, decide_false, or_false, false_or]; exact ⟨Nat.zero_le _, by simp, by simp [EVS, MEET]⟩) (by
        rintro j s r0 hW ⟨hj, h13, h12, h11, h0', r1, r2, r3, hd, hf, hx⟩
        simp (config := { maxSteps := 1000000 }) only [RUN, PATHS, BASE, FA, POL, start_tm, Heap.empty, reduceIte, Nat.reduceLT, Nat.reduceLeDiff, Nat.reduceEqDiff, Nat.reduceAdd, Nat.reduceSub, Nat.reduceMul, Nat.reduceBEq, Int.reduceLT, Int.reduceLE, Int.reduceEq, Int.reduceNeg, Int.reduceAdd, Int.reduceSub, Int.reduceMul, Bool.false_eq_true, Bool.not_true, Bool.not_false, decide_eq_true_eq, and_self, true_and, and_true, reduceCtorEq, ne_eq, not_false_eq_true, not_true_eq_false, decide_true, decide_false, or_false, false_or] at r2
        simp (config := { maxSteps := 1000000 }) only [RUN, PATHS, BASE, FA, POL, start_tm, Heap.empty, reduceIte, Nat.reduceLT, Nat.reduceLeDiff, Nat.reduceEqDiff, Nat.reduceAdd, Nat.reduceSub, Nat.reduceMul, Nat.reduceBEq, Int.reduceLT, Int.reduceLE, Int.reduceEq, Int.reduceNeg, Int.reduceAdd, Int.reduceSub, Int.reduceMul, Bool.false_eq_true, Bool.not_true, Bool.not_false, decide_eq_true_eq, and_self, true_and, and_true, reduceCtorEq, ne_eq, not_false_eq_true, not_true_eq_false, decide_true, decide_false, or_false, false_or] at r3
        by_cases hp : j < S.pans.length
        · have e0 : S.pans[j]? = some S.pans[j] := List.getElem?_eq_getElem hp
          have e1 := map_get (f := rg) e0
          have hx' : PANK S.pans[j] := hK.2.1 _ (List.getElem_mem hp)
          have es := EVS_succ (S := S) (delay := delay) e0
          have c1 := c_ev1 S c c' delay hK hde S.pans[j] hx'
          simp (config := { maxSteps := 1000000 }) only [RUN, PATHS, BASE, FA, POL, start_tm, Heap.empty, reduceIte, Nat.reduceLT, Nat.reduceLeDiff, Nat.reduceEqDiff, Nat.reduceAdd, Nat.reduceSub, Nat.reduceMul, Nat.reduceBEq, Int.reduceLT, Int.reduceLE, Int.reduceEq, Int.reduceNeg, Int.reduceAdd, Int.reduceSub, Int.reduceMul, Bool.false_eq_true, Bool.not_true, Bool.not_false, decide_eq_true_eq, and_self, true_and, and_true, reduceCtorEq, ne_eq, not_false_eq_true, not_true_eq_false, decide_true, decide_false, or_false, false_or, NUM, SRG, SPND, Tryd.func34, h13, h12, h11, h0', r1, r2, r3, hd, hf, e1, c1, List.length_map, Int.toNat_natCast, (show (j : Int) < S.pans.length by omega), (show (0 : Int) ≤ j by omega), (i64_in (x := (j : Int) + 1) (by unfold I64; omega))] at hW
          subst hW
          refine rd_next (j + 1) ?_ (show S.pans.length - (j + 1) < S.pans.length - j by omega)
          simp (config := { maxSteps := 1000000 }) only [RUN, PATHS, BASE, FA, POL, start_tm, Heap.empty, reduceIte, Nat.reduceLT, Nat.reduceLeDiff, Nat.reduceEqDiff, Nat.reduceAdd, Nat.reduceSub, Nat.reduceMul, Nat.reduceBEq, Int.reduceLT, Int.reduceLE, Int.reduceEq, Int.reduceNeg, Int.reduceAdd, Int.reduceSub, Int.reduceMul, Bool.false_eq_true, Bool.not_true, Bool.not_false, decide_eq_true_eq, and_self, true_and, and_true, reduceCtorEq, ne_eq, not_false_eq_true, not_true_eq_false, decide_true, decide_false, or_false, false_or, h12, h11, h0', r1, r2, r3, es]
          exact ⟨by omega, by simp, by omega⟩
        · simp (config := { maxSteps := 1000000 }) only [RUN, PATHS, BASE, FA, POL, start_tm, Heap.empty, reduceIte, Nat.reduceLT, Nat.reduceLeDiff, Nat.reduceEqDiff, Nat.reduceAdd, Nat.reduceSub, Nat.reduceMul, Nat.reduceBEq, Int.reduceLT, Int.reduceLE, Int.reduceEq, Int.reduceNeg, Int.reduceAdd, Int.reduceSub, Int.reduceMul, Bool.false_eq_true, Bool.not_true, Bool.not_false, decide_eq_true_eq, and_self, true_and, and_true, reduceCtorEq, ne_eq, not_false_eq_true, not_true_eq_false, decide_true, decide_false, or_false, false_or, List.length_map, h13, h12, h11, h0', r1, r2, r3, hd, hf, (show ¬ (j : Int) < S.pans.length by omega)] at hW
          subst hW
          have : j = S.pans.length := by omega
          subst this
          refine rd_exit ⟨rfl, ?_⟩
          simp (config := { maxSteps := 1000000 }) only [RUN, PATHS, BASE, FA, POL, start_tm, Heap.empty, reduceIte, Nat.reduceLT, Nat.reduceLeDiff, Nat.reduceEqDiff, Nat.reduceAdd, Nat.reduceSub, Nat.reduceMul, Nat.reduceBEq, Int.reduceLT, Int.reduceLE, Int.reduceEq, Int.reduceNeg, Int.reduceAdd, Int.reduceSub, Int.reduceMul, Bool.false_eq_true, Bool.not_true, Bool.not_false, decide_eq_true_eq, and_self, true_and, and_true, reduceCtorEq, ne_eq, not_false_eq_true, not_true_eq_false, decide_true, decide_false, or_false, false_or, r1, r2, r3, hx])
    simp (config := { maxSteps := 1000000 }) only [RUN, PATHS, BASE, FA, POL, start_tm, Heap.empty, reduceIte, Nat.reduceLT, Nat.reduceLeDiff, Nat.reduceEqDiff, Nat.reduceAdd, Nat.reduceSub, Nat.reduceMul, Nat.reduceBEq, Int.reduceLT, Int.reduceLE, Int.reduceEq, Int.reduceNeg, Int.reduceAdd, Int.reduceSub, Int.reduceMul, Bool.false_eq_true, Bool.not_true, Bool.not_false, decide_eq_true_eq, and_self, true_and, and_true, reduceCtorEq, ne_eq, not_false_eq_true, not_true_eq_false, decide_true, decide_false, or_false, false_or] at r2
    simp (config := { maxSteps := 1000000 }) only [RUN, PATHS, BASE, FA, POL, start_tm, Heap.empty, reduceIte, Nat.reduceLT, Nat.reduceLeDiff, Nat.reduceEqDiff, Nat.reduceAdd, Nat.reduceSub, Nat.reduceMul, Nat.reduceBEq, Int.reduceLT, Int.reduceLE, Int.reduceEq, Int.reduceNeg, Int.reduceAdd, Int.reduceSub, Int.reduceMul, Bool.false_eq_true, Bool.not_true, Bool.not_false, decide_eq_true_eq, and_self, true_and, and_true, reduceCtorEq, ne_eq, not_false_eq_true, not_true_eq_false, decide_true, decide_false, or_false, false_or] at r3
    simp (config := { maxSteps := 1000000 }) only [RUN, PATHS, BASE, FA, POL, start_tm, Heap.empty, reduceIte, Nat.reduceLT, Nat.reduceLeDiff, Nat.reduceEqDiff, Nat.reduceAdd, Nat.reduceSub, Nat.reduceMul, Nat.reduceBEq, Int.reduceLT, Int.reduceLE, Int.reduceEq, Int.reduceNeg, Int.reduceAdd, Int.reduceSub, Int.reduceMul, Bool.false_eq_true, Bool.not_true, Bool.not_false, decide_eq_true_eq, and_self, true_and, and_true, reduceCtorEq, ne_eq, not_false_eq_true, not_true_eq_false, decide_true, decide_false, or_false, false_or, NUM, r1, r2, r3, hd, hf]
    split <;> rfl
theorem c_depths (l : List Rg) (c : Option Nat) : ap Tryd.prog pol 35 [.vs 2 (l.map rg) c] = some (.ret (.fn 63 [.rop [.vs 2 (l.map rg) c]])) := by
  rw [ap_eq _ Tryd.func35 rfl Tryd.ntmps35 Tryd.results35 (by kernel_rfl) rfl (by exact Nat.le_of_ble_eq_true rfl)]
  simp (config := { maxSteps := 1000000 }) only [RUN, PATHS, BASE, FA, POL, start_tm, Heap.empty, reduceIte, Nat.reduceLT, Nat.reduceLeDiff, Nat.reduceEqDiff, Nat.reduceAdd, Nat.reduceSub, Nat.reduceMul, Nat.reduceBEq, Int.reduceLT, Int.reduceLE, Int.reduceEq, Int.reduceNeg, Int.reduceAdd, Int.reduceSub, Int.reduceMul, Bool.false_eq_true, Bool.not_true, Bool.not_false, decide_eq_true_eq, and_self, true_and, and_true, reduceCtorEq, ne_eq, not_false_eq_true, not_true_eq_false, decide_true, decide_false, or_false, false_or, NUM, SRG, SPND]
theorem c_ponds (l : List Pnd) (c : Option Nat) : ap Tryd.prog pol 41 [.vs 4 (l.map pnd) c] = some (.ret (.fn 65 [.rop [.vs 4 (l.map pnd) c]])) := by
  rw [ap_eq _ Tryd.func41 rfl Tryd.ntmps41 Tryd.results41 (by kernel_rfl) rfl (by exact Nat.le_of_ble_eq_true rfl)]
  simp (config := { maxSteps := 1000000 }) only [RUN, PATHS, BASE, FA, POL, start_tm, Heap.empty, reduceIte, Nat.reduceLT, Nat.reduceLeDiff, Nat.reduceEqDiff, Nat.reduceAdd, Nat.reduceSub, Nat.reduceMul, Nat.reduceBEq, Int.reduceLT, Int.reduceLE, Int.reduceEq, Int.reduceNeg, Int.reduceAdd, Int.reduceSub, Int.reduceMul, Bool.false_eq_true, Bool.not_true, Bool.not_false, decide_eq_true_eq, and_self, true_and, and_true, reduceCtorEq, ne_eq, not_false_eq_true, not_true_eq_false, decide_true, decide_false, or_false, false_or, NUM, SRG, SPND]
theorem c_evap (S : Srv) (hS : S.OK) (c c' : Option Nat) (delay : Int) : ap Tryd.prog pol 13 [srv S c c', I delay] = some (.ret (if CK S delay = 0 then (if (EVR S delay).hi < (EVR S delay).lo then .tup [rg ⟨0, 0⟩, I 210] else .tup [rg (EVR S delay), I 0]) else .tup [rg ⟨0, 0⟩, I (CK S delay)])) := by
  have ck := c_check33 S hS c c' delay
  by_cases h : CK S delay = 0
  rotate_left
  · rw [ap_eq _ Tryd.func13 rfl Tryd.ntmps13 Tryd.results13 (by kernel_rfl) rfl (by exact Nat.le_of_ble_eq_true rfl)]
    simp (config := { maxSteps := 1000000 }) only [RUN, PATHS, BASE, FA, POL, start_tm, Heap.empty, reduceIte, Nat.reduceLT, Nat.reduceLeDiff, Nat.reduceEqDiff, Nat.reduceAdd, Nat.reduceSub, Nat.reduceMul, Nat.reduceBEq, Int.reduceLT, Int.reduceLE, Int.reduceEq, Int.reduceNeg, Int.reduceAdd, Int.reduceSub, Int.reduceMul, Bool.false_eq_true, Bool.not_true, Bool.not_false, decide_eq_true_eq, and_self, true_and, and_true, reduceCtorEq, ne_eq, not_false_eq_true, not_true_eq_false, decide_true, decide_false, or_false, false_or, NUM, SRG, SPND, ck, h]
  obtain ⟨⟨l1, l2⟩, hK, d1, d2⟩ := CK_0.1 h
  have cm := c_meetE S c c' delay hK ⟨d1, d2⟩ l1
  by_cases hm : (EVR S delay).hi < (EVR S delay).lo
  · rw [if_pos hm] at cm
    rw [ap_eq _ Tryd.func13 rfl Tryd.ntmps13 Tryd.results13 (by kernel_rfl) rfl (by exact Nat.le_of_ble_eq_true rfl)]
    simp (config := { maxSteps := 1000000 }) only [RUN, PATHS, BASE, FA, POL, start_tm, Heap.empty, reduceIte, Nat.reduceLT, Nat.reduceLeDiff, Nat.reduceEqDiff, Nat.reduceAdd, Nat.reduceSub, Nat.reduceMul, Nat.reduceBEq, Int.reduceLT, Int.reduceLE, Int.reduceEq, Int.reduceNeg, Int.reduceAdd, Int.reduceSub, Int.reduceMul, Bool.false_eq_true, Bool.not_true, Bool.not_false, decide_eq_true_eq, and_self, true_and, and_true, reduceCtorEq, ne_eq, not_false_eq_true, not_true_eq_false, decide_true, decide_false, or_false, false_or, NUM, SRG, SPND, ck, h, c_depths, cm, hm]
  · rw [if_neg hm] at cm
    rw [ap_eq _ Tryd.func13 rfl Tryd.ntmps13 Tryd.results13 (by kernel_rfl) rfl (by exact Nat.le_of_ble_eq_true rfl)]
    simp (config := { maxSteps := 1000000 }) only [RUN, PATHS, BASE, FA, POL, start_tm, Heap.empty, reduceIte, Nat.reduceLT, Nat.reduceLeDiff, Nat.reduceEqDiff, Nat.reduceAdd, Nat.reduceSub, Nat.reduceMul, Nat.reduceBEq, Int.reduceLT, Int.reduceLE, Int.reduceEq, Int.reduceNeg, Int.reduceAdd, Int.reduceSub, Int.reduceMul, Bool.false_eq_true, Bool.not_true, Bool.not_false, decide_eq_true_eq, and_self, true_and, and_true, reduceCtorEq, ne_eq, not_false_eq_true, not_true_eq_false, decide_true, decide_false, or_false, false_or, NUM, SRG, SPND, ck, h, c_depths, cm, hm]
end Go.Proofs.YthhhahkiflkemaaDoor
