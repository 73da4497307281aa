/-
  Fines: what Fine answers.
-/
import Derived.Test.YtaggpjlkapnonaaC15
set_option linter.unusedSimpArgs false
set_option linter.unusedVariables false
set_option linter.unusedSectionVars false
namespace Go.Proofs.Ytaggpjlkapnonaa
open Go GoV
set_option maxRecDepth 100000

/-- The hours in which the duties of a farm are overdue. -/
def FH (D : Dis) (l : List Don) (f kn : Int) : Nat → Int
  | 0 => 0
  | j + 1 => FH D l f kn j + match D.ds[j]? with
    | some x => if x.fm = f then max 0 (ENDP D l kn j - x.due) else 0
    | none => 0
theorem FH_succ {D : Dis} {l : List Don} {f kn : Int} {j : Nat} {x : Dty} (e : D.ds[j]? = some x) : FH D l f kn (j + 1) = FH D l f kn j + if x.fm = f then max 0 (ENDP D l kn j - x.due) else 0 := by
  show FH D l f kn j + _ = _
  rw [e]
theorem ENDP_bd {D : Dis} {l : List Don} (hh : 1 ≤ D.hours ∧ D.hours ≤ 4096) (hok : DOK D.ds.length l) (kn : Int) (j : Nat) : 0 ≤ ENDP D l kn j ∧ ENDP D l kn j ≤ D.hours := by
  unfold ENDP
  split
  · omega
  · next a ha => have := PERF_bd hok ha; omega
theorem FH_bd {D : Dis} {l : List Don} (hh : 1 ≤ D.hours ∧ D.hours ≤ 4096) (hok : DOK D.ds.length l) (hdu : ALLI (fun _ x => DTYK D.hours D.fs.length D.rs.length x) D.ds) (f kn : Int) : ∀ j, 0 ≤ FH D l f kn j ∧ FH D l f kn j ≤ 4096 * j
  | 0 => by simp [FH]
  | j + 1 => by
    have ih := FH_bd hh hok hdu f kn j
    have eb := ENDP_bd hh hok kn j
    cases e : D.ds[j]? with
    | none =>
      have : FH D l f kn (j + 1) = FH D l f kn j := by
        show FH D l f kn j + _ = _
        rw [e]; simp
      rw [this]; omega
    | some x =>
      have := (hdu j x e).2.2
      rw [FH_succ e]
      split <;> omega
/-- What Fine answers. -/
noncomputable def FINE (D : Dis) (l : List Don) (f kn rate : Int) : Int × Int := if DC D l = 0 then (if (0 ≤ f ∧ f ≤ (D.fs.length : Int) - 1) ∧ (0 ≤ kn ∧ kn ≤ 1048576) ∧ (0 ≤ rate ∧ rate ≤ 1048576) then (rate * FH D l f kn D.ds.length, 0) else (0, 1)) else (0, DC D l)
set_option maxHeartbeats 8000000 in
theorem c_fine (D : Dis) (hr : ∀ x ∈ D.rs, x.OK) (q : Cp) (ws : PV) (hw : WG ws) (l : List Don) (c : Option Nat) (f kn rate : Int) : ap Try.prog pol 20 [dx D q ws, .vs 4 (l.map don) c, I f, I kn, I rate] = some (.ret (.tup [I (FINE D l f kn rate).1, I (FINE D l f kn rate).2])) := by
  have ck := c_dcheck D hr q ws l c
  have cp := c_periods D q ws hw l c kn
  have cn := c_in kn 0 1048576
  have ca := c_in rate 0 1048576
  have ch := c_in f 0 ((D.fs.length : Int) - 1)
  rw [ap_eq _ Try.func20 rfl Try.ntmps20 Try.results20 (by kernel_rfl) rfl (by exact Nat.le_of_ble_eq_true rfl)]
  by_cases hd : DC D l = 0
  rotate_left
  · have el : FINE D l f kn rate = (0, DC D l) := by unfold FINE; rw [if_neg hd]
    rw [el]
    simp (config := { maxSteps := 1000000 }) only [RUN, PATHS, BASE, FA, POL, start_tm, Heap.empty, reduceIte, Nat.reduceLT, Nat.reduceLeDiff, Nat.reduceEqDiff, Nat.reduceAdd, Nat.reduceSub, Nat.reduceMul, Nat.reduceBEq, Int.reduceLT, Int.reduceLE, Int.reduceEq, Int.reduceNeg, Int.reduceAdd, Int.reduceSub, Int.reduceMul, Bool.false_eq_true, Bool.not_true, Bool.not_false, decide_eq_true_eq, and_self, true_and, and_true, reduceCtorEq, ne_eq, not_false_eq_true, not_true_eq_false, decide_true, decide_false, or_false, false_or, NUM, ST2, SRCH, SFRM, SCRP, SRGT, SDTY, SDON, hw.1.1, hw.1.2.1, hw.1.2.2, hw.2, ck, hd]
  obtain ⟨hX, hl, hok⟩ := DC_0 hd
  obtain ⟨hL, hK⟩ := XC_0 hX
  have hh := hK.1
  have lds := hL.2.2.2.2
  have lfs := hL.2.1
  have hdu := hK.2.2.2.2.2.2.2
  by_cases h1 : 0 ≤ f ∧ f ≤ (D.fs.length : Int) - 1
  rotate_left
  · have el : FINE D l f kn rate = (0, 1) := by unfold FINE; rw [if_pos hd, if_neg (fun g => h1 g.1)]
    rw [el]
    rw [decide_eq_false h1] at ch
    simp (config := { maxSteps := 1000000 }) only [RUN, PATHS, BASE, FA, POL, start_tm, Heap.empty, reduceIte, Nat.reduceLT, Nat.reduceLeDiff, Nat.reduceEqDiff, Nat.reduceAdd, Nat.reduceSub, Nat.reduceMul, Nat.reduceBEq, Int.reduceLT, Int.reduceLE, Int.reduceEq, Int.reduceNeg, Int.reduceAdd, Int.reduceSub, Int.reduceMul, Bool.false_eq_true, Bool.not_true, Bool.not_false, decide_eq_true_eq, and_self, true_and, and_true, reduceCtorEq, ne_eq, not_false_eq_true, not_true_eq_false, decide_true, decide_false, or_false, false_or, NUM, ST2, SRCH, SFRM, SCRP, SRGT, SDTY, SDON, hw.1.1, hw.1.2.1, hw.1.2.2, hw.2, ck, hd, ch, List.length_map, i64_in (x := (D.fs.length : Int) - 1) (by unfold I64; omega)]
  rw [decide_eq_true h1] at ch
  by_cases h2 : 0 ≤ kn ∧ kn ≤ 1048576
  rotate_left
  · have el : FINE D l f kn rate = (0, 1) := by unfold FINE; rw [if_pos hd, if_neg (fun g => h2 g.2.1)]
    rw [el]
    rw [decide_eq_false h2] at cn
    simp (config := { maxSteps := 1000000 }) only [RUN, PATHS, BASE, FA, POL, start_tm, Heap.empty, reduceIte, Nat.reduceLT, Nat.reduceLeDiff, Nat.reduceEqDiff, Nat.reduceAdd, Nat.reduceSub, Nat.reduceMul, Nat.reduceBEq, Int.reduceLT, Int.reduceLE, Int.reduceEq, Int.reduceNeg, Int.reduceAdd, Int.reduceSub, Int.reduceMul, Bool.false_eq_true, Bool.not_true, Bool.not_false, decide_eq_true_eq, and_self, true_and, and_true, reduceCtorEq, ne_eq, not_false_eq_true, not_true_eq_false, decide_true, decide_false, or_false, false_or, NUM, ST2, SRCH, SFRM, SCRP, SRGT, SDTY, SDON, hw.1.1, hw.1.2.1, hw.1.2.2, hw.2, ck, hd, ch, cn, List.length_map, i64_in (x := (D.fs.length : Int) - 1) (by unfold I64; omega)]
  rw [decide_eq_true h2] at cn
  by_cases h3 : 0 ≤ rate ∧ rate ≤ 1048576
  rotate_left
  · have el : FINE D l f kn rate = (0, 1) := by unfold FINE; rw [if_pos hd, if_neg (fun g => h3 g.2.2)]
    rw [el]
    rw [decide_eq_false h3] at ca
    simp (config := { maxSteps := 1000000 }) only [RUN, PATHS, BASE, FA, POL, start_tm, Heap.empty, reduceIte, Nat.reduceLT, Nat.reduceLeDiff, Nat.reduceEqDiff, Nat.reduceAdd, Nat.reduceSub, Nat.reduceMul, Nat.reduceBEq, Int.reduceLT, Int.reduceLE, Int.reduceEq, Int.reduceNeg, Int.reduceAdd, Int.reduceSub, Int.reduceMul, Bool.false_eq_true, Bool.not_true, Bool.not_false, decide_eq_true_eq, and_self, true_and, and_true, reduceCtorEq, ne_eq, not_false_eq_true, not_true_eq_false, decide_true, decide_false, or_false, false_or, NUM, ST2, SRCH, SFRM, SCRP, SRGT, SDTY, SDON, hw.1.1, hw.1.2.1, hw.1.2.2, hw.2, ck, hd, ch, cn, ca, List.length_map, i64_in (x := (D.fs.length : Int) - 1) (by unfold I64; omega)]
  rw [decide_eq_true h3] at ca
  have el : FINE D l f kn rate = (rate * FH D l f kn D.ds.length, 0) := by unfold FINE; rw [if_pos hd, if_pos ⟨h1, h2, h3⟩]
  rw [el]
  have fb := FH_bd hh hok hdu f kn
  simp (config := { maxSteps := 1000000 }) only [RUN, PATHS, BASE, FA, POL, start_tm, Heap.empty, reduceIte, Nat.reduceLT, Nat.reduceLeDiff, Nat.reduceEqDiff, Nat.reduceAdd, Nat.reduceSub, Nat.reduceMul, Nat.reduceBEq, Int.reduceLT, Int.reduceLE, Int.reduceEq, Int.reduceNeg, Int.reduceAdd, Int.reduceSub, Int.reduceMul, Bool.false_eq_true, Bool.not_true, Bool.not_false, decide_eq_true_eq, and_self, true_and, and_true, reduceCtorEq, ne_eq, not_false_eq_true, not_true_eq_false, decide_true, decide_false, or_false, false_or, NUM, ST2, SRCH, SFRM, SCRP, SRGT, SDTY, SDON, hw.1.1, hw.1.2.1, hw.1.2.2, hw.2, ck, hd, ch, cn, ca, cp, List.length_map, i64_in (x := (D.fs.length : Int) - 1) (by unfold I64; omega)]
  rw [callF_eq _ _ Try.func39 rfl Try.ntmps39 Try.results39 (by kernel_rfl) rfl (by exact Nat.le_of_ble_eq_true rfl)]
  simp (config := { maxSteps := 1000000 }) only [RUN, PATHS, BASE, FA, POL, start_tm, Heap.empty, reduceIte, Nat.reduceLT, Nat.reduceLeDiff, Nat.reduceEqDiff, Nat.reduceAdd, Nat.reduceSub, Nat.reduceMul, Nat.reduceBEq, Int.reduceLT, Int.reduceLE, Int.reduceEq, Int.reduceNeg, Int.reduceAdd, Int.reduceSub, Int.reduceMul, Bool.false_eq_true, Bool.not_true, Bool.not_false, decide_eq_true_eq, and_self, true_and, and_true, reduceCtorEq, ne_eq, not_false_eq_true, not_true_eq_false, decide_true, decide_false, or_false, false_or, NUM, ST2, SRCH, SFRM, SCRP, SRGT, SDTY, SDON, hw.1.1, hw.1.2.1, hw.1.2.2, hw.2, List.length_map]
  generalize hE : callF _ _ _ _ _ _ = E
  obtain ⟨m, H', rfl, hm, hg, fr, nx⟩ := c_performed l c kn (by omega) _ _ hE
  clear hE
  simp only at hm fr nx
  have r1 := fr 1 (by decide)
  have r2 := fr 2 (by decide)
  have r3 := fr 3 (by decide)
  have r4 := fr 4 (by decide)
  have r5 := fr 5 (by decide)
  simp (config := { maxSteps := 1000000 }) only [RUN, PATHS, BASE, FA, POL, start_tm, Heap.empty, reduceIte, Nat.reduceLT, Nat.reduceLeDiff, Nat.reduceEqDiff, Nat.reduceAdd, Nat.reduceSub, Nat.reduceMul, Nat.reduceBEq, Int.reduceLT, Int.reduceLE, Int.reduceEq, Int.reduceNeg, Int.reduceAdd, Int.reduceSub, Int.reduceMul, Bool.false_eq_true, Bool.not_true, Bool.not_false, decide_eq_true_eq, and_self, true_and, and_true, reduceCtorEq, ne_eq, not_false_eq_true, not_true_eq_false, decide_true, decide_false, or_false, false_or] at r1
  simp (config := { maxSteps := 1000000 }) only [RUN, PATHS, BASE, FA, POL, start_tm, Heap.empty, reduceIte, Nat.reduceLT, Nat.reduceLeDiff, Nat.reduceEqDiff, Nat.reduceAdd, Nat.reduceSub, Nat.reduceMul, Nat.reduceBEq, Int.reduceLT, Int.reduceLE, Int.reduceEq, Int.reduceNeg, Int.reduceAdd, Int.reduceSub, Int.reduceMul, Bool.false_eq_true, Bool.not_true, Bool.not_false, decide_eq_true_eq, and_self, true_and, and_true, reduceCtorEq, ne_eq, not_false_eq_true, not_true_eq_false, decide_true, decide_false, or_false, false_or] at r2
  simp (config := { maxSteps := 1000000 }) only [RUN, PATHS, BASE, FA, POL, start_tm, Heap.empty, reduceIte, Nat.reduceLT, Nat.reduceLeDiff, Nat.reduceEqDiff, Nat.reduceAdd, Nat.reduceSub, Nat.reduceMul, Nat.reduceBEq, Int.reduceLT, Int.reduceLE, Int.reduceEq, Int.reduceNeg, Int.reduceAdd, Int.reduceSub, Int.reduceMul, Bool.false_eq_true, Bool.not_true, Bool.not_false, decide_eq_true_eq, and_self, true_and, and_true, reduceCtorEq, ne_eq, not_false_eq_true, not_true_eq_false, decide_true, decide_false, or_false, false_or] at r3
  simp (config := { maxSteps := 1000000 }) only [RUN, PATHS, BASE, FA, POL, start_tm, Heap.empty, reduceIte, Nat.reduceLT, Nat.reduceLeDiff, Nat.reduceEqDiff, Nat.reduceAdd, Nat.reduceSub, Nat.reduceMul, Nat.reduceBEq, Int.reduceLT, Int.reduceLE, Int.reduceEq, Int.reduceNeg, Int.reduceAdd, Int.reduceSub, Int.reduceMul, Bool.false_eq_true, Bool.not_true, Bool.not_false, decide_eq_true_eq, and_self, true_and, and_true, reduceCtorEq, ne_eq, not_false_eq_true, not_true_eq_false, decide_true, decide_false, or_false, false_or] at r4
  simp (config := { maxSteps := 1000000 }) only [RUN, PATHS, BASE, FA, POL, start_tm, Heap.empty, reduceIte, Nat.reduceLT, Nat.reduceLeDiff, Nat.reduceEqDiff, Nat.reduceAdd, Nat.reduceSub, Nat.reduceMul, Nat.reduceBEq, Int.reduceLT, Int.reduceLE, Int.reduceEq, Int.reduceNeg, Int.reduceAdd, Int.reduceSub, Int.reduceMul, Bool.false_eq_true, Bool.not_true, Bool.not_false, decide_eq_true_eq, and_self, true_and, and_true, reduceCtorEq, ne_eq, not_false_eq_true, not_true_eq_false, decide_true, decide_false, or_false, false_or] at r5
  simp (config := { maxSteps := 1000000 }) only [RUN, PATHS, BASE, FA, POL, start_tm, Heap.empty, reduceIte, Nat.reduceLT, Nat.reduceLeDiff, Nat.reduceEqDiff, Nat.reduceAdd, Nat.reduceSub, Nat.reduceMul, Nat.reduceBEq, Int.reduceLT, Int.reduceLE, Int.reduceEq, Int.reduceNeg, Int.reduceAdd, Int.reduceSub, Int.reduceMul, Bool.false_eq_true, Bool.not_true, Bool.not_false, decide_eq_true_eq, and_self, true_and, and_true, reduceCtorEq, ne_eq, not_false_eq_true, not_true_eq_false, decide_true, decide_false, or_false, false_or] at nx
  simp (config := { maxSteps := 1000000 }) only [RUN, PATHS, BASE, FA, POL, start_tm, Heap.empty, reduceIte, Nat.reduceLT, Nat.reduceLeDiff, Nat.reduceEqDiff, Nat.reduceAdd, Nat.reduceSub, Nat.reduceMul, Nat.reduceBEq, Int.reduceLT, Int.reduceLE, Int.reduceEq, Int.reduceNeg, Int.reduceAdd, Int.reduceSub, Int.reduceMul, Bool.false_eq_true, Bool.not_true, Bool.not_false, decide_eq_true_eq, and_self, true_and, and_true, reduceCtorEq, ne_eq, not_false_eq_true, not_true_eq_false, decide_true, decide_false, or_false, false_or] at hm
  simp (config := { maxSteps := 1000000 }) only [RUN, PATHS, BASE, FA, POL, start_tm, Heap.empty, reduceIte, Nat.reduceLT, Nat.reduceLeDiff, Nat.reduceEqDiff, Nat.reduceAdd, Nat.reduceSub, Nat.reduceMul, Nat.reduceBEq, Int.reduceLT, Int.reduceLE, Int.reduceEq, Int.reduceNeg, Int.reduceAdd, Int.reduceSub, Int.reduceMul, Bool.false_eq_true, Bool.not_true, Bool.not_false, decide_eq_true_eq, and_self, true_and, and_true, reduceCtorEq, ne_eq, not_false_eq_true, not_true_eq_false, decide_true, decide_false, or_false, false_or, NUM, List.length_map]
  generalize hL : W _ (.loop _) _ = L
  have p4 := r4
  have p5 := r5
  obtain ⟨ex, s, rfl, rfl, g1, g2, g3, g4, g5, gd, gf, gx⟩ := loop_at hL (α := Nat) (fun j => D.ds.length - j)
    (fun s0 j s => j ≤ D.ds.length ∧ s.tmps 17 = I j ∧ s.tmps 16 = I D.ds.length ∧ s.tmps 15 = .vs 4 (D.ds.map dty) q.d ∧ s.tmps 5 = .map 8 ∧ s.tmps 3 = .rop (dxc D q ws) ∧ s.tmps 0 = .yield 5 ∧ s.H.rows 1 = some (.gro 10 [dx D q ws] 0) ∧ s.H.rows 2 = some (.gro 1 [I f] 0) ∧ s.H.rows 3 = some (.gro 1 [I (FH D l f kn j)] 0) ∧
      s.H.rows 4 = H'.rows 4 ∧ s.H.rows 5 = H'.rows 5 ∧ s.H.rows 8 = some (.map (kmap (PV.int .i64) m)) ∧ s.defers = [] ∧ s.fid = 6 ∧ 8 < s.H.next)
    (fun s0 ex s => ex = .exit 0 ∧ s.H.rows 1 = some (.gro 10 [dx D q ws] 0) ∧ s.H.rows 2 = some (.gro 1 [I f] 0) ∧ s.H.rows 3 = some (.gro 1 [I (FH D l f kn D.ds.length)] 0) ∧
      s.H.rows 4 = H'.rows 4 ∧ s.H.rows 5 = H'.rows 5 ∧ s.defers = [] ∧ s.fid = 6 ∧ 8 < s.H.next) 0
    (by have l0 : FH D l f kn 0 = 0 := rfl
        simp (config := { maxSteps := 1000000 }) only [RUN, PATHS, BASE, FA, POL, start_tm, Heap.empty, reduceIte, Nat.reduceLT, Nat.reduceLeDiff, Nat.reduceEqDiff, Nat.reduceAdd, Nat.reduceSub, Nat.reduceMul, Nat.reduceBEq, Int.reduceLT, Int.reduceLE, Int.reduceEq, Int.reduceNeg, Int.reduceAdd, Int.reduceSub, Int.reduceMul, Bool.false_eq_true, Bool.not_true, Bool.not_false, decide_eq_true_eq, and_self, true_and, and_true, reduceCtorEq, ne_eq, not_false_eq_true, not_true_eq_false, decide_true, decide_false, or_false, false_or, l0, hm, nx, r1, r2, r3]
        exact ⟨Nat.zero_le _, by simp⟩) (by
      rintro j s r0 hW ⟨hj, h17, h16, h15, h5, h3, h0, g1, g2, g3, g4, g5, g8, hd', hf, hx⟩
      rw [r4] at g4
      rw [r5] at g5
      by_cases hp : j < D.ds.length
      rotate_left
      · simp (config := { maxSteps := 1000000 }) only [RUN, PATHS, BASE, FA, POL, start_tm, Heap.empty, reduceIte, Nat.reduceLT, Nat.reduceLeDiff, Nat.reduceEqDiff, Nat.reduceAdd, Nat.reduceSub, Nat.reduceMul, Nat.reduceBEq, Int.reduceLT, Int.reduceLE, Int.reduceEq, Int.reduceNeg, Int.reduceAdd, Int.reduceSub, Int.reduceMul, Bool.false_eq_true, Bool.not_true, Bool.not_false, decide_eq_true_eq, and_self, true_and, and_true, reduceCtorEq, ne_eq, not_false_eq_true, not_true_eq_false, decide_true, decide_false, or_false, false_or, h17, h16, hd', hf, (show ¬ (j : Int) < D.ds.length by omega)] at hW
        subst hW
        have : j = D.ds.length := by omega
        subst this
        refine rd_exit ⟨rfl, ?_⟩
        simp (config := { maxSteps := 1000000 }) only [RUN, PATHS, BASE, FA, POL, start_tm, Heap.empty, reduceIte, Nat.reduceLT, Nat.reduceLeDiff, Nat.reduceEqDiff, Nat.reduceAdd, Nat.reduceSub, Nat.reduceMul, Nat.reduceBEq, Int.reduceLT, Int.reduceLE, Int.reduceEq, Int.reduceNeg, Int.reduceAdd, Int.reduceSub, Int.reduceMul, Bool.false_eq_true, Bool.not_true, Bool.not_false, decide_eq_true_eq, and_self, true_and, and_true, reduceCtorEq, ne_eq, not_false_eq_true, not_true_eq_false, decide_true, decide_false, or_false, false_or, g1, g2, g3, g4, g5, p4, p5, hx]
      have e0 : D.ds[j]? = some D.ds[j] := List.getElem?_eq_getElem hp
      have e1 := map_get (f := dty) e0
      have ls := FH_succ (l := l) (f := f) (kn := kn) e0
      have ll := fb j
      have od := hdu j _ e0
      generalize D.ds[j] = x at *
      have od3 := od.2.2
      have gm := hg j
      have eb := ENDP_bd hh hok kn j
      by_cases hfm : x.fm = f
      · rw [if_pos hfm] at ls
        cases hq : PERF l kn (j : Int) with
        | none =>
          have ee : ENDP D l kn j = D.hours := by unfold ENDP; rw [hq]
          rw [hq] at gm
          simp only [mI, Option.map_none] at gm
          rw [ee] at ls eb
          rcases hb7 : s.boxes 7 with _ | ⟨v7, c7⟩ <;> rcases hb8 : s.boxes 8 with _ | ⟨v8, c8⟩
          all_goals
            simp (config := { maxSteps := 1000000 }) only [RUN, PATHS, BASE, FA, POL, start_tm, Heap.empty, reduceIte, Nat.reduceLT, Nat.reduceLeDiff, Nat.reduceEqDiff, Nat.reduceAdd, Nat.reduceSub, Nat.reduceMul, Nat.reduceBEq, Int.reduceLT, Int.reduceLE, Int.reduceEq, Int.reduceNeg, Int.reduceAdd, Int.reduceSub, Int.reduceMul, Bool.false_eq_true, Bool.not_true, Bool.not_false, decide_eq_true_eq, and_self, true_and, and_true, reduceCtorEq, ne_eq, not_false_eq_true, not_true_eq_false, decide_true, decide_false, or_false, false_or, NUM, MAPI, Try.func20, h17, h16, h15, h5, h3, h0, g1, g2, g3, g4, g5, g8, hd', hf, hb7, hb8, e1, gm, hfm, List.length_map, Int.toNat_natCast, Nat.zero_le, (show (j : Int) < D.ds.length by omega), (show (0 : Int) ≤ j by omega), (i64_in (x := (j : Int) + 1) (by unfold I64; omega)), (i64_in (x := D.hours - x.due) (by unfold I64; omega)), (i64_in (x := FH D l f kn j + max 0 (D.hours - x.due)) (by unfold I64; omega))] at hW
            subst hW
            refine rd_next (j + 1) ?_ (show D.ds.length - (j + 1) < D.ds.length - j by omega)
            simp (config := { maxSteps := 1000000 }) only [RUN, PATHS, BASE, FA, POL, start_tm, Heap.empty, reduceIte, Nat.reduceLT, Nat.reduceLeDiff, Nat.reduceEqDiff, Nat.reduceAdd, Nat.reduceSub, Nat.reduceMul, Nat.reduceBEq, Int.reduceLT, Int.reduceLE, Int.reduceEq, Int.reduceNeg, Int.reduceAdd, Int.reduceSub, Int.reduceMul, Bool.false_eq_true, Bool.not_true, Bool.not_false, decide_eq_true_eq, and_self, true_and, and_true, reduceCtorEq, ne_eq, not_false_eq_true, not_true_eq_false, decide_true, decide_false, or_false, false_or, h16, h15, h5, h3, h0, g1, g2, g3, g4, g5, g8, p4, p5, ls]
            exact ⟨by omega, by simp, by omega⟩
        | some a =>
          have ee : ENDP D l kn j = min a D.hours := by unfold ENDP; rw [hq]
          rw [hq] at gm
          simp only [mI, Option.map_some] at gm
          rw [ee] at ls eb
          rcases hb7 : s.boxes 7 with _ | ⟨v7, c7⟩ <;> rcases hb8 : s.boxes 8 with _ | ⟨v8, c8⟩
          all_goals
            simp (config := { maxSteps := 1000000 }) only [RUN, PATHS, BASE, FA, POL, start_tm, Heap.empty, reduceIte, Nat.reduceLT, Nat.reduceLeDiff, Nat.reduceEqDiff, Nat.reduceAdd, Nat.reduceSub, Nat.reduceMul, Nat.reduceBEq, Int.reduceLT, Int.reduceLE, Int.reduceEq, Int.reduceNeg, Int.reduceAdd, Int.reduceSub, Int.reduceMul, Bool.false_eq_true, Bool.not_true, Bool.not_false, decide_eq_true_eq, and_self, true_and, and_true, reduceCtorEq, ne_eq, not_false_eq_true, not_true_eq_false, decide_true, decide_false, or_false, false_or, NUM, MAPI, Try.func20, h17, h16, h15, h5, h3, h0, g1, g2, g3, g4, g5, g8, hd', hf, hb7, hb8, e1, gm, hfm, List.length_map, Int.toNat_natCast, Nat.zero_le, (show (j : Int) < D.ds.length by omega), (show (0 : Int) ≤ j by omega), (i64_in (x := (j : Int) + 1) (by unfold I64; omega)), (i64_in (x := min a D.hours - x.due) (by unfold I64; omega)), (i64_in (x := FH D l f kn j + max 0 (min a D.hours - x.due)) (by unfold I64; omega))] at hW
            subst hW
            refine rd_next (j + 1) ?_ (show D.ds.length - (j + 1) < D.ds.length - j by omega)
            simp (config := { maxSteps := 1000000 }) only [RUN, PATHS, BASE, FA, POL, start_tm, Heap.empty, reduceIte, Nat.reduceLT, Nat.reduceLeDiff, Nat.reduceEqDiff, Nat.reduceAdd, Nat.reduceSub, Nat.reduceMul, Nat.reduceBEq, Int.reduceLT, Int.reduceLE, Int.reduceEq, Int.reduceNeg, Int.reduceAdd, Int.reduceSub, Int.reduceMul, Bool.false_eq_true, Bool.not_true, Bool.not_false, decide_eq_true_eq, and_self, true_and, and_true, reduceCtorEq, ne_eq, not_false_eq_true, not_true_eq_false, decide_true, decide_false, or_false, false_or, h16, h15, h5, h3, h0, g1, g2, g3, g4, g5, g8, p4, p5, ls]
            exact ⟨by omega, by simp, by omega⟩
      · rw [if_neg hfm, Int.add_zero] at ls
        cases hq : PERF l kn (j : Int) with
        | none =>
          have ee : ENDP D l kn j = D.hours := by unfold ENDP; rw [hq]
          rw [hq] at gm
          simp only [mI, Option.map_none] at gm
          rw [ee] at eb
          rcases hb7 : s.boxes 7 with _ | ⟨v7, c7⟩ <;> rcases hb8 : s.boxes 8 with _ | ⟨v8, c8⟩
          all_goals
            simp (config := { maxSteps := 1000000 }) only [RUN, PATHS, BASE, FA, POL, start_tm, Heap.empty, reduceIte, Nat.reduceLT, Nat.reduceLeDiff, Nat.reduceEqDiff, Nat.reduceAdd, Nat.reduceSub, Nat.reduceMul, Nat.reduceBEq, Int.reduceLT, Int.reduceLE, Int.reduceEq, Int.reduceNeg, Int.reduceAdd, Int.reduceSub, Int.reduceMul, Bool.false_eq_true, Bool.not_true, Bool.not_false, decide_eq_true_eq, and_self, true_and, and_true, reduceCtorEq, ne_eq, not_false_eq_true, not_true_eq_false, decide_true, decide_false, or_false, false_or, NUM, MAPI, Try.func20, h17, h16, h15, h5, h3, h0, g1, g2, g3, g4, g5, g8, hd', hf, hb7, hb8, e1, gm, hfm, List.length_map, Int.toNat_natCast, Nat.zero_le, (show (j : Int) < D.ds.length by omega), (show (0 : Int) ≤ j by omega), (i64_in (x := (j : Int) + 1) (by unfold I64; omega)), (i64_in (x := D.hours - x.due) (by unfold I64; omega)), (i64_in (x := FH D l f kn j + max 0 (D.hours - x.due)) (by unfold I64; omega))] at hW
            subst hW
            refine rd_next (j + 1) ?_ (show D.ds.length - (j + 1) < D.ds.length - j by omega)
            simp (config := { maxSteps := 1000000 }) only [RUN, PATHS, BASE, FA, POL, start_tm, Heap.empty, reduceIte, Nat.reduceLT, Nat.reduceLeDiff, Nat.reduceEqDiff, Nat.reduceAdd, Nat.reduceSub, Nat.reduceMul, Nat.reduceBEq, Int.reduceLT, Int.reduceLE, Int.reduceEq, Int.reduceNeg, Int.reduceAdd, Int.reduceSub, Int.reduceMul, Bool.false_eq_true, Bool.not_true, Bool.not_false, decide_eq_true_eq, and_self, true_and, and_true, reduceCtorEq, ne_eq, not_false_eq_true, not_true_eq_false, decide_true, decide_false, or_false, false_or, h16, h15, h5, h3, h0, g1, g2, g3, g4, g5, g8, p4, p5, ls]
            exact ⟨by omega, by simp, by omega⟩
        | some a =>
          have ee : ENDP D l kn j = min a D.hours := by unfold ENDP; rw [hq]
          rw [hq] at gm
          simp only [mI, Option.map_some] at gm
          rw [ee] at eb
          rcases hb7 : s.boxes 7 with _ | ⟨v7, c7⟩ <;> rcases hb8 : s.boxes 8 with _ | ⟨v8, c8⟩
          all_goals
            simp (config := { maxSteps := 1000000 }) only [RUN, PATHS, BASE, FA, POL, start_tm, Heap.empty, reduceIte, Nat.reduceLT, Nat.reduceLeDiff, Nat.reduceEqDiff, Nat.reduceAdd, Nat.reduceSub, Nat.reduceMul, Nat.reduceBEq, Int.reduceLT, Int.reduceLE, Int.reduceEq, Int.reduceNeg, Int.reduceAdd, Int.reduceSub, Int.reduceMul, Bool.false_eq_true, Bool.not_true, Bool.not_false, decide_eq_true_eq, and_self, true_and, and_true, reduceCtorEq, ne_eq, not_false_eq_true, not_true_eq_false, decide_true, decide_false, or_false, false_or, NUM, MAPI, Try.func20, h17, h16, h15, h5, h3, h0, g1, g2, g3, g4, g5, g8, hd', hf, hb7, hb8, e1, gm, hfm, List.length_map, Int.toNat_natCast, Nat.zero_le, (show (j : Int) < D.ds.length by omega), (show (0 : Int) ≤ j by omega), (i64_in (x := (j : Int) + 1) (by unfold I64; omega)), (i64_in (x := min a D.hours - x.due) (by unfold I64; omega)), (i64_in (x := FH D l f kn j + max 0 (min a D.hours - x.due)) (by unfold I64; omega))] at hW
            subst hW
            refine rd_next (j + 1) ?_ (show D.ds.length - (j + 1) < D.ds.length - j by omega)
            simp (config := { maxSteps := 1000000 }) only [RUN, PATHS, BASE, FA, POL, start_tm, Heap.empty, reduceIte, Nat.reduceLT, Nat.reduceLeDiff, Nat.reduceEqDiff, Nat.reduceAdd, Nat.reduceSub, Nat.reduceMul, Nat.reduceBEq, Int.reduceLT, Int.reduceLE, Int.reduceEq, Int.reduceNeg, Int.reduceAdd, Int.reduceSub, Int.reduceMul, Bool.false_eq_true, Bool.not_true, Bool.not_false, decide_eq_true_eq, and_self, true_and, and_true, reduceCtorEq, ne_eq, not_false_eq_true, not_true_eq_false, decide_true, decide_false, or_false, false_or, h16, h15, h5, h3, h0, g1, g2, g3, g4, g5, g8, p4, p5, ls]
            exact ⟨by omega, by simp, by omega⟩)
  have fbn := fb D.ds.length
  have mb : 0 ≤ rate * FH D l f kn D.ds.length ∧ rate * FH D l f kn D.ds.length ≤ 1048576 * 1048576 := by
    refine ⟨Int.mul_nonneg h3.1 fbn.1, ?_⟩
    exact Int.mul_le_mul h3.2 (by omega) fbn.1 (by decide)
  simp (config := { maxSteps := 1000000 }) only [RUN, PATHS, BASE, FA, POL, start_tm, Heap.empty, reduceIte, Nat.reduceLT, Nat.reduceLeDiff, Nat.reduceEqDiff, Nat.reduceAdd, Nat.reduceSub, Nat.reduceMul, Nat.reduceBEq, Int.reduceLT, Int.reduceLE, Int.reduceEq, Int.reduceNeg, Int.reduceAdd, Int.reduceSub, Int.reduceMul, Bool.false_eq_true, Bool.not_true, Bool.not_false, decide_eq_true_eq, and_self, true_and, and_true, reduceCtorEq, ne_eq, not_false_eq_true, not_true_eq_false, decide_true, decide_false, or_false, false_or, g1, g2, g3, g4, g5, p4, p5, gd, gf, (i64_in (x := rate * FH D l f kn D.ds.length) (by unfold I64; omega))]
end Go.Proofs.Ytaggpjlkapnonaa
