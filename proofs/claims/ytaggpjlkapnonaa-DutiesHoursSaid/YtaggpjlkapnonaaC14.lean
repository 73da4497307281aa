/-
  When duties are performed: the map that performed fills.
-/
import Derived.Test.YtaggpjlkapnonaaC13
set_option linter.unusedSimpArgs false
set_option linter.unusedVariables false
set_option linter.unusedSectionVars false
namespace Go.Proofs.Ytaggpjlkapnonaa
open Go GoV
set_option maxRecDepth 100000

def stp (kn k : Int) (o : Option Int) (x : Don) : Option Int := if x.kn ≤ kn ∧ x.du = k then (match o with | none => some x.at_ | some a => if x.at_ < a then some x.at_ else some a) else o
/-- The first hour in which a duty is performed, as known at a moment. -/
def PERF (l : List Don) (kn k : Int) : Option Int := l.foldl (stp kn k) none
theorem PERF_take {l : List Don} {j : Nat} {x : Don} (e : l[j]? = some x) (kn k : Int) : PERF (l.take (j + 1)) kn k = stp kn k (PERF (l.take j) kn k) x := by
  unfold PERF
  rw [List.take_add_one, e, List.foldl_append]; rfl
abbrev mI (o : Option Int) : Option PV := o.map I
def PM (l : List Don) (j : Nat) (kn : Int) (m : List (Int × PV)) : Prop := ∀ k, aget m k = mI (PERF (l.take j) kn k)
def PROW (l : List Don) (j : Nat) (kn : Int) (r : Option Row) : Prop := ∃ m, r = some (.map (kmap (PV.int .i64) m)) ∧ PM l j kn m
theorem PM_upd {l : List Don} {j : Nat} {x : Don} {kn : Int} {m : List (Int × PV)} (h : PM l j kn m) (e : l[j]? = some x) (hk : x.kn ≤ kn) (hp : ∀ a, PERF (l.take j) kn x.du = some a → x.at_ < a) : PM l (j + 1) kn (aset m x.du (I x.at_)) := by
  intro k
  rw [aget_aset, PERF_take e]
  unfold stp
  by_cases hd : k = x.du
  · subst hd
    rw [if_pos rfl, if_pos ⟨hk, rfl⟩]
    cases hq : PERF (l.take j) kn x.du with
    | none => rfl
    | some a => simp only [if_pos (hp a hq)]; rfl
  · rw [if_neg hd, if_neg (fun g => hd g.2.symm)]
    exact h k
theorem PM_keep {l : List Don} {j : Nat} {x : Don} {kn : Int} {m : List (Int × PV)} (h : PM l j kn m) (e : l[j]? = some x) (hp : x.kn ≤ kn → ∃ a, PERF (l.take j) kn x.du = some a ∧ ¬ x.at_ < a) : PM l (j + 1) kn m := by
  intro k
  rw [PERF_take e, h k]
  unfold stp
  split
  · next hd =>
    obtain ⟨a, ea, hn⟩ := hp hd.1
    rw [← hd.2, ea]
    simp only [if_neg hn]
  · rfl
set_option maxHeartbeats 2000000 in
theorem c_performed (l : List Don) (c : Option Nat) (kn : Int) (hl : l.length ≤ 1000000) (H : Heap) (X : Option (CR × Heap)) (hX : callF G Try.prog pol 40 [.vs 4 (l.map don) c, I kn] H = X) :
    ∃ m H', X = some (.ret (.map (H.next + 1)), H') ∧ H'.rows (H.next + 1) = some (.map (kmap (PV.int .i64) m)) ∧ (∀ k, aget m k = mI (PERF l kn k)) ∧ (∀ i, i ≠ H.next + 1 → H'.rows i = H.rows i) ∧ H'.next = H.next + 2 := by
  subst hX
  rw [callF_eq _ _ Try.func40 rfl Try.ntmps40 Try.results40 (by kernel_rfl) rfl (by exact Nat.le_of_ble_eq_true rfl)]
  simp (config := { maxSteps := 1000000 }) only [RUN, PATHS, BASE, FA, POL, start_tm, Heap.empty, reduceIte, Nat.reduceLT, Nat.reduceLeDiff, Nat.reduceEqDiff, Nat.reduceAdd, Nat.reduceSub, Nat.reduceMul, Nat.reduceBEq, Int.reduceLT, Int.reduceLE, Int.reduceEq, Int.reduceNeg, Int.reduceAdd, Int.reduceSub, Int.reduceMul, Bool.false_eq_true, Bool.not_true, Bool.not_false, decide_eq_true_eq, and_self, true_and, and_true, reduceCtorEq, ne_eq, not_false_eq_true, not_true_eq_false, decide_true, decide_false, or_false, false_or, NUM, List.length_map]
  generalize hL : W _ (.loop _) _ = L
  obtain ⟨ex, s, rfl, rfl, hr, hfr, hnx, h5, hd⟩ := loop_at hL (α := Nat) (fun j => l.length - j)
    (fun s0 j s => j ≤ l.length ∧ s.tmps 13 = I j ∧ s.tmps 12 = I l.length ∧ s.tmps 11 = .vs 4 (l.map don) c ∧ s.tmps 1 = I kn ∧ s.tmps 5 = .map (H.next + 1) ∧ PROW l j kn (s.H.rows (H.next + 1)) ∧ (∀ i, i ≠ H.next + 1 → s.H.rows i = H.rows i) ∧ s.H.next = H.next + 2 ∧ s.defers = [] ∧ s.fid = H.next)
    (fun s0 ex s => ex = .exit 0 ∧ PROW l l.length kn (s.H.rows (H.next + 1)) ∧ (∀ i, i ≠ H.next + 1 → s.H.rows i = H.rows i) ∧ s.H.next = H.next + 2 ∧ s.tmps 5 = .map (H.next + 1) ∧ s.defers = []) 0
    (by simp (config := { maxSteps := 1000000 }) only [RUN, PATHS, BASE, FA, POL, start_tm, Heap.empty, reduceIte, Nat.reduceLT, Nat.reduceLeDiff, Nat.reduceEqDiff, Nat.reduceAdd, Nat.reduceSub, Nat.reduceMul, Nat.reduceBEq, Int.reduceLT, Int.reduceLE, Int.reduceEq, Int.reduceNeg, Int.reduceAdd, Int.reduceSub, Int.reduceMul, Bool.false_eq_true, Bool.not_true, Bool.not_false, decide_eq_true_eq, and_self, true_and, and_true, reduceCtorEq, ne_eq, not_false_eq_true, not_true_eq_false, decide_true, decide_false, or_false, false_or]; exact ⟨by omega, by simp, ⟨[], rfl, fun k => rfl⟩, fun i hi => by simp [hi]⟩) (by
      rintro j s r hW ⟨hj, h13, h12, h11, h1, h5, ⟨m, hm, pm⟩, hfr, hnx, hd, hf⟩
      by_cases hp : j < l.length
      · have e0 : l[j]? = some l[j] := List.getElem?_eq_getElem hp
        have e1 := map_get (f := don) e0
        generalize l[j] = x at *
        by_cases q1 : kn < x.kn
        · have pk : PM l (j + 1) kn m := PM_keep pm e0 (fun h => by omega)
          rcases hbx : s.boxes 7 with _ | ⟨ver, cs⟩
          all_goals
            simp (config := { maxSteps := 1000000 }) only [RUN, PATHS, BASE, FA, POL, start_tm, Heap.empty, reduceIte, Nat.reduceLT, Nat.reduceLeDiff, Nat.reduceEqDiff, Nat.reduceAdd, Nat.reduceSub, Nat.reduceMul, Nat.reduceBEq, Int.reduceLT, Int.reduceLE, Int.reduceEq, Int.reduceNeg, Int.reduceAdd, Int.reduceSub, Int.reduceMul, Bool.false_eq_true, Bool.not_true, Bool.not_false, decide_eq_true_eq, and_self, true_and, and_true, reduceCtorEq, ne_eq, not_false_eq_true, not_true_eq_false, decide_true, decide_false, or_false, false_or, NUM, MAPI, h13, h12, h11, h1, h5, hm, hnx, hd, hf, hbx, e1, q1, List.length_map, Int.toNat_natCast, (show (j : Int) < l.length by omega), (show (0 : Int) ≤ j by omega), (i64_in (x := (j : Int) + 1) (by unfold I64; omega))] at hW
            subst hW
            refine rd_next (j + 1) ?_ (show l.length - (j + 1) < l.length - j by omega)
            simp (config := { maxSteps := 1000000 }) only [RUN, PATHS, BASE, FA, POL, start_tm, Heap.empty, reduceIte, Nat.reduceLT, Nat.reduceLeDiff, Nat.reduceEqDiff, Nat.reduceAdd, Nat.reduceSub, Nat.reduceMul, Nat.reduceBEq, Int.reduceLT, Int.reduceLE, Int.reduceEq, Int.reduceNeg, Int.reduceAdd, Int.reduceSub, Int.reduceMul, Bool.false_eq_true, Bool.not_true, Bool.not_false, decide_eq_true_eq, and_self, true_and, and_true, reduceCtorEq, ne_eq, not_false_eq_true, not_true_eq_false, decide_true, decide_false, or_false, false_or, h12, h11, h1, h5, hnx]
            exact ⟨by omega, by simp, ⟨m, hm, pk⟩, hfr⟩
        have gm := pm x.du
        cases hq : PERF (l.take j) kn x.du with
        | none =>
          rw [hq] at gm
          simp only [mI, Option.map_none] at gm
          have pk := PM_upd pm e0 (by omega) (fun a h => by rw [hq] at h; cases h)
          rcases hbx : s.boxes 7 with _ | ⟨ver, cs⟩
          all_goals
            simp (config := { maxSteps := 1000000 }) only [RUN, PATHS, BASE, FA, POL, start_tm, Heap.empty, reduceIte, Nat.reduceLT, Nat.reduceLeDiff, Nat.reduceEqDiff, Nat.reduceAdd, Nat.reduceSub, Nat.reduceMul, Nat.reduceBEq, Int.reduceLT, Int.reduceLE, Int.reduceEq, Int.reduceNeg, Int.reduceAdd, Int.reduceSub, Int.reduceMul, Bool.false_eq_true, Bool.not_true, Bool.not_false, decide_eq_true_eq, and_self, true_and, and_true, reduceCtorEq, ne_eq, not_false_eq_true, not_true_eq_false, decide_true, decide_false, or_false, false_or, NUM, MAPI, h13, h12, h11, h1, h5, hm, hnx, hd, hf, hbx, e1, q1, gm, List.length_map, Int.toNat_natCast, (show (j : Int) < l.length by omega), (show (0 : Int) ≤ j by omega), (i64_in (x := (j : Int) + 1) (by unfold I64; omega))] at hW
            subst hW
            refine rd_next (j + 1) ?_ (show l.length - (j + 1) < l.length - j by omega)
            simp (config := { maxSteps := 1000000 }) only [RUN, PATHS, BASE, FA, POL, start_tm, Heap.empty, reduceIte, Nat.reduceLT, Nat.reduceLeDiff, Nat.reduceEqDiff, Nat.reduceAdd, Nat.reduceSub, Nat.reduceMul, Nat.reduceBEq, Int.reduceLT, Int.reduceLE, Int.reduceEq, Int.reduceNeg, Int.reduceAdd, Int.reduceSub, Int.reduceMul, Bool.false_eq_true, Bool.not_true, Bool.not_false, decide_eq_true_eq, and_self, true_and, and_true, reduceCtorEq, ne_eq, not_false_eq_true, not_true_eq_false, decide_true, decide_false, or_false, false_or, h12, h11, h1, h5, hnx]
            refine ⟨by omega, by simp, ⟨_, rfl, pk⟩, fun i hi => ?_⟩
            simp (config := { maxSteps := 1000000 }) only [RUN, PATHS, BASE, FA, POL, start_tm, Heap.empty, reduceIte, Nat.reduceLT, Nat.reduceLeDiff, Nat.reduceEqDiff, Nat.reduceAdd, Nat.reduceSub, Nat.reduceMul, Nat.reduceBEq, Int.reduceLT, Int.reduceLE, Int.reduceEq, Int.reduceNeg, Int.reduceAdd, Int.reduceSub, Int.reduceMul, Bool.false_eq_true, Bool.not_true, Bool.not_false, decide_eq_true_eq, and_self, true_and, and_true, reduceCtorEq, ne_eq, not_false_eq_true, not_true_eq_false, decide_true, decide_false, or_false, false_or, hi, hfr i hi]
        | some a =>
          rw [hq] at gm
          simp only [mI, Option.map_some] at gm
          by_cases q2 : x.at_ < a
          · have pk := PM_upd pm e0 (by omega) (fun b h => by rw [hq] at h; cases h; exact q2)
            rcases hbx : s.boxes 7 with _ | ⟨ver, cs⟩
            all_goals
              simp (config := { maxSteps := 1000000 }) only [RUN, PATHS, BASE, FA, POL, start_tm, Heap.empty, reduceIte, Nat.reduceLT, Nat.reduceLeDiff, Nat.reduceEqDiff, Nat.reduceAdd, Nat.reduceSub, Nat.reduceMul, Nat.reduceBEq, Int.reduceLT, Int.reduceLE, Int.reduceEq, Int.reduceNeg, Int.reduceAdd, Int.reduceSub, Int.reduceMul, Bool.false_eq_true, Bool.not_true, Bool.not_false, decide_eq_true_eq, and_self, true_and, and_true, reduceCtorEq, ne_eq, not_false_eq_true, not_true_eq_false, decide_true, decide_false, or_false, false_or, NUM, MAPI, h13, h12, h11, h1, h5, hm, hnx, hd, hf, hbx, e1, q1, q2, gm, List.length_map, Int.toNat_natCast, (show (j : Int) < l.length by omega), (show (0 : Int) ≤ j by omega), (i64_in (x := (j : Int) + 1) (by unfold I64; omega))] at hW
              subst hW
              refine rd_next (j + 1) ?_ (show l.length - (j + 1) < l.length - j by omega)
              simp (config := { maxSteps := 1000000 }) only [RUN, PATHS, BASE, FA, POL, start_tm, Heap.empty, reduceIte, Nat.reduceLT, Nat.reduceLeDiff, Nat.reduceEqDiff, Nat.reduceAdd, Nat.reduceSub, Nat.reduceMul, Nat.reduceBEq, Int.reduceLT, Int.reduceLE, Int.reduceEq, Int.reduceNeg, Int.reduceAdd, Int.reduceSub, Int.reduceMul, Bool.false_eq_true, Bool.not_true, Bool.not_false, decide_eq_true_eq, and_self, true_and, and_true, reduceCtorEq, ne_eq, not_false_eq_true, not_true_eq_false, decide_true, decide_false, or_false, false_or, h12, h11, h1, h5, hnx]
              refine ⟨by omega, by simp, ⟨_, rfl, pk⟩, fun i hi => ?_⟩
              simp (config := { maxSteps := 1000000 }) only [RUN, PATHS, BASE, FA, POL, start_tm, Heap.empty, reduceIte, Nat.reduceLT, Nat.reduceLeDiff, Nat.reduceEqDiff, Nat.reduceAdd, Nat.reduceSub, Nat.reduceMul, Nat.reduceBEq, Int.reduceLT, Int.reduceLE, Int.reduceEq, Int.reduceNeg, Int.reduceAdd, Int.reduceSub, Int.reduceMul, Bool.false_eq_true, Bool.not_true, Bool.not_false, decide_eq_true_eq, and_self, true_and, and_true, reduceCtorEq, ne_eq, not_false_eq_true, not_true_eq_false, decide_true, decide_false, or_false, false_or, hi, hfr i hi]
          · have pk : PM l (j + 1) kn m := PM_keep pm e0 (fun _ => ⟨a, hq, q2⟩)
            rcases hbx : s.boxes 7 with _ | ⟨ver, cs⟩
            all_goals
              simp (config := { maxSteps := 1000000 }) only [RUN, PATHS, BASE, FA, POL, start_tm, Heap.empty, reduceIte, Nat.reduceLT, Nat.reduceLeDiff, Nat.reduceEqDiff, Nat.reduceAdd, Nat.reduceSub, Nat.reduceMul, Nat.reduceBEq, Int.reduceLT, Int.reduceLE, Int.reduceEq, Int.reduceNeg, Int.reduceAdd, Int.reduceSub, Int.reduceMul, Bool.false_eq_true, Bool.not_true, Bool.not_false, decide_eq_true_eq, and_self, true_and, and_true, reduceCtorEq, ne_eq, not_false_eq_true, not_true_eq_false, decide_true, decide_false, or_false, false_or, NUM, MAPI, h13, h12, h11, h1, h5, hm, hnx, hd, hf, hbx, e1, q1, q2, gm, List.length_map, Int.toNat_natCast, (show (j : Int) < l.length by omega), (show (0 : Int) ≤ j by omega), (i64_in (x := (j : Int) + 1) (by unfold I64; omega))] at hW
              subst hW
              refine rd_next (j + 1) ?_ (show l.length - (j + 1) < l.length - j by omega)
              simp (config := { maxSteps := 1000000 }) only [RUN, PATHS, BASE, FA, POL, start_tm, Heap.empty, reduceIte, Nat.reduceLT, Nat.reduceLeDiff, Nat.reduceEqDiff, Nat.reduceAdd, Nat.reduceSub, Nat.reduceMul, Nat.reduceBEq, Int.reduceLT, Int.reduceLE, Int.reduceEq, Int.reduceNeg, Int.reduceAdd, Int.reduceSub, Int.reduceMul, Bool.false_eq_true, Bool.not_true, Bool.not_false, decide_eq_true_eq, and_self, true_and, and_true, reduceCtorEq, ne_eq, not_false_eq_true, not_true_eq_false, decide_true, decide_false, or_false, false_or, h12, h11, h1, h5, hnx]
              exact ⟨by omega, by simp, ⟨m, hm, pk⟩, hfr⟩
      · simp (config := { maxSteps := 1000000 }) only [RUN, PATHS, BASE, FA, POL, start_tm, Heap.empty, reduceIte, Nat.reduceLT, Nat.reduceLeDiff, Nat.reduceEqDiff, Nat.reduceAdd, Nat.reduceSub, Nat.reduceMul, Nat.reduceBEq, Int.reduceLT, Int.reduceLE, Int.reduceEq, Int.reduceNeg, Int.reduceAdd, Int.reduceSub, Int.reduceMul, Bool.false_eq_true, Bool.not_true, Bool.not_false, decide_eq_true_eq, and_self, true_and, and_true, reduceCtorEq, ne_eq, not_false_eq_true, not_true_eq_false, decide_true, decide_false, or_false, false_or, h13, h12, h11, hd, hf, (show ¬ (j : Int) < l.length by omega)] at hW
        subst hW
        have : j = l.length := by omega
        subst this
        refine rd_exit ⟨rfl, ?_⟩
        simp (config := { maxSteps := 1000000 }) only [RUN, PATHS, BASE, FA, POL, start_tm, Heap.empty, reduceIte, Nat.reduceLT, Nat.reduceLeDiff, Nat.reduceEqDiff, Nat.reduceAdd, Nat.reduceSub, Nat.reduceMul, Nat.reduceBEq, Int.reduceLT, Int.reduceLE, Int.reduceEq, Int.reduceNeg, Int.reduceAdd, Int.reduceSub, Int.reduceMul, Bool.false_eq_true, Bool.not_true, Bool.not_false, decide_eq_true_eq, and_self, true_and, and_true, reduceCtorEq, ne_eq, not_false_eq_true, not_true_eq_false, decide_true, decide_false, or_false, false_or, h5, hnx, hd]
        exact ⟨⟨m, hm, pm⟩, hfr⟩)
  obtain ⟨m, hm, pm⟩ := hr
  simp (config := { maxSteps := 1000000 }) only [RUN, PATHS, BASE, FA, POL, start_tm, Heap.empty, reduceIte, Nat.reduceLT, Nat.reduceLeDiff, Nat.reduceEqDiff, Nat.reduceAdd, Nat.reduceSub, Nat.reduceMul, Nat.reduceBEq, Int.reduceLT, Int.reduceLE, Int.reduceEq, Int.reduceNeg, Int.reduceAdd, Int.reduceSub, Int.reduceMul, Bool.false_eq_true, Bool.not_true, Bool.not_false, decide_eq_true_eq, and_self, true_and, and_true, reduceCtorEq, ne_eq, not_false_eq_true, not_true_eq_false, decide_true, decide_false, or_false, false_or, h5, hd]
  refine ⟨m, _, rfl, hm, fun k => ?_, hfr, hnx⟩
  have := pm k
  rw [List.take_length] at this
  exact this
end Go.Proofs.Ytaggpjlkapnonaa
