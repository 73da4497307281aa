/-
  Which claims are kept: the closure of Active, and filter.
-/
import Derived.Test.YtaggpjlkapnonaaC18
set_option linter.unusedSimpArgs false
set_option linter.unusedVariables false
set_option linter.unusedSectionVars false
namespace Go.Proofs.Ytaggpjlkapnonaa
open Go GoV
set_option maxRecDepth 100000

theorem PRS_bd {D : Dis} {l : List Don} (hh : 1 ≤ D.hours ∧ D.hours ≤ 4096) (hok : DOK D.ds.length l) (kn f : Int) : ∀ j, ∀ p ∈ PRS D l kn f j, 0 ≤ p.e ∧ p.e ≤ 4096
  | 0 => by simp [PRS]
  | j + 1 => by
    have ih := PRS_bd hh hok kn f j
    have eb := ENDP_bd hh hok kn j
    intro p hp
    cases e : D.ds[j]? with
    | none =>
      have : PRS D l kn f (j + 1) = PRS D l kn f j := by
        show PRS D l kn f j ++ _ = _
        rw [e]; simp
      rw [this] at hp; exact ih p hp
    | some x =>
      rw [PRS_succ e] at hp
      rcases List.mem_append.1 hp with hp | hp
      · exact ih p hp
      · split at hp
        · simp only [List.mem_singleton] at hp; subst hp; exact ⟨eb.1, by show ENDP D l kn j ≤ 4096; omega⟩
        · simp at hp
/-- A claim that no period touches. -/
def KEEP (ps : List Per) (h : Int) : Prop := ∀ p ∈ ps, ¬ (p.a ≤ h ∧ h ≤ p.e - 1)
noncomputable instance (ps : List Per) (h : Int) : Decidable (KEEP ps h) := Classical.propDecidable _
set_option maxHeartbeats 4000000 in
theorem c_act1 (D : Dis) (l : List Don) (kn : Int) (J : Nat) (hJ : J ≤ 256) (x : Clm) (H : Heap) (mm : List (Int × PV)) (gg : Int → Nat) (hP : PBF D l kn J 2 mm gg H) (h3 : H.rows 3 = some (.gro 1 [.map 2] 0)) (hb : ∀ p ∈ PRS D l kn x.f J, 0 ≤ p.e ∧ p.e ≤ 4096) (X : Option (CR × Heap))
    (hX : callF G Try.prog pol 35 [clm x, .ptr 3 1 0 0] H = X) : ∃ H', X = some (.ret (.bool (decide (KEEP (PRS D l kn x.f J) x.h))), H') ∧ (∀ i, H'.rows i = H.rows i) ∧ H.next ≤ H'.next := by
  subst hX
  have hrow := hP.row
  rw [callF_eq _ _ Try.func35 rfl Try.ntmps35 Try.results35 (by kernel_rfl) rfl (by exact Nat.le_of_ble_eq_true rfl)]
  by_cases hE : PRS D l kn x.f J = []
  · have hn := hP.none x.f hE
    have hk : KEEP (PRS D l kn x.f J) x.h := by rw [hE]; intro p hp; simp at hp
    rw [decide_eq_true hk]
    simp (config := { maxSteps := 1000000 }) only [RUN, PATHS, BASE, FA, POL, start_tm, Heap.empty, reduceIte, Nat.reduceLT, Nat.reduceLeDiff, Nat.reduceEqDiff, Nat.reduceAdd, Nat.reduceSub, Nat.reduceMul, Nat.reduceBEq, Int.reduceLT, Int.reduceLE, Int.reduceEq, Int.reduceNeg, Int.reduceAdd, Int.reduceSub, Int.reduceMul, Bool.false_eq_true, Bool.not_true, Bool.not_false, decide_eq_true_eq, and_self, true_and, and_true, reduceCtorEq, ne_eq, not_false_eq_true, not_true_eq_false, decide_true, decide_false, or_false, false_or, NUM, MAPI, WW_loop, hrow, h3, hn]
    exact ⟨_, rfl, fun _ => rfl, by simp⟩
  obtain ⟨hs1, hs2, hs3, hs4⟩ := hP.some x.f hE
  have lpf := PRS_len D l kn x.f J
  generalize PRS D l kn x.f J = ps at *
  generalize gg x.f = id at *
  simp (config := { maxSteps := 1000000 }) only [RUN, PATHS, BASE, FA, POL, start_tm, Heap.empty, reduceIte, Nat.reduceLT, Nat.reduceLeDiff, Nat.reduceEqDiff, Nat.reduceAdd, Nat.reduceSub, Nat.reduceMul, Nat.reduceBEq, Int.reduceLT, Int.reduceLE, Int.reduceEq, Int.reduceNeg, Int.reduceAdd, Int.reduceSub, Int.reduceMul, Bool.false_eq_true, Bool.not_true, Bool.not_false, decide_eq_true_eq, and_self, true_and, and_true, reduceCtorEq, ne_eq, not_false_eq_true, not_true_eq_false, decide_true, decide_false, or_false, false_or, NUM, MAPI, hrow, h3, hs1, hs2, List.length_map]
  generalize hL : W _ (.loop _) _ = L
  obtain ⟨ex, s, rfl, hex, hd, hfr, hnx⟩ := loop_at hL (α := Nat) (fun j => ps.length - j)
    (fun s0 j s => j ≤ ps.length ∧ (∀ p ∈ ps.take j, ¬ (p.a ≤ x.h ∧ x.h ≤ p.e - 1)) ∧ s.tmps 11 = I j ∧ s.tmps 10 = I ps.length ∧ s.tmps 9 = .gsl 3 id ps.length 0 ps.length ∧ s.tmps 2 = .bptr H.next 2 0 0 ∧ s.boxes 2 = some (0, [I x.r, I x.f, I x.h, I x.li, I x.ra]) ∧ s.defers = [] ∧ s.fid = H.next ∧ s.H.rows = H.rows ∧ H.next ≤ s.H.next)
    (fun s0 ex s => ((ex = .exit 0 ∧ KEEP ps x.h) ∨ (ex = .ret ∧ ¬ KEEP ps x.h ∧ s.tmps 3 = .bool false)) ∧ s.defers = [] ∧ s.H.rows = H.rows ∧ H.next ≤ s.H.next) 0
    (by simp (config := { maxSteps := 1000000 }) only [RUN, PATHS, BASE, FA, POL, start_tm, Heap.empty, reduceIte, Nat.reduceLT, Nat.reduceLeDiff, Nat.reduceEqDiff, Nat.reduceAdd, Nat.reduceSub, Nat.reduceMul, Nat.reduceBEq, Int.reduceLT, Int.reduceLE, Int.reduceEq, Int.reduceNeg, Int.reduceAdd, Int.reduceSub, Int.reduceMul, Bool.false_eq_true, Bool.not_true, Bool.not_false, decide_eq_true_eq, and_self, true_and, and_true, reduceCtorEq, ne_eq, not_false_eq_true, not_true_eq_false, decide_true, decide_false, or_false, false_or]; exact ⟨Nat.zero_le _, by simp, by simp, by omega⟩) (by
      rintro j s r hW ⟨hj, ht, h11, h10, h9, h2, hb2, hd, hf, hfr, hnx⟩
      have gr : s.H.rows id = some (.gro 3 (ps.map per) 0) := by rw [hfr]; exact hs2
      by_cases hp : j < ps.length
      rotate_left
      · simp (config := { maxSteps := 1000000 }) only [RUN, PATHS, BASE, FA, POL, start_tm, Heap.empty, reduceIte, Nat.reduceLT, Nat.reduceLeDiff, Nat.reduceEqDiff, Nat.reduceAdd, Nat.reduceSub, Nat.reduceMul, Nat.reduceBEq, Int.reduceLT, Int.reduceLE, Int.reduceEq, Int.reduceNeg, Int.reduceAdd, Int.reduceSub, Int.reduceMul, Bool.false_eq_true, Bool.not_true, Bool.not_false, decide_eq_true_eq, and_self, true_and, and_true, reduceCtorEq, ne_eq, not_false_eq_true, not_true_eq_false, decide_true, decide_false, or_false, false_or, h11, h10, hd, hf, (show ¬ (j : Int) < ps.length by omega)] at hW
        subst hW
        rw [List.take_of_length_le (by omega)] at ht
        exact rd_exit ⟨.inl ⟨rfl, ht⟩, by simp (config := { maxSteps := 1000000 }) only [RUN, PATHS, BASE, FA, POL, start_tm, Heap.empty, reduceIte, Nat.reduceLT, Nat.reduceLeDiff, Nat.reduceEqDiff, Nat.reduceAdd, Nat.reduceSub, Nat.reduceMul, Nat.reduceBEq, Int.reduceLT, Int.reduceLE, Int.reduceEq, Int.reduceNeg, Int.reduceAdd, Int.reduceSub, Int.reduceMul, Bool.false_eq_true, Bool.not_true, Bool.not_false, decide_eq_true_eq, and_self, true_and, and_true, reduceCtorEq, ne_eq, not_false_eq_true, not_true_eq_false, decide_true, decide_false, or_false, false_or, hd], by simp (config := { maxSteps := 1000000 }) only [RUN, PATHS, BASE, FA, POL, start_tm, Heap.empty, reduceIte, Nat.reduceLT, Nat.reduceLeDiff, Nat.reduceEqDiff, Nat.reduceAdd, Nat.reduceSub, Nat.reduceMul, Nat.reduceBEq, Int.reduceLT, Int.reduceLE, Int.reduceEq, Int.reduceNeg, Int.reduceAdd, Int.reduceSub, Int.reduceMul, Bool.false_eq_true, Bool.not_true, Bool.not_false, decide_eq_true_eq, and_self, true_and, and_true, reduceCtorEq, ne_eq, not_false_eq_true, not_true_eq_false, decide_true, decide_false, or_false, false_or, hfr], by simp (config := { maxSteps := 1000000 }) only [RUN, PATHS, BASE, FA, POL, start_tm, Heap.empty, reduceIte, Nat.reduceLT, Nat.reduceLeDiff, Nat.reduceEqDiff, Nat.reduceAdd, Nat.reduceSub, Nat.reduceMul, Nat.reduceBEq, Int.reduceLT, Int.reduceLE, Int.reduceEq, Int.reduceNeg, Int.reduceAdd, Int.reduceSub, Int.reduceMul, Bool.false_eq_true, Bool.not_true, Bool.not_false, decide_eq_true_eq, and_self, true_and, and_true, reduceCtorEq, ne_eq, not_false_eq_true, not_true_eq_false, decide_true, decide_false, or_false, false_or]; exact hnx⟩
      have e0 : ps[j]? = some ps[j] := List.getElem?_eq_getElem hp
      have e1 := map_get (f := per) e0
      have hm := List.getElem_mem hp
      have htk : ∀ P : Per → Prop, (∀ y ∈ ps.take j, P y) → P ps[j] → ∀ y ∈ ps.take (j + 1), P y := by
        intro P a b y hy
        rw [List.take_add_one, e0] at hy
        rcases List.mem_append.1 hy with hy | hy
        · exact a y hy
        · simp only [Option.toList_some, List.mem_singleton] at hy; rw [hy]; exact b
      generalize ps[j] = p at *
      have pb := hb p hm
      have ci := c_in x.h p.a (p.e - 1)
      by_cases hq : p.a ≤ x.h ∧ x.h ≤ p.e - 1
      · rw [decide_eq_true hq] at ci
        rcases hb5 : s.boxes 5 with _ | ⟨v5, c5⟩
        all_goals
          simp (config := { maxSteps := 1000000 }) only [RUN, PATHS, BASE, FA, POL, start_tm, Heap.empty, reduceIte, Nat.reduceLT, Nat.reduceLeDiff, Nat.reduceEqDiff, Nat.reduceAdd, Nat.reduceSub, Nat.reduceMul, Nat.reduceBEq, Int.reduceLT, Int.reduceLE, Int.reduceEq, Int.reduceNeg, Int.reduceAdd, Int.reduceSub, Int.reduceMul, Bool.false_eq_true, Bool.not_true, Bool.not_false, decide_eq_true_eq, and_self, true_and, and_true, reduceCtorEq, ne_eq, not_false_eq_true, not_true_eq_false, decide_true, decide_false, or_false, false_or, NUM, h11, h10, h9, h2, hb2, hd, hf, hb5, gr, e1, ci, List.length_map, Int.toNat_natCast, Nat.zero_add, (show (j : Int) < ps.length by omega), (show (0 : Int) ≤ j by omega), (i64_in (x := p.e - 1) (by unfold I64; omega)), hp] at hW
          subst hW
          exact rd_ret ⟨.inr ⟨rfl, fun g => g p hm hq, by simp (config := { maxSteps := 1000000 }) only [RUN, PATHS, BASE, FA, POL, start_tm, Heap.empty, reduceIte, Nat.reduceLT, Nat.reduceLeDiff, Nat.reduceEqDiff, Nat.reduceAdd, Nat.reduceSub, Nat.reduceMul, Nat.reduceBEq, Int.reduceLT, Int.reduceLE, Int.reduceEq, Int.reduceNeg, Int.reduceAdd, Int.reduceSub, Int.reduceMul, Bool.false_eq_true, Bool.not_true, Bool.not_false, decide_eq_true_eq, and_self, true_and, and_true, reduceCtorEq, ne_eq, not_false_eq_true, not_true_eq_false, decide_true, decide_false, or_false, false_or]⟩, by simp (config := { maxSteps := 1000000 }) only [RUN, PATHS, BASE, FA, POL, start_tm, Heap.empty, reduceIte, Nat.reduceLT, Nat.reduceLeDiff, Nat.reduceEqDiff, Nat.reduceAdd, Nat.reduceSub, Nat.reduceMul, Nat.reduceBEq, Int.reduceLT, Int.reduceLE, Int.reduceEq, Int.reduceNeg, Int.reduceAdd, Int.reduceSub, Int.reduceMul, Bool.false_eq_true, Bool.not_true, Bool.not_false, decide_eq_true_eq, and_self, true_and, and_true, reduceCtorEq, ne_eq, not_false_eq_true, not_true_eq_false, decide_true, decide_false, or_false, false_or, hd], by simp (config := { maxSteps := 1000000 }) only [RUN, PATHS, BASE, FA, POL, start_tm, Heap.empty, reduceIte, Nat.reduceLT, Nat.reduceLeDiff, Nat.reduceEqDiff, Nat.reduceAdd, Nat.reduceSub, Nat.reduceMul, Nat.reduceBEq, Int.reduceLT, Int.reduceLE, Int.reduceEq, Int.reduceNeg, Int.reduceAdd, Int.reduceSub, Int.reduceMul, Bool.false_eq_true, Bool.not_true, Bool.not_false, decide_eq_true_eq, and_self, true_and, and_true, reduceCtorEq, ne_eq, not_false_eq_true, not_true_eq_false, decide_true, decide_false, or_false, false_or, hfr], by simp (config := { maxSteps := 1000000 }) only [RUN, PATHS, BASE, FA, POL, start_tm, Heap.empty, reduceIte, Nat.reduceLT, Nat.reduceLeDiff, Nat.reduceEqDiff, Nat.reduceAdd, Nat.reduceSub, Nat.reduceMul, Nat.reduceBEq, Int.reduceLT, Int.reduceLE, Int.reduceEq, Int.reduceNeg, Int.reduceAdd, Int.reduceSub, Int.reduceMul, Bool.false_eq_true, Bool.not_true, Bool.not_false, decide_eq_true_eq, and_self, true_and, and_true, reduceCtorEq, ne_eq, not_false_eq_true, not_true_eq_false, decide_true, decide_false, or_false, false_or]; exact hnx⟩
      · rw [decide_eq_false hq] at ci
        rcases hb5 : s.boxes 5 with _ | ⟨v5, c5⟩
        all_goals
          simp (config := { maxSteps := 1000000 }) only [RUN, PATHS, BASE, FA, POL, start_tm, Heap.empty, reduceIte, Nat.reduceLT, Nat.reduceLeDiff, Nat.reduceEqDiff, Nat.reduceAdd, Nat.reduceSub, Nat.reduceMul, Nat.reduceBEq, Int.reduceLT, Int.reduceLE, Int.reduceEq, Int.reduceNeg, Int.reduceAdd, Int.reduceSub, Int.reduceMul, Bool.false_eq_true, Bool.not_true, Bool.not_false, decide_eq_true_eq, and_self, true_and, and_true, reduceCtorEq, ne_eq, not_false_eq_true, not_true_eq_false, decide_true, decide_false, or_false, false_or, NUM, h11, h10, h9, h2, hb2, hd, hf, hb5, gr, e1, ci, List.length_map, Int.toNat_natCast, Nat.zero_add, (show (j : Int) < ps.length by omega), (show (0 : Int) ≤ j by omega), (i64_in (x := p.e - 1) (by unfold I64; omega)), (i64_in (x := (j : Int) + 1) (by unfold I64; omega)), hp] at hW
          subst hW
          refine rd_next (j + 1) ?_ (show ps.length - (j + 1) < ps.length - j by omega)
          simp (config := { maxSteps := 1000000 }) only [RUN, PATHS, BASE, FA, POL, start_tm, Heap.empty, reduceIte, Nat.reduceLT, Nat.reduceLeDiff, Nat.reduceEqDiff, Nat.reduceAdd, Nat.reduceSub, Nat.reduceMul, Nat.reduceBEq, Int.reduceLT, Int.reduceLE, Int.reduceEq, Int.reduceNeg, Int.reduceAdd, Int.reduceSub, Int.reduceMul, Bool.false_eq_true, Bool.not_true, Bool.not_false, decide_eq_true_eq, and_self, true_and, and_true, reduceCtorEq, ne_eq, not_false_eq_true, not_true_eq_false, decide_true, decide_false, or_false, false_or, h10, h9, h2, hb2, hfr]
          exact ⟨by omega, htk _ ht hq, by simp, hnx⟩)
  rcases hex with ⟨rfl, hg⟩ | ⟨rfl, hg, h3'⟩
  · rw [decide_eq_true hg]
    simp (config := { maxSteps := 1000000 }) only [RUN, PATHS, BASE, FA, POL, start_tm, Heap.empty, reduceIte, Nat.reduceLT, Nat.reduceLeDiff, Nat.reduceEqDiff, Nat.reduceAdd, Nat.reduceSub, Nat.reduceMul, Nat.reduceBEq, Int.reduceLT, Int.reduceLE, Int.reduceEq, Int.reduceNeg, Int.reduceAdd, Int.reduceSub, Int.reduceMul, Bool.false_eq_true, Bool.not_true, Bool.not_false, decide_eq_true_eq, and_self, true_and, and_true, reduceCtorEq, ne_eq, not_false_eq_true, not_true_eq_false, decide_true, decide_false, or_false, false_or, hd]
    exact ⟨_, rfl, fun i => by rw [hfr], hnx⟩
  · rw [decide_eq_false hg]
    simp (config := { maxSteps := 1000000 }) only [RUN, PATHS, BASE, FA, POL, start_tm, Heap.empty, reduceIte, Nat.reduceLT, Nat.reduceLeDiff, Nat.reduceEqDiff, Nat.reduceAdd, Nat.reduceSub, Nat.reduceMul, Nat.reduceBEq, Int.reduceLT, Int.reduceLE, Int.reduceEq, Int.reduceNeg, Int.reduceAdd, Int.reduceSub, Int.reduceMul, Bool.false_eq_true, Bool.not_true, Bool.not_false, decide_eq_true_eq, and_self, true_and, and_true, reduceCtorEq, ne_eq, not_false_eq_true, not_true_eq_false, decide_true, decide_false, or_false, false_or, hd, h3']
    exact ⟨_, rfl, fun i => by rw [hfr], hnx⟩
theorem PBF_frame {D : Dis} {l : List Don} {kn : Int} {J : Nat} {mm : List (Int × PV)} {gg : Int → Nat} {H H2 : Heap} (hP : PBF D l kn J 2 mm gg H) (h8 : 8 < H.next) (hf : ∀ i, i < H.next → H2.rows i = H.rows i) (hn : H.next ≤ H2.next) : PBF D l kn J 2 mm gg H2 := by
  refine ⟨by rw [hf 2 (by omega)]; exact hP.row, hP.none, fun f h => ?_, hP.inj⟩
  obtain ⟨q1, q2, q3, q4⟩ := hP.some f h
  exact ⟨q1, by rw [hf _ q4]; exact q2, q3, by omega⟩
noncomputable def KEPT (D : Dis) (l : List Don) (kn : Int) (J : Nat) (cl : List Clm) : List Clm := cl.filter fun x => KEEP (PRS D l kn x.f J) x.h
theorem KEPT_take {D : Dis} {l : List Don} {kn : Int} {J : Nat} {cl : List Clm} {j : Nat} {x : Clm} (e : cl[j]? = some x) : KEPT D l kn J (cl.take (j + 1)) = KEPT D l kn J (cl.take j) ++ if KEEP (PRS D l kn x.f J) x.h then [x] else [] := by
  unfold KEPT
  rw [List.take_add_one, e, List.filter_append]
  congr 1
  by_cases h : KEEP (PRS D l kn x.f J) x.h <;> simp [h]
set_option maxHeartbeats 4000000 in
theorem c_filter (D : Dis) (l : List Don) (kn : Int) (J : Nat) (hJ : J ≤ 256) (cl : List Clm) (cc : Option Nat) (hl : cl.length ≤ 1000000) (H : Heap) (mm : List (Int × PV)) (gg : Int → Nat) (hP : PBF D l kn J 2 mm gg H) (h8 : 8 < H.next) (h3 : H.rows 3 = some (.gro 1 [.map 2] 0)) (hb : ∀ f, ∀ p ∈ PRS D l kn f J, 0 ≤ p.e ∧ p.e ≤ 4096) (X : Option (CR × Heap))
    (hX : callF G Try.prog pol 34 [.vs 5 (cl.map clm) cc, .fn 35 [.ptr 3 1 0 0]] H = X) :
    ∃ H', X = some (.ret (.gsl 5 (H.next + 1) (KEPT D l kn J cl).length 0 (KEPT D l kn J cl).length), H') ∧ H'.rows (H.next + 1) = some (.gro 5 ((KEPT D l kn J cl).map clm) 0) ∧ (∀ i, i < H.next → H'.rows i = H.rows i) ∧ H.next ≤ H'.next := by
  subst hX
  rw [callF_eq _ _ Try.func34 rfl Try.ntmps34 Try.results34 (by kernel_rfl) rfl (by exact Nat.le_of_ble_eq_true rfl)]
  simp (config := { maxSteps := 1000000 }) only [RUN, PATHS, BASE, FA, POL, start_tm, Heap.empty, reduceIte, Nat.reduceLT, Nat.reduceLeDiff, Nat.reduceEqDiff, Nat.reduceAdd, Nat.reduceSub, Nat.reduceMul, Nat.reduceBEq, Int.reduceLT, Int.reduceLE, Int.reduceEq, Int.reduceNeg, Int.reduceAdd, Int.reduceSub, Int.reduceMul, Bool.false_eq_true, Bool.not_true, Bool.not_false, decide_eq_true_eq, and_self, true_and, and_true, reduceCtorEq, ne_eq, not_false_eq_true, not_true_eq_false, decide_true, decide_false, or_false, false_or, NUM, List.length_map]
  generalize hL : W _ (.loop _) _ = L
  obtain ⟨ex, s, rfl, rfl, h4, hr, hfr, hnx, hd⟩ := loop_at hL (α := Nat) (fun j => cl.length - j)
    (fun s0 j s => j ≤ cl.length ∧ s.tmps 9 = I j ∧ s.tmps 8 = I cl.length ∧ s.tmps 7 = .vs 5 (cl.map clm) cc ∧ s.tmps 1 = .fn 35 [.ptr 3 1 0 0] ∧ s.tmps 4 = .gsl 5 (H.next + 1) (KEPT D l kn J (cl.take j)).length 0 (KEPT D l kn J (cl.take j)).length ∧ s.H.rows (H.next + 1) = some (.gro 5 ((KEPT D l kn J (cl.take j)).map clm) 0) ∧
      (∀ i, i < H.next → s.H.rows i = H.rows i) ∧ H.next + 2 ≤ s.H.next ∧ s.defers = [] ∧ s.fid = H.next)
    (fun s0 ex s => ex = .exit 0 ∧ s.tmps 4 = .gsl 5 (H.next + 1) (KEPT D l kn J cl).length 0 (KEPT D l kn J cl).length ∧ s.H.rows (H.next + 1) = some (.gro 5 ((KEPT D l kn J cl).map clm) 0) ∧ (∀ i, i < H.next → s.H.rows i = H.rows i) ∧ H.next + 2 ≤ s.H.next ∧ s.defers = []) 0
    (by have k0 : KEPT D l kn J [] = [] := rfl
        simp (config := { maxSteps := 1000000 }) only [RUN, PATHS, BASE, FA, POL, start_tm, Heap.empty, reduceIte, Nat.reduceLT, Nat.reduceLeDiff, Nat.reduceEqDiff, Nat.reduceAdd, Nat.reduceSub, Nat.reduceMul, Nat.reduceBEq, Int.reduceLT, Int.reduceLE, Int.reduceEq, Int.reduceNeg, Int.reduceAdd, Int.reduceSub, Int.reduceMul, Bool.false_eq_true, Bool.not_true, Bool.not_false, decide_eq_true_eq, and_self, true_and, and_true, reduceCtorEq, ne_eq, not_false_eq_true, not_true_eq_false, decide_true, decide_false, or_false, false_or, List.take_zero, k0]
        exact ⟨Nat.zero_le _, by simp, fun i hi => by rw [if_neg (show ¬ i = H.next + 1 by omega)], Nat.le_refl _⟩) (by
      rintro j s r hW ⟨hj, h9, h8', h7, h1, h4, hr, hfr, hnx, hd, hf⟩
      by_cases hp : j < cl.length
      rotate_left
      · simp (config := { maxSteps := 1000000 }) only [RUN, PATHS, BASE, FA, POL, start_tm, Heap.empty, reduceIte, Nat.reduceLT, Nat.reduceLeDiff, Nat.reduceEqDiff, Nat.reduceAdd, Nat.reduceSub, Nat.reduceMul, Nat.reduceBEq, Int.reduceLT, Int.reduceLE, Int.reduceEq, Int.reduceNeg, Int.reduceAdd, Int.reduceSub, Int.reduceMul, Bool.false_eq_true, Bool.not_true, Bool.not_false, decide_eq_true_eq, and_self, true_and, and_true, reduceCtorEq, ne_eq, not_false_eq_true, not_true_eq_false, decide_true, decide_false, or_false, false_or, h9, h8', hd, hf, (show ¬ (j : Int) < cl.length by omega)] at hW
        subst hW
        rw [List.take_of_length_le (by omega)] at h4 hr
        refine rd_exit ⟨rfl, ?_⟩
        simp (config := { maxSteps := 1000000 }) only [RUN, PATHS, BASE, FA, POL, start_tm, Heap.empty, reduceIte, Nat.reduceLT, Nat.reduceLeDiff, Nat.reduceEqDiff, Nat.reduceAdd, Nat.reduceSub, Nat.reduceMul, Nat.reduceBEq, Int.reduceLT, Int.reduceLE, Int.reduceEq, Int.reduceNeg, Int.reduceAdd, Int.reduceSub, Int.reduceMul, Bool.false_eq_true, Bool.not_true, Bool.not_false, decide_eq_true_eq, and_self, true_and, and_true, reduceCtorEq, ne_eq, not_false_eq_true, not_true_eq_false, decide_true, decide_false, or_false, false_or, h4, hr, hd]
        exact ⟨hfr, hnx⟩
      have e0 : cl[j]? = some cl[j] := List.getElem?_eq_getElem hp
      have e1 := map_get (f := clm) e0
      have kt := KEPT_take (D := D) (l := l) (kn := kn) (J := J) e0
      have kl : (KEPT D l kn J (cl.take j)).length ≤ j := Nat.le_trans (List.length_filter_le _ _) (by simp; omega)
      generalize cl[j] = x at *
      generalize KEPT D l kn J (cl.take j) = A at *
      rcases hb6 : s.boxes 6 with _ | ⟨v6, c6⟩
      all_goals
        simp (config := { maxSteps := 1000000 }) only [RUN, PATHS, BASE, FA, POL, start_tm, Heap.empty, reduceIte, Nat.reduceLT, Nat.reduceLeDiff, Nat.reduceEqDiff, Nat.reduceAdd, Nat.reduceSub, Nat.reduceMul, Nat.reduceBEq, Int.reduceLT, Int.reduceLE, Int.reduceEq, Int.reduceNeg, Int.reduceAdd, Int.reduceSub, Int.reduceMul, Bool.false_eq_true, Bool.not_true, Bool.not_false, decide_eq_true_eq, and_self, true_and, and_true, reduceCtorEq, ne_eq, not_false_eq_true, not_true_eq_false, decide_true, decide_false, or_false, false_or, NUM, h9, h8', h7, h1, h4, hr, hd, hf, hb6, e1, List.length_map, Int.toNat_natCast, (show (j : Int) < cl.length by omega), (show (0 : Int) ≤ j by omega), (i64_in (x := (j : Int) + 1) (by unfold I64; omega)), (show A.length + 1 ≤ 67108864 by omega)] at hW
        generalize hE : callF _ _ _ _ _ _ = E at hW
        obtain ⟨H2, rfl, f2, n2⟩ := c_act1 D l kn J hJ x s.H mm gg (PBF_frame hP h8 hfr (by omega)) (by rw [hfr 3 (by omega)]; exact h3) (hb x.f) _ hE
        clear hE
        have hr2 : H2.rows (H.next + 1) = some (.gro 5 (A.map clm) 0) := by rw [f2]; exact hr
        have fr2 : ∀ i, i < H.next → H2.rows i = H.rows i := fun i hi => by rw [f2]; exact hfr i hi
        by_cases hk : KEEP (PRS D l kn x.f J) x.h
        · rw [if_pos hk] at kt
          simp only [hk, decide_true] at hW
          simp (config := { maxSteps := 1000000 }) only [RUN, PATHS, BASE, FA, POL, start_tm, Heap.empty, reduceIte, Nat.reduceLT, Nat.reduceLeDiff, Nat.reduceEqDiff, Nat.reduceAdd, Nat.reduceSub, Nat.reduceMul, Nat.reduceBEq, Int.reduceLT, Int.reduceLE, Int.reduceEq, Int.reduceNeg, Int.reduceAdd, Int.reduceSub, Int.reduceMul, Bool.false_eq_true, Bool.not_true, Bool.not_false, decide_eq_true_eq, and_self, true_and, and_true, reduceCtorEq, ne_eq, not_false_eq_true, not_true_eq_false, decide_true, decide_false, or_false, false_or, NUM, h9, h8', h7, h1, h4, hr2, hd, hf, hb6, e1, List.length_map, Int.toNat_natCast, (show (j : Int) < cl.length by omega), (show (0 : Int) ≤ j by omega), (i64_in (x := (j : Int) + 1) (by unfold I64; omega)), (show A.length + 1 ≤ 67108864 by omega)] at hW
          subst hW
          refine rd_next (j + 1) ?_ (show cl.length - (j + 1) < cl.length - j by omega)
          simp (config := { maxSteps := 1000000 }) only [RUN, PATHS, BASE, FA, POL, start_tm, Heap.empty, reduceIte, Nat.reduceLT, Nat.reduceLeDiff, Nat.reduceEqDiff, Nat.reduceAdd, Nat.reduceSub, Nat.reduceMul, Nat.reduceBEq, Int.reduceLT, Int.reduceLE, Int.reduceEq, Int.reduceNeg, Int.reduceAdd, Int.reduceSub, Int.reduceMul, Bool.false_eq_true, Bool.not_true, Bool.not_false, decide_eq_true_eq, and_self, true_and, and_true, reduceCtorEq, ne_eq, not_false_eq_true, not_true_eq_false, decide_true, decide_false, or_false, false_or, h8', h7, h1, h4, hr2, kt, List.map_append, List.length_append]
          refine ⟨by omega, by simp, fun i hi => ?_, by omega⟩
          simp (config := { maxSteps := 1000000 }) only [RUN, PATHS, BASE, FA, POL, start_tm, Heap.empty, reduceIte, Nat.reduceLT, Nat.reduceLeDiff, Nat.reduceEqDiff, Nat.reduceAdd, Nat.reduceSub, Nat.reduceMul, Nat.reduceBEq, Int.reduceLT, Int.reduceLE, Int.reduceEq, Int.reduceNeg, Int.reduceAdd, Int.reduceSub, Int.reduceMul, Bool.false_eq_true, Bool.not_true, Bool.not_false, decide_eq_true_eq, and_self, true_and, and_true, reduceCtorEq, ne_eq, not_false_eq_true, not_true_eq_false, decide_true, decide_false, or_false, false_or, fr2 i hi, (show ¬ i = H.next + 1 by omega)]
        · rw [if_neg hk, List.append_nil] at kt
          simp only [hk, decide_false] at hW
          simp (config := { maxSteps := 1000000 }) only [RUN, PATHS, BASE, FA, POL, start_tm, Heap.empty, reduceIte, Nat.reduceLT, Nat.reduceLeDiff, Nat.reduceEqDiff, Nat.reduceAdd, Nat.reduceSub, Nat.reduceMul, Nat.reduceBEq, Int.reduceLT, Int.reduceLE, Int.reduceEq, Int.reduceNeg, Int.reduceAdd, Int.reduceSub, Int.reduceMul, Bool.false_eq_true, Bool.not_true, Bool.not_false, decide_eq_true_eq, and_self, true_and, and_true, reduceCtorEq, ne_eq, not_false_eq_true, not_true_eq_false, decide_true, decide_false, or_false, false_or, NUM, h9, h8', h7, h1, h4, hr2, hd, hf, hb6, e1, List.length_map, Int.toNat_natCast, (show (j : Int) < cl.length by omega), (show (0 : Int) ≤ j by omega), (i64_in (x := (j : Int) + 1) (by unfold I64; omega)), (show A.length + 1 ≤ 67108864 by omega)] at hW
          subst hW
          refine rd_next (j + 1) ?_ (show cl.length - (j + 1) < cl.length - j by omega)
          simp (config := { maxSteps := 1000000 }) only [RUN, PATHS, BASE, FA, POL, start_tm, Heap.empty, reduceIte, Nat.reduceLT, Nat.reduceLeDiff, Nat.reduceEqDiff, Nat.reduceAdd, Nat.reduceSub, Nat.reduceMul, Nat.reduceBEq, Int.reduceLT, Int.reduceLE, Int.reduceEq, Int.reduceNeg, Int.reduceAdd, Int.reduceSub, Int.reduceMul, Bool.false_eq_true, Bool.not_true, Bool.not_false, decide_eq_true_eq, and_self, true_and, and_true, reduceCtorEq, ne_eq, not_false_eq_true, not_true_eq_false, decide_true, decide_false, or_false, false_or, h8', h7, h1, h4, hr2, kt]
          exact ⟨by omega, by simp, fr2, by omega⟩)
  simp (config := { maxSteps := 1000000 }) only [RUN, PATHS, BASE, FA, POL, start_tm, Heap.empty, reduceIte, Nat.reduceLT, Nat.reduceLeDiff, Nat.reduceEqDiff, Nat.reduceAdd, Nat.reduceSub, Nat.reduceMul, Nat.reduceBEq, Int.reduceLT, Int.reduceLE, Int.reduceEq, Int.reduceNeg, Int.reduceAdd, Int.reduceSub, Int.reduceMul, Bool.false_eq_true, Bool.not_true, Bool.not_false, decide_eq_true_eq, and_self, true_and, and_true, reduceCtorEq, ne_eq, not_false_eq_true, not_true_eq_false, decide_true, decide_false, or_false, false_or, h4, hd]
  exact ⟨_, rfl, hr, hfr, by omega⟩
end Go.Proofs.Ytaggpjlkapnonaa
