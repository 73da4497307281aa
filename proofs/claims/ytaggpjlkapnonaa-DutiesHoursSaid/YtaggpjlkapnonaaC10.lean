/-
  Entries about duties: what Check comes to.
-/
import Derived.Test.YtaggpjlkapnonaaC8
set_option linter.unusedSimpArgs false
set_option linter.unusedVariables false
set_option linter.unusedSectionVars false
namespace Go.Proofs.Ytaggpjlkapnonaa
open Go GoV
set_option maxRecDepth 100000

structure Don where
  (no du at_ kn : Int)
abbrev don (x : Don) : PV := .agg [I x.no, I x.du, I x.at_, I x.kn]
theorem SDON : (∀ l : List Don, strip0L (l.map don) = l.map don) ∧ (∀ l : List Don, (l.map don).map strip0 = l.map don) ∧ (∀ H (l : List Don), (l.map don).map (strip1 H) = l.map don) ∧ (∀ H (l : List Don), (l.map don).map (strip2 H) = l.map don) ∧ (∀ H (l : List Don), strip1L H (l.map don) = l.map don) ∧ (∀ H (l : List Don), strip2L H (l.map don) = l.map don) := STR don (fun _ => rfl) (fun _ _ => rfl) (fun _ _ => rfl)
/-- The capacities of a district's lists. -/
structure Cp where
  (r f c g d : Option Nat)
abbrev dx (D : Dis) (q : Cp) (ws : PV) : PV := dist D.nm D.hours D.cap D.start (.vs 12 (D.rs.map rch) q.r) (.vs 4 (D.fs.map frm) q.f) (.vs 2 (D.cs.map crp) q.c) (.vs 10 (D.gs.map rgt) q.g) (.vs 4 (D.ds.map dty) q.d) ws
abbrev dxc (D : Dis) (q : Cp) (ws : PV) : List PV := [.str D.nm, I D.hours, I D.cap, I D.start, .vs 12 (D.rs.map rch) q.r, .vs 4 (D.fs.map frm) q.f, .vs 2 (D.cs.map crp) q.c, .vs 10 (D.gs.map rgt) q.g, .vs 4 (D.ds.map dty) q.d, ws]
/-- Nothing of it is in a frame. -/
def WF (w : PV) : Prop := strip0 w = w ∧ (∀ H, strip1 H w = w) ∧ (∀ H, strip2 H w = w)
noncomputable instance (D : Dis) : Decidable D.K := Classical.propDecidable _
noncomputable instance {α : Type} (P : Nat → α → Prop) (l : List α) : Decidable (ALLI P l) := Classical.propDecidable _
noncomputable def XC (D : Dis) : Int := if D.LEN then if D.K then 0 else 191 else 2
def PN (l : List Don) (j : Nat) : Int := if j = 0 then -1 else ((l[j - 1]?).map Don.no).getD (-1)
theorem PN_succ {l : List Don} {j : Nat} {x : Don} (e : l[j]? = some x) : PN l (j + 1) = x.no := by simp [PN, e]
theorem PN_pos {l : List Don} {j : Nat} {x : Don} (h : 0 < j) (e : l[j - 1]? = some x) : PN l j = x.no := by
  unfold PN; rw [if_neg (by omega), e]; rfl
def DK (nd p : Int) (x : Don) : Prop := (0 ≤ x.no ∧ p < x.no ∧ x.no ≤ 1048576) ∧ (0 ≤ x.du ∧ x.du < nd) ∧ (0 ≤ x.at_ ∧ x.at_ ≤ 4096) ∧ (x.at_ ≤ x.kn ∧ x.kn ≤ 1048576)
instance (a b : Int) (x : Don) : Decidable (DK a b x) := by unfold DK; infer_instance
def DOK (nd : Int) (l : List Don) : Prop := ALLI (fun i x => DK nd (PN l i) x) l
noncomputable instance (n : Int) (l : List Don) : Decidable (DOK n l) := Classical.propDecidable _
/-- What Check answers. -/
noncomputable def DC (D : Dis) (l : List Don) : Int := if XC D = 0 then (if 512 < l.length then 2 else if DOK D.ds.length l then 0 else 300) else XC D
theorem c_in (n lo hi : Int) : ap Try.prog pol 27 [I n, I lo, I hi] = some (.ret (.bool (decide (lo ≤ n ∧ n ≤ hi)))) := by
  rw [ap_eq _ Try.func27 rfl Try.ntmps27 Try.results27 (by kernel_rfl) rfl (by exact Nat.le_of_ble_eq_true rfl)]
  simp (config := { maxSteps := 1000000 }) only [RUN, PATHS, BASE, FA, POL, start_tm, Heap.empty, reduceIte, Nat.reduceLT, Nat.reduceLeDiff, Nat.reduceEqDiff, Nat.reduceAdd, Nat.reduceSub, Nat.reduceMul, Nat.reduceBEq, Int.reduceLT, Int.reduceLE, Int.reduceEq, Int.reduceNeg, Int.reduceAdd, Int.reduceSub, Int.reduceMul, Bool.false_eq_true, Bool.not_true, Bool.not_false, decide_eq_true_eq, and_self, true_and, and_true, reduceCtorEq, ne_eq, not_false_eq_true, not_true_eq_false, decide_true, decide_false, or_false, false_or, b_and]
theorem c_moment (n : Int) : ap Try.prog pol 29 [I n] = some (.ret (.bool (decide (0 ≤ n ∧ n ≤ 1048576)))) := by
  rw [ap_eq _ Try.func29 rfl Try.ntmps29 Try.results29 (by kernel_rfl) rfl (by exact Nat.le_of_ble_eq_true rfl)]
  simp (config := { maxSteps := 1000000 }) only [RUN, PATHS, BASE, FA, POL, start_tm, Heap.empty, reduceIte, Nat.reduceLT, Nat.reduceLeDiff, Nat.reduceEqDiff, Nat.reduceAdd, Nat.reduceSub, Nat.reduceMul, Nat.reduceBEq, Int.reduceLT, Int.reduceLE, Int.reduceEq, Int.reduceNeg, Int.reduceAdd, Int.reduceSub, Int.reduceMul, Bool.false_eq_true, Bool.not_true, Bool.not_false, decide_eq_true_eq, and_self, true_and, and_true, reduceCtorEq, ne_eq, not_false_eq_true, not_true_eq_false, decide_true, decide_false, or_false, false_or, b_and]
theorem XC_cases (D : Dis) (c : Int) (h : (¬ D.LEN ∧ c = 2) ∨ (D.LEN ∧ D.K ∧ c = 0) ∨ (D.LEN ∧ ¬ D.K ∧ c = 191)) : c = XC D := by
  unfold XC
  rcases h with ⟨h1, rfl⟩ | ⟨h1, h2, rfl⟩ | ⟨h1, h2, rfl⟩
  · rw [if_neg h1]
  · rw [if_pos h1, if_pos h2]
  · rw [if_pos h1, if_neg h2]
theorem XC_0 {D : Dis} (h : XC D = 0) : D.LEN ∧ D.K := by
  unfold XC at h
  split at h
  · split at h
    · exact ⟨by assumption, by assumption⟩
    · omega
  · omega
set_option maxHeartbeats 4000000 in
theorem c_dcheck (D : Dis) (hr : ∀ x ∈ D.rs, x.OK) (q : Cp) (ws : PV) (l : List Don) (c : Option Nat) : ap Try.prog pol 14 [dx D q ws, .vs 4 (l.map don) c] = some (.ret (I (DC D l))) := by
  rw [ap_eq _ Try.func14 rfl Try.ntmps14 Try.results14 (by kernel_rfl) rfl (by exact Nat.le_of_ble_eq_true rfl)]
  simp (config := { maxSteps := 1000000 }) only [RUN, PATHS, BASE, FA, POL, start_tm, Heap.empty, reduceIte, Nat.reduceLT, Nat.reduceLeDiff, Nat.reduceEqDiff, Nat.reduceAdd, Nat.reduceSub, Nat.reduceMul, Nat.reduceBEq, Int.reduceLT, Int.reduceLE, Int.reduceEq, Int.reduceNeg, Int.reduceAdd, Int.reduceSub, Int.reduceMul, Bool.false_eq_true, Bool.not_true, Bool.not_false, decide_eq_true_eq, and_self, true_and, and_true, reduceCtorEq, ne_eq, not_false_eq_true, not_true_eq_false, decide_true, decide_false, or_false, false_or, NUM]
  generalize hE : callF _ _ _ _ _ _ = E
  obtain ⟨H', e, rfl, fr, hn, he⟩ := c_xcheck D hr q.r q.f _ _ _ ws (SL_vs ..) (SL_vs ..) (SL_vs ..) _ _ hE
  have he := XC_cases D e he
  subst he
  by_cases hX : XC D = 0
  rotate_left
  · have ed : DC D l = XC D := by unfold DC; rw [if_neg hX]
    rw [ed]
    simp (config := { maxSteps := 1000000 }) only [RUN, PATHS, BASE, FA, POL, start_tm, Heap.empty, reduceIte, Nat.reduceLT, Nat.reduceLeDiff, Nat.reduceEqDiff, Nat.reduceAdd, Nat.reduceSub, Nat.reduceMul, Nat.reduceBEq, Int.reduceLT, Int.reduceLE, Int.reduceEq, Int.reduceNeg, Int.reduceAdd, Int.reduceSub, Int.reduceMul, Bool.false_eq_true, Bool.not_true, Bool.not_false, decide_eq_true_eq, and_self, true_and, and_true, reduceCtorEq, ne_eq, not_false_eq_true, not_true_eq_false, decide_true, decide_false, or_false, false_or, NUM, hX]
  obtain ⟨hL, hK⟩ := XC_0 hX
  by_cases hl : 512 < l.length
  · have ed : DC D l = 2 := by unfold DC; rw [if_pos hX, if_pos hl]
    rw [ed]
    simp (config := { maxSteps := 1000000 }) only [RUN, PATHS, BASE, FA, POL, start_tm, Heap.empty, reduceIte, Nat.reduceLT, Nat.reduceLeDiff, Nat.reduceEqDiff, Nat.reduceAdd, Nat.reduceSub, Nat.reduceMul, Nat.reduceBEq, Int.reduceLT, Int.reduceLE, Int.reduceEq, Int.reduceNeg, Int.reduceAdd, Int.reduceSub, Int.reduceMul, Bool.false_eq_true, Bool.not_true, Bool.not_false, decide_eq_true_eq, and_self, true_and, and_true, reduceCtorEq, ne_eq, not_false_eq_true, not_true_eq_false, decide_true, decide_false, or_false, false_or, NUM, hX, List.length_map, (show (512 : Int) < l.length by omega)]
  have ed : DC D l = if DOK D.ds.length l then 0 else 300 := by unfold DC; rw [if_pos hX, if_neg hl]
  have ld := hL.2.2.2.2
  rw [ed]
  simp (config := { maxSteps := 1000000 }) only [RUN, PATHS, BASE, FA, POL, start_tm, Heap.empty, reduceIte, Nat.reduceLT, Nat.reduceLeDiff, Nat.reduceEqDiff, Nat.reduceAdd, Nat.reduceSub, Nat.reduceMul, Nat.reduceBEq, Int.reduceLT, Int.reduceLE, Int.reduceEq, Int.reduceNeg, Int.reduceAdd, Int.reduceSub, Int.reduceMul, Bool.false_eq_true, Bool.not_true, Bool.not_false, decide_eq_true_eq, and_self, true_and, and_true, reduceCtorEq, ne_eq, not_false_eq_true, not_true_eq_false, decide_true, decide_false, or_false, false_or, NUM, hX, List.length_map, (show ¬ (512 : Int) < l.length by omega)]
  generalize hL : W _ (.loop _) _ = L
  obtain ⟨ex, s, rfl, hex, hd⟩ := loop_at hL (α := Nat) (fun j => l.length - j)
    (fun s0 j s => j ≤ l.length ∧ ALLI (fun i x => DK D.ds.length (PN l i) x) (l.take j) ∧ -1 ≤ PN l j ∧ s.tmps 18 = I j ∧ s.tmps 17 = I l.length ∧ s.tmps 16 = .vs 4 (l.map don) c ∧ s.tmps 5 = I (PN l j) ∧ s.tmps 2 = .bptr 0 2 0 0 ∧ s.boxes 2 = some (0, dxc D q ws) ∧ s.defers = [] ∧ s.fid = 0)
    (fun s0 ex s => ((ex = .exit 0 ∧ DOK D.ds.length l) ∨ (ex = .ret ∧ ¬ DOK D.ds.length l ∧ s.tmps 4 = I 300)) ∧ s.defers = []) 0
    (by simp (config := { maxSteps := 1000000 }) only [RUN, PATHS, BASE, FA, POL, start_tm, Heap.empty, reduceIte, Nat.reduceLT, Nat.reduceLeDiff, Nat.reduceEqDiff, Nat.reduceAdd, Nat.reduceSub, Nat.reduceMul, Nat.reduceBEq, Int.reduceLT, Int.reduceLE, Int.reduceEq, Int.reduceNeg, Int.reduceAdd, Int.reduceSub, Int.reduceMul, Bool.false_eq_true, Bool.not_true, Bool.not_false, decide_eq_true_eq, and_self, true_and, and_true, reduceCtorEq, ne_eq, not_false_eq_true, not_true_eq_false, decide_true, decide_false, or_false, false_or]; exact ⟨by omega, fun i x h => by simp at h, by simp [PN], by simp, by simp [PN]⟩) (by
      rintro j s r hW ⟨hj, ht, hpn, h18, h17, h16, h5, h2, hb, hd, hf⟩
      by_cases hp : j < l.length
      · have e0 : l[j]? = some l[j] := List.getElem?_eq_getElem hp
        have e1 := map_get (f := don) e0
        generalize l[j] = x at *
        simp (config := { maxSteps := 1000000 }) only [RUN, PATHS, BASE, FA, POL, start_tm, Heap.empty, reduceIte, Nat.reduceLT, Nat.reduceLeDiff, Nat.reduceEqDiff, Nat.reduceAdd, Nat.reduceSub, Nat.reduceMul, Nat.reduceBEq, Int.reduceLT, Int.reduceLE, Int.reduceEq, Int.reduceNeg, Int.reduceAdd, Int.reduceSub, Int.reduceMul, Bool.false_eq_true, Bool.not_true, Bool.not_false, decide_eq_true_eq, and_self, true_and, and_true, reduceCtorEq, ne_eq, not_false_eq_true, not_true_eq_false, decide_true, decide_false, or_false, false_or, NUM, h18, h17, h16, h5, h2, hb, hd, hf, e1, c_in, List.length_map, Int.toNat_natCast, (show (j : Int) < l.length by omega), (show (0 : Int) ≤ j by omega), (i64_in (x := (j : Int) + 1) (by unfold I64; omega)), (i64_in (x := (D.ds.length : Int) - 1) (by unfold I64; omega))] at hW
        subst hW
        repeat' refine rd_ite (fun _ => ?_) (fun _ => ?_)
        all_goals first
          | (have hx : DK D.ds.length (PN l j) x := by unfold DK; omega
             refine rd_next (j + 1) ?_ (show l.length - (j + 1) < l.length - j by omega)
             simp (config := { maxSteps := 1000000 }) only [RUN, PATHS, BASE, FA, POL, start_tm, Heap.empty, reduceIte, Nat.reduceLT, Nat.reduceLeDiff, Nat.reduceEqDiff, Nat.reduceAdd, Nat.reduceSub, Nat.reduceMul, Nat.reduceBEq, Int.reduceLT, Int.reduceLE, Int.reduceEq, Int.reduceNeg, Int.reduceAdd, Int.reduceSub, Int.reduceMul, Bool.false_eq_true, Bool.not_true, Bool.not_false, decide_eq_true_eq, and_self, true_and, and_true, reduceCtorEq, ne_eq, not_false_eq_true, not_true_eq_false, decide_true, decide_false, or_false, false_or, h17, h16, h2, hb, hd]
             exact ⟨by omega, ALLI_take ht e0 hx, by rw [PN_succ e0]; omega, by simp, by rw [PN_succ e0]⟩)
          | (refine rd_ret ⟨.inr ⟨rfl, fun g => ?_, by simp (config := { maxSteps := 1000000 }) only [RUN, PATHS, BASE, FA, POL, start_tm, Heap.empty, reduceIte, Nat.reduceLT, Nat.reduceLeDiff, Nat.reduceEqDiff, Nat.reduceAdd, Nat.reduceSub, Nat.reduceMul, Nat.reduceBEq, Int.reduceLT, Int.reduceLE, Int.reduceEq, Int.reduceNeg, Int.reduceAdd, Int.reduceSub, Int.reduceMul, Bool.false_eq_true, Bool.not_true, Bool.not_false, decide_eq_true_eq, and_self, true_and, and_true, reduceCtorEq, ne_eq, not_false_eq_true, not_true_eq_false, decide_true, decide_false, or_false, false_or]⟩, by simp (config := { maxSteps := 1000000 }) only [RUN, PATHS, BASE, FA, POL, start_tm, Heap.empty, reduceIte, Nat.reduceLT, Nat.reduceLeDiff, Nat.reduceEqDiff, Nat.reduceAdd, Nat.reduceSub, Nat.reduceMul, Nat.reduceBEq, Int.reduceLT, Int.reduceLE, Int.reduceEq, Int.reduceNeg, Int.reduceAdd, Int.reduceSub, Int.reduceMul, Bool.false_eq_true, Bool.not_true, Bool.not_false, decide_eq_true_eq, and_self, true_and, and_true, reduceCtorEq, ne_eq, not_false_eq_true, not_true_eq_false, decide_true, decide_false, or_false, false_or, hd]⟩
             have := g j x e0
             unfold DK at this
             omega)
      · simp (config := { maxSteps := 1000000 }) only [RUN, PATHS, BASE, FA, POL, start_tm, Heap.empty, reduceIte, Nat.reduceLT, Nat.reduceLeDiff, Nat.reduceEqDiff, Nat.reduceAdd, Nat.reduceSub, Nat.reduceMul, Nat.reduceBEq, Int.reduceLT, Int.reduceLE, Int.reduceEq, Int.reduceNeg, Int.reduceAdd, Int.reduceSub, Int.reduceMul, Bool.false_eq_true, Bool.not_true, Bool.not_false, decide_eq_true_eq, and_self, true_and, and_true, reduceCtorEq, ne_eq, not_false_eq_true, not_true_eq_false, decide_true, decide_false, or_false, false_or, h18, h17, h16, hd, hf, List.length_map, (show ¬ (j : Int) < l.length by omega)] at hW
        subst hW
        have ht := ALLI_full ht (by omega)
        exact rd_exit ⟨.inl ⟨rfl, ht⟩, by simp (config := { maxSteps := 1000000 }) only [RUN, PATHS, BASE, FA, POL, start_tm, Heap.empty, reduceIte, Nat.reduceLT, Nat.reduceLeDiff, Nat.reduceEqDiff, Nat.reduceAdd, Nat.reduceSub, Nat.reduceMul, Nat.reduceBEq, Int.reduceLT, Int.reduceLE, Int.reduceEq, Int.reduceNeg, Int.reduceAdd, Int.reduceSub, Int.reduceMul, Bool.false_eq_true, Bool.not_true, Bool.not_false, decide_eq_true_eq, and_self, true_and, and_true, reduceCtorEq, ne_eq, not_false_eq_true, not_true_eq_false, decide_true, decide_false, or_false, false_or, hd]⟩)
  rcases hex with ⟨rfl, hg⟩ | ⟨rfl, hg, h4⟩
  · rw [if_pos hg]; simp (config := { maxSteps := 1000000 }) only [RUN, PATHS, BASE, FA, POL, start_tm, Heap.empty, reduceIte, Nat.reduceLT, Nat.reduceLeDiff, Nat.reduceEqDiff, Nat.reduceAdd, Nat.reduceSub, Nat.reduceMul, Nat.reduceBEq, Int.reduceLT, Int.reduceLE, Int.reduceEq, Int.reduceNeg, Int.reduceAdd, Int.reduceSub, Int.reduceMul, Bool.false_eq_true, Bool.not_true, Bool.not_false, decide_eq_true_eq, and_self, true_and, and_true, reduceCtorEq, ne_eq, not_false_eq_true, not_true_eq_false, decide_true, decide_false, or_false, false_or, hd]
  · rw [if_neg hg]; simp (config := { maxSteps := 1000000 }) only [RUN, PATHS, BASE, FA, POL, start_tm, Heap.empty, reduceIte, Nat.reduceLT, Nat.reduceLeDiff, Nat.reduceEqDiff, Nat.reduceAdd, Nat.reduceSub, Nat.reduceMul, Nat.reduceBEq, Int.reduceLT, Int.reduceLE, Int.reduceEq, Int.reduceNeg, Int.reduceAdd, Int.reduceSub, Int.reduceMul, Bool.false_eq_true, Bool.not_true, Bool.not_false, decide_eq_true_eq, and_self, true_and, and_true, reduceCtorEq, ne_eq, not_false_eq_true, not_true_eq_false, decide_true, decide_false, or_false, false_or, hd, h4]
set_option maxHeartbeats 4000000 in
theorem c_refvalid30 (D : Dis) (ws : List Wel) (l : List Don) (hl : l.length ≤ 1000000) (hn : D.ds.length ≤ 10000) : ap Try.prog pol 33 [dv D ws, .vs 4 (l.map don) none] = some (.ret (.bool (decide (DOK D.ds.length l)))) := by
  rw [ap_eq _ Try.func33 rfl Try.ntmps33 Try.results33 (by kernel_rfl) rfl (by exact Nat.le_of_ble_eq_true rfl)]
  simp (config := { maxSteps := 1000000 }) only [RUN, PATHS, BASE, FA, POL, start_tm, Heap.empty, reduceIte, Nat.reduceLT, Nat.reduceLeDiff, Nat.reduceEqDiff, Nat.reduceAdd, Nat.reduceSub, Nat.reduceMul, Nat.reduceBEq, Int.reduceLT, Int.reduceLE, Int.reduceEq, Int.reduceNeg, Int.reduceAdd, Int.reduceSub, Int.reduceMul, Bool.false_eq_true, Bool.not_true, Bool.not_false, decide_eq_true_eq, and_self, true_and, and_true, reduceCtorEq, ne_eq, not_false_eq_true, not_true_eq_false, decide_true, decide_false, or_false, false_or, NUM]
  generalize hL : W _ (.loop _) _ = L
  obtain ⟨ex, s, rfl, hex, hd⟩ := loop_at hL (α := Nat) (fun j => l.length - j)
    (fun s0 j s => j ≤ l.length ∧ ALLI (fun i x => DK D.ds.length (PN l i) x) (l.take j) ∧ -1 ≤ PN l j ∧ s.tmps 5 = I j ∧ s.tmps 1 = .vs 4 (l.map don) none ∧ s.tmps 2 = .bptr 0 2 0 0 ∧ s.boxes 2 = some (0, dc D ws) ∧ s.defers = [] ∧ s.fid = 0)
    (fun s0 ex s => ((ex = .exit 0 ∧ DOK D.ds.length l) ∨ (ex = .ret ∧ ¬ DOK D.ds.length l ∧ s.tmps 4 = .bool false)) ∧ s.defers = []) 0
    (by simp (config := { maxSteps := 1000000 }) only [RUN, PATHS, BASE, FA, POL, start_tm, Heap.empty, reduceIte, Nat.reduceLT, Nat.reduceLeDiff, Nat.reduceEqDiff, Nat.reduceAdd, Nat.reduceSub, Nat.reduceMul, Nat.reduceBEq, Int.reduceLT, Int.reduceLE, Int.reduceEq, Int.reduceNeg, Int.reduceAdd, Int.reduceSub, Int.reduceMul, Bool.false_eq_true, Bool.not_true, Bool.not_false, decide_eq_true_eq, and_self, true_and, and_true, reduceCtorEq, ne_eq, not_false_eq_true, not_true_eq_false, decide_true, decide_false, or_false, false_or]; exact ⟨by omega, fun i x h => by simp at h, by simp [PN], by simp⟩) (by
      rintro j s r hW ⟨hj, ht, hpn, h5, h1, h2, hb, hd, hf⟩
      by_cases hp : j < l.length
      · have e0 : l[j]? = some l[j] := List.getElem?_eq_getElem hp
        have e1 := map_get (f := don) e0
        generalize l[j] = x at *
        by_cases hj0 : 0 < j
        · have ep : l[j - 1]? = some (l[j - 1]'(by omega)) := List.getElem?_eq_getElem _
          have epn := PN_pos hj0 ep
          generalize (l[j - 1]'(by omega)) = y at *
          have ep1 := map_get (f := don) ep
          have en : ((j : Int) - 1).toNat = j - 1 := by omega
          simp (config := { maxSteps := 1000000 }) only [RUN, PATHS, BASE, FA, POL, start_tm, Heap.empty, reduceIte, Nat.reduceLT, Nat.reduceLeDiff, Nat.reduceEqDiff, Nat.reduceAdd, Nat.reduceSub, Nat.reduceMul, Nat.reduceBEq, Int.reduceLT, Int.reduceLE, Int.reduceEq, Int.reduceNeg, Int.reduceAdd, Int.reduceSub, Int.reduceMul, Bool.false_eq_true, Bool.not_true, Bool.not_false, decide_eq_true_eq, and_self, true_and, and_true, reduceCtorEq, ne_eq, not_false_eq_true, not_true_eq_false, decide_true, decide_false, or_false, false_or, NUM, h5, h1, h2, hb, hd, hf, e1, List.length_map, Int.toNat_natCast, en, ep1, (show (j : Int) < l.length by omega), (show (0 : Int) ≤ j by omega), (show (0 : Int) < j by omega), (show (0 : Int) ≤ (j : Int) - 1 by omega), (show (j : Int) - 1 < l.length by omega), (i64_in (x := (j : Int) + 1) (by unfold I64; omega)), (i64_in (x := (j : Int) - 1) (by unfold I64; omega))] at hW
          subst hW
          repeat' refine rd_ite (fun _ => ?_) (fun _ => ?_)
          all_goals first
            | (have hx : DK D.ds.length (PN l j) x := by unfold DK; omega
               refine rd_next (j + 1) ?_ (show l.length - (j + 1) < l.length - j by omega)
               simp (config := { maxSteps := 1000000 }) only [RUN, PATHS, BASE, FA, POL, start_tm, Heap.empty, reduceIte, Nat.reduceLT, Nat.reduceLeDiff, Nat.reduceEqDiff, Nat.reduceAdd, Nat.reduceSub, Nat.reduceMul, Nat.reduceBEq, Int.reduceLT, Int.reduceLE, Int.reduceEq, Int.reduceNeg, Int.reduceAdd, Int.reduceSub, Int.reduceMul, Bool.false_eq_true, Bool.not_true, Bool.not_false, decide_eq_true_eq, and_self, true_and, and_true, reduceCtorEq, ne_eq, not_false_eq_true, not_true_eq_false, decide_true, decide_false, or_false, false_or, h1, h2, hb, hd]
               exact ⟨by omega, ALLI_take ht e0 hx, by rw [PN_succ e0]; omega, by simp⟩)
            | (refine rd_ret ⟨.inr ⟨rfl, fun g => ?_, by simp (config := { maxSteps := 1000000 }) only [RUN, PATHS, BASE, FA, POL, start_tm, Heap.empty, reduceIte, Nat.reduceLT, Nat.reduceLeDiff, Nat.reduceEqDiff, Nat.reduceAdd, Nat.reduceSub, Nat.reduceMul, Nat.reduceBEq, Int.reduceLT, Int.reduceLE, Int.reduceEq, Int.reduceNeg, Int.reduceAdd, Int.reduceSub, Int.reduceMul, Bool.false_eq_true, Bool.not_true, Bool.not_false, decide_eq_true_eq, and_self, true_and, and_true, reduceCtorEq, ne_eq, not_false_eq_true, not_true_eq_false, decide_true, decide_false, or_false, false_or]⟩, by simp (config := { maxSteps := 1000000 }) only [RUN, PATHS, BASE, FA, POL, start_tm, Heap.empty, reduceIte, Nat.reduceLT, Nat.reduceLeDiff, Nat.reduceEqDiff, Nat.reduceAdd, Nat.reduceSub, Nat.reduceMul, Nat.reduceBEq, Int.reduceLT, Int.reduceLE, Int.reduceEq, Int.reduceNeg, Int.reduceAdd, Int.reduceSub, Int.reduceMul, Bool.false_eq_true, Bool.not_true, Bool.not_false, decide_eq_true_eq, and_self, true_and, and_true, reduceCtorEq, ne_eq, not_false_eq_true, not_true_eq_false, decide_true, decide_false, or_false, false_or, hd]⟩
               have := g j x e0
               unfold DK at this
               omega)
        · have j0 : j = 0 := by omega
          subst j0
          have epn : PN l 0 = -1 := by simp [PN]
          simp (config := { maxSteps := 1000000 }) only [RUN, PATHS, BASE, FA, POL, start_tm, Heap.empty, reduceIte, Nat.reduceLT, Nat.reduceLeDiff, Nat.reduceEqDiff, Nat.reduceAdd, Nat.reduceSub, Nat.reduceMul, Nat.reduceBEq, Int.reduceLT, Int.reduceLE, Int.reduceEq, Int.reduceNeg, Int.reduceAdd, Int.reduceSub, Int.reduceMul, Bool.false_eq_true, Bool.not_true, Bool.not_false, decide_eq_true_eq, and_self, true_and, and_true, reduceCtorEq, ne_eq, not_false_eq_true, not_true_eq_false, decide_true, decide_false, or_false, false_or, NUM, h5, h1, h2, hb, hd, hf, e1, List.length_map, Int.toNat_natCast, (show (0 : Int) < l.length by omega), (i64_in (x := (0 : Int) + 1) (by unfold I64; omega))] at hW
          subst hW
          repeat' refine rd_ite (fun _ => ?_) (fun _ => ?_)
          all_goals first
            | (have hx : DK D.ds.length (PN l 0) x := by unfold DK; omega
               refine rd_next (0 + 1) ?_ (show l.length - (0 + 1) < l.length - 0 by omega)
               simp (config := { maxSteps := 1000000 }) only [RUN, PATHS, BASE, FA, POL, start_tm, Heap.empty, reduceIte, Nat.reduceLT, Nat.reduceLeDiff, Nat.reduceEqDiff, Nat.reduceAdd, Nat.reduceSub, Nat.reduceMul, Nat.reduceBEq, Int.reduceLT, Int.reduceLE, Int.reduceEq, Int.reduceNeg, Int.reduceAdd, Int.reduceSub, Int.reduceMul, Bool.false_eq_true, Bool.not_true, Bool.not_false, decide_eq_true_eq, and_self, true_and, and_true, reduceCtorEq, ne_eq, not_false_eq_true, not_true_eq_false, decide_true, decide_false, or_false, false_or, h1, h2, hb, hd]
               first
                 | exact ⟨by omega, ALLI_take ht e0 hx, by rw [PN_succ e0]; omega⟩
                 | exact ⟨by omega, ALLI_take ht e0 hx, by rw [PN_succ e0]; omega, by simp⟩)
            | (refine rd_ret ⟨.inr ⟨rfl, fun g => ?_, by simp (config := { maxSteps := 1000000 }) only [RUN, PATHS, BASE, FA, POL, start_tm, Heap.empty, reduceIte, Nat.reduceLT, Nat.reduceLeDiff, Nat.reduceEqDiff, Nat.reduceAdd, Nat.reduceSub, Nat.reduceMul, Nat.reduceBEq, Int.reduceLT, Int.reduceLE, Int.reduceEq, Int.reduceNeg, Int.reduceAdd, Int.reduceSub, Int.reduceMul, Bool.false_eq_true, Bool.not_true, Bool.not_false, decide_eq_true_eq, and_self, true_and, and_true, reduceCtorEq, ne_eq, not_false_eq_true, not_true_eq_false, decide_true, decide_false, or_false, false_or]⟩, by simp (config := { maxSteps := 1000000 }) only [RUN, PATHS, BASE, FA, POL, start_tm, Heap.empty, reduceIte, Nat.reduceLT, Nat.reduceLeDiff, Nat.reduceEqDiff, Nat.reduceAdd, Nat.reduceSub, Nat.reduceMul, Nat.reduceBEq, Int.reduceLT, Int.reduceLE, Int.reduceEq, Int.reduceNeg, Int.reduceAdd, Int.reduceSub, Int.reduceMul, Bool.false_eq_true, Bool.not_true, Bool.not_false, decide_eq_true_eq, and_self, true_and, and_true, reduceCtorEq, ne_eq, not_false_eq_true, not_true_eq_false, decide_true, decide_false, or_false, false_or, hd]⟩
               have := g 0 x e0
               unfold DK at this
               omega)
      · simp (config := { maxSteps := 1000000 }) only [RUN, PATHS, BASE, FA, POL, start_tm, Heap.empty, reduceIte, Nat.reduceLT, Nat.reduceLeDiff, Nat.reduceEqDiff, Nat.reduceAdd, Nat.reduceSub, Nat.reduceMul, Nat.reduceBEq, Int.reduceLT, Int.reduceLE, Int.reduceEq, Int.reduceNeg, Int.reduceAdd, Int.reduceSub, Int.reduceMul, Bool.false_eq_true, Bool.not_true, Bool.not_false, decide_eq_true_eq, and_self, true_and, and_true, reduceCtorEq, ne_eq, not_false_eq_true, not_true_eq_false, decide_true, decide_false, or_false, false_or, h5, h1, hd, hf, List.length_map, (show ¬ (j : Int) < l.length by omega)] at hW
        subst hW
        have ht := ALLI_full ht (by omega)
        exact rd_exit ⟨.inl ⟨rfl, ht⟩, by simp (config := { maxSteps := 1000000 }) only [RUN, PATHS, BASE, FA, POL, start_tm, Heap.empty, reduceIte, Nat.reduceLT, Nat.reduceLeDiff, Nat.reduceEqDiff, Nat.reduceAdd, Nat.reduceSub, Nat.reduceMul, Nat.reduceBEq, Int.reduceLT, Int.reduceLE, Int.reduceEq, Int.reduceNeg, Int.reduceAdd, Int.reduceSub, Int.reduceMul, Bool.false_eq_true, Bool.not_true, Bool.not_false, decide_eq_true_eq, and_self, true_and, and_true, reduceCtorEq, ne_eq, not_false_eq_true, not_true_eq_false, decide_true, decide_false, or_false, false_or, hd]⟩)
  rcases hex with ⟨rfl, hg⟩ | ⟨rfl, hg, h4⟩
  · rw [decide_eq_true hg]; simp (config := { maxSteps := 1000000 }) only [RUN, PATHS, BASE, FA, POL, start_tm, Heap.empty, reduceIte, Nat.reduceLT, Nat.reduceLeDiff, Nat.reduceEqDiff, Nat.reduceAdd, Nat.reduceSub, Nat.reduceMul, Nat.reduceBEq, Int.reduceLT, Int.reduceLE, Int.reduceEq, Int.reduceNeg, Int.reduceAdd, Int.reduceSub, Int.reduceMul, Bool.false_eq_true, Bool.not_true, Bool.not_false, decide_eq_true_eq, and_self, true_and, and_true, reduceCtorEq, ne_eq, not_false_eq_true, not_true_eq_false, decide_true, decide_false, or_false, false_or, hd]
  · rw [decide_eq_false hg]; simp (config := { maxSteps := 1000000 }) only [RUN, PATHS, BASE, FA, POL, start_tm, Heap.empty, reduceIte, Nat.reduceLT, Nat.reduceLeDiff, Nat.reduceEqDiff, Nat.reduceAdd, Nat.reduceSub, Nat.reduceMul, Nat.reduceBEq, Int.reduceLT, Int.reduceLE, Int.reduceEq, Int.reduceNeg, Int.reduceAdd, Int.reduceSub, Int.reduceMul, Bool.false_eq_true, Bool.not_true, Bool.not_false, decide_eq_true_eq, and_self, true_and, and_true, reduceCtorEq, ne_eq, not_false_eq_true, not_true_eq_false, decide_true, decide_false, or_false, false_or, hd, h4]
end Go.Proofs.Ytaggpjlkapnonaa
