/-
  The reference's Late, Active and Fine, and the comparisons.
-/
import Derived.Test.YtaggpjlkapnonaaC21
set_option linter.unusedSimpArgs false
set_option linter.unusedVariables false
set_option linter.unusedSectionVars false
namespace Go.Proofs.Ytaggpjlkapnonaa
open Go GoV
set_option maxRecDepth 100000

theorem c_same (a b : List Int) (c c' : Option Nat) (ha : a.length ≤ 1000000) (hb : b.length ≤ 1000000) : ap Try.prog pol 16 [ints a c, ints b c'] = some (.ret (.bool (decide (a = b)))) := by
  rw [ap_eq _ Try.func16 rfl Try.ntmps16 Try.results16 (by kernel_rfl) rfl (by exact Nat.le_of_ble_eq_true rfl)]
  by_cases h : a.length = b.length
  · simp (config := { maxSteps := 1000000 }) only [RUN, PATHS, BASE, FA, POL, start_tm, Heap.empty, reduceIte, Nat.reduceLT, Nat.reduceLeDiff, Nat.reduceEqDiff, Nat.reduceAdd, Nat.reduceSub, Nat.reduceMul, Nat.reduceBEq, Int.reduceLT, Int.reduceLE, Int.reduceEq, Int.reduceNeg, Int.reduceAdd, Int.reduceSub, Int.reduceMul, Bool.false_eq_true, Bool.not_true, Bool.not_false, decide_eq_true_eq, and_self, true_and, and_true, reduceCtorEq, ne_eq, not_false_eq_true, not_true_eq_false, decide_true, decide_false, or_false, false_or, INTS, (show (a.length : Int) = b.length by omega)]
    generalize hL : W _ (.loop _) _ = L
    obtain ⟨ex, s, rfl, hex, hd⟩ := loop_at hL (α := Nat) (fun k => a.length - k)
      (fun s0 k s => k ≤ a.length ∧ a.take k = b.take k ∧ s.tmps 5 = I k ∧ s.tmps 0 = ints a c ∧ s.tmps 1 = ints b c' ∧ s.defers = [])
      (fun s0 ex s => ((ex = .exit 0 ∧ a = b) ∨ (ex = .ret ∧ ¬ a = b ∧ s.tmps 4 = .bool false)) ∧ s.defers = []) 0
      (by simp (config := { maxSteps := 1000000 }) only [RUN, PATHS, BASE, FA, POL, start_tm, Heap.empty, reduceIte, Nat.reduceLT, Nat.reduceLeDiff, Nat.reduceEqDiff, Nat.reduceAdd, Nat.reduceSub, Nat.reduceMul, Nat.reduceBEq, Int.reduceLT, Int.reduceLE, Int.reduceEq, Int.reduceNeg, Int.reduceAdd, Int.reduceSub, Int.reduceMul, Bool.false_eq_true, Bool.not_true, Bool.not_false, decide_eq_true_eq, and_self, true_and, and_true, reduceCtorEq, ne_eq, not_false_eq_true, not_true_eq_false, decide_true, decide_false, or_false, false_or]; simp) (by
        rintro k s r hW ⟨hk, ht, h5, h0, h1, hd⟩
        by_cases hp : k < a.length
        · have e0 : a[k]? = some a[k] := List.getElem?_eq_getElem hp
          have f0 : b[k]? = some (b[k]'(by omega)) := List.getElem?_eq_getElem (by omega)
          have e1 := ints_get e0
          have f1 := ints_get f0
          simp (config := { maxSteps := 1000000 }) only [RUN, PATHS, BASE, FA, POL, start_tm, Heap.empty, reduceIte, Nat.reduceLT, Nat.reduceLeDiff, Nat.reduceEqDiff, Nat.reduceAdd, Nat.reduceSub, Nat.reduceMul, Nat.reduceBEq, Int.reduceLT, Int.reduceLE, Int.reduceEq, Int.reduceNeg, Int.reduceAdd, Int.reduceSub, Int.reduceMul, Bool.false_eq_true, Bool.not_true, Bool.not_false, decide_eq_true_eq, and_self, true_and, and_true, reduceCtorEq, ne_eq, not_false_eq_true, not_true_eq_false, decide_true, decide_false, or_false, false_or, INTS, h5, h0, h1, hd, e1, f1, Int.toNat_natCast, (show (k : Int) < a.length by omega), (show (k : Int) < b.length by omega), (show (0 : Int) ≤ k by omega), (i64_in (x := (k : Int) + 1) (by unfold I64; omega))] at hW
          subst hW
          refine rd_ite (fun hx => ?_) (fun hx => ?_)
          · refine rd_ret ⟨.inr ⟨rfl, fun e => hx (by subst e; rfl), ?_⟩, rfl⟩
            simp (config := { maxSteps := 1000000 }) only [RUN, PATHS, BASE, FA, POL, start_tm, Heap.empty, reduceIte, Nat.reduceLT, Nat.reduceLeDiff, Nat.reduceEqDiff, Nat.reduceAdd, Nat.reduceSub, Nat.reduceMul, Nat.reduceBEq, Int.reduceLT, Int.reduceLE, Int.reduceEq, Int.reduceNeg, Int.reduceAdd, Int.reduceSub, Int.reduceMul, Bool.false_eq_true, Bool.not_true, Bool.not_false, decide_eq_true_eq, and_self, true_and, and_true, reduceCtorEq, ne_eq, not_false_eq_true, not_true_eq_false, decide_true, decide_false, or_false, false_or]
          · refine rd_next (k + 1) ?_ (show a.length - (k + 1) < a.length - k by omega)
            simp (config := { maxSteps := 1000000 }) only [RUN, PATHS, BASE, FA, POL, start_tm, Heap.empty, reduceIte, Nat.reduceLT, Nat.reduceLeDiff, Nat.reduceEqDiff, Nat.reduceAdd, Nat.reduceSub, Nat.reduceMul, Nat.reduceBEq, Int.reduceLT, Int.reduceLE, Int.reduceEq, Int.reduceNeg, Int.reduceAdd, Int.reduceSub, Int.reduceMul, Bool.false_eq_true, Bool.not_true, Bool.not_false, decide_eq_true_eq, and_self, true_and, and_true, reduceCtorEq, ne_eq, not_false_eq_true, not_true_eq_false, decide_true, decide_false, or_false, false_or, h0, h1]
            refine ⟨by omega, ?_, by simp⟩
            rw [List.take_add_one, List.take_add_one, ht, e0, f0]
            simp at hx
            rw [hx]
        · simp (config := { maxSteps := 1000000 }) only [RUN, PATHS, BASE, FA, POL, start_tm, Heap.empty, reduceIte, Nat.reduceLT, Nat.reduceLeDiff, Nat.reduceEqDiff, Nat.reduceAdd, Nat.reduceSub, Nat.reduceMul, Nat.reduceBEq, Int.reduceLT, Int.reduceLE, Int.reduceEq, Int.reduceNeg, Int.reduceAdd, Int.reduceSub, Int.reduceMul, Bool.false_eq_true, Bool.not_true, Bool.not_false, decide_eq_true_eq, and_self, true_and, and_true, reduceCtorEq, ne_eq, not_false_eq_true, not_true_eq_false, decide_true, decide_false, or_false, false_or, INTS, h5, h0, h1, hd, (show ¬ (k : Int) < a.length by omega)] at hW
          subst hW
          refine rd_exit ⟨.inl ⟨rfl, ?_⟩, rfl⟩
          rw [List.take_of_length_le (by omega), List.take_of_length_le (by omega)] at ht
          exact ht)
    rcases hex with ⟨rfl, h⟩ | ⟨rfl, h, h4⟩
    · simp (config := { maxSteps := 1000000 }) only [RUN, PATHS, BASE, FA, POL, start_tm, Heap.empty, reduceIte, Nat.reduceLT, Nat.reduceLeDiff, Nat.reduceEqDiff, Nat.reduceAdd, Nat.reduceSub, Nat.reduceMul, Nat.reduceBEq, Int.reduceLT, Int.reduceLE, Int.reduceEq, Int.reduceNeg, Int.reduceAdd, Int.reduceSub, Int.reduceMul, Bool.false_eq_true, Bool.not_true, Bool.not_false, decide_eq_true_eq, and_self, true_and, and_true, reduceCtorEq, ne_eq, not_false_eq_true, not_true_eq_false, decide_true, decide_false, or_false, false_or, hd, eq_true h]
    · simp (config := { maxSteps := 1000000 }) only [RUN, PATHS, BASE, FA, POL, start_tm, Heap.empty, reduceIte, Nat.reduceLT, Nat.reduceLeDiff, Nat.reduceEqDiff, Nat.reduceAdd, Nat.reduceSub, Nat.reduceMul, Nat.reduceBEq, Int.reduceLT, Int.reduceLE, Int.reduceEq, Int.reduceNeg, Int.reduceAdd, Int.reduceSub, Int.reduceMul, Bool.false_eq_true, Bool.not_true, Bool.not_false, decide_eq_true_eq, and_self, true_and, and_true, reduceCtorEq, ne_eq, not_false_eq_true, not_true_eq_false, decide_true, decide_false, or_false, false_or, hd, h, h4]
  · simp (config := { maxSteps := 1000000 }) only [RUN, PATHS, BASE, FA, POL, start_tm, Heap.empty, reduceIte, Nat.reduceLT, Nat.reduceLeDiff, Nat.reduceEqDiff, Nat.reduceAdd, Nat.reduceSub, Nat.reduceMul, Nat.reduceBEq, Int.reduceLT, Int.reduceLE, Int.reduceEq, Int.reduceNeg, Int.reduceAdd, Int.reduceSub, Int.reduceMul, Bool.false_eq_true, Bool.not_true, Bool.not_false, decide_eq_true_eq, and_self, true_and, and_true, reduceCtorEq, ne_eq, not_false_eq_true, not_true_eq_false, decide_true, decide_false, or_false, false_or, INTS, (show ¬ (a.length : Int) = b.length by omega)]
    rw [decide_eq_false (fun e => h (by rw [e]))]
theorem c_samenil : ap Try.prog pol 16 [.nils, .nils] = some (.ret (.bool true)) := by
  rw [ap_eq _ Try.func16 rfl Try.ntmps16 Try.results16 (by kernel_rfl) rfl (by exact Nat.le_of_ble_eq_true rfl)]
  simp (config := { maxSteps := 1000000 }) only [RUN, PATHS, BASE, FA, POL, start_tm, Heap.empty, reduceIte, Nat.reduceLT, Nat.reduceLeDiff, Nat.reduceEqDiff, Nat.reduceAdd, Nat.reduceSub, Nat.reduceMul, Nat.reduceBEq, Int.reduceLT, Int.reduceLE, Int.reduceEq, Int.reduceNeg, Int.reduceAdd, Int.reduceSub, Int.reduceMul, Bool.false_eq_true, Bool.not_true, Bool.not_false, decide_eq_true_eq, and_self, true_and, and_true, reduceCtorEq, ne_eq, not_false_eq_true, not_true_eq_false, decide_true, decide_false, or_false, false_or, WW_loop, NUM]
theorem c_sameov (o : Option (List Int)) (h : ∀ l, o = some l → l.length ≤ 1000000) : ap Try.prog pol 16 [ov o, ov o] = some (.ret (.bool true)) := by
  cases o with
  | none => exact c_samenil
  | some l =>
    have := c_same l l none none (h l rfl) (h l rfl)
    rw [decide_eq_true rfl] at this
    exact this
theorem clm_inj {x y : Clm} (h : clm x = clm y) : x = y := by
  obtain ⟨a, b, c, d, e⟩ := x
  obtain ⟨a', b', c', d', e'⟩ := y
  simp [I] at h
  obtain ⟨rfl, rfl, rfl, rfl, rfl⟩ := h
  rfl
instance : DecidableEq Clm := fun x y => by
  cases x; cases y
  simp only [Clm.mk.injEq]
  infer_instance
theorem eqv_clm (x y : Clm) (n : Nat) : eqPV Try.prog (n + 9) 52 (clm x) (clm y) = some (decide (x = y)) := by
  have g2 : Try.prog.stoodInHeld 52 = false := by kernel_rfl
  obtain ⟨a, b, c, d, e⟩ := x
  obtain ⟨a', b', c', d', e'⟩ := y
  simp only [eqPV, Try.underlying52, g2, eqFs, partPV, FA, Option.bind_some, Bool.false_eq_true, if_false, List.getElem?_cons_zero, List.getElem?_cons_succ, if_true, String.reduceEq]
  by_cases h1 : a = a'
  case neg => simp [h1]
  by_cases h2 : b = b'
  case neg => simp [h1, h2]
  by_cases h3 : c = c'
  case neg => simp [h1, h2, h3]
  by_cases h4 : d = d'
  case neg => simp [h1, h2, h3, h4]
  by_cases h5 : e = e' <;> simp [h1, h2, h3, h4, h5]
theorem eq_clm (x y : Clm) (xo yo : Operand) : binPV Try.prog .eql 52 xo yo (clm x) (clm y) = some (.bool (decide (x = y))) ∧ binPV Try.prog .neq 52 xo yo (clm x) (clm y) = some (.bool (decide (¬ x = y))) :=
  bin_agg (by kernel_rfl) (fun n => eqv_clm x y n) xo yo
theorem c_samec (l : List Clm) (c c' : Option Nat) (ha : l.length ≤ 1000000) : ap Try.prog pol 22 [.vs 5 (l.map clm) c, .vs 5 (l.map clm) c'] = some (.ret (.bool true)) := by
  rw [ap_eq _ Try.func22 rfl Try.ntmps22 Try.results22 (by kernel_rfl) rfl (by exact Nat.le_of_ble_eq_true rfl)]
  simp (config := { maxSteps := 1000000 }) only [RUN, PATHS, BASE, FA, POL, start_tm, Heap.empty, reduceIte, Nat.reduceLT, Nat.reduceLeDiff, Nat.reduceEqDiff, Nat.reduceAdd, Nat.reduceSub, Nat.reduceMul, Nat.reduceBEq, Int.reduceLT, Int.reduceLE, Int.reduceEq, Int.reduceNeg, Int.reduceAdd, Int.reduceSub, Int.reduceMul, Bool.false_eq_true, Bool.not_true, Bool.not_false, decide_eq_true_eq, and_self, true_and, and_true, reduceCtorEq, ne_eq, not_false_eq_true, not_true_eq_false, decide_true, decide_false, or_false, false_or, NUM, List.length_map]
  generalize hL : W _ (.loop _) _ = L
  obtain ⟨ex, s, rfl, rfl, hd⟩ := loop_at hL (α := Nat) (fun k => l.length - k)
    (fun s0 k s => k ≤ l.length ∧ s.tmps 5 = I k ∧ s.tmps 0 = .vs 5 (l.map clm) c ∧ s.tmps 1 = .vs 5 (l.map clm) c' ∧ s.defers = [])
    (fun s0 ex s => ex = .exit 0 ∧ s.defers = []) 0
    (by simp (config := { maxSteps := 1000000 }) only [RUN, PATHS, BASE, FA, POL, start_tm, Heap.empty, reduceIte, Nat.reduceLT, Nat.reduceLeDiff, Nat.reduceEqDiff, Nat.reduceAdd, Nat.reduceSub, Nat.reduceMul, Nat.reduceBEq, Int.reduceLT, Int.reduceLE, Int.reduceEq, Int.reduceNeg, Int.reduceAdd, Int.reduceSub, Int.reduceMul, Bool.false_eq_true, Bool.not_true, Bool.not_false, decide_eq_true_eq, and_self, true_and, and_true, reduceCtorEq, ne_eq, not_false_eq_true, not_true_eq_false, decide_true, decide_false, or_false, false_or]; simp) (by
      rintro k s r hW ⟨hk, h5, h0, h1, hd⟩
      by_cases hp : k < l.length
      · have e0 : l[k]? = some l[k] := List.getElem?_eq_getElem hp
        have e1 := map_get (f := clm) e0
        generalize l[k] = x at *
        simp (config := { maxSteps := 1000000 }) only [RUN, PATHS, BASE, FA, POL, start_tm, Heap.empty, reduceIte, Nat.reduceLT, Nat.reduceLeDiff, Nat.reduceEqDiff, Nat.reduceAdd, Nat.reduceSub, Nat.reduceMul, Nat.reduceBEq, Int.reduceLT, Int.reduceLE, Int.reduceEq, Int.reduceNeg, Int.reduceAdd, Int.reduceSub, Int.reduceMul, Bool.false_eq_true, Bool.not_true, Bool.not_false, decide_eq_true_eq, and_self, true_and, and_true, reduceCtorEq, ne_eq, not_false_eq_true, not_true_eq_false, decide_true, decide_false, or_false, false_or, NUM, SCLM, eq_clm, h5, h0, h1, hd, e1, List.length_map, Int.toNat_natCast, (show (k : Int) < l.length by omega), (show (0 : Int) ≤ k by omega), (i64_in (x := (k : Int) + 1) (by unfold I64; omega))] at hW
        subst hW
        refine rd_next (k + 1) ?_ (show l.length - (k + 1) < l.length - k by omega)
        simp (config := { maxSteps := 1000000 }) only [RUN, PATHS, BASE, FA, POL, start_tm, Heap.empty, reduceIte, Nat.reduceLT, Nat.reduceLeDiff, Nat.reduceEqDiff, Nat.reduceAdd, Nat.reduceSub, Nat.reduceMul, Nat.reduceBEq, Int.reduceLT, Int.reduceLE, Int.reduceEq, Int.reduceNeg, Int.reduceAdd, Int.reduceSub, Int.reduceMul, Bool.false_eq_true, Bool.not_true, Bool.not_false, decide_eq_true_eq, and_self, true_and, and_true, reduceCtorEq, ne_eq, not_false_eq_true, not_true_eq_false, decide_true, decide_false, or_false, false_or, h0, h1]
        exact ⟨by omega, by simp⟩
      · simp (config := { maxSteps := 1000000 }) only [RUN, PATHS, BASE, FA, POL, start_tm, Heap.empty, reduceIte, Nat.reduceLT, Nat.reduceLeDiff, Nat.reduceEqDiff, Nat.reduceAdd, Nat.reduceSub, Nat.reduceMul, Nat.reduceBEq, Int.reduceLT, Int.reduceLE, Int.reduceEq, Int.reduceNeg, Int.reduceAdd, Int.reduceSub, Int.reduceMul, Bool.false_eq_true, Bool.not_true, Bool.not_false, decide_eq_true_eq, and_self, true_and, and_true, reduceCtorEq, ne_eq, not_false_eq_true, not_true_eq_false, decide_true, decide_false, or_false, false_or, NUM, h5, h0, h1, hd, List.length_map, (show ¬ (k : Int) < l.length by omega)] at hW
        subst hW
        exact rd_exit ⟨rfl, rfl⟩)
  simp (config := { maxSteps := 1000000 }) only [RUN, PATHS, BASE, FA, POL, start_tm, Heap.empty, reduceIte, Nat.reduceLT, Nat.reduceLeDiff, Nat.reduceEqDiff, Nat.reduceAdd, Nat.reduceSub, Nat.reduceMul, Nat.reduceBEq, Int.reduceLT, Int.reduceLE, Int.reduceEq, Int.reduceNeg, Int.reduceAdd, Int.reduceSub, Int.reduceMul, Bool.false_eq_true, Bool.not_true, Bool.not_false, decide_eq_true_eq, and_self, true_and, and_true, reduceCtorEq, ne_eq, not_false_eq_true, not_true_eq_false, decide_true, decide_false, or_false, false_or, hd]
theorem c_samecnil : ap Try.prog pol 22 [.nils, .nils] = some (.ret (.bool true)) := by
  rw [ap_eq _ Try.func22 rfl Try.ntmps22 Try.results22 (by kernel_rfl) rfl (by exact Nat.le_of_ble_eq_true rfl)]
  simp (config := { maxSteps := 1000000 }) only [RUN, PATHS, BASE, FA, POL, start_tm, Heap.empty, reduceIte, Nat.reduceLT, Nat.reduceLeDiff, Nat.reduceEqDiff, Nat.reduceAdd, Nat.reduceSub, Nat.reduceMul, Nat.reduceBEq, Int.reduceLT, Int.reduceLE, Int.reduceEq, Int.reduceNeg, Int.reduceAdd, Int.reduceSub, Int.reduceMul, Bool.false_eq_true, Bool.not_true, Bool.not_false, decide_eq_true_eq, and_self, true_and, and_true, reduceCtorEq, ne_eq, not_false_eq_true, not_true_eq_false, decide_true, decide_false, or_false, false_or, WW_loop, NUM]
theorem c_sameovc (o : Option (List Clm)) (h : ∀ l, o = some l → l.length ≤ 1000000) : ap Try.prog pol 22 [ovc o, ovc o] = some (.ret (.bool true)) := by
  cases o with
  | none => exact c_samecnil
  | some l => exact c_samec l none none (h l rfl)
abbrev q0 : Cp := ⟨none, none, none, none, none⟩
theorem c_rlate (D : Dis) (ws : List Wel) (hr : ∀ x ∈ D.rs, x.OK) (l : List Don) (h kn : Int) : ap Try.prog pol 13 [dv D ws, .vs 4 (l.map don) none, I h, I kn] = some (.ret (.tup [ov (LATE D l h kn).1, I (LATE D l h kn).2])) := by
  have ck := c_ref30check D ws hr l
  have cn := c_moment kn
  rw [ap_eq _ Try.func13 rfl Try.ntmps13 Try.results13 (by kernel_rfl) rfl (by exact Nat.le_of_ble_eq_true rfl)]
  by_cases hd : DC D l = 0
  rotate_left
  · have el : LATE D l h kn = (none, DC D l) := by unfold LATE; rw [if_neg hd]
    rw [el]
    simp only [ov]
    simp (config := { maxSteps := 1000000 }) only [RUN, PATHS, BASE, FA, POL, start_tm, Heap.empty, reduceIte, Nat.reduceLT, Nat.reduceLeDiff, Nat.reduceEqDiff, Nat.reduceAdd, Nat.reduceSub, Nat.reduceMul, Nat.reduceBEq, Int.reduceLT, Int.reduceLE, Int.reduceEq, Int.reduceNeg, Int.reduceAdd, Int.reduceSub, Int.reduceMul, Bool.false_eq_true, Bool.not_true, Bool.not_false, decide_eq_true_eq, and_self, true_and, and_true, reduceCtorEq, ne_eq, not_false_eq_true, not_true_eq_false, decide_true, decide_false, or_false, false_or, NUM, SRCH, SFRM, SCRP, SRGT, SDTY, SWEL, SDON, SCLM, ck, hd]
  obtain ⟨hX, hl, hok⟩ := DC_0 hd
  obtain ⟨hL, hK⟩ := XC_0 hX
  have lds := hL.2.2.2.2
  by_cases h1 : 0 ≤ h ∧ h ≤ D.hours - 1
  rotate_left
  · have el : LATE D l h kn = (none, 1) := by unfold LATE; rw [if_pos hd, if_neg (fun g => h1 g.1)]
    rw [el]
    simp only [ov]
    by_cases h1' : h < 0
    · simp (config := { maxSteps := 1000000 }) only [RUN, PATHS, BASE, FA, POL, start_tm, Heap.empty, reduceIte, Nat.reduceLT, Nat.reduceLeDiff, Nat.reduceEqDiff, Nat.reduceAdd, Nat.reduceSub, Nat.reduceMul, Nat.reduceBEq, Int.reduceLT, Int.reduceLE, Int.reduceEq, Int.reduceNeg, Int.reduceAdd, Int.reduceSub, Int.reduceMul, Bool.false_eq_true, Bool.not_true, Bool.not_false, decide_eq_true_eq, and_self, true_and, and_true, reduceCtorEq, ne_eq, not_false_eq_true, not_true_eq_false, decide_true, decide_false, or_false, false_or, NUM, SRCH, SFRM, SCRP, SRGT, SDTY, SWEL, SDON, SCLM, ck, hd, h1']
    · simp (config := { maxSteps := 1000000 }) only [RUN, PATHS, BASE, FA, POL, start_tm, Heap.empty, reduceIte, Nat.reduceLT, Nat.reduceLeDiff, Nat.reduceEqDiff, Nat.reduceAdd, Nat.reduceSub, Nat.reduceMul, Nat.reduceBEq, Int.reduceLT, Int.reduceLE, Int.reduceEq, Int.reduceNeg, Int.reduceAdd, Int.reduceSub, Int.reduceMul, Bool.false_eq_true, Bool.not_true, Bool.not_false, decide_eq_true_eq, and_self, true_and, and_true, reduceCtorEq, ne_eq, not_false_eq_true, not_true_eq_false, decide_true, decide_false, or_false, false_or, NUM, SRCH, SFRM, SCRP, SRGT, SDTY, SWEL, SDON, SCLM, ck, hd, h1', (show D.hours ≤ h by omega)]
  by_cases h2 : 0 ≤ kn ∧ kn ≤ 1048576
  rotate_left
  · have el : LATE D l h kn = (none, 1) := by unfold LATE; rw [if_pos hd, if_neg (fun g => h2 g.2)]
    rw [el]
    simp only [ov]
    rw [decide_eq_false h2] at cn
    simp (config := { maxSteps := 1000000 }) only [RUN, PATHS, BASE, FA, POL, start_tm, Heap.empty, reduceIte, Nat.reduceLT, Nat.reduceLeDiff, Nat.reduceEqDiff, Nat.reduceAdd, Nat.reduceSub, Nat.reduceMul, Nat.reduceBEq, Int.reduceLT, Int.reduceLE, Int.reduceEq, Int.reduceNeg, Int.reduceAdd, Int.reduceSub, Int.reduceMul, Bool.false_eq_true, Bool.not_true, Bool.not_false, decide_eq_true_eq, and_self, true_and, and_true, reduceCtorEq, ne_eq, not_false_eq_true, not_true_eq_false, decide_true, decide_false, or_false, false_or, NUM, SRCH, SFRM, SCRP, SRGT, SDTY, SWEL, SDON, SCLM, ck, hd, cn, (show ¬ h < 0 by omega), (show ¬ D.hours ≤ h by omega)]
  have el : LATE D l h kn = (some (LTK D l h kn D.ds.length), 0) := by unfold LATE; rw [if_pos hd, if_pos ⟨h1, h2⟩]
  rw [el]
  simp only [ov]
  rw [decide_eq_true h2] at cn
  simp (config := { maxSteps := 1000000 }) only [RUN, PATHS, BASE, FA, POL, start_tm, Heap.empty, reduceIte, Nat.reduceLT, Nat.reduceLeDiff, Nat.reduceEqDiff, Nat.reduceAdd, Nat.reduceSub, Nat.reduceMul, Nat.reduceBEq, Int.reduceLT, Int.reduceLE, Int.reduceEq, Int.reduceNeg, Int.reduceAdd, Int.reduceSub, Int.reduceMul, Bool.false_eq_true, Bool.not_true, Bool.not_false, decide_eq_true_eq, and_self, true_and, and_true, reduceCtorEq, ne_eq, not_false_eq_true, not_true_eq_false, decide_true, decide_false, or_false, false_or, NUM, SRCH, SFRM, SCRP, SRGT, SDTY, SWEL, SDON, SCLM, ck, hd, cn, (show ¬ h < 0 by omega), (show ¬ D.hours ≤ h by omega)]
  generalize hL : W _ (.loop _) _ = L
  obtain ⟨ex, s, rfl, rfl, h11, hrr, hd2⟩ := loop_at hL (α := Nat) (fun j => D.ds.length - j)
    (fun s0 j s => j ≤ D.ds.length ∧ s.tmps 12 = I j ∧ s.tmps 11 = .gsl 1 1 (LTK D l h kn j).length 0 (LTK D l h kn j).length ∧ s.H.rows 1 = some (.gro 1 ((LTK D l h kn j).map I) 0) ∧ s.tmps 4 = .bptr 0 4 0 0 ∧ s.boxes 4 = some (0, dc D ws) ∧ s.tmps 1 = .vs 4 (l.map don) none ∧ s.tmps 2 = I h ∧ s.tmps 3 = I kn ∧ s.defers = [] ∧ s.fid = 0)
    (fun s0 ex s => ex = .exit 0 ∧ s.tmps 11 = .gsl 1 1 (LTK D l h kn D.ds.length).length 0 (LTK D l h kn D.ds.length).length ∧ s.H.rows 1 = some (.gro 1 ((LTK D l h kn D.ds.length).map I) 0) ∧ s.defers = []) 0
    (by have l0 : LTK D l h kn 0 = [] := rfl
        simp (config := { maxSteps := 1000000 }) only [RUN, PATHS, BASE, FA, POL, start_tm, Heap.empty, reduceIte, Nat.reduceLT, Nat.reduceLeDiff, Nat.reduceEqDiff, Nat.reduceAdd, Nat.reduceSub, Nat.reduceMul, Nat.reduceBEq, Int.reduceLT, Int.reduceLE, Int.reduceEq, Int.reduceNeg, Int.reduceAdd, Int.reduceSub, Int.reduceMul, Bool.false_eq_true, Bool.not_true, Bool.not_false, decide_eq_true_eq, and_self, true_and, and_true, reduceCtorEq, ne_eq, not_false_eq_true, not_true_eq_false, decide_true, decide_false, or_false, false_or, l0]; exact ⟨by omega, by simp⟩) (by
      rintro j s r hW ⟨hj, h12, h11, hrr, h4, hb, hl1, hh2, h3, hd2, hf⟩
      by_cases hp : j < D.ds.length
      rotate_left
      · simp (config := { maxSteps := 1000000 }) only [RUN, PATHS, BASE, FA, POL, start_tm, Heap.empty, reduceIte, Nat.reduceLT, Nat.reduceLeDiff, Nat.reduceEqDiff, Nat.reduceAdd, Nat.reduceSub, Nat.reduceMul, Nat.reduceBEq, Int.reduceLT, Int.reduceLE, Int.reduceEq, Int.reduceNeg, Int.reduceAdd, Int.reduceSub, Int.reduceMul, Bool.false_eq_true, Bool.not_true, Bool.not_false, decide_eq_true_eq, and_self, true_and, and_true, reduceCtorEq, ne_eq, not_false_eq_true, not_true_eq_false, decide_true, decide_false, or_false, false_or, NUM, SRCH, SFRM, SCRP, SRGT, SDTY, SWEL, SDON, SCLM, h12, h4, hb, hd2, hf, List.length_map, (show ¬ (j : Int) < D.ds.length by omega)] at hW
        subst hW
        have : j = D.ds.length := by omega
        subst this
        refine rd_exit ⟨rfl, ?_⟩
        simp (config := { maxSteps := 1000000 }) only [RUN, PATHS, BASE, FA, POL, start_tm, Heap.empty, reduceIte, Nat.reduceLT, Nat.reduceLeDiff, Nat.reduceEqDiff, Nat.reduceAdd, Nat.reduceSub, Nat.reduceMul, Nat.reduceBEq, Int.reduceLT, Int.reduceLE, Int.reduceEq, Int.reduceNeg, Int.reduceAdd, Int.reduceSub, Int.reduceMul, Bool.false_eq_true, Bool.not_true, Bool.not_false, decide_eq_true_eq, and_self, true_and, and_true, reduceCtorEq, ne_eq, not_false_eq_true, not_true_eq_false, decide_true, decide_false, or_false, false_or, h11, hrr, hd2]
      have co := c_roverdue D ws l j h kn (by omega) h1.2 hp
      have ls := LTK_succ D l h kn j
      have ll := LTK_len D l h kn j
      generalize LTK D l h kn j = A at *
      by_cases ho : OVP D l h kn j
      · rw [decide_eq_true ho] at co
        rw [if_pos ho] at ls
        simp (config := { maxSteps := 1000000 }) only [RUN, PATHS, BASE, FA, POL, start_tm, Heap.empty, reduceIte, Nat.reduceLT, Nat.reduceLeDiff, Nat.reduceEqDiff, Nat.reduceAdd, Nat.reduceSub, Nat.reduceMul, Nat.reduceBEq, Int.reduceLT, Int.reduceLE, Int.reduceEq, Int.reduceNeg, Int.reduceAdd, Int.reduceSub, Int.reduceMul, Bool.false_eq_true, Bool.not_true, Bool.not_false, decide_eq_true_eq, and_self, true_and, and_true, reduceCtorEq, ne_eq, not_false_eq_true, not_true_eq_false, decide_true, decide_false, or_false, false_or, NUM, SRCH, SFRM, SCRP, SRGT, SDTY, SWEL, SDON, h12, h11, hrr, h4, hb, hl1, hh2, h3, hd2, hf, co, List.length_map, Int.toNat_natCast, (show (j : Int) < D.ds.length by omega), (show (0 : Int) ≤ j by omega), (i64_in (x := (j : Int) + 1) (by unfold I64; omega)), (show A.length + 1 ≤ 67108864 by omega)] at hW
        subst hW
        refine rd_next (j + 1) ?_ (show D.ds.length - (j + 1) < D.ds.length - j by omega)
        simp (config := { maxSteps := 1000000 }) only [RUN, PATHS, BASE, FA, POL, start_tm, Heap.empty, reduceIte, Nat.reduceLT, Nat.reduceLeDiff, Nat.reduceEqDiff, Nat.reduceAdd, Nat.reduceSub, Nat.reduceMul, Nat.reduceBEq, Int.reduceLT, Int.reduceLE, Int.reduceEq, Int.reduceNeg, Int.reduceAdd, Int.reduceSub, Int.reduceMul, Bool.false_eq_true, Bool.not_true, Bool.not_false, decide_eq_true_eq, and_self, true_and, and_true, reduceCtorEq, ne_eq, not_false_eq_true, not_true_eq_false, decide_true, decide_false, or_false, false_or, h4, hb, hl1, hh2, h3, hd2, ls, List.map_append, List.length_append]
        exact ⟨by omega, by simp⟩
      · rw [decide_eq_false ho] at co
        rw [if_neg ho, List.append_nil] at ls
        simp (config := { maxSteps := 1000000 }) only [RUN, PATHS, BASE, FA, POL, start_tm, Heap.empty, reduceIte, Nat.reduceLT, Nat.reduceLeDiff, Nat.reduceEqDiff, Nat.reduceAdd, Nat.reduceSub, Nat.reduceMul, Nat.reduceBEq, Int.reduceLT, Int.reduceLE, Int.reduceEq, Int.reduceNeg, Int.reduceAdd, Int.reduceSub, Int.reduceMul, Bool.false_eq_true, Bool.not_true, Bool.not_false, decide_eq_true_eq, and_self, true_and, and_true, reduceCtorEq, ne_eq, not_false_eq_true, not_true_eq_false, decide_true, decide_false, or_false, false_or, NUM, SRCH, SFRM, SCRP, SRGT, SDTY, SWEL, SDON, h12, h11, hrr, h4, hb, hl1, hh2, h3, hd2, hf, co, List.length_map, Int.toNat_natCast, (show (j : Int) < D.ds.length by omega), (show (0 : Int) ≤ j by omega), (i64_in (x := (j : Int) + 1) (by unfold I64; omega))] at hW
        subst hW
        refine rd_next (j + 1) ?_ (show D.ds.length - (j + 1) < D.ds.length - j by omega)
        simp (config := { maxSteps := 1000000 }) only [RUN, PATHS, BASE, FA, POL, start_tm, Heap.empty, reduceIte, Nat.reduceLT, Nat.reduceLeDiff, Nat.reduceEqDiff, Nat.reduceAdd, Nat.reduceSub, Nat.reduceMul, Nat.reduceBEq, Int.reduceLT, Int.reduceLE, Int.reduceEq, Int.reduceNeg, Int.reduceAdd, Int.reduceSub, Int.reduceMul, Bool.false_eq_true, Bool.not_true, Bool.not_false, decide_eq_true_eq, and_self, true_and, and_true, reduceCtorEq, ne_eq, not_false_eq_true, not_true_eq_false, decide_true, decide_false, or_false, false_or, h11, hrr, h4, hb, hl1, hh2, h3, hd2, ls]
        exact ⟨by omega, by simp⟩)
  have tk : ((LTK D l h kn D.ds.length).map I).take (LTK D l h kn D.ds.length).length = (LTK D l h kn D.ds.length).map I := List.take_of_length_le (by simp)
  simp (config := { maxSteps := 1000000 }) only [RUN, PATHS, BASE, FA, POL, start_tm, Heap.empty, reduceIte, Nat.reduceLT, Nat.reduceLeDiff, Nat.reduceEqDiff, Nat.reduceAdd, Nat.reduceSub, Nat.reduceMul, Nat.reduceBEq, Int.reduceLT, Int.reduceLE, Int.reduceEq, Int.reduceNeg, Int.reduceAdd, Int.reduceSub, Int.reduceMul, Bool.false_eq_true, Bool.not_true, Bool.not_false, decide_eq_true_eq, and_self, true_and, and_true, reduceCtorEq, ne_eq, not_false_eq_true, not_true_eq_false, decide_true, decide_false, or_false, false_or, h11, hrr, hd2, tk, INTS, List.length_map, Nat.zero_add, Nat.le_refl]
theorem c_ractive (D : Dis) (ws : List Wel) (hr : ∀ x ∈ D.rs, x.OK) (l : List Don) (cl : List Clm) (kn : Int) : ap Try.prog pol 19 [dv D ws, .vs 4 (l.map don) none, .vs 5 (cl.map clm) none, I kn] = some (.ret (.tup [ovc (ACT D l cl kn).1, I (ACT D l cl kn).2])) := by
  have ck := c_ref30check D ws hr l
  have ccl := c_refccheck D ws hr cl
  have cn := c_moment kn
  rw [ap_eq _ Try.func19 rfl Try.ntmps19 Try.results19 (by kernel_rfl) rfl (by exact Nat.le_of_ble_eq_true rfl)]
  by_cases hd : DC D l = 0
  rotate_left
  · have el : ACT D l cl kn = (none, DC D l) := by unfold ACT; rw [if_neg hd]
    rw [el]
    simp only [ovc]
    simp (config := { maxSteps := 1000000 }) only [RUN, PATHS, BASE, FA, POL, start_tm, Heap.empty, reduceIte, Nat.reduceLT, Nat.reduceLeDiff, Nat.reduceEqDiff, Nat.reduceAdd, Nat.reduceSub, Nat.reduceMul, Nat.reduceBEq, Int.reduceLT, Int.reduceLE, Int.reduceEq, Int.reduceNeg, Int.reduceAdd, Int.reduceSub, Int.reduceMul, Bool.false_eq_true, Bool.not_true, Bool.not_false, decide_eq_true_eq, and_self, true_and, and_true, reduceCtorEq, ne_eq, not_false_eq_true, not_true_eq_false, decide_true, decide_false, or_false, false_or, NUM, SRCH, SFRM, SCRP, SRGT, SDTY, SWEL, SDON, SCLM, ck, hd]
  by_cases hc : CC D cl = 0
  rotate_left
  · have el : ACT D l cl kn = (none, CC D cl) := by unfold ACT; rw [if_pos hd, if_neg hc]
    rw [el]
    simp only [ovc]
    simp (config := { maxSteps := 1000000 }) only [RUN, PATHS, BASE, FA, POL, start_tm, Heap.empty, reduceIte, Nat.reduceLT, Nat.reduceLeDiff, Nat.reduceEqDiff, Nat.reduceAdd, Nat.reduceSub, Nat.reduceMul, Nat.reduceBEq, Int.reduceLT, Int.reduceLE, Int.reduceEq, Int.reduceNeg, Int.reduceAdd, Int.reduceSub, Int.reduceMul, Bool.false_eq_true, Bool.not_true, Bool.not_false, decide_eq_true_eq, and_self, true_and, and_true, reduceCtorEq, ne_eq, not_false_eq_true, not_true_eq_false, decide_true, decide_false, or_false, false_or, NUM, SRCH, SFRM, SCRP, SRGT, SDTY, SWEL, SDON, SCLM, ck, hd, ccl, hc]
  by_cases h2 : 0 ≤ kn ∧ kn ≤ 1048576
  rotate_left
  · have el : ACT D l cl kn = (none, 1) := by unfold ACT; rw [if_pos hd, if_pos hc, if_neg h2]
    rw [el]
    simp only [ovc]
    rw [decide_eq_false h2] at cn
    simp (config := { maxSteps := 1000000 }) only [RUN, PATHS, BASE, FA, POL, start_tm, Heap.empty, reduceIte, Nat.reduceLT, Nat.reduceLeDiff, Nat.reduceEqDiff, Nat.reduceAdd, Nat.reduceSub, Nat.reduceMul, Nat.reduceBEq, Int.reduceLT, Int.reduceLE, Int.reduceEq, Int.reduceNeg, Int.reduceAdd, Int.reduceSub, Int.reduceMul, Bool.false_eq_true, Bool.not_true, Bool.not_false, decide_eq_true_eq, and_self, true_and, and_true, reduceCtorEq, ne_eq, not_false_eq_true, not_true_eq_false, decide_true, decide_false, or_false, false_or, NUM, SRCH, SFRM, SCRP, SRGT, SDTY, SWEL, SDON, SCLM, ck, hd, ccl, hc, cn]
  have el : ACT D l cl kn = (some (KEPT D l kn D.ds.length cl), 0) := by unfold ACT; rw [if_pos hd, if_pos hc, if_pos h2]
  rw [el]
  simp only [ovc]
  rw [decide_eq_true h2] at cn
  obtain ⟨hX, hl, hok⟩ := DC_0 hd
  obtain ⟨hL, hK⟩ := XC_0 hX
  have lds := hL.2.2.2.2
  have lc : cl.length ≤ 4096 ∧ COK D cl := by
    unfold CC at hc
    rw [if_pos hX] at hc
    split at hc
    · omega
    · split at hc
      · exact ⟨by omega, by assumption⟩
      · omega
  obtain ⟨lc, cok⟩ := lc
  simp (config := { maxSteps := 1000000 }) only [RUN, PATHS, BASE, FA, POL, start_tm, Heap.empty, reduceIte, Nat.reduceLT, Nat.reduceLeDiff, Nat.reduceEqDiff, Nat.reduceAdd, Nat.reduceSub, Nat.reduceMul, Nat.reduceBEq, Int.reduceLT, Int.reduceLE, Int.reduceEq, Int.reduceNeg, Int.reduceAdd, Int.reduceSub, Int.reduceMul, Bool.false_eq_true, Bool.not_true, Bool.not_false, decide_eq_true_eq, and_self, true_and, and_true, reduceCtorEq, ne_eq, not_false_eq_true, not_true_eq_false, decide_true, decide_false, or_false, false_or, NUM, SRCH, SFRM, SCRP, SRGT, SDTY, SWEL, SDON, SCLM, ck, hd, ccl, hc, cn]
  generalize hL : W _ (.loop _) _ = L
  obtain ⟨ex, s, rfl, rfl, h11, hrr, hd2⟩ := loop_at hL (α := Nat) (fun j => cl.length - j)
    (fun s0 j s => j ≤ cl.length ∧ s.tmps 12 = I j ∧ s.tmps 11 = .gsl 5 1 (KEPT D l kn D.ds.length (cl.take j)).length 0 (KEPT D l kn D.ds.length (cl.take j)).length ∧ s.H.rows 1 = some (.gro 5 ((KEPT D l kn D.ds.length (cl.take j)).map clm) 0) ∧ s.tmps 4 = .bptr 0 4 0 0 ∧ s.boxes 4 = some (0, dc D ws) ∧ s.tmps 1 = .vs 4 (l.map don) none ∧ s.tmps 2 = .vs 5 (cl.map clm) none ∧ s.tmps 3 = I kn ∧ s.defers = [] ∧ s.fid = 0)
    (fun s0 ex s => ex = .exit 0 ∧ s.tmps 11 = .gsl 5 1 (KEPT D l kn D.ds.length cl).length 0 (KEPT D l kn D.ds.length cl).length ∧ s.H.rows 1 = some (.gro 5 ((KEPT D l kn D.ds.length cl).map clm) 0) ∧ s.defers = []) 0
    (by have l0 : KEPT D l kn D.ds.length [] = [] := rfl
        simp (config := { maxSteps := 1000000 }) only [RUN, PATHS, BASE, FA, POL, start_tm, Heap.empty, reduceIte, Nat.reduceLT, Nat.reduceLeDiff, Nat.reduceEqDiff, Nat.reduceAdd, Nat.reduceSub, Nat.reduceMul, Nat.reduceBEq, Int.reduceLT, Int.reduceLE, Int.reduceEq, Int.reduceNeg, Int.reduceAdd, Int.reduceSub, Int.reduceMul, Bool.false_eq_true, Bool.not_true, Bool.not_false, decide_eq_true_eq, and_self, true_and, and_true, reduceCtorEq, ne_eq, not_false_eq_true, not_true_eq_false, decide_true, decide_false, or_false, false_or, List.take_zero, l0]; exact ⟨by omega, by simp⟩) (by
      rintro j s r hW ⟨hj, h12, h11, hrr, h4, hb, hl1, hh2, h3, hd2, hf⟩
      by_cases hp : j < cl.length
      rotate_left
      · simp (config := { maxSteps := 1000000 }) only [RUN, PATHS, BASE, FA, POL, start_tm, Heap.empty, reduceIte, Nat.reduceLT, Nat.reduceLeDiff, Nat.reduceEqDiff, Nat.reduceAdd, Nat.reduceSub, Nat.reduceMul, Nat.reduceBEq, Int.reduceLT, Int.reduceLE, Int.reduceEq, Int.reduceNeg, Int.reduceAdd, Int.reduceSub, Int.reduceMul, Bool.false_eq_true, Bool.not_true, Bool.not_false, decide_eq_true_eq, and_self, true_and, and_true, reduceCtorEq, ne_eq, not_false_eq_true, not_true_eq_false, decide_true, decide_false, or_false, false_or, NUM, h12, hh2, hd2, hf, List.length_map, (show ¬ (j : Int) < cl.length by omega)] at hW
        subst hW
        have : j = cl.length := by omega
        subst this
        rw [List.take_length] at h11 hrr
        refine rd_exit ⟨rfl, ?_⟩
        simp (config := { maxSteps := 1000000 }) only [RUN, PATHS, BASE, FA, POL, start_tm, Heap.empty, reduceIte, Nat.reduceLT, Nat.reduceLeDiff, Nat.reduceEqDiff, Nat.reduceAdd, Nat.reduceSub, Nat.reduceMul, Nat.reduceBEq, Int.reduceLT, Int.reduceLE, Int.reduceEq, Int.reduceNeg, Int.reduceAdd, Int.reduceSub, Int.reduceMul, Bool.false_eq_true, Bool.not_true, Bool.not_false, decide_eq_true_eq, and_self, true_and, and_true, reduceCtorEq, ne_eq, not_false_eq_true, not_true_eq_false, decide_true, decide_false, or_false, false_or, h11, hrr, hd2]
      have e0 : cl[j]? = some cl[j] := List.getElem?_eq_getElem hp
      have e1 := map_get (f := clm) e0
      have ls := KEPT_take (D := D) (l := l) (kn := kn) (J := D.ds.length) e0
      have ll : (KEPT D l kn D.ds.length (cl.take j)).length ≤ j := Nat.le_trans (List.length_filter_le _ _) (by simp; omega)
      have ckk := cok j _ e0
      generalize cl[j] = x at *
      have co := c_rcount D ws l x.f x.h kn (by omega) (by omega) (by have := ckk.2.2.1; omega)
      have kf := KEEP_iff (D := D) (l := l) (kn := kn) (f := x.f) (h := x.h)
      have cf := CNT_free (D := D) (l := l) (f := x.f) (h := x.h) (kn := kn)
      generalize KEPT D l kn D.ds.length (cl.take j) = A at *
      by_cases ho : CNT D l x.f x.h kn D.ds.length = 0
      · rw [if_pos (kf.2 (cf.1 ho))] at ls
        simp (config := { maxSteps := 1000000 }) only [RUN, PATHS, BASE, FA, POL, start_tm, Heap.empty, reduceIte, Nat.reduceLT, Nat.reduceLeDiff, Nat.reduceEqDiff, Nat.reduceAdd, Nat.reduceSub, Nat.reduceMul, Nat.reduceBEq, Int.reduceLT, Int.reduceLE, Int.reduceEq, Int.reduceNeg, Int.reduceAdd, Int.reduceSub, Int.reduceMul, Bool.false_eq_true, Bool.not_true, Bool.not_false, decide_eq_true_eq, and_self, true_and, and_true, reduceCtorEq, ne_eq, not_false_eq_true, not_true_eq_false, decide_true, decide_false, or_false, false_or, NUM, SRCH, SFRM, SCRP, SRGT, SDTY, SWEL, SDON, SCLM, h12, h11, hrr, h4, hb, hl1, hh2, h3, hd2, hf, e1, co, ho, List.length_map, Int.toNat_natCast, (show (j : Int) < cl.length by omega), (show (0 : Int) ≤ j by omega), (i64_in (x := (j : Int) + 1) (by unfold I64; omega)), (show A.length + 1 ≤ 67108864 by omega)] at hW
        subst hW
        refine rd_next (j + 1) ?_ (show cl.length - (j + 1) < cl.length - j by omega)
        simp (config := { maxSteps := 1000000 }) only [RUN, PATHS, BASE, FA, POL, start_tm, Heap.empty, reduceIte, Nat.reduceLT, Nat.reduceLeDiff, Nat.reduceEqDiff, Nat.reduceAdd, Nat.reduceSub, Nat.reduceMul, Nat.reduceBEq, Int.reduceLT, Int.reduceLE, Int.reduceEq, Int.reduceNeg, Int.reduceAdd, Int.reduceSub, Int.reduceMul, Bool.false_eq_true, Bool.not_true, Bool.not_false, decide_eq_true_eq, and_self, true_and, and_true, reduceCtorEq, ne_eq, not_false_eq_true, not_true_eq_false, decide_true, decide_false, or_false, false_or, h4, hb, hl1, hh2, h3, hd2, ls, List.map_append, List.length_append]
        exact ⟨by omega, by simp⟩
      · rw [if_neg (fun g => ho (cf.2 (kf.1 g))), List.append_nil] at ls
        simp (config := { maxSteps := 1000000 }) only [RUN, PATHS, BASE, FA, POL, start_tm, Heap.empty, reduceIte, Nat.reduceLT, Nat.reduceLeDiff, Nat.reduceEqDiff, Nat.reduceAdd, Nat.reduceSub, Nat.reduceMul, Nat.reduceBEq, Int.reduceLT, Int.reduceLE, Int.reduceEq, Int.reduceNeg, Int.reduceAdd, Int.reduceSub, Int.reduceMul, Bool.false_eq_true, Bool.not_true, Bool.not_false, decide_eq_true_eq, and_self, true_and, and_true, reduceCtorEq, ne_eq, not_false_eq_true, not_true_eq_false, decide_true, decide_false, or_false, false_or, NUM, SRCH, SFRM, SCRP, SRGT, SDTY, SWEL, SDON, SCLM, h12, h11, hrr, h4, hb, hl1, hh2, h3, hd2, hf, e1, co, ho, List.length_map, Int.toNat_natCast, (show (j : Int) < cl.length by omega), (show (0 : Int) ≤ j by omega), (i64_in (x := (j : Int) + 1) (by unfold I64; omega))] at hW
        subst hW
        refine rd_next (j + 1) ?_ (show cl.length - (j + 1) < cl.length - j by omega)
        simp (config := { maxSteps := 1000000 }) only [RUN, PATHS, BASE, FA, POL, start_tm, Heap.empty, reduceIte, Nat.reduceLT, Nat.reduceLeDiff, Nat.reduceEqDiff, Nat.reduceAdd, Nat.reduceSub, Nat.reduceMul, Nat.reduceBEq, Int.reduceLT, Int.reduceLE, Int.reduceEq, Int.reduceNeg, Int.reduceAdd, Int.reduceSub, Int.reduceMul, Bool.false_eq_true, Bool.not_true, Bool.not_false, decide_eq_true_eq, and_self, true_and, and_true, reduceCtorEq, ne_eq, not_false_eq_true, not_true_eq_false, decide_true, decide_false, or_false, false_or, h11, hrr, h4, hb, hl1, hh2, h3, hd2, ls]
        exact ⟨by omega, by simp⟩)
  have tk : ((KEPT D l kn D.ds.length cl).map clm).take (KEPT D l kn D.ds.length cl).length = (KEPT D l kn D.ds.length cl).map clm := List.take_of_length_le (by simp)
  simp (config := { maxSteps := 1000000 }) only [RUN, PATHS, BASE, FA, POL, start_tm, Heap.empty, reduceIte, Nat.reduceLT, Nat.reduceLeDiff, Nat.reduceEqDiff, Nat.reduceAdd, Nat.reduceSub, Nat.reduceMul, Nat.reduceBEq, Int.reduceLT, Int.reduceLE, Int.reduceEq, Int.reduceNeg, Int.reduceAdd, Int.reduceSub, Int.reduceMul, Bool.false_eq_true, Bool.not_true, Bool.not_false, decide_eq_true_eq, and_self, true_and, and_true, reduceCtorEq, ne_eq, not_false_eq_true, not_true_eq_false, decide_true, decide_false, or_false, false_or, h11, hrr, hd2, tk, SCLM, List.length_map, Nat.zero_add, Nat.le_refl]
theorem c_rfine (D : Dis) (ws : List Wel) (hr : ∀ x ∈ D.rs, x.OK) (l : List Don) (f kn rate : Int) : ap Try.prog pol 21 [dv D ws, .vs 4 (l.map don) none, I f, I kn, I rate] = some (.ret (.tup [I (FINE D l f kn rate).1, I (FINE D l f kn rate).2])) := by
  have ck := c_ref30check D ws hr l
  have cn := c_moment kn
  have ca := c_moment rate
  rw [ap_eq _ Try.func21 rfl Try.ntmps21 Try.results21 (by kernel_rfl) rfl (by exact Nat.le_of_ble_eq_true rfl)]
  by_cases hd : DC D l = 0
  rotate_left
  · have el : FINE D l f kn rate = (0, DC D l) := by unfold FINE; rw [if_neg hd]
    rw [el]
    simp (config := { maxSteps := 1000000 }) only [RUN, PATHS, BASE, FA, POL, start_tm, Heap.empty, reduceIte, Nat.reduceLT, Nat.reduceLeDiff, Nat.reduceEqDiff, Nat.reduceAdd, Nat.reduceSub, Nat.reduceMul, Nat.reduceBEq, Int.reduceLT, Int.reduceLE, Int.reduceEq, Int.reduceNeg, Int.reduceAdd, Int.reduceSub, Int.reduceMul, Bool.false_eq_true, Bool.not_true, Bool.not_false, decide_eq_true_eq, and_self, true_and, and_true, reduceCtorEq, ne_eq, not_false_eq_true, not_true_eq_false, decide_true, decide_false, or_false, false_or, NUM, SRCH, SFRM, SCRP, SRGT, SDTY, SWEL, SDON, SCLM, ck, hd]
  obtain ⟨hX, hl, hok⟩ := DC_0 hd
  obtain ⟨hL, hK⟩ := XC_0 hX
  have hh := hK.1
  have lds := hL.2.2.2.2
  have hdu := hK.2.2.2.2.2.2.2
  by_cases h1 : 0 ≤ f ∧ f ≤ (D.fs.length : Int) - 1
  rotate_left
  · have el : FINE D l f kn rate = (0, 1) := by unfold FINE; rw [if_pos hd, if_neg (fun g => h1 g.1)]
    rw [el]
    by_cases h1' : f < 0
    · simp (config := { maxSteps := 1000000 }) only [RUN, PATHS, BASE, FA, POL, start_tm, Heap.empty, reduceIte, Nat.reduceLT, Nat.reduceLeDiff, Nat.reduceEqDiff, Nat.reduceAdd, Nat.reduceSub, Nat.reduceMul, Nat.reduceBEq, Int.reduceLT, Int.reduceLE, Int.reduceEq, Int.reduceNeg, Int.reduceAdd, Int.reduceSub, Int.reduceMul, Bool.false_eq_true, Bool.not_true, Bool.not_false, decide_eq_true_eq, and_self, true_and, and_true, reduceCtorEq, ne_eq, not_false_eq_true, not_true_eq_false, decide_true, decide_false, or_false, false_or, NUM, SRCH, SFRM, SCRP, SRGT, SDTY, SWEL, SDON, SCLM, ck, hd, h1']
    · simp (config := { maxSteps := 1000000 }) only [RUN, PATHS, BASE, FA, POL, start_tm, Heap.empty, reduceIte, Nat.reduceLT, Nat.reduceLeDiff, Nat.reduceEqDiff, Nat.reduceAdd, Nat.reduceSub, Nat.reduceMul, Nat.reduceBEq, Int.reduceLT, Int.reduceLE, Int.reduceEq, Int.reduceNeg, Int.reduceAdd, Int.reduceSub, Int.reduceMul, Bool.false_eq_true, Bool.not_true, Bool.not_false, decide_eq_true_eq, and_self, true_and, and_true, reduceCtorEq, ne_eq, not_false_eq_true, not_true_eq_false, decide_true, decide_false, or_false, false_or, NUM, SRCH, SFRM, SCRP, SRGT, SDTY, SWEL, SDON, SCLM, ck, hd, h1', List.length_map, (show (D.fs.length : Int) ≤ f by omega)]
  by_cases h2 : 0 ≤ kn ∧ kn ≤ 1048576
  rotate_left
  · have el : FINE D l f kn rate = (0, 1) := by unfold FINE; rw [if_pos hd, if_neg (fun g => h2 g.2.1)]
    rw [el]
    rw [decide_eq_false h2] at cn
    simp (config := { maxSteps := 1000000 }) only [RUN, PATHS, BASE, FA, POL, start_tm, Heap.empty, reduceIte, Nat.reduceLT, Nat.reduceLeDiff, Nat.reduceEqDiff, Nat.reduceAdd, Nat.reduceSub, Nat.reduceMul, Nat.reduceBEq, Int.reduceLT, Int.reduceLE, Int.reduceEq, Int.reduceNeg, Int.reduceAdd, Int.reduceSub, Int.reduceMul, Bool.false_eq_true, Bool.not_true, Bool.not_false, decide_eq_true_eq, and_self, true_and, and_true, reduceCtorEq, ne_eq, not_false_eq_true, not_true_eq_false, decide_true, decide_false, or_false, false_or, NUM, SRCH, SFRM, SCRP, SRGT, SDTY, SWEL, SDON, SCLM, ck, hd, cn, List.length_map, (show ¬ f < 0 by omega), (show ¬ (D.fs.length : Int) ≤ f by omega)]
  rw [decide_eq_true h2] at cn
  by_cases h3 : 0 ≤ rate ∧ rate ≤ 1048576
  rotate_left
  · have el : FINE D l f kn rate = (0, 1) := by unfold FINE; rw [if_pos hd, if_neg (fun g => h3 g.2.2)]
    rw [el]
    rw [decide_eq_false h3] at ca
    simp (config := { maxSteps := 1000000 }) only [RUN, PATHS, BASE, FA, POL, start_tm, Heap.empty, reduceIte, Nat.reduceLT, Nat.reduceLeDiff, Nat.reduceEqDiff, Nat.reduceAdd, Nat.reduceSub, Nat.reduceMul, Nat.reduceBEq, Int.reduceLT, Int.reduceLE, Int.reduceEq, Int.reduceNeg, Int.reduceAdd, Int.reduceSub, Int.reduceMul, Bool.false_eq_true, Bool.not_true, Bool.not_false, decide_eq_true_eq, and_self, true_and, and_true, reduceCtorEq, ne_eq, not_false_eq_true, not_true_eq_false, decide_true, decide_false, or_false, false_or, NUM, SRCH, SFRM, SCRP, SRGT, SDTY, SWEL, SDON, SCLM, ck, hd, cn, ca, List.length_map, (show ¬ f < 0 by omega), (show ¬ (D.fs.length : Int) ≤ f by omega)]
  rw [decide_eq_true h3] at ca
  have el : FINE D l f kn rate = (rate * FH D l f kn D.ds.length, 0) := by unfold FINE; rw [if_pos hd, if_pos ⟨h1, h2, h3⟩]
  rw [el]
  have fs := FH_sum hh hok hdu f kn D.ds.length (Nat.le_refl _)
  have fbn := FH_bd hh hok hdu f kn D.ds.length
  simp (config := { maxSteps := 1000000 }) only [RUN, PATHS, BASE, FA, POL, start_tm, Heap.empty, reduceIte, Nat.reduceLT, Nat.reduceLeDiff, Nat.reduceEqDiff, Nat.reduceAdd, Nat.reduceSub, Nat.reduceMul, Nat.reduceBEq, Int.reduceLT, Int.reduceLE, Int.reduceEq, Int.reduceNeg, Int.reduceAdd, Int.reduceSub, Int.reduceMul, Bool.false_eq_true, Bool.not_true, Bool.not_false, decide_eq_true_eq, and_self, true_and, and_true, reduceCtorEq, ne_eq, not_false_eq_true, not_true_eq_false, decide_true, decide_false, or_false, false_or, NUM, SRCH, SFRM, SCRP, SRGT, SDTY, SWEL, SDON, SCLM, ck, hd, cn, ca, List.length_map, (show ¬ f < 0 by omega), (show ¬ (D.fs.length : Int) ≤ f by omega)]
  generalize hL : W _ (.loop _) _ = L
  obtain ⟨ex, s, rfl, rfl, h13, h4, hd2⟩ := loop_at hL (α := Nat) (fun j => D.hours.toNat - j)
    (fun s0 j s => j ≤ D.hours.toNat ∧ s.tmps 14 = I j ∧ s.tmps 13 = I (SUMH (fun h => CNT D l f h kn D.ds.length) j) ∧ s.tmps 5 = .bptr 0 5 0 0 ∧ s.boxes 5 = some (0, dc D ws) ∧ s.tmps 1 = .vs 4 (l.map don) none ∧ s.tmps 2 = I f ∧ s.tmps 3 = I kn ∧ s.tmps 4 = I rate ∧ s.defers = [] ∧ s.fid = 0)
    (fun s0 ex s => ex = .exit 0 ∧ s.tmps 13 = I (SUMH (fun h => CNT D l f h kn D.ds.length) D.hours.toNat) ∧ s.tmps 4 = I rate ∧ s.defers = []) 0
    (by simp (config := { maxSteps := 1000000 }) only [RUN, PATHS, BASE, FA, POL, start_tm, Heap.empty, reduceIte, Nat.reduceLT, Nat.reduceLeDiff, Nat.reduceEqDiff, Nat.reduceAdd, Nat.reduceSub, Nat.reduceMul, Nat.reduceBEq, Int.reduceLT, Int.reduceLE, Int.reduceEq, Int.reduceNeg, Int.reduceAdd, Int.reduceSub, Int.reduceMul, Bool.false_eq_true, Bool.not_true, Bool.not_false, decide_eq_true_eq, and_self, true_and, and_true, reduceCtorEq, ne_eq, not_false_eq_true, not_true_eq_false, decide_true, decide_false, or_false, false_or, SUMH]; exact ⟨by omega, by simp⟩) (by
      rintro j s r hW ⟨hj, h14, h13, h5, hb, hl1, hh2, h3', h4, hd2, hf⟩
      by_cases hp : j < D.hours.toNat
      rotate_left
      · simp (config := { maxSteps := 1000000 }) only [RUN, PATHS, BASE, FA, POL, start_tm, Heap.empty, reduceIte, Nat.reduceLT, Nat.reduceLeDiff, Nat.reduceEqDiff, Nat.reduceAdd, Nat.reduceSub, Nat.reduceMul, Nat.reduceBEq, Int.reduceLT, Int.reduceLE, Int.reduceEq, Int.reduceNeg, Int.reduceAdd, Int.reduceSub, Int.reduceMul, Bool.false_eq_true, Bool.not_true, Bool.not_false, decide_eq_true_eq, and_self, true_and, and_true, reduceCtorEq, ne_eq, not_false_eq_true, not_true_eq_false, decide_true, decide_false, or_false, false_or, NUM, h14, h5, hb, hd2, hf, List.length_map, (show ¬ (j : Int) < D.hours by omega)] at hW
        subst hW
        have : j = D.hours.toNat := by omega
        subst this
        refine rd_exit ⟨rfl, ?_⟩
        simp (config := { maxSteps := 1000000 }) only [RUN, PATHS, BASE, FA, POL, start_tm, Heap.empty, reduceIte, Nat.reduceLT, Nat.reduceLeDiff, Nat.reduceEqDiff, Nat.reduceAdd, Nat.reduceSub, Nat.reduceMul, Nat.reduceBEq, Int.reduceLT, Int.reduceLE, Int.reduceEq, Int.reduceNeg, Int.reduceAdd, Int.reduceSub, Int.reduceMul, Bool.false_eq_true, Bool.not_true, Bool.not_false, decide_eq_true_eq, and_self, true_and, and_true, reduceCtorEq, ne_eq, not_false_eq_true, not_true_eq_false, decide_true, decide_false, or_false, false_or, h13, h4, hd2]
      have co := c_rcount D ws l f j kn (by omega) (by omega) (by omega)
      have cb := CNT_bd D l f j kn D.ds.length
      have sb := CNT_bd2 D l f kn D.ds.length j
      have sm : (D.ds.length : Int) * j ≤ 256 * 4096 := Int.mul_le_mul (by omega) (by omega) (by omega) (by omega)
      have ss : SUMH (fun h => CNT D l f h kn D.ds.length) (j + 1) = SUMH (fun h => CNT D l f h kn D.ds.length) j + CNT D l f j kn D.ds.length := rfl
      generalize SUMH (fun h => CNT D l f h kn D.ds.length) j = S at *
      simp (config := { maxSteps := 1000000 }) only [RUN, PATHS, BASE, FA, POL, start_tm, Heap.empty, reduceIte, Nat.reduceLT, Nat.reduceLeDiff, Nat.reduceEqDiff, Nat.reduceAdd, Nat.reduceSub, Nat.reduceMul, Nat.reduceBEq, Int.reduceLT, Int.reduceLE, Int.reduceEq, Int.reduceNeg, Int.reduceAdd, Int.reduceSub, Int.reduceMul, Bool.false_eq_true, Bool.not_true, Bool.not_false, decide_eq_true_eq, and_self, true_and, and_true, reduceCtorEq, ne_eq, not_false_eq_true, not_true_eq_false, decide_true, decide_false, or_false, false_or, NUM, SRCH, SFRM, SCRP, SRGT, SDTY, SWEL, SDON, h14, h13, h5, hb, hl1, hh2, h3', h4, hd2, hf, co, List.length_map, Int.toNat_natCast, (show (j : Int) < D.hours by omega), (i64_in (x := (j : Int) + 1) (by unfold I64; omega)), (i64_in (x := S + CNT D l f j kn D.ds.length) (by unfold I64; omega))] at hW
      subst hW
      refine rd_next (j + 1) ?_ (show D.hours.toNat - (j + 1) < D.hours.toNat - j by omega)
      simp (config := { maxSteps := 1000000 }) only [RUN, PATHS, BASE, FA, POL, start_tm, Heap.empty, reduceIte, Nat.reduceLT, Nat.reduceLeDiff, Nat.reduceEqDiff, Nat.reduceAdd, Nat.reduceSub, Nat.reduceMul, Nat.reduceBEq, Int.reduceLT, Int.reduceLE, Int.reduceEq, Int.reduceNeg, Int.reduceAdd, Int.reduceSub, Int.reduceMul, Bool.false_eq_true, Bool.not_true, Bool.not_false, decide_eq_true_eq, and_self, true_and, and_true, reduceCtorEq, ne_eq, not_false_eq_true, not_true_eq_false, decide_true, decide_false, or_false, false_or, h5, hb, hl1, hh2, h3', h4, hd2, ss]
      exact ⟨by omega, by simp⟩)
  rw [fs] at h13
  have mb : 0 ≤ rate * FH D l f kn D.ds.length ∧ rate * FH D l f kn D.ds.length ≤ 1048576 * 1048576 := by
    refine ⟨Int.mul_nonneg h3.1 fbn.1, ?_⟩
    exact Int.mul_le_mul h3.2 (by omega) fbn.1 (by decide)
  simp (config := { maxSteps := 1000000 }) only [RUN, PATHS, BASE, FA, POL, start_tm, Heap.empty, reduceIte, Nat.reduceLT, Nat.reduceLeDiff, Nat.reduceEqDiff, Nat.reduceAdd, Nat.reduceSub, Nat.reduceMul, Nat.reduceBEq, Int.reduceLT, Int.reduceLE, Int.reduceEq, Int.reduceNeg, Int.reduceAdd, Int.reduceSub, Int.reduceMul, Bool.false_eq_true, Bool.not_true, Bool.not_false, decide_eq_true_eq, and_self, true_and, and_true, reduceCtorEq, ne_eq, not_false_eq_true, not_true_eq_false, decide_true, decide_false, or_false, false_or, NUM, h13, h4, hd2, (i64_in (x := rate * FH D l f kn D.ds.length) (by unfold I64; omega))]
end Go.Proofs.Ytaggpjlkapnonaa
