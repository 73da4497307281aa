/-
  Which claims are suspended; who performs in time: what the laws compute.
-/
import Derived.Test.YtaggpjlkapnonaaC25
set_option linter.unusedSimpArgs false
set_option linter.unusedVariables false
set_option linter.unusedSectionVars false
namespace Go.Proofs.Ytaggpjlkapnonaa
open Go GoV
set_option maxRecDepth 100000

theorem keyT_clm : KeyT Try.prog 52 clm := by
  refine ⟨fun k => ?_, fun a b => ?_, fun a => ?_⟩
  · rfl
  · exact eqv_clm a b 9991
  · simp [plainEq, plainC, plainL]
theorem keyChk_clm (k : Clm) : keyChk Try.prog 52 (clm k) = true := keyT_clm.chk k
theorem look_clm (s : St) (z : PV) (ok : Bool) (k : Clm) (m : List (Clm × PV)) : lookF s z ok (findPV Try.prog 52 (clm k) (kmap clm m) 0) = some (.val (lookA z ok (aget m k)) s) := lookF_kmap keyT_clm s z ok k m
theorem upd_clm (s : St) (id : Nat) (k : Clm) (v : PV) (m : List (Clm × PV)) : updG s id (clm k) v (kmap clm m) (findPV Try.prog 52 (clm k) (kmap clm m) 0) = updF s id (some (kmap clm (aset m k v))) := updG_kmap keyT_clm s id k v m
theorem MAPC : type_of% @keyChk_clm ∧ type_of% @look_clm ∧ type_of% @upd_clm ∧ type_of% lookA_some ∧ type_of% lookA_none := ⟨@keyChk_clm, @look_clm, @upd_clm, lookA_some, lookA_none⟩
section
variable (D : Dis) (ws : List Wel) (hr : ∀ x ∈ D.rs, x.OK) (l : List Don)
include hr
set_option maxHeartbeats 4000000 in
theorem w_suspend (cl : List Clm) (kn : Int) : ap Try.prog pol 5 [dv D ws, .vs 4 (l.map don) none, .vs 5 (cl.map clm) none, I kn] = some (.ret (.bool true)) := by
  obtain ⟨b, eb, hb⟩ := c_few D ws l
  obtain ⟨b', eb', hb'⟩ := c_fewc D ws cl
  have c1 := d_active D ws hr l cl kn
  rw [ap_eq _ Try.func5 rfl Try.ntmps5 Try.results5 (by kernel_rfl) rfl (by exact Nat.le_of_ble_eq_true rfl)]
  cases b with
  | false => simp (config := { maxSteps := 1000000 }) only [RUN, PATHS, BASE, FA, POL, start_tm, Heap.empty, reduceIte, Nat.reduceLT, Nat.reduceLeDiff, Nat.reduceEqDiff, Nat.reduceAdd, Nat.reduceSub, Nat.reduceMul, Nat.reduceBEq, Int.reduceLT, Int.reduceLE, Int.reduceEq, Int.reduceNeg, Int.reduceAdd, Int.reduceSub, Int.reduceMul, Bool.false_eq_true, Bool.not_true, Bool.not_false, decide_eq_true_eq, and_self, true_and, and_true, reduceCtorEq, ne_eq, not_false_eq_true, not_true_eq_false, decide_true, decide_false, or_false, false_or, NUM, SRCH, SFRM, SCRP, SRGT, SDTY, SWEL, SDON, SCLM, c_sane, eb]
  | true =>
  cases b' with
  | false => simp (config := { maxSteps := 1000000 }) only [RUN, PATHS, BASE, FA, POL, start_tm, Heap.empty, reduceIte, Nat.reduceLT, Nat.reduceLeDiff, Nat.reduceEqDiff, Nat.reduceAdd, Nat.reduceSub, Nat.reduceMul, Nat.reduceBEq, Int.reduceLT, Int.reduceLE, Int.reduceEq, Int.reduceNeg, Int.reduceAdd, Int.reduceSub, Int.reduceMul, Bool.false_eq_true, Bool.not_true, Bool.not_false, decide_eq_true_eq, and_self, true_and, and_true, reduceCtorEq, ne_eq, not_false_eq_true, not_true_eq_false, decide_true, decide_false, or_false, false_or, NUM, SRCH, SFRM, SCRP, SRGT, SDTY, SWEL, SDON, SCLM, c_sane, eb, eb']
  | true =>
  rcases ACT_cases D l cl kn with ⟨hd, hc, hk, hA⟩ | ⟨e, he, hA⟩
  rotate_left
  · rw [hA] at c1
    simp only [ovc] at c1
    simp (config := { maxSteps := 1000000 }) only [RUN, PATHS, BASE, FA, POL, start_tm, Heap.empty, reduceIte, Nat.reduceLT, Nat.reduceLeDiff, Nat.reduceEqDiff, Nat.reduceAdd, Nat.reduceSub, Nat.reduceMul, Nat.reduceBEq, Int.reduceLT, Int.reduceLE, Int.reduceEq, Int.reduceNeg, Int.reduceAdd, Int.reduceSub, Int.reduceMul, Bool.false_eq_true, Bool.not_true, Bool.not_false, decide_eq_true_eq, and_self, true_and, and_true, reduceCtorEq, ne_eq, not_false_eq_true, not_true_eq_false, decide_true, decide_false, or_false, false_or, NUM, SRCH, SFRM, SCRP, SRGT, SDTY, SWEL, SDON, SCLM, c_sane, eb, eb', c1, he]
  rw [hA] at c1
  simp only [ovc] at c1
  have c2 := d_ccheck D ws hr cl
  rw [hc] at c2
  have c3 := d_ccheck D ws hr (KEPT D l kn D.ds.length cl)
  rw [show CC D (KEPT D l kn D.ds.length cl) = 0 from CC_filter hc _] at c3
  obtain ⟨_, lc, cok⟩ := CC_0 hc
  have kll := KEPT_le hc l kn D.ds.length
  have so := c_samec (KEPT D l kn D.ds.length cl) none none (by omega)
  simp (config := { maxSteps := 1000000 }) only [RUN, PATHS, BASE, FA, POL, start_tm, Heap.empty, reduceIte, Nat.reduceLT, Nat.reduceLeDiff, Nat.reduceEqDiff, Nat.reduceAdd, Nat.reduceSub, Nat.reduceMul, Nat.reduceBEq, Int.reduceLT, Int.reduceLE, Int.reduceEq, Int.reduceNeg, Int.reduceAdd, Int.reduceSub, Int.reduceMul, Bool.false_eq_true, Bool.not_true, Bool.not_false, decide_eq_true_eq, and_self, true_and, and_true, reduceCtorEq, ne_eq, not_false_eq_true, not_true_eq_false, decide_true, decide_false, or_false, false_or, NUM, SRCH, SFRM, SCRP, SRGT, SDTY, SWEL, SDON, SCLM, c_sane, eb, eb', c1, c2, c3, List.length_map]
  generalize hL : W _ (.loop _) _ = L
  obtain ⟨ex, s, rfl, rfl, h9, h11, hrr, hd2⟩ := loop_at hL (α := Nat) (fun j => cl.length - j)
    (fun s0 j s => j ≤ cl.length ∧ s.tmps 53 = I j ∧ s.tmps 52 = I cl.length ∧ s.tmps 51 = .vs 5 (cl.map clm) none ∧ s.tmps 9 = .vs 5 ((KEPT D l kn D.ds.length cl).map clm) none ∧ s.tmps 11 = .gsl 5 1 (KEPT D l kn D.ds.length (cl.take j)).length 0 (KEPT D l kn D.ds.length (cl.take j)).length ∧ s.H.rows 1 = some (.gro 5 ((KEPT D l kn D.ds.length (cl.take j)).map clm) 0) ∧ s.tmps 4 = .bptr 0 4 0 0 ∧ s.boxes 4 = some (0, dc D ws) ∧ s.tmps 1 = .vs 4 (l.map don) none ∧ s.tmps 3 = I kn ∧ s.defers = [] ∧ s.fid = 0)
    (fun s0 ex s => ex = .exit 0 ∧ s.tmps 9 = .vs 5 ((KEPT D l kn D.ds.length cl).map clm) none ∧ s.tmps 11 = .gsl 5 1 (KEPT D l kn D.ds.length cl).length 0 (KEPT D l kn D.ds.length cl).length ∧ s.H.rows 1 = some (.gro 5 ((KEPT D l kn D.ds.length cl).map clm) 0) ∧ s.defers = []) 0
    (by have l0 : KEPT D l kn D.ds.length [] = [] := rfl
        simp (config := { maxSteps := 1000000 }) only [RUN, PATHS, BASE, FA, POL, start_tm, Heap.empty, reduceIte, Nat.reduceLT, Nat.reduceLeDiff, Nat.reduceEqDiff, Nat.reduceAdd, Nat.reduceSub, Nat.reduceMul, Nat.reduceBEq, Int.reduceLT, Int.reduceLE, Int.reduceEq, Int.reduceNeg, Int.reduceAdd, Int.reduceSub, Int.reduceMul, Bool.false_eq_true, Bool.not_true, Bool.not_false, decide_eq_true_eq, and_self, true_and, and_true, reduceCtorEq, ne_eq, not_false_eq_true, not_true_eq_false, decide_true, decide_false, or_false, false_or, List.take_zero, l0]; exact ⟨by omega, by simp⟩) (by
      rintro j s r hW ⟨hj, h53, h52, h51, h9, h11, hrr, h4, hb4, hl1, h3, hd2, hf⟩
      by_cases hp : j < cl.length
      rotate_left
      · simp (config := { maxSteps := 1000000 }) only [RUN, PATHS, BASE, FA, POL, start_tm, Heap.empty, reduceIte, Nat.reduceLT, Nat.reduceLeDiff, Nat.reduceEqDiff, Nat.reduceAdd, Nat.reduceSub, Nat.reduceMul, Nat.reduceBEq, Int.reduceLT, Int.reduceLE, Int.reduceEq, Int.reduceNeg, Int.reduceAdd, Int.reduceSub, Int.reduceMul, Bool.false_eq_true, Bool.not_true, Bool.not_false, decide_eq_true_eq, and_self, true_and, and_true, reduceCtorEq, ne_eq, not_false_eq_true, not_true_eq_false, decide_true, decide_false, or_false, false_or, NUM, h53, h52, hd2, hf, List.length_map, (show ¬ (j : Int) < cl.length by omega)] at hW
        subst hW
        have : j = cl.length := by omega
        subst this
        rw [List.take_length] at h11 hrr
        refine rd_exit ⟨rfl, ?_⟩
        simp (config := { maxSteps := 1000000 }) only [RUN, PATHS, BASE, FA, POL, start_tm, Heap.empty, reduceIte, Nat.reduceLT, Nat.reduceLeDiff, Nat.reduceEqDiff, Nat.reduceAdd, Nat.reduceSub, Nat.reduceMul, Nat.reduceBEq, Int.reduceLT, Int.reduceLE, Int.reduceEq, Int.reduceNeg, Int.reduceAdd, Int.reduceSub, Int.reduceMul, Bool.false_eq_true, Bool.not_true, Bool.not_false, decide_eq_true_eq, and_self, true_and, and_true, reduceCtorEq, ne_eq, not_false_eq_true, not_true_eq_false, decide_true, decide_false, or_false, false_or, h9, h11, hrr, hd2]
      have e0 : cl[j]? = some cl[j] := List.getElem?_eq_getElem hp
      have e1 := map_get (f := clm) e0
      have ls := KEPT_take (D := D) (l := l) (kn := kn) (J := D.ds.length) e0
      have ll : (KEPT D l kn D.ds.length (cl.take j)).length ≤ j := Nat.le_trans (List.length_filter_le _ _) (by simp; omega)
      have ckk := (cok j _ e0).2.2.1
      generalize cl[j] = x at *
      have co := c_overdue D ws hr l x.f x.h kn hd (by omega) hk
      have kf := KEEP_iff (D := D) (l := l) (kn := kn) (f := x.f) (h := x.h)
      generalize KEPT D l kn D.ds.length (cl.take j) = A at *
      by_cases ho : FREE D l x.f x.h kn
      · rw [decide_eq_true ho] at co
        rw [if_pos (kf.2 ho)] at ls
        rcases hb7 : s.boxes 13 with _ | ⟨v7, c7⟩
        all_goals
          simp (config := { maxSteps := 1000000 }) only [RUN, PATHS, BASE, FA, POL, start_tm, Heap.empty, reduceIte, Nat.reduceLT, Nat.reduceLeDiff, Nat.reduceEqDiff, Nat.reduceAdd, Nat.reduceSub, Nat.reduceMul, Nat.reduceBEq, Int.reduceLT, Int.reduceLE, Int.reduceEq, Int.reduceNeg, Int.reduceAdd, Int.reduceSub, Int.reduceMul, Bool.false_eq_true, Bool.not_true, Bool.not_false, decide_eq_true_eq, and_self, true_and, and_true, reduceCtorEq, ne_eq, not_false_eq_true, not_true_eq_false, decide_true, decide_false, or_false, false_or, NUM, SRCH, SFRM, SCRP, SRGT, SDTY, SWEL, SDON, SCLM, h53, h52, h51, h9, h11, hrr, h4, hb4, hl1, h3, hd2, hf, hb7, e1, co, List.length_map, Int.toNat_natCast, (show (j : Int) < cl.length by omega), (show (0 : Int) ≤ j by omega), (i64_in (x := (j : Int) + 1) (by unfold I64; omega)), (show A.length + 1 ≤ 67108864 by omega)] at hW
          subst hW
          refine rd_next (j + 1) ?_ (show cl.length - (j + 1) < cl.length - j by omega)
          simp (config := { maxSteps := 1000000 }) only [RUN, PATHS, BASE, FA, POL, start_tm, Heap.empty, reduceIte, Nat.reduceLT, Nat.reduceLeDiff, Nat.reduceEqDiff, Nat.reduceAdd, Nat.reduceSub, Nat.reduceMul, Nat.reduceBEq, Int.reduceLT, Int.reduceLE, Int.reduceEq, Int.reduceNeg, Int.reduceAdd, Int.reduceSub, Int.reduceMul, Bool.false_eq_true, Bool.not_true, Bool.not_false, decide_eq_true_eq, and_self, true_and, and_true, reduceCtorEq, ne_eq, not_false_eq_true, not_true_eq_false, decide_true, decide_false, or_false, false_or, h52, h51, h9, h4, hb4, hl1, h3, hd2, ls, List.map_append, List.length_append]
          exact ⟨by omega, by simp⟩
      · rw [decide_eq_false ho] at co
        rw [if_neg (fun g => ho (kf.1 g)), List.append_nil] at ls
        rcases hb7 : s.boxes 13 with _ | ⟨v7, c7⟩
        all_goals
          simp (config := { maxSteps := 1000000 }) only [RUN, PATHS, BASE, FA, POL, start_tm, Heap.empty, reduceIte, Nat.reduceLT, Nat.reduceLeDiff, Nat.reduceEqDiff, Nat.reduceAdd, Nat.reduceSub, Nat.reduceMul, Nat.reduceBEq, Int.reduceLT, Int.reduceLE, Int.reduceEq, Int.reduceNeg, Int.reduceAdd, Int.reduceSub, Int.reduceMul, Bool.false_eq_true, Bool.not_true, Bool.not_false, decide_eq_true_eq, and_self, true_and, and_true, reduceCtorEq, ne_eq, not_false_eq_true, not_true_eq_false, decide_true, decide_false, or_false, false_or, NUM, SRCH, SFRM, SCRP, SRGT, SDTY, SWEL, SDON, SCLM, h53, h52, h51, h9, h11, hrr, h4, hb4, hl1, h3, hd2, hf, hb7, e1, co, List.length_map, Int.toNat_natCast, (show (j : Int) < cl.length by omega), (show (0 : Int) ≤ j by omega), (i64_in (x := (j : Int) + 1) (by unfold I64; omega))] at hW
          subst hW
          refine rd_next (j + 1) ?_ (show cl.length - (j + 1) < cl.length - j by omega)
          simp (config := { maxSteps := 1000000 }) only [RUN, PATHS, BASE, FA, POL, start_tm, Heap.empty, reduceIte, Nat.reduceLT, Nat.reduceLeDiff, Nat.reduceEqDiff, Nat.reduceAdd, Nat.reduceSub, Nat.reduceMul, Nat.reduceBEq, Int.reduceLT, Int.reduceLE, Int.reduceEq, Int.reduceNeg, Int.reduceAdd, Int.reduceSub, Int.reduceMul, Bool.false_eq_true, Bool.not_true, Bool.not_false, decide_eq_true_eq, and_self, true_and, and_true, reduceCtorEq, ne_eq, not_false_eq_true, not_true_eq_false, decide_true, decide_false, or_false, false_or, h52, h51, h9, h11, hrr, h4, hb4, hl1, h3, hd2, ls]
          exact ⟨by omega, by simp⟩)
  have tk : ((KEPT D l kn D.ds.length cl).map clm).take (KEPT D l kn D.ds.length cl).length = (KEPT D l kn D.ds.length cl).map clm := List.take_of_length_le (by simp)
  simp (config := { maxSteps := 1000000 }) only [RUN, PATHS, BASE, FA, POL, start_tm, Heap.empty, reduceIte, Nat.reduceLT, Nat.reduceLeDiff, Nat.reduceEqDiff, Nat.reduceAdd, Nat.reduceSub, Nat.reduceMul, Nat.reduceBEq, Int.reduceLT, Int.reduceLE, Int.reduceEq, Int.reduceNeg, Int.reduceAdd, Int.reduceSub, Int.reduceMul, Bool.false_eq_true, Bool.not_true, Bool.not_false, decide_eq_true_eq, and_self, true_and, and_true, reduceCtorEq, ne_eq, not_false_eq_true, not_true_eq_false, decide_true, decide_false, or_false, false_or, NUM, SRCH, SFRM, SCRP, SRGT, SDTY, SWEL, SDON, SCLM, h9, h11, hrr, hd2, tk, so, List.length_map, Nat.zero_add, Nat.le_refl]
end
end Go.Proofs.Ytaggpjlkapnonaa
