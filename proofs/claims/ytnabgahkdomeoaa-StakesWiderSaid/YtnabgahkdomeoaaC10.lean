/-
  Insertion: a stretch of quotas is put in order.
-/
import Derived.Test.YtnabgahkdomeoaaC9
set_option linter.unusedSimpArgs false
set_option linter.unusedVariables false
set_option linter.unusedSectionVars false
namespace Go.Proofs.Ytnabgahkdomeoaa
open Go GoV
set_option maxRecDepth 100000

theorem take_more {α : Type} {l : List α} {j : Nat} (h : j < l.length) : l.take (j + 1) = l.take j ++ [l[j]] := by simp
theorem drop_more {α : Type} {l : List α} {j : Nat} (h : j < l.length) : l.drop j = l[j] :: l.drop (j + 1) := by simp
theorem QS_ins {P Q : List Qu} {x : Qu} (h : QS (P ++ Q)) (hq : QB [x] Q) (hp : QB P [x]) : QS (P ++ x :: Q) := by
  obtain ⟨h1, h2, h3⟩ := QS_app.1 h
  refine QS_app.2 ⟨h1, List.pairwise_cons.2 ⟨fun y hy => hq x (by simp) y hy, h2⟩, ?_⟩
  intro u hu v hv
  rcases List.mem_cons.1 hv with rfl | hv
  · exact hp u hu v (by simp)
  · exact h3 u hu v hv
/-- The places of a stretch rise. -/
abbrev QX (l : List Qu) : Prop := l.Pairwise fun a b => a.ix < b.ix
theorem c_insertion (A S B : List Qu) (a b n : Nat) (ha : a = A.length) (hb : b = a + S.length) (hx : QX S) (hn : n = (A ++ (S ++ B)).length) (hl : n ≤ 1000000) (H : Heap) (hr : H.rows 2 = some (RW (A ++ (S ++ B)))) :
    ∃ S', S'.Perm S ∧ QS S' ∧ ∃ k, callF G Try.prog pol 65 [QG n, I a, I b, CF] H = some (.ret (.tup []), ⟨upd H.rows 2 (some (RW (A ++ (S' ++ B)))), k⟩) ∧ H.next ≤ k := by
  simp only [List.length_append] at hn
  rw [callF_eq _ _ Try.func65 rfl Try.ntmps65 Try.results65 (by kernel_rfl) rfl (by exact Nat.le_of_ble_eq_true rfl)]
  simp (config := { maxSteps := 1000000 }) only [RUN, PATHS, BASE, FA, POL, start_tm, Heap.empty, reduceIte, Nat.reduceLT, Nat.reduceLeDiff, Nat.reduceEqDiff, Nat.reduceAdd, Nat.reduceSub, Nat.reduceMul, Nat.reduceBEq, Int.reduceLT, Int.reduceLE, Int.reduceEq, Int.reduceNeg, Int.reduceAdd, Int.reduceSub, Int.reduceMul, Bool.false_eq_true, Bool.not_true, Bool.not_false, decide_eq_true_eq, and_self, true_and, and_true, reduceCtorEq, ne_eq, not_false_eq_true, not_true_eq_false, decide_true, decide_false, or_false, false_or, i64_in (x := (a : Int) + 1) (by unfold I64; omega)]
  generalize hL : W _ (.loop _) _ = L
  obtain ⟨ex, s, rfl, rfl, S', hp, hs, hrow, hd, hnx⟩ := loop_at hL (α := Nat × List Qu) (fun p => S.length - p.1)
    (fun s0 p s => p.1 ≤ S.length ∧ p.2.Perm (S.take (p.1 + 1)) ∧ QS p.2 ∧ s.H.rows = upd H.rows 2 (some (RW (A ++ (p.2 ++ (S.drop (p.1 + 1) ++ B))))) ∧ s.tmps 8 = I (a + 1 + p.1) ∧ s.tmps 0 = QG n ∧ s.tmps 1 = I a ∧ s.tmps 2 = I b ∧ s.tmps 3 = CF ∧ s.defers = [] ∧ s.fid = H.next ∧ H.next ≤ s.H.next)
    (fun s0 ex s => ex = .exit 0 ∧ ∃ S', S'.Perm S ∧ QS S' ∧ s.H.rows = upd H.rows 2 (some (RW (A ++ (S' ++ B)))) ∧ s.defers = [] ∧ H.next ≤ s.H.next) (0, S.take 1)
    (by simp (config := { maxSteps := 1000000 }) only [RUN, PATHS, BASE, FA, POL, start_tm, Heap.empty, reduceIte, Nat.reduceLT, Nat.reduceLeDiff, Nat.reduceEqDiff, Nat.reduceAdd, Nat.reduceSub, Nat.reduceMul, Nat.reduceBEq, Int.reduceLT, Int.reduceLE, Int.reduceEq, Int.reduceNeg, Int.reduceAdd, Int.reduceSub, Int.reduceMul, Bool.false_eq_true, Bool.not_true, Bool.not_false, decide_eq_true_eq, and_self, true_and, and_true, reduceCtorEq, ne_eq, not_false_eq_true, not_true_eq_false, decide_true, decide_false, or_false, false_or]
        refine ⟨Nat.zero_le _, .refl _, ?_, ?_, by simp, by omega⟩
        · cases S with
          | nil => simp
          | cons x S => simp
        · rw [← List.append_assoc (S.take (0 + 1)), List.take_append_drop, ← hr, upd_same]) (by
      rintro ⟨j, S1⟩ s r hW ⟨hj, hp, hs, hrow, h8, h0, h1, h2, h3, hd, hf, hnx⟩
      dsimp only at hj hp hs hrow h8
      by_cases hlt : j + 1 < S.length
      rotate_left
      · simp (config := { maxSteps := 1000000 }) only [RUN, PATHS, BASE, FA, POL, start_tm, Heap.empty, reduceIte, Nat.reduceLT, Nat.reduceLeDiff, Nat.reduceEqDiff, Nat.reduceAdd, Nat.reduceSub, Nat.reduceMul, Nat.reduceBEq, Int.reduceLT, Int.reduceLE, Int.reduceEq, Int.reduceNeg, Int.reduceAdd, Int.reduceSub, Int.reduceMul, Bool.false_eq_true, Bool.not_true, Bool.not_false, decide_eq_true_eq, and_self, true_and, and_true, reduceCtorEq, ne_eq, not_false_eq_true, not_true_eq_false, decide_true, decide_false, or_false, false_or, h8, h2, hd, hf, (show ¬ (a : Int) + 1 + j < b by omega)] at hW
        subst hW
        rw [List.drop_eq_nil_of_le (by omega), List.nil_append] at hrow
        rw [List.take_of_length_le (by omega)] at hp
        refine rd_exit ⟨rfl, S1, hp, hs, ?_⟩
        simp (config := { maxSteps := 1000000 }) only [RUN, PATHS, BASE, FA, POL, start_tm, Heap.empty, reduceIte, Nat.reduceLT, Nat.reduceLeDiff, Nat.reduceEqDiff, Nat.reduceAdd, Nat.reduceSub, Nat.reduceMul, Nat.reduceBEq, Int.reduceLT, Int.reduceLE, Int.reduceEq, Int.reduceNeg, Int.reduceAdd, Int.reduceSub, Int.reduceMul, Bool.false_eq_true, Bool.not_true, Bool.not_false, decide_eq_true_eq, and_self, true_and, and_true, reduceCtorEq, ne_eq, not_false_eq_true, not_true_eq_false, decide_true, decide_false, or_false, false_or, hrow, hd]
        exact hnx
      have e0 : S[j + 1]? = some S[j + 1] := List.getElem?_eq_getElem hlt
      have e1 := drop_more hlt
      have e2 := take_more hlt
      have hxx : ∀ y ∈ S1, y.ix < S[j + 1].ix := by
        intro y hy
        have hy' := hp.mem_iff.1 hy
        have hx' : QX (S.take (j + 1) ++ S.drop (j + 1)) := by rw [List.take_append_drop]; exact hx
        exact (List.pairwise_append.1 hx').2.2 y hy' _ (by rw [e1]; exact List.mem_cons_self)
      generalize S[j + 1] = x at *
      have hll : S1.length = j + 1 := by rw [hp.length_eq, List.length_take]; omega
      generalize hT : S.drop (j + 1 + 1) = T at *
      have hTl : T.length = S.length - (j + 1 + 1) := by rw [← hT]; simp
      rw [e1] at hrow
      simp (config := { maxSteps := 1000000 }) only [RUN, PATHS, BASE, FA, POL, start_tm, Heap.empty, reduceIte, Nat.reduceLT, Nat.reduceLeDiff, Nat.reduceEqDiff, Nat.reduceAdd, Nat.reduceSub, Nat.reduceMul, Nat.reduceBEq, Int.reduceLT, Int.reduceLE, Int.reduceEq, Int.reduceNeg, Int.reduceAdd, Int.reduceSub, Int.reduceMul, Bool.false_eq_true, Bool.not_true, Bool.not_false, decide_eq_true_eq, and_self, true_and, and_true, reduceCtorEq, ne_eq, not_false_eq_true, not_true_eq_false, decide_true, decide_false, or_false, false_or, h8, h2, hd, hf, (show (a : Int) + 1 + j < b by omega)] at hW
      generalize hL2 : W _ (.loop _) _ = L2 at hW
      obtain ⟨ex, s2, rfl, rfl, P, Q, hPQ, hQ, hP, hrow2, z8, z0, z1, z2, z3, zd, zf, znx⟩ := loop_at hL2 (α := List Qu × List Qu) (fun p => p.1.length)
        (fun s0 p s => p.1 ++ p.2 = S1 ∧ QB [x] p.2 ∧ s.H.rows = upd H.rows 2 (some (RW (A ++ (p.1 ++ x :: (p.2 ++ (T ++ B)))))) ∧ s.tmps 9 = I (a + p.1.length) ∧ s.tmps 8 = I (a + 1 + j) ∧ s.tmps 0 = QG n ∧ s.tmps 1 = I a ∧ s.tmps 2 = I b ∧ s.tmps 3 = CF ∧ s.defers = [] ∧ s.fid = H.next ∧ H.next ≤ s.H.next)
        (fun s0 ex s => ex = .exit 2 ∧ ∃ P Q, P ++ Q = S1 ∧ QB [x] Q ∧ QB P [x] ∧ s.H.rows = upd H.rows 2 (some (RW (A ++ (P ++ x :: (Q ++ (T ++ B)))))) ∧ s.tmps 8 = I (a + 1 + j) ∧ s.tmps 0 = QG n ∧ s.tmps 1 = I a ∧ s.tmps 2 = I b ∧ s.tmps 3 = CF ∧ s.defers = [] ∧ s.fid = H.next ∧ H.next ≤ s.H.next) (S1, [])
        (by simp (config := { maxSteps := 1000000 }) only [RUN, PATHS, BASE, FA, POL, start_tm, Heap.empty, reduceIte, Nat.reduceLT, Nat.reduceLeDiff, Nat.reduceEqDiff, Nat.reduceAdd, Nat.reduceSub, Nat.reduceMul, Nat.reduceBEq, Int.reduceLT, Int.reduceLE, Int.reduceEq, Int.reduceNeg, Int.reduceAdd, Int.reduceSub, Int.reduceMul, Bool.false_eq_true, Bool.not_true, Bool.not_false, decide_eq_true_eq, and_self, true_and, and_true, reduceCtorEq, ne_eq, not_false_eq_true, not_true_eq_false, decide_true, decide_false, or_false, false_or, h8, h0, h1, h2, h3]
            refine ⟨fun u hu v hv => by simp at hv, by rw [hrow]; simp, ?_, hnx⟩
            rw [hll]; simp; omega) (by
          rintro ⟨P, Q⟩ s r hW ⟨hPQ, hQ, hrow, h9, h8, h0, h1, h2, h3, hd, hf, hnx⟩
          dsimp only at hPQ hQ hrow h9
          have hlen : P.length + Q.length = S1.length := by rw [← hPQ]; simp
          have r2 : s.H.rows 2 = some (RW (A ++ (P ++ x :: (Q ++ (T ++ B))))) := by rw [hrow]; simp
          rcases List.eq_nil_or_concat P with rfl | ⟨P', z, rfl⟩
          · simp (config := { maxSteps := 1000000 }) only [RUN, PATHS, BASE, FA, POL, start_tm, Heap.empty, reduceIte, Nat.reduceLT, Nat.reduceLeDiff, Nat.reduceEqDiff, Nat.reduceAdd, Nat.reduceSub, Nat.reduceMul, Nat.reduceBEq, Int.reduceLT, Int.reduceLE, Int.reduceEq, Int.reduceNeg, Int.reduceAdd, Int.reduceSub, Int.reduceMul, Bool.false_eq_true, Bool.not_true, Bool.not_false, decide_eq_true_eq, and_self, true_and, and_true, reduceCtorEq, ne_eq, not_false_eq_true, not_true_eq_false, decide_true, decide_false, or_false, false_or, h9, h8, h0, h1, h2, h3, hd, hf, r2, List.length_nil, Int.add_zero, Int.natCast_zero, (show ¬ (a : Int) < a by omega)] at hW
            subst hW
            refine rd_exit ⟨rfl, [], Q, hPQ, hQ, fun u hu => by simp at hu, ?_⟩
            simp (config := { maxSteps := 1000000 }) only [RUN, PATHS, BASE, FA, POL, start_tm, Heap.empty, reduceIte, Nat.reduceLT, Nat.reduceLeDiff, Nat.reduceEqDiff, Nat.reduceAdd, Nat.reduceSub, Nat.reduceMul, Nat.reduceBEq, Int.reduceLT, Int.reduceLE, Int.reduceEq, Int.reduceNeg, Int.reduceAdd, Int.reduceSub, Int.reduceMul, Bool.false_eq_true, Bool.not_true, Bool.not_false, decide_eq_true_eq, and_self, true_and, and_true, reduceCtorEq, ne_eq, not_false_eq_true, not_true_eq_false, decide_true, decide_false, or_false, false_or, h8, h0, h1, h2, h3, hrow]
            exact hnx
          · rw [List.concat_eq_append] at *
            simp only [List.length_append, List.length_cons, List.length_nil, List.append_assoc, List.cons_append, List.nil_append] at *
            obtain ⟨q, hq⟩ : ∃ q, q = a + P'.length := ⟨_, rfl⟩
            have iz : (A ++ (P' ++ z :: x :: (Q ++ (T ++ B))))[q]? = some z := by
              rw [← List.append_assoc]; exact at_app' (by simp; omega)
            have ix : (A ++ (P' ++ z :: x :: (Q ++ (T ++ B))))[q + 1]? = some x := by
              have : A ++ (P' ++ z :: x :: (Q ++ (T ++ B))) = (A ++ P' ++ [z]) ++ x :: (Q ++ (T ++ B)) := by simp
              rw [this]; exact at_app' (by simp; omega)
            have sw : SWP (A ++ (P' ++ z :: x :: (Q ++ (T ++ B)))) (q + 1) q = A ++ (P' ++ x :: z :: (Q ++ (T ++ B))) := by
              have := SWP_at' (A ++ P') [] (Q ++ (T ++ B)) z x (i := q) (j := q + 1) (by simp; omega) (by simp; omega)
              simpa using this
            have i1 := mget iz
            have i2 := mget ix
            have em := mset ix iz
            obtain ⟨w, ew⟩ := mget2 ix iz
            have hDl : (A ++ (P' ++ z :: x :: (Q ++ (T ++ B)))).length = n := by simp only [List.length_append, List.length_cons]; omega
            have h9' : s.tmps 9 = I ((q : Int) + 1) := by rw [h9]; congr 1; omega
            have hxz := hxx z (by rw [← hPQ]; simp)
            generalize hD : A ++ (P' ++ z :: x :: (Q ++ (T ++ B))) = D at iz ix sw i1 i2 em ew hDl r2 hrow
            by_cases hc : z.r < x.r
            · have hcm : CMP x z < 0 := CMP_lt.2 hc
              simp (config := { maxSteps := 1000000 }) only [RUN, PATHS, BASE, FA, POL, start_tm, Heap.empty, reduceIte, Nat.reduceLT, Nat.reduceLeDiff, Nat.reduceEqDiff, Nat.reduceAdd, Nat.reduceSub, Nat.reduceMul, Nat.reduceBEq, Int.reduceLT, Int.reduceLE, Int.reduceEq, Int.reduceNeg, Int.reduceAdd, Int.reduceSub, Int.reduceMul, Bool.false_eq_true, Bool.not_true, Bool.not_false, decide_eq_true_eq, and_self, true_and, and_true, reduceCtorEq, ne_eq, not_false_eq_true, not_true_eq_false, decide_true, decide_false, or_false, false_or, NUM, SQU, h9', h8, h0, h1, h2, h3, hd, hf, r2, i1, i2, ew, hDl, c_cmp, hcm, Nat.zero_add, Nat.zero_le, List.length_map, List.length_set, Int.toNat_natCast, Int.add_sub_cancel, (show ((q : Int) + 1).toNat = q + 1 by omega), (show (a : Int) < q + 1 by omega), (show (0 : Int) ≤ q by omega), (show (0 : Int) ≤ (q : Int) + 1 by omega), (show (q : Int) < n by omega), (show (q : Int) + 1 < n by omega), (i64_in (x := (q : Int)) (by unfold I64; omega))] at hW
              subst hW
              rw [if_pos (by kernel_rfl)]
              refine rd_next (P', z :: Q) ?_ (by simp)
              simp (config := { maxSteps := 1000000 }) only [RUN, PATHS, BASE, FA, POL, start_tm, Heap.empty, reduceIte, Nat.reduceLT, Nat.reduceLeDiff, Nat.reduceEqDiff, Nat.reduceAdd, Nat.reduceSub, Nat.reduceMul, Nat.reduceBEq, Int.reduceLT, Int.reduceLE, Int.reduceEq, Int.reduceNeg, Int.reduceAdd, Int.reduceSub, Int.reduceMul, Bool.false_eq_true, Bool.not_true, Bool.not_false, decide_eq_true_eq, and_self, true_and, and_true, reduceCtorEq, ne_eq, not_false_eq_true, not_true_eq_false, decide_true, decide_false, or_false, false_or, h8, h0, h1, h2, h3, em, sw, hrow]
              refine ⟨hPQ, ?_, ?_, by rw [hq]; simp, hnx⟩
              · intro u hu v hv
                rcases List.mem_cons.1 hv with rfl | hv
                · simp only [List.mem_singleton] at hu; subst hu
                  exact .inl hc
                · exact hQ u hu v hv
              · show upd (upd s.H.rows 2 _) 2 _ = _; rw [upd_upd, hrow, upd_upd]
            · have hcm : ¬ CMP x z < 0 := fun h => hc (CMP_lt.1 h)
              simp (config := { maxSteps := 1000000 }) only [RUN, PATHS, BASE, FA, POL, start_tm, Heap.empty, reduceIte, Nat.reduceLT, Nat.reduceLeDiff, Nat.reduceEqDiff, Nat.reduceAdd, Nat.reduceSub, Nat.reduceMul, Nat.reduceBEq, Int.reduceLT, Int.reduceLE, Int.reduceEq, Int.reduceNeg, Int.reduceAdd, Int.reduceSub, Int.reduceMul, Bool.false_eq_true, Bool.not_true, Bool.not_false, decide_eq_true_eq, and_self, true_and, and_true, reduceCtorEq, ne_eq, not_false_eq_true, not_true_eq_false, decide_true, decide_false, or_false, false_or, NUM, SQU, h9', h8, h0, h1, h2, h3, hd, hf, r2, i1, i2, ew, hDl, c_cmp, hcm, Nat.zero_add, Nat.zero_le, List.length_map, List.length_set, Int.toNat_natCast, Int.add_sub_cancel, (show ((q : Int) + 1).toNat = q + 1 by omega), (show (a : Int) < q + 1 by omega), (show (0 : Int) ≤ q by omega), (show (0 : Int) ≤ (q : Int) + 1 by omega), (show (q : Int) < n by omega), (show (q : Int) + 1 < n by omega), (i64_in (x := (q : Int)) (by unfold I64; omega))] at hW
              subst hW
              refine rd_exit ⟨rfl, P' ++ [z], Q, by simpa using hPQ, hQ, ?_, ?_⟩
              · have hs' : QS (P' ++ [z]) := by
                  rw [← hPQ] at hs
                  rw [show P' ++ z :: Q = (P' ++ [z]) ++ Q by simp] at hs
                  exact (QS_app.1 hs).1
                refine QB_last hs' (by simp) fun u v hu hv => ?_
                simp at hu hv
                subst hu hv
                exact QLT.of_not (fun h => hc ((QLT_iff hxz).1 h)) hxz
              · simp (config := { maxSteps := 1000000 }) only [RUN, PATHS, BASE, FA, POL, start_tm, Heap.empty, reduceIte, Nat.reduceLT, Nat.reduceLeDiff, Nat.reduceEqDiff, Nat.reduceAdd, Nat.reduceSub, Nat.reduceMul, Nat.reduceBEq, Int.reduceLT, Int.reduceLE, Int.reduceEq, Int.reduceNeg, Int.reduceAdd, Int.reduceSub, Int.reduceMul, Bool.false_eq_true, Bool.not_true, Bool.not_false, decide_eq_true_eq, and_self, true_and, and_true, reduceCtorEq, ne_eq, not_false_eq_true, not_true_eq_false, decide_true, decide_false, or_false, false_or, h8, h0, h1, h2, h3, hrow, List.append_assoc]
                exact ⟨by rw [hD], hnx⟩)
      simp (config := { maxSteps := 1000000 }) only [RUN, PATHS, BASE, FA, POL, start_tm, Heap.empty, reduceIte, Nat.reduceLT, Nat.reduceLeDiff, Nat.reduceEqDiff, Nat.reduceAdd, Nat.reduceSub, Nat.reduceMul, Nat.reduceBEq, Int.reduceLT, Int.reduceLE, Int.reduceEq, Int.reduceNeg, Int.reduceAdd, Int.reduceSub, Int.reduceMul, Bool.false_eq_true, Bool.not_true, Bool.not_false, decide_eq_true_eq, and_self, true_and, and_true, reduceCtorEq, ne_eq, not_false_eq_true, not_true_eq_false, decide_true, decide_false, or_false, false_or, z8, i64_in (x := (a : Int) + 1 + j + 1) (by unfold I64; omega)] at hW
      subst hW
      refine rd_next (j + 1, P ++ x :: Q) ?_ (show S.length - (j + 1) < S.length - j by omega)
      simp (config := { maxSteps := 1000000 }) only [RUN, PATHS, BASE, FA, POL, start_tm, Heap.empty, reduceIte, Nat.reduceLT, Nat.reduceLeDiff, Nat.reduceEqDiff, Nat.reduceAdd, Nat.reduceSub, Nat.reduceMul, Nat.reduceBEq, Int.reduceLT, Int.reduceLE, Int.reduceEq, Int.reduceNeg, Int.reduceAdd, Int.reduceSub, Int.reduceMul, Bool.false_eq_true, Bool.not_true, Bool.not_false, decide_eq_true_eq, and_self, true_and, and_true, reduceCtorEq, ne_eq, not_false_eq_true, not_true_eq_false, decide_true, decide_false, or_false, false_or, z0, z1, z2, z3, zd, hrow2]
      refine ⟨by omega, ?_, QS_ins (by rw [hPQ]; exact hs) hQ hP, ?_, ?_, zf, znx⟩
      · rw [e2]
        rw [← hPQ] at hp
        exact (List.perm_middle.trans (hp.cons x)).trans (List.perm_append_comm (l₁ := [x]))
      · rw [hT]; simp
      · congr 1)
  simp (config := { maxSteps := 1000000 }) only [RUN, PATHS, BASE, FA, POL, start_tm, Heap.empty, reduceIte, Nat.reduceLT, Nat.reduceLeDiff, Nat.reduceEqDiff, Nat.reduceAdd, Nat.reduceSub, Nat.reduceMul, Nat.reduceBEq, Int.reduceLT, Int.reduceLE, Int.reduceEq, Int.reduceNeg, Int.reduceAdd, Int.reduceSub, Int.reduceMul, Bool.false_eq_true, Bool.not_true, Bool.not_false, decide_eq_true_eq, and_self, true_and, and_true, reduceCtorEq, ne_eq, not_false_eq_true, not_true_eq_false, decide_true, decide_false, or_false, false_or, hd]
  exact ⟨S', hp, hs, s.H.next, by rw [← hrow], hnx⟩
end Go.Proofs.Ytnabgahkdomeoaa
