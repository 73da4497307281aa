/-
  The merge of two stretches of quotas in order.
-/
import Derived.Test.YtnabgahkdomeoaaC12
set_option linter.unusedSimpArgs false
set_option linter.unusedVariables false
set_option linter.unusedSectionVars false
namespace Go.Proofs.Ytnabgahkdomeoaa
open Go GoV
set_option maxRecDepth 100000

/-- A merge of stretches that have together no more members than a number. -/
def SYMP (sz : Nat) : Prop := ∀ (A L R B : List Qu) (a m b n : Nat) (ha : a = A.length) (hm : m = a + L.length) (hb : b = m + R.length) (hlL : 0 < L.length) (hlR : 0 < R.length) (sL : QS L) (sR : QS R) (hI : QI L R)
    (hn : n = (A ++ (L ++ (R ++ B))).length) (hl : n ≤ 1000000) (hsz : L.length + R.length ≤ sz) (H : Heap) (hr : H.rows 2 = some (RW (A ++ (L ++ (R ++ B))))),
    ∃ M, M.Perm (L ++ R) ∧ QS M ∧ ∃ k, callF G Try.prog pol 66 [QG n, I a, I m, I b, CF] H = some (.ret (.tup []), ⟨upd H.rows 2 (some (RW (A ++ (M ++ B)))), k⟩) ∧ H.next ≤ k
set_option maxHeartbeats 2000000 in
theorem c_symS (sz : Nat) (ih : SYMP sz) : SYMP (sz + 1) := by
    intro A L R B a m b n ha hm hb hlL hlR sL sR hI hn hl hsz H hr
    by_cases o1 : L.length = 1
    · obtain ⟨x, rfl⟩ := List.length_eq_one_iff.1 o1
      exact c_sym1 A R B x a m b n ha hm hb sR (fun y hy => hI x (by simp) y hy) hn hl H hr
    by_cases o2 : R.length = 1
    · obtain ⟨y, rfl⟩ := List.length_eq_one_iff.1 o2
      exact c_symr A L B y a m b n ha hm hb (by omega) sL (fun x hx => hI x hx y (by simp)) hn hl H hr
    have iL : ∀ c, a ≤ c → c < m → ∃ x ∈ L, (A ++ (L ++ (R ++ B)))[c]? = some x := fun c h1 h2 =>
      ⟨L[c - a]'(by omega), List.getElem_mem _, by rw [List.getElem?_append_right (by omega), List.getElem?_append_left (by omega), List.getElem?_eq_getElem (by omega)]; congr 2; omega⟩
    have iR : ∀ c, m ≤ c → c < b → ∃ y ∈ R, (A ++ (L ++ (R ++ B)))[c]? = some y := fun c h1 h2 =>
      ⟨R[c - m]'(by omega), List.getElem_mem _, by rw [List.getElem?_append_right (by omega), List.getElem?_append_right (by omega), List.getElem?_append_left (by omega), List.getElem?_eq_getElem (by omega)]; congr 2; omega⟩
    have hDl : (A ++ (L ++ (R ++ B))).length = n := hn.symm
    simp only [List.length_append] at hn
    obtain ⟨mid, hmid⟩ : ∃ mid, mid = (a + b) / 2 := ⟨_, rfl⟩
    obtain ⟨nn, hnn⟩ : ∃ nn, nn = mid + m := ⟨_, rfl⟩
    obtain ⟨pp, hpp⟩ : ∃ pp, pp = nn - 1 := ⟨_, rfl⟩
    have mab := mid_u a b (by omega)
    rw [← hmid] at mab
    obtain ⟨D, hD⟩ : ∃ D, D = A ++ (L ++ (R ++ B)) := ⟨_, rfl⟩
    rw [← hD] at iL iR hDl hr
    by_cases hmm : mid < m
    · obtain ⟨st0, hst⟩ : ∃ st0, st0 = mid + m - b := ⟨_, rfl⟩
      rw [callF_eq _ _ Try.func66 rfl Try.ntmps66 Try.results66 (by kernel_rfl) rfl (by exact Nat.le_of_ble_eq_true rfl)]
      simp (config := { maxSteps := 1000000 }) only [RUN, PATHS, BASE, FA, POL, start_tm, Heap.empty, reduceIte, Nat.reduceLT, Nat.reduceLeDiff, Nat.reduceEqDiff, Nat.reduceAdd, Nat.reduceSub, Nat.reduceMul, Nat.reduceBEq, Int.reduceLT, Int.reduceLE, Int.reduceEq, Int.reduceNeg, Int.reduceAdd, Int.reduceSub, Int.reduceMul, Bool.false_eq_true, Bool.not_true, Bool.not_false, decide_eq_true_eq, and_self, true_and, and_true, reduceCtorEq, ne_eq, not_false_eq_true, not_true_eq_false, decide_true, decide_false, or_false, false_or, NUM, i64_in (x := (m : Int) - a) (by unfold I64; omega), i64_in (x := (b : Int) - m) (by unfold I64; omega), (show ¬ (m : Int) - a = 1 by omega), (show ¬ (b : Int) - m = 1 by omega), i64_in (x := (a : Int) + b) (by unfold I64; omega), mab, i64_in (x := (mid : Int)) (by unfold I64; omega), (show (mid : Int) + m = nn by omega), i64_in (x := (nn : Int)) (by unfold I64; omega), (show (nn : Int) - 1 = pp by omega), i64_in (x := (pp : Int)) (by unfold I64; omega), (show (mid : Int) < m by omega), (show (nn : Int) - b = st0 by omega), i64_in (x := (st0 : Int)) (by unfold I64; omega)]
      generalize hL : W _ (.loop _) _ = L'
      obtain ⟨ex, s, rfl, rfl, st, b1, b2, k1, k2, h20, h19, h18, h0, h1, h2, h3, h4, hd, hf, hrow, hnx⟩ := loop_at hL (α := Nat × Nat) (fun p => p.2 - p.1)
        (fun s0 p s => st0 ≤ p.1 ∧ p.1 ≤ p.2 ∧ p.2 ≤ mid ∧ (st0 < p.1 → ∀ x y, D[p.1 - 1]? = some x → D[mid + m - p.1]? = some y → ¬ QLT y x) ∧ (p.2 < mid → ∀ x y, D[p.2]? = some x → D[mid + m - 1 - p.2]? = some y → QLT y x) ∧
          s.tmps 20 = I p.1 ∧ s.tmps 21 = I p.2 ∧ s.tmps 22 = I pp ∧ s.tmps 19 = I nn ∧ s.tmps 18 = I mid ∧ s.tmps 0 = QG n ∧ s.tmps 1 = I a ∧ s.tmps 2 = I m ∧ s.tmps 3 = I b ∧ s.tmps 4 = CF ∧ s.defers = [] ∧ s.fid = H.next ∧ s.H.rows = H.rows ∧ H.next ≤ s.H.next)
        (fun s0 ex s => ex = .exit 8 ∧ ∃ st, st0 ≤ st ∧ st ≤ mid ∧ (st0 < st → ∀ x y, D[st - 1]? = some x → D[mid + m - st]? = some y → ¬ QLT y x) ∧ (st < mid → ∀ x y, D[st]? = some x → D[mid + m - 1 - st]? = some y → QLT y x) ∧
          s.tmps 20 = I st ∧ s.tmps 19 = I nn ∧ s.tmps 18 = I mid ∧ s.tmps 0 = QG n ∧ s.tmps 1 = I a ∧ s.tmps 2 = I m ∧ s.tmps 3 = I b ∧ s.tmps 4 = CF ∧ s.defers = [] ∧ s.fid = H.next ∧ s.H.rows = H.rows ∧ H.next ≤ s.H.next) (st0, mid)
        (by simp (config := { maxSteps := 1000000 }) only [RUN, PATHS, BASE, FA, POL, start_tm, Heap.empty, reduceIte, Nat.reduceLT, Nat.reduceLeDiff, Nat.reduceEqDiff, Nat.reduceAdd, Nat.reduceSub, Nat.reduceMul, Nat.reduceBEq, Int.reduceLT, Int.reduceLE, Int.reduceEq, Int.reduceNeg, Int.reduceAdd, Int.reduceSub, Int.reduceMul, Bool.false_eq_true, Bool.not_true, Bool.not_false, decide_eq_true_eq, and_self, true_and, and_true, reduceCtorEq, ne_eq, not_false_eq_true, not_true_eq_false, decide_true, decide_false, or_false, false_or]
            exact ⟨Nat.le_refl _, by omega, Nat.le_refl _, fun h => by omega, fun h => by omega, by omega⟩) (by
          rintro ⟨i, j⟩ s r hW ⟨q1, q2, q3, k1, k2, h20, h21, h22, h19, h18, h0, h1, h2, h3, h4, hd, hf, hrow, hnx⟩
          dsimp only at q1 q2 q3 k1 k2 h20 h21
          by_cases hp : i < j
          rotate_left
          · simp (config := { maxSteps := 1000000 }) only [RUN, PATHS, BASE, FA, POL, start_tm, Heap.empty, reduceIte, Nat.reduceLT, Nat.reduceLeDiff, Nat.reduceEqDiff, Nat.reduceAdd, Nat.reduceSub, Nat.reduceMul, Nat.reduceBEq, Int.reduceLT, Int.reduceLE, Int.reduceEq, Int.reduceNeg, Int.reduceAdd, Int.reduceSub, Int.reduceMul, Bool.false_eq_true, Bool.not_true, Bool.not_false, decide_eq_true_eq, and_self, true_and, and_true, reduceCtorEq, ne_eq, not_false_eq_true, not_true_eq_false, decide_true, decide_false, or_false, false_or, h20, h21, hd, hf, (show ¬ (i : Int) < j by omega)] at hW
            subst hW
            obtain rfl : i = j := by omega
            refine rd_exit ⟨rfl, i, q1, q3, k1, k2, ?_⟩
            simp (config := { maxSteps := 1000000 }) only [RUN, PATHS, BASE, FA, POL, start_tm, Heap.empty, reduceIte, Nat.reduceLT, Nat.reduceLeDiff, Nat.reduceEqDiff, Nat.reduceAdd, Nat.reduceSub, Nat.reduceMul, Nat.reduceBEq, Int.reduceLT, Int.reduceLE, Int.reduceEq, Int.reduceNeg, Int.reduceAdd, Int.reduceSub, Int.reduceMul, Bool.false_eq_true, Bool.not_true, Bool.not_false, decide_eq_true_eq, and_self, true_and, and_true, reduceCtorEq, ne_eq, not_false_eq_true, not_true_eq_false, decide_true, decide_false, or_false, false_or, h20, h19, h18, h0, h1, h2, h3, h4, hrow]
            exact hnx
          obtain ⟨h, hh⟩ : ∃ h, h = (i + j) / 2 := ⟨_, rfl⟩
          have mu := mid_u i j (by omega)
          rw [← hh] at mu
          obtain ⟨x, mx, ex⟩ := iL h (by omega) (by omega)
          obtain ⟨g, hg⟩ : ∃ g, g = mid + m - 1 - h := ⟨_, rfl⟩
          obtain ⟨y, my, ey⟩ := iR g (by omega) (by omega)
          have hxy := hI x mx y my
          have r2 : s.H.rows 2 = some (RW D) := by rw [hrow]; exact hr
          have i1 := mget ex
          have i2 := mget ey
          by_cases hc : x.r < y.r
          · have hcm : CMP y x < 0 := CMP_lt.2 hc
            simp (config := { maxSteps := 1000000 }) only [RUN, PATHS, BASE, FA, POL, start_tm, Heap.empty, reduceIte, Nat.reduceLT, Nat.reduceLeDiff, Nat.reduceEqDiff, Nat.reduceAdd, Nat.reduceSub, Nat.reduceMul, Nat.reduceBEq, Int.reduceLT, Int.reduceLE, Int.reduceEq, Int.reduceNeg, Int.reduceAdd, Int.reduceSub, Int.reduceMul, Bool.false_eq_true, Bool.not_true, Bool.not_false, decide_eq_true_eq, and_self, true_and, and_true, reduceCtorEq, ne_eq, not_false_eq_true, not_true_eq_false, decide_true, decide_false, or_false, false_or, NUM, SQU, h20, h21, h22, h19, h18, h0, h1, h2, h3, h4, hd, hf, r2, i1, i2, hDl, mu, c_cmp, hcm, Nat.zero_add, Nat.zero_le, List.length_map, Int.toNat_natCast, (show (i : Int) < j by omega), i64_in (x := (i : Int) + j) (by unfold I64; omega), i64_in (x := (h : Int)) (by unfold I64; omega), i64_in (x := (h : Int) + 1) (by unfold I64; omega), (show (pp : Int) - h = g by omega), i64_in (x := (g : Int)) (by unfold I64; omega), (show (0 : Int) ≤ h by omega), (show (0 : Int) ≤ g by omega), (show (h : Int) < n by omega), (show (g : Int) < n by omega)] at hW
            subst hW
            refine rd_next (i, h) ?_ (show h - i < j - i by omega)
            simp (config := { maxSteps := 1000000 }) only [RUN, PATHS, BASE, FA, POL, start_tm, Heap.empty, reduceIte, Nat.reduceLT, Nat.reduceLeDiff, Nat.reduceEqDiff, Nat.reduceAdd, Nat.reduceSub, Nat.reduceMul, Nat.reduceBEq, Int.reduceLT, Int.reduceLE, Int.reduceEq, Int.reduceNeg, Int.reduceAdd, Int.reduceSub, Int.reduceMul, Bool.false_eq_true, Bool.not_true, Bool.not_false, decide_eq_true_eq, and_self, true_and, and_true, reduceCtorEq, ne_eq, not_false_eq_true, not_true_eq_false, decide_true, decide_false, or_false, false_or, h20, h22, h19, h18, h0, h1, h2, h3, h4, hrow]
            refine ⟨by omega, by omega, by omega, k1, fun _ u v eu ev => ?_, hnx⟩
            rw [ex] at eu; cases eu
            rw [← hg, ey] at ev; cases ev; exact .inl hc
          · have hcm : ¬ CMP y x < 0 := fun h => hc (CMP_lt.1 h)
            simp (config := { maxSteps := 1000000 }) only [RUN, PATHS, BASE, FA, POL, start_tm, Heap.empty, reduceIte, Nat.reduceLT, Nat.reduceLeDiff, Nat.reduceEqDiff, Nat.reduceAdd, Nat.reduceSub, Nat.reduceMul, Nat.reduceBEq, Int.reduceLT, Int.reduceLE, Int.reduceEq, Int.reduceNeg, Int.reduceAdd, Int.reduceSub, Int.reduceMul, Bool.false_eq_true, Bool.not_true, Bool.not_false, decide_eq_true_eq, and_self, true_and, and_true, reduceCtorEq, ne_eq, not_false_eq_true, not_true_eq_false, decide_true, decide_false, or_false, false_or, NUM, SQU, h20, h21, h22, h19, h18, h0, h1, h2, h3, h4, hd, hf, r2, i1, i2, hDl, mu, c_cmp, hcm, Nat.zero_add, Nat.zero_le, List.length_map, Int.toNat_natCast, (show (i : Int) < j by omega), i64_in (x := (i : Int) + j) (by unfold I64; omega), i64_in (x := (h : Int)) (by unfold I64; omega), i64_in (x := (h : Int) + 1) (by unfold I64; omega), (show (pp : Int) - h = g by omega), i64_in (x := (g : Int)) (by unfold I64; omega), (show (0 : Int) ≤ h by omega), (show (0 : Int) ≤ g by omega), (show (h : Int) < n by omega), (show (g : Int) < n by omega)] at hW
            subst hW
            refine rd_next (h + 1, j) ?_ (show j - (h + 1) < j - i by omega)
            simp (config := { maxSteps := 1000000 }) only [RUN, PATHS, BASE, FA, POL, start_tm, Heap.empty, reduceIte, Nat.reduceLT, Nat.reduceLeDiff, Nat.reduceEqDiff, Nat.reduceAdd, Nat.reduceSub, Nat.reduceMul, Nat.reduceBEq, Int.reduceLT, Int.reduceLE, Int.reduceEq, Int.reduceNeg, Int.reduceAdd, Int.reduceSub, Int.reduceMul, Bool.false_eq_true, Bool.not_true, Bool.not_false, decide_eq_true_eq, and_self, true_and, and_true, reduceCtorEq, ne_eq, not_false_eq_true, not_true_eq_false, decide_true, decide_false, or_false, false_or, h21, h22, h19, h18, h0, h1, h2, h3, h4, hrow]
            refine ⟨by omega, by omega, by omega, fun _ u v eu ev => ?_, k2, by simp, hnx⟩
            rw [show h + 1 - 1 = h by omega, ex] at eu; cases eu
            rw [show mid + m - (h + 1) = g by omega, ey] at ev; cases ev
            exact fun hq => hc ((QLT_iff hxy).1 hq))
      obtain ⟨e, he⟩ : ∃ e, e = mid + m - st := ⟨_, rfl⟩
      subst hD
      obtain ⟨L1, L2, R1, R2, rfl, rfl, z1, z2, z3, qb⟩ := sym_parts ha hm hb hmid sL sR hI (.inl ⟨by omega, hst, rfl⟩) b1 b2 he k1 k2
      obtain ⟨sL1, sL2, _⟩ := QS_app.1 sL
      obtain ⟨sR1, sR2, _⟩ := QS_app.1 sR
      simp only [List.length_append] at hm hb hn hlL hlR hsz
      obtain ⟨H1, g1, n1, f1, f1'⟩ : ∃ H1 : Heap, H1.rows = upd H.rows 2 (some (RW (A ++ (L1 ++ (R1 ++ (L2 ++ (R2 ++ B))))))) ∧ s.H.next ≤ H1.next ∧ (0 < L2.length ∧ 0 < R1.length → callF G Try.prog pol 70 [QG n, I st, I m, I e, CF] s.H = some (.ret (.tup []), H1)) ∧ (¬ (0 < L2.length ∧ 0 < R1.length) → H1 = s.H) := by
        by_cases c : 0 < L2.length ∧ 0 < R1.length
        · obtain ⟨k, cs, hk⟩ := c_rotate (A ++ L1) L2 R1 (R2 ++ B) st m e n (by simp; omega) (by omega) (by omega) (by simp; omega) c.1 c.2 hl s.H (by rw [hrow, hr]; simp)
          exact ⟨_, by rw [hrow]; simp, hk, fun _ => cs, fun h => absurd c h⟩
        · refine ⟨s.H, ?_, Nat.le_refl _, fun h => absurd h c, fun _ => rfl⟩
          have : L2 = [] ∨ R1 = [] := by
            rcases Nat.eq_zero_or_pos L2.length with h | h
            · exact .inl (List.eq_nil_of_length_eq_zero h)
            · exact .inr (List.eq_nil_of_length_eq_zero (by omega))
          have e1 : A ++ (L1 ++ (R1 ++ (L2 ++ (R2 ++ B)))) = A ++ (L1 ++ L2 ++ (R1 ++ R2 ++ B)) := by rcases this with rfl | rfl <;> simp
          rw [e1, hrow, ← hr, upd_same]
      obtain ⟨M1, p1, s1, H2, g2, n2, f2, f2'⟩ : ∃ M1, M1.Perm (L1 ++ R1) ∧ QS M1 ∧ ∃ H2 : Heap, H2.rows = upd H.rows 2 (some (RW (A ++ (M1 ++ (L2 ++ (R2 ++ B)))))) ∧ H1.next ≤ H2.next ∧ (0 < L1.length ∧ 0 < R1.length → callF G Try.prog pol 66 [QG n, I a, I st, I mid, CF] H1 = some (.ret (.tup []), H2)) ∧ (¬ (0 < L1.length ∧ 0 < R1.length) → H2 = H1) := by
        by_cases c : 0 < L1.length ∧ 0 < R1.length
        · obtain ⟨M1, p1, s1, k, cs, hk⟩ := ih A L1 R1 (L2 ++ (R2 ++ B)) a st mid n ha z1 (by omega) c.1 c.2 sL1 sR1 (fun u hu v hv => hI u (by simp [hu]) v (by simp [hv])) (by simp; omega) hl (by omega) H1 (by rw [g1]; simp)
          exact ⟨M1, p1, s1, _, by rw [g1, upd_upd], hk, fun _ => cs, fun h => absurd c h⟩
        · have : L1 = [] ∨ R1 = [] := by
            rcases Nat.eq_zero_or_pos L1.length with h | h
            · exact .inl (List.eq_nil_of_length_eq_zero h)
            · exact .inr (List.eq_nil_of_length_eq_zero (by omega))
          refine ⟨L1 ++ R1, .refl _, by rcases this with rfl | rfl <;> simpa, H1, by rw [g1]; simp, Nat.le_refl _, fun h => absurd h c, fun _ => rfl⟩
      have lm1 := p1.length_eq
      rw [List.length_append] at lm1
      obtain ⟨M2, p2, s2, H3, g3, n3, f3, f3'⟩ : ∃ M2, M2.Perm (L2 ++ R2) ∧ QS M2 ∧ ∃ H3 : Heap, H3.rows = upd H.rows 2 (some (RW (A ++ (M1 ++ (M2 ++ B))))) ∧ H2.next ≤ H3.next ∧ (0 < L2.length ∧ 0 < R2.length → callF G Try.prog pol 66 [QG n, I mid, I e, I b, CF] H2 = some (.ret (.tup []), H3)) ∧ (¬ (0 < L2.length ∧ 0 < R2.length) → H3 = H2) := by
        by_cases c : 0 < L2.length ∧ 0 < R2.length
        · obtain ⟨M2, p2, s2, k, cs, hk⟩ := ih (A ++ M1) L2 R2 B mid e b n (by simp; omega) (by omega) (by omega) c.1 c.2 sL2 sR2 (fun u hu v hv => hI u (by simp [hu]) v (by simp [hv])) (by simp; omega) hl (by omega) H2 (by rw [g2]; simp)
          exact ⟨M2, p2, s2, _, by rw [g2, upd_upd, List.append_assoc], hk, fun _ => cs, fun h => absurd c h⟩
        · have : L2 = [] ∨ R2 = [] := by
            rcases Nat.eq_zero_or_pos L2.length with h | h
            · exact .inl (List.eq_nil_of_length_eq_zero h)
            · exact .inr (List.eq_nil_of_length_eq_zero (by omega))
          refine ⟨L2 ++ R2, .refl _, by rcases this with rfl | rfl <;> simpa, H2, by rw [g2]; simp, Nat.le_refl _, fun h => absurd h c, fun _ => rfl⟩
      refine ⟨M1 ++ M2, ?_, QS_app.2 ⟨s1, s2, qb.perm p1 p2⟩, H3.next, ?_, by omega⟩
      · refine (p1.append p2).trans ?_
        rw [List.append_assoc, List.append_assoc]
        refine List.Perm.append_left L1 ?_
        rw [← List.append_assoc, ← List.append_assoc]
        exact List.Perm.append_right R2 List.perm_append_comm
      have h24 : (nn : Int) - st = e := by omega
      have w24 := i64_in (x := (e : Int)) (by unfold I64; omega)
      rw [List.append_assoc M1, ← g3]
      clear k1 k2 g1 g2 g3 hL
      rcases Nat.eq_zero_or_pos L1.length with x1 | x1 <;> rcases Nat.eq_zero_or_pos R1.length with y1 | y1 <;> rcases Nat.eq_zero_or_pos L2.length with x2 | x2 <;> rcases Nat.eq_zero_or_pos R2.length with y2 | y2
      · exfalso; omega
      · exfalso; omega
      · exfalso; omega
      · exfalso; omega
      · exfalso; omega
      · obtain rfl := f1' (by omega)
        obtain rfl := f2' (by omega)
        obtain rfl := f3' (by omega)
        simp (config := { maxSteps := 1000000 }) only [RUN, PATHS, BASE, FA, POL, start_tm, Heap.empty, reduceIte, Nat.reduceLT, Nat.reduceLeDiff, Nat.reduceEqDiff, Nat.reduceAdd, Nat.reduceSub, Nat.reduceMul, Nat.reduceBEq, Int.reduceLT, Int.reduceLE, Int.reduceEq, Int.reduceNeg, Int.reduceAdd, Int.reduceSub, Int.reduceMul, Bool.false_eq_true, Bool.not_true, Bool.not_false, decide_eq_true_eq, and_self, true_and, and_true, reduceCtorEq, ne_eq, not_false_eq_true, not_true_eq_false, decide_true, decide_false, or_false, false_or, NUM, h20, h19, h18, h0, h1, h2, h3, h4, hd, hf, h24, w24, (show ¬ (st : Int) < m by omega), (show (m : Int) < e by omega), (show ¬ (a : Int) < st by omega), (show (st : Int) < mid by omega), (show ¬ (mid : Int) < e by omega), (show (e : Int) < b by omega)]
      · have cs1 := f1 ⟨x2, y1⟩
        obtain rfl := f2' (by omega)
        obtain rfl := f3' (by omega)
        simp (config := { maxSteps := 1000000 }) only [RUN, PATHS, BASE, FA, POL, start_tm, Heap.empty, reduceIte, Nat.reduceLT, Nat.reduceLeDiff, Nat.reduceEqDiff, Nat.reduceAdd, Nat.reduceSub, Nat.reduceMul, Nat.reduceBEq, Int.reduceLT, Int.reduceLE, Int.reduceEq, Int.reduceNeg, Int.reduceAdd, Int.reduceSub, Int.reduceMul, Bool.false_eq_true, Bool.not_true, Bool.not_false, decide_eq_true_eq, and_self, true_and, and_true, reduceCtorEq, ne_eq, not_false_eq_true, not_true_eq_false, decide_true, decide_false, or_false, false_or, NUM, h20, h19, h18, h0, h1, h2, h3, h4, hd, hf, h24, w24, (show (st : Int) < m by omega), (show (m : Int) < e by omega), (show ¬ (a : Int) < st by omega), (show (st : Int) < mid by omega), (show (mid : Int) < e by omega), (show ¬ (e : Int) < b by omega), cs1]
      · have cs1 := f1 ⟨x2, y1⟩
        obtain rfl := f2' (by omega)
        have cs3 := f3 ⟨x2, y2⟩
        simp (config := { maxSteps := 1000000 }) only [RUN, PATHS, BASE, FA, POL, start_tm, Heap.empty, reduceIte, Nat.reduceLT, Nat.reduceLeDiff, Nat.reduceEqDiff, Nat.reduceAdd, Nat.reduceSub, Nat.reduceMul, Nat.reduceBEq, Int.reduceLT, Int.reduceLE, Int.reduceEq, Int.reduceNeg, Int.reduceAdd, Int.reduceSub, Int.reduceMul, Bool.false_eq_true, Bool.not_true, Bool.not_false, decide_eq_true_eq, and_self, true_and, and_true, reduceCtorEq, ne_eq, not_false_eq_true, not_true_eq_false, decide_true, decide_false, or_false, false_or, NUM, h20, h19, h18, h0, h1, h2, h3, h4, hd, hf, h24, w24, (show (st : Int) < m by omega), (show (m : Int) < e by omega), (show ¬ (a : Int) < st by omega), (show (st : Int) < mid by omega), (show (mid : Int) < e by omega), (show (e : Int) < b by omega), cs1, cs3]
      · exfalso; omega
      · obtain rfl := f1' (by omega)
        obtain rfl := f2' (by omega)
        obtain rfl := f3' (by omega)
        simp (config := { maxSteps := 1000000 }) only [RUN, PATHS, BASE, FA, POL, start_tm, Heap.empty, reduceIte, Nat.reduceLT, Nat.reduceLeDiff, Nat.reduceEqDiff, Nat.reduceAdd, Nat.reduceSub, Nat.reduceMul, Nat.reduceBEq, Int.reduceLT, Int.reduceLE, Int.reduceEq, Int.reduceNeg, Int.reduceAdd, Int.reduceSub, Int.reduceMul, Bool.false_eq_true, Bool.not_true, Bool.not_false, decide_eq_true_eq, and_self, true_and, and_true, reduceCtorEq, ne_eq, not_false_eq_true, not_true_eq_false, decide_true, decide_false, or_false, false_or, NUM, h20, h19, h18, h0, h1, h2, h3, h4, hd, hf, h24, w24, (show ¬ (st : Int) < m by omega), (show ¬ (m : Int) < e by omega), (show (a : Int) < st by omega), (show ¬ (st : Int) < mid by omega), (show ¬ (mid : Int) < e by omega), (show (e : Int) < b by omega)]
      · obtain rfl := f1' (by omega)
        obtain rfl := f2' (by omega)
        obtain rfl := f3' (by omega)
        simp (config := { maxSteps := 1000000 }) only [RUN, PATHS, BASE, FA, POL, start_tm, Heap.empty, reduceIte, Nat.reduceLT, Nat.reduceLeDiff, Nat.reduceEqDiff, Nat.reduceAdd, Nat.reduceSub, Nat.reduceMul, Nat.reduceBEq, Int.reduceLT, Int.reduceLE, Int.reduceEq, Int.reduceNeg, Int.reduceAdd, Int.reduceSub, Int.reduceMul, Bool.false_eq_true, Bool.not_true, Bool.not_false, decide_eq_true_eq, and_self, true_and, and_true, reduceCtorEq, ne_eq, not_false_eq_true, not_true_eq_false, decide_true, decide_false, or_false, false_or, NUM, h20, h19, h18, h0, h1, h2, h3, h4, hd, hf, h24, w24, (show (st : Int) < m by omega), (show ¬ (m : Int) < e by omega), (show (a : Int) < st by omega), (show ¬ (st : Int) < mid by omega), (show (mid : Int) < e by omega), (show ¬ (e : Int) < b by omega)]
      · obtain rfl := f1' (by omega)
        obtain rfl := f2' (by omega)
        have cs3 := f3 ⟨x2, y2⟩
        simp (config := { maxSteps := 1000000 }) only [RUN, PATHS, BASE, FA, POL, start_tm, Heap.empty, reduceIte, Nat.reduceLT, Nat.reduceLeDiff, Nat.reduceEqDiff, Nat.reduceAdd, Nat.reduceSub, Nat.reduceMul, Nat.reduceBEq, Int.reduceLT, Int.reduceLE, Int.reduceEq, Int.reduceNeg, Int.reduceAdd, Int.reduceSub, Int.reduceMul, Bool.false_eq_true, Bool.not_true, Bool.not_false, decide_eq_true_eq, and_self, true_and, and_true, reduceCtorEq, ne_eq, not_false_eq_true, not_true_eq_false, decide_true, decide_false, or_false, false_or, NUM, h20, h19, h18, h0, h1, h2, h3, h4, hd, hf, h24, w24, (show (st : Int) < m by omega), (show ¬ (m : Int) < e by omega), (show (a : Int) < st by omega), (show ¬ (st : Int) < mid by omega), (show (mid : Int) < e by omega), (show (e : Int) < b by omega), cs3]
      · exfalso; omega
      · obtain rfl := f1' (by omega)
        have cs2 := f2 ⟨x1, y1⟩
        obtain rfl := f3' (by omega)
        simp (config := { maxSteps := 1000000 }) only [RUN, PATHS, BASE, FA, POL, start_tm, Heap.empty, reduceIte, Nat.reduceLT, Nat.reduceLeDiff, Nat.reduceEqDiff, Nat.reduceAdd, Nat.reduceSub, Nat.reduceMul, Nat.reduceBEq, Int.reduceLT, Int.reduceLE, Int.reduceEq, Int.reduceNeg, Int.reduceAdd, Int.reduceSub, Int.reduceMul, Bool.false_eq_true, Bool.not_true, Bool.not_false, decide_eq_true_eq, and_self, true_and, and_true, reduceCtorEq, ne_eq, not_false_eq_true, not_true_eq_false, decide_true, decide_false, or_false, false_or, NUM, h20, h19, h18, h0, h1, h2, h3, h4, hd, hf, h24, w24, (show ¬ (st : Int) < m by omega), (show (m : Int) < e by omega), (show (a : Int) < st by omega), (show (st : Int) < mid by omega), (show ¬ (mid : Int) < e by omega), (show (e : Int) < b by omega), cs2]
      · have cs1 := f1 ⟨x2, y1⟩
        have cs2 := f2 ⟨x1, y1⟩
        obtain rfl := f3' (by omega)
        simp (config := { maxSteps := 1000000 }) only [RUN, PATHS, BASE, FA, POL, start_tm, Heap.empty, reduceIte, Nat.reduceLT, Nat.reduceLeDiff, Nat.reduceEqDiff, Nat.reduceAdd, Nat.reduceSub, Nat.reduceMul, Nat.reduceBEq, Int.reduceLT, Int.reduceLE, Int.reduceEq, Int.reduceNeg, Int.reduceAdd, Int.reduceSub, Int.reduceMul, Bool.false_eq_true, Bool.not_true, Bool.not_false, decide_eq_true_eq, and_self, true_and, and_true, reduceCtorEq, ne_eq, not_false_eq_true, not_true_eq_false, decide_true, decide_false, or_false, false_or, NUM, h20, h19, h18, h0, h1, h2, h3, h4, hd, hf, h24, w24, (show (st : Int) < m by omega), (show (m : Int) < e by omega), (show (a : Int) < st by omega), (show (st : Int) < mid by omega), (show (mid : Int) < e by omega), (show ¬ (e : Int) < b by omega), cs1, cs2]
      · have cs1 := f1 ⟨x2, y1⟩
        have cs2 := f2 ⟨x1, y1⟩
        have cs3 := f3 ⟨x2, y2⟩
        simp (config := { maxSteps := 1000000 }) only [RUN, PATHS, BASE, FA, POL, start_tm, Heap.empty, reduceIte, Nat.reduceLT, Nat.reduceLeDiff, Nat.reduceEqDiff, Nat.reduceAdd, Nat.reduceSub, Nat.reduceMul, Nat.reduceBEq, Int.reduceLT, Int.reduceLE, Int.reduceEq, Int.reduceNeg, Int.reduceAdd, Int.reduceSub, Int.reduceMul, Bool.false_eq_true, Bool.not_true, Bool.not_false, decide_eq_true_eq, and_self, true_and, and_true, reduceCtorEq, ne_eq, not_false_eq_true, not_true_eq_false, decide_true, decide_false, or_false, false_or, NUM, h20, h19, h18, h0, h1, h2, h3, h4, hd, hf, h24, w24, (show (st : Int) < m by omega), (show (m : Int) < e by omega), (show (a : Int) < st by omega), (show (st : Int) < mid by omega), (show (mid : Int) < e by omega), (show (e : Int) < b by omega), cs1, cs2, cs3]
    · rw [callF_eq _ _ Try.func66 rfl Try.ntmps66 Try.results66 (by kernel_rfl) rfl (by exact Nat.le_of_ble_eq_true rfl)]
      simp (config := { maxSteps := 1000000 }) only [RUN, PATHS, BASE, FA, POL, start_tm, Heap.empty, reduceIte, Nat.reduceLT, Nat.reduceLeDiff, Nat.reduceEqDiff, Nat.reduceAdd, Nat.reduceSub, Nat.reduceMul, Nat.reduceBEq, Int.reduceLT, Int.reduceLE, Int.reduceEq, Int.reduceNeg, Int.reduceAdd, Int.reduceSub, Int.reduceMul, Bool.false_eq_true, Bool.not_true, Bool.not_false, decide_eq_true_eq, and_self, true_and, and_true, reduceCtorEq, ne_eq, not_false_eq_true, not_true_eq_false, decide_true, decide_false, or_false, false_or, NUM, i64_in (x := (m : Int) - a) (by unfold I64; omega), i64_in (x := (b : Int) - m) (by unfold I64; omega), (show ¬ (m : Int) - a = 1 by omega), (show ¬ (b : Int) - m = 1 by omega), i64_in (x := (a : Int) + b) (by unfold I64; omega), mab, i64_in (x := (mid : Int)) (by unfold I64; omega), (show (mid : Int) + m = nn by omega), i64_in (x := (nn : Int)) (by unfold I64; omega), (show (nn : Int) - 1 = pp by omega), i64_in (x := (pp : Int)) (by unfold I64; omega), (show ¬ (mid : Int) < m by omega)]
      generalize hL : W _ (.loop _) _ = L'
      obtain ⟨ex, s, rfl, rfl, st, b1, b2, k1, k2, h20, h19, h18, h0, h1, h2, h3, h4, hd, hf, hrow, hnx⟩ := loop_at hL (α := Nat × Nat) (fun p => p.2 - p.1)
        (fun s0 p s => a ≤ p.1 ∧ p.1 ≤ p.2 ∧ p.2 ≤ m ∧ (a < p.1 → ∀ x y, D[p.1 - 1]? = some x → D[mid + m - p.1]? = some y → ¬ QLT y x) ∧ (p.2 < m → ∀ x y, D[p.2]? = some x → D[mid + m - 1 - p.2]? = some y → QLT y x) ∧
          s.tmps 20 = I p.1 ∧ s.tmps 21 = I p.2 ∧ s.tmps 22 = I pp ∧ s.tmps 19 = I nn ∧ s.tmps 18 = I mid ∧ s.tmps 0 = QG n ∧ s.tmps 1 = I a ∧ s.tmps 2 = I m ∧ s.tmps 3 = I b ∧ s.tmps 4 = CF ∧ s.defers = [] ∧ s.fid = H.next ∧ s.H.rows = H.rows ∧ H.next ≤ s.H.next)
        (fun s0 ex s => ex = .exit 8 ∧ ∃ st, a ≤ st ∧ st ≤ m ∧ (a < st → ∀ x y, D[st - 1]? = some x → D[mid + m - st]? = some y → ¬ QLT y x) ∧ (st < m → ∀ x y, D[st]? = some x → D[mid + m - 1 - st]? = some y → QLT y x) ∧
          s.tmps 20 = I st ∧ s.tmps 19 = I nn ∧ s.tmps 18 = I mid ∧ s.tmps 0 = QG n ∧ s.tmps 1 = I a ∧ s.tmps 2 = I m ∧ s.tmps 3 = I b ∧ s.tmps 4 = CF ∧ s.defers = [] ∧ s.fid = H.next ∧ s.H.rows = H.rows ∧ H.next ≤ s.H.next) (a, m)
        (by simp (config := { maxSteps := 1000000 }) only [RUN, PATHS, BASE, FA, POL, start_tm, Heap.empty, reduceIte, Nat.reduceLT, Nat.reduceLeDiff, Nat.reduceEqDiff, Nat.reduceAdd, Nat.reduceSub, Nat.reduceMul, Nat.reduceBEq, Int.reduceLT, Int.reduceLE, Int.reduceEq, Int.reduceNeg, Int.reduceAdd, Int.reduceSub, Int.reduceMul, Bool.false_eq_true, Bool.not_true, Bool.not_false, decide_eq_true_eq, and_self, true_and, and_true, reduceCtorEq, ne_eq, not_false_eq_true, not_true_eq_false, decide_true, decide_false, or_false, false_or]
            exact ⟨Nat.le_refl _, by omega, Nat.le_refl _, fun h => by omega, fun h => by omega, by omega⟩) (by
          rintro ⟨i, j⟩ s r hW ⟨q1, q2, q3, k1, k2, h20, h21, h22, h19, h18, h0, h1, h2, h3, h4, hd, hf, hrow, hnx⟩
          dsimp only at q1 q2 q3 k1 k2 h20 h21
          by_cases hp : i < j
          rotate_left
          · simp (config := { maxSteps := 1000000 }) only [RUN, PATHS, BASE, FA, POL, start_tm, Heap.empty, reduceIte, Nat.reduceLT, Nat.reduceLeDiff, Nat.reduceEqDiff, Nat.reduceAdd, Nat.reduceSub, Nat.reduceMul, Nat.reduceBEq, Int.reduceLT, Int.reduceLE, Int.reduceEq, Int.reduceNeg, Int.reduceAdd, Int.reduceSub, Int.reduceMul, Bool.false_eq_true, Bool.not_true, Bool.not_false, decide_eq_true_eq, and_self, true_and, and_true, reduceCtorEq, ne_eq, not_false_eq_true, not_true_eq_false, decide_true, decide_false, or_false, false_or, h20, h21, hd, hf, (show ¬ (i : Int) < j by omega)] at hW
            subst hW
            obtain rfl : i = j := by omega
            refine rd_exit ⟨rfl, i, q1, q3, k1, k2, ?_⟩
            simp (config := { maxSteps := 1000000 }) only [RUN, PATHS, BASE, FA, POL, start_tm, Heap.empty, reduceIte, Nat.reduceLT, Nat.reduceLeDiff, Nat.reduceEqDiff, Nat.reduceAdd, Nat.reduceSub, Nat.reduceMul, Nat.reduceBEq, Int.reduceLT, Int.reduceLE, Int.reduceEq, Int.reduceNeg, Int.reduceAdd, Int.reduceSub, Int.reduceMul, Bool.false_eq_true, Bool.not_true, Bool.not_false, decide_eq_true_eq, and_self, true_and, and_true, reduceCtorEq, ne_eq, not_false_eq_true, not_true_eq_false, decide_true, decide_false, or_false, false_or, h20, h19, h18, h0, h1, h2, h3, h4, hrow]
            exact hnx
          obtain ⟨h, hh⟩ : ∃ h, h = (i + j) / 2 := ⟨_, rfl⟩
          have mu := mid_u i j (by omega)
          rw [← hh] at mu
          obtain ⟨x, mx, ex⟩ := iL h (by omega) (by omega)
          obtain ⟨g, hg⟩ : ∃ g, g = mid + m - 1 - h := ⟨_, rfl⟩
          obtain ⟨y, my, ey⟩ := iR g (by omega) (by omega)
          have hxy := hI x mx y my
          have r2 : s.H.rows 2 = some (RW D) := by rw [hrow]; exact hr
          have i1 := mget ex
          have i2 := mget ey
          by_cases hc : x.r < y.r
          · have hcm : CMP y x < 0 := CMP_lt.2 hc
            simp (config := { maxSteps := 1000000 }) only [RUN, PATHS, BASE, FA, POL, start_tm, Heap.empty, reduceIte, Nat.reduceLT, Nat.reduceLeDiff, Nat.reduceEqDiff, Nat.reduceAdd, Nat.reduceSub, Nat.reduceMul, Nat.reduceBEq, Int.reduceLT, Int.reduceLE, Int.reduceEq, Int.reduceNeg, Int.reduceAdd, Int.reduceSub, Int.reduceMul, Bool.false_eq_true, Bool.not_true, Bool.not_false, decide_eq_true_eq, and_self, true_and, and_true, reduceCtorEq, ne_eq, not_false_eq_true, not_true_eq_false, decide_true, decide_false, or_false, false_or, NUM, SQU, h20, h21, h22, h19, h18, h0, h1, h2, h3, h4, hd, hf, r2, i1, i2, hDl, mu, c_cmp, hcm, Nat.zero_add, Nat.zero_le, List.length_map, Int.toNat_natCast, (show (i : Int) < j by omega), i64_in (x := (i : Int) + j) (by unfold I64; omega), i64_in (x := (h : Int)) (by unfold I64; omega), i64_in (x := (h : Int) + 1) (by unfold I64; omega), (show (pp : Int) - h = g by omega), i64_in (x := (g : Int)) (by unfold I64; omega), (show (0 : Int) ≤ h by omega), (show (0 : Int) ≤ g by omega), (show (h : Int) < n by omega), (show (g : Int) < n by omega)] at hW
            subst hW
            refine rd_next (i, h) ?_ (show h - i < j - i by omega)
            simp (config := { maxSteps := 1000000 }) only [RUN, PATHS, BASE, FA, POL, start_tm, Heap.empty, reduceIte, Nat.reduceLT, Nat.reduceLeDiff, Nat.reduceEqDiff, Nat.reduceAdd, Nat.reduceSub, Nat.reduceMul, Nat.reduceBEq, Int.reduceLT, Int.reduceLE, Int.reduceEq, Int.reduceNeg, Int.reduceAdd, Int.reduceSub, Int.reduceMul, Bool.false_eq_true, Bool.not_true, Bool.not_false, decide_eq_true_eq, and_self, true_and, and_true, reduceCtorEq, ne_eq, not_false_eq_true, not_true_eq_false, decide_true, decide_false, or_false, false_or, h20, h22, h19, h18, h0, h1, h2, h3, h4, hrow]
            refine ⟨by omega, by omega, by omega, k1, fun _ u v eu ev => ?_, hnx⟩
            rw [ex] at eu; cases eu
            rw [← hg, ey] at ev; cases ev; exact .inl hc
          · have hcm : ¬ CMP y x < 0 := fun h => hc (CMP_lt.1 h)
            simp (config := { maxSteps := 1000000 }) only [RUN, PATHS, BASE, FA, POL, start_tm, Heap.empty, reduceIte, Nat.reduceLT, Nat.reduceLeDiff, Nat.reduceEqDiff, Nat.reduceAdd, Nat.reduceSub, Nat.reduceMul, Nat.reduceBEq, Int.reduceLT, Int.reduceLE, Int.reduceEq, Int.reduceNeg, Int.reduceAdd, Int.reduceSub, Int.reduceMul, Bool.false_eq_true, Bool.not_true, Bool.not_false, decide_eq_true_eq, and_self, true_and, and_true, reduceCtorEq, ne_eq, not_false_eq_true, not_true_eq_false, decide_true, decide_false, or_false, false_or, NUM, SQU, h20, h21, h22, h19, h18, h0, h1, h2, h3, h4, hd, hf, r2, i1, i2, hDl, mu, c_cmp, hcm, Nat.zero_add, Nat.zero_le, List.length_map, Int.toNat_natCast, (show (i : Int) < j by omega), i64_in (x := (i : Int) + j) (by unfold I64; omega), i64_in (x := (h : Int)) (by unfold I64; omega), i64_in (x := (h : Int) + 1) (by unfold I64; omega), (show (pp : Int) - h = g by omega), i64_in (x := (g : Int)) (by unfold I64; omega), (show (0 : Int) ≤ h by omega), (show (0 : Int) ≤ g by omega), (show (h : Int) < n by omega), (show (g : Int) < n by omega)] at hW
            subst hW
            refine rd_next (h + 1, j) ?_ (show j - (h + 1) < j - i by omega)
            simp (config := { maxSteps := 1000000 }) only [RUN, PATHS, BASE, FA, POL, start_tm, Heap.empty, reduceIte, Nat.reduceLT, Nat.reduceLeDiff, Nat.reduceEqDiff, Nat.reduceAdd, Nat.reduceSub, Nat.reduceMul, Nat.reduceBEq, Int.reduceLT, Int.reduceLE, Int.reduceEq, Int.reduceNeg, Int.reduceAdd, Int.reduceSub, Int.reduceMul, Bool.false_eq_true, Bool.not_true, Bool.not_false, decide_eq_true_eq, and_self, true_and, and_true, reduceCtorEq, ne_eq, not_false_eq_true, not_true_eq_false, decide_true, decide_false, or_false, false_or, h21, h22, h19, h18, h0, h1, h2, h3, h4, hrow]
            refine ⟨by omega, by omega, by omega, fun _ u v eu ev => ?_, k2, by simp, hnx⟩
            rw [show h + 1 - 1 = h by omega, ex] at eu; cases eu
            rw [show mid + m - (h + 1) = g by omega, ey] at ev; cases ev
            exact fun hq => hc ((QLT_iff hxy).1 hq))
      obtain ⟨e, he⟩ : ∃ e, e = mid + m - st := ⟨_, rfl⟩
      subst hD
      obtain ⟨L1, L2, R1, R2, rfl, rfl, z1, z2, z3, qb⟩ := sym_parts ha hm hb hmid sL sR hI (.inr ⟨by omega, rfl, rfl⟩) b1 b2 he k1 k2
      obtain ⟨sL1, sL2, _⟩ := QS_app.1 sL
      obtain ⟨sR1, sR2, _⟩ := QS_app.1 sR
      simp only [List.length_append] at hm hb hn hlL hlR hsz
      obtain ⟨H1, g1, n1, f1, f1'⟩ : ∃ H1 : Heap, H1.rows = upd H.rows 2 (some (RW (A ++ (L1 ++ (R1 ++ (L2 ++ (R2 ++ B))))))) ∧ s.H.next ≤ H1.next ∧ (0 < L2.length ∧ 0 < R1.length → callF G Try.prog pol 70 [QG n, I st, I m, I e, CF] s.H = some (.ret (.tup []), H1)) ∧ (¬ (0 < L2.length ∧ 0 < R1.length) → H1 = s.H) := by
        by_cases c : 0 < L2.length ∧ 0 < R1.length
        · obtain ⟨k, cs, hk⟩ := c_rotate (A ++ L1) L2 R1 (R2 ++ B) st m e n (by simp; omega) (by omega) (by omega) (by simp; omega) c.1 c.2 hl s.H (by rw [hrow, hr]; simp)
          exact ⟨_, by rw [hrow]; simp, hk, fun _ => cs, fun h => absurd c h⟩
        · refine ⟨s.H, ?_, Nat.le_refl _, fun h => absurd h c, fun _ => rfl⟩
          have : L2 = [] ∨ R1 = [] := by
            rcases Nat.eq_zero_or_pos L2.length with h | h
            · exact .inl (List.eq_nil_of_length_eq_zero h)
            · exact .inr (List.eq_nil_of_length_eq_zero (by omega))
          have e1 : A ++ (L1 ++ (R1 ++ (L2 ++ (R2 ++ B)))) = A ++ (L1 ++ L2 ++ (R1 ++ R2 ++ B)) := by rcases this with rfl | rfl <;> simp
          rw [e1, hrow, ← hr, upd_same]
      obtain ⟨M1, p1, s1, H2, g2, n2, f2, f2'⟩ : ∃ M1, M1.Perm (L1 ++ R1) ∧ QS M1 ∧ ∃ H2 : Heap, H2.rows = upd H.rows 2 (some (RW (A ++ (M1 ++ (L2 ++ (R2 ++ B)))))) ∧ H1.next ≤ H2.next ∧ (0 < L1.length ∧ 0 < R1.length → callF G Try.prog pol 66 [QG n, I a, I st, I mid, CF] H1 = some (.ret (.tup []), H2)) ∧ (¬ (0 < L1.length ∧ 0 < R1.length) → H2 = H1) := by
        by_cases c : 0 < L1.length ∧ 0 < R1.length
        · obtain ⟨M1, p1, s1, k, cs, hk⟩ := ih A L1 R1 (L2 ++ (R2 ++ B)) a st mid n ha z1 (by omega) c.1 c.2 sL1 sR1 (fun u hu v hv => hI u (by simp [hu]) v (by simp [hv])) (by simp; omega) hl (by omega) H1 (by rw [g1]; simp)
          exact ⟨M1, p1, s1, _, by rw [g1, upd_upd], hk, fun _ => cs, fun h => absurd c h⟩
        · have : L1 = [] ∨ R1 = [] := by
            rcases Nat.eq_zero_or_pos L1.length with h | h
            · exact .inl (List.eq_nil_of_length_eq_zero h)
            · exact .inr (List.eq_nil_of_length_eq_zero (by omega))
          refine ⟨L1 ++ R1, .refl _, by rcases this with rfl | rfl <;> simpa, H1, by rw [g1]; simp, Nat.le_refl _, fun h => absurd h c, fun _ => rfl⟩
      have lm1 := p1.length_eq
      rw [List.length_append] at lm1
      obtain ⟨M2, p2, s2, H3, g3, n3, f3, f3'⟩ : ∃ M2, M2.Perm (L2 ++ R2) ∧ QS M2 ∧ ∃ H3 : Heap, H3.rows = upd H.rows 2 (some (RW (A ++ (M1 ++ (M2 ++ B))))) ∧ H2.next ≤ H3.next ∧ (0 < L2.length ∧ 0 < R2.length → callF G Try.prog pol 66 [QG n, I mid, I e, I b, CF] H2 = some (.ret (.tup []), H3)) ∧ (¬ (0 < L2.length ∧ 0 < R2.length) → H3 = H2) := by
        by_cases c : 0 < L2.length ∧ 0 < R2.length
        · obtain ⟨M2, p2, s2, k, cs, hk⟩ := ih (A ++ M1) L2 R2 B mid e b n (by simp; omega) (by omega) (by omega) c.1 c.2 sL2 sR2 (fun u hu v hv => hI u (by simp [hu]) v (by simp [hv])) (by simp; omega) hl (by omega) H2 (by rw [g2]; simp)
          exact ⟨M2, p2, s2, _, by rw [g2, upd_upd, List.append_assoc], hk, fun _ => cs, fun h => absurd c h⟩
        · have : L2 = [] ∨ R2 = [] := by
            rcases Nat.eq_zero_or_pos L2.length with h | h
            · exact .inl (List.eq_nil_of_length_eq_zero h)
            · exact .inr (List.eq_nil_of_length_eq_zero (by omega))
          refine ⟨L2 ++ R2, .refl _, by rcases this with rfl | rfl <;> simpa, H2, by rw [g2]; simp, Nat.le_refl _, fun h => absurd h c, fun _ => rfl⟩
      refine ⟨M1 ++ M2, ?_, QS_app.2 ⟨s1, s2, qb.perm p1 p2⟩, H3.next, ?_, by omega⟩
      · refine (p1.append p2).trans ?_
        rw [List.append_assoc, List.append_assoc]
        refine List.Perm.append_left L1 ?_
        rw [← List.append_assoc, ← List.append_assoc]
        exact List.Perm.append_right R2 List.perm_append_comm
      have h24 : (nn : Int) - st = e := by omega
      have w24 := i64_in (x := (e : Int)) (by unfold I64; omega)
      rw [List.append_assoc M1, ← g3]
      clear k1 k2 g1 g2 g3 hL
      rcases Nat.eq_zero_or_pos L1.length with x1 | x1 <;> rcases Nat.eq_zero_or_pos R1.length with y1 | y1 <;> rcases Nat.eq_zero_or_pos L2.length with x2 | x2 <;> rcases Nat.eq_zero_or_pos R2.length with y2 | y2
      · exfalso; omega
      · exfalso; omega
      · exfalso; omega
      · exfalso; omega
      · exfalso; omega
      · obtain rfl := f1' (by omega)
        obtain rfl := f2' (by omega)
        obtain rfl := f3' (by omega)
        simp (config := { maxSteps := 1000000 }) only [RUN, PATHS, BASE, FA, POL, start_tm, Heap.empty, reduceIte, Nat.reduceLT, Nat.reduceLeDiff, Nat.reduceEqDiff, Nat.reduceAdd, Nat.reduceSub, Nat.reduceMul, Nat.reduceBEq, Int.reduceLT, Int.reduceLE, Int.reduceEq, Int.reduceNeg, Int.reduceAdd, Int.reduceSub, Int.reduceMul, Bool.false_eq_true, Bool.not_true, Bool.not_false, decide_eq_true_eq, and_self, true_and, and_true, reduceCtorEq, ne_eq, not_false_eq_true, not_true_eq_false, decide_true, decide_false, or_false, false_or, NUM, h20, h19, h18, h0, h1, h2, h3, h4, hd, hf, h24, w24, (show ¬ (st : Int) < m by omega), (show (m : Int) < e by omega), (show ¬ (a : Int) < st by omega), (show (st : Int) < mid by omega), (show ¬ (mid : Int) < e by omega), (show (e : Int) < b by omega)]
      · have cs1 := f1 ⟨x2, y1⟩
        obtain rfl := f2' (by omega)
        obtain rfl := f3' (by omega)
        simp (config := { maxSteps := 1000000 }) only [RUN, PATHS, BASE, FA, POL, start_tm, Heap.empty, reduceIte, Nat.reduceLT, Nat.reduceLeDiff, Nat.reduceEqDiff, Nat.reduceAdd, Nat.reduceSub, Nat.reduceMul, Nat.reduceBEq, Int.reduceLT, Int.reduceLE, Int.reduceEq, Int.reduceNeg, Int.reduceAdd, Int.reduceSub, Int.reduceMul, Bool.false_eq_true, Bool.not_true, Bool.not_false, decide_eq_true_eq, and_self, true_and, and_true, reduceCtorEq, ne_eq, not_false_eq_true, not_true_eq_false, decide_true, decide_false, or_false, false_or, NUM, h20, h19, h18, h0, h1, h2, h3, h4, hd, hf, h24, w24, (show (st : Int) < m by omega), (show (m : Int) < e by omega), (show ¬ (a : Int) < st by omega), (show (st : Int) < mid by omega), (show (mid : Int) < e by omega), (show ¬ (e : Int) < b by omega), cs1]
      · have cs1 := f1 ⟨x2, y1⟩
        obtain rfl := f2' (by omega)
        have cs3 := f3 ⟨x2, y2⟩
        simp (config := { maxSteps := 1000000 }) only [RUN, PATHS, BASE, FA, POL, start_tm, Heap.empty, reduceIte, Nat.reduceLT, Nat.reduceLeDiff, Nat.reduceEqDiff, Nat.reduceAdd, Nat.reduceSub, Nat.reduceMul, Nat.reduceBEq, Int.reduceLT, Int.reduceLE, Int.reduceEq, Int.reduceNeg, Int.reduceAdd, Int.reduceSub, Int.reduceMul, Bool.false_eq_true, Bool.not_true, Bool.not_false, decide_eq_true_eq, and_self, true_and, and_true, reduceCtorEq, ne_eq, not_false_eq_true, not_true_eq_false, decide_true, decide_false, or_false, false_or, NUM, h20, h19, h18, h0, h1, h2, h3, h4, hd, hf, h24, w24, (show (st : Int) < m by omega), (show (m : Int) < e by omega), (show ¬ (a : Int) < st by omega), (show (st : Int) < mid by omega), (show (mid : Int) < e by omega), (show (e : Int) < b by omega), cs1, cs3]
      · exfalso; omega
      · obtain rfl := f1' (by omega)
        obtain rfl := f2' (by omega)
        obtain rfl := f3' (by omega)
        simp (config := { maxSteps := 1000000 }) only [RUN, PATHS, BASE, FA, POL, start_tm, Heap.empty, reduceIte, Nat.reduceLT, Nat.reduceLeDiff, Nat.reduceEqDiff, Nat.reduceAdd, Nat.reduceSub, Nat.reduceMul, Nat.reduceBEq, Int.reduceLT, Int.reduceLE, Int.reduceEq, Int.reduceNeg, Int.reduceAdd, Int.reduceSub, Int.reduceMul, Bool.false_eq_true, Bool.not_true, Bool.not_false, decide_eq_true_eq, and_self, true_and, and_true, reduceCtorEq, ne_eq, not_false_eq_true, not_true_eq_false, decide_true, decide_false, or_false, false_or, NUM, h20, h19, h18, h0, h1, h2, h3, h4, hd, hf, h24, w24, (show ¬ (st : Int) < m by omega), (show ¬ (m : Int) < e by omega), (show (a : Int) < st by omega), (show ¬ (st : Int) < mid by omega), (show ¬ (mid : Int) < e by omega), (show (e : Int) < b by omega)]
      · obtain rfl := f1' (by omega)
        obtain rfl := f2' (by omega)
        obtain rfl := f3' (by omega)
        simp (config := { maxSteps := 1000000 }) only [RUN, PATHS, BASE, FA, POL, start_tm, Heap.empty, reduceIte, Nat.reduceLT, Nat.reduceLeDiff, Nat.reduceEqDiff, Nat.reduceAdd, Nat.reduceSub, Nat.reduceMul, Nat.reduceBEq, Int.reduceLT, Int.reduceLE, Int.reduceEq, Int.reduceNeg, Int.reduceAdd, Int.reduceSub, Int.reduceMul, Bool.false_eq_true, Bool.not_true, Bool.not_false, decide_eq_true_eq, and_self, true_and, and_true, reduceCtorEq, ne_eq, not_false_eq_true, not_true_eq_false, decide_true, decide_false, or_false, false_or, NUM, h20, h19, h18, h0, h1, h2, h3, h4, hd, hf, h24, w24, (show (st : Int) < m by omega), (show ¬ (m : Int) < e by omega), (show (a : Int) < st by omega), (show ¬ (st : Int) < mid by omega), (show (mid : Int) < e by omega), (show ¬ (e : Int) < b by omega)]
      · obtain rfl := f1' (by omega)
        obtain rfl := f2' (by omega)
        have cs3 := f3 ⟨x2, y2⟩
        simp (config := { maxSteps := 1000000 }) only [RUN, PATHS, BASE, FA, POL, start_tm, Heap.empty, reduceIte, Nat.reduceLT, Nat.reduceLeDiff, Nat.reduceEqDiff, Nat.reduceAdd, Nat.reduceSub, Nat.reduceMul, Nat.reduceBEq, Int.reduceLT, Int.reduceLE, Int.reduceEq, Int.reduceNeg, Int.reduceAdd, Int.reduceSub, Int.reduceMul, Bool.false_eq_true, Bool.not_true, Bool.not_false, decide_eq_true_eq, and_self, true_and, and_true, reduceCtorEq, ne_eq, not_false_eq_true, not_true_eq_false, decide_true, decide_false, or_false, false_or, NUM, h20, h19, h18, h0, h1, h2, h3, h4, hd, hf, h24, w24, (show (st : Int) < m by omega), (show ¬ (m : Int) < e by omega), (show (a : Int) < st by omega), (show ¬ (st : Int) < mid by omega), (show (mid : Int) < e by omega), (show (e : Int) < b by omega), cs3]
      · exfalso; omega
      · obtain rfl := f1' (by omega)
        have cs2 := f2 ⟨x1, y1⟩
        obtain rfl := f3' (by omega)
        simp (config := { maxSteps := 1000000 }) only [RUN, PATHS, BASE, FA, POL, start_tm, Heap.empty, reduceIte, Nat.reduceLT, Nat.reduceLeDiff, Nat.reduceEqDiff, Nat.reduceAdd, Nat.reduceSub, Nat.reduceMul, Nat.reduceBEq, Int.reduceLT, Int.reduceLE, Int.reduceEq, Int.reduceNeg, Int.reduceAdd, Int.reduceSub, Int.reduceMul, Bool.false_eq_true, Bool.not_true, Bool.not_false, decide_eq_true_eq, and_self, true_and, and_true, reduceCtorEq, ne_eq, not_false_eq_true, not_true_eq_false, decide_true, decide_false, or_false, false_or, NUM, h20, h19, h18, h0, h1, h2, h3, h4, hd, hf, h24, w24, (show ¬ (st : Int) < m by omega), (show (m : Int) < e by omega), (show (a : Int) < st by omega), (show (st : Int) < mid by omega), (show ¬ (mid : Int) < e by omega), (show (e : Int) < b by omega), cs2]
      · have cs1 := f1 ⟨x2, y1⟩
        have cs2 := f2 ⟨x1, y1⟩
        obtain rfl := f3' (by omega)
        simp (config := { maxSteps := 1000000 }) only [RUN, PATHS, BASE, FA, POL, start_tm, Heap.empty, reduceIte, Nat.reduceLT, Nat.reduceLeDiff, Nat.reduceEqDiff, Nat.reduceAdd, Nat.reduceSub, Nat.reduceMul, Nat.reduceBEq, Int.reduceLT, Int.reduceLE, Int.reduceEq, Int.reduceNeg, Int.reduceAdd, Int.reduceSub, Int.reduceMul, Bool.false_eq_true, Bool.not_true, Bool.not_false, decide_eq_true_eq, and_self, true_and, and_true, reduceCtorEq, ne_eq, not_false_eq_true, not_true_eq_false, decide_true, decide_false, or_false, false_or, NUM, h20, h19, h18, h0, h1, h2, h3, h4, hd, hf, h24, w24, (show (st : Int) < m by omega), (show (m : Int) < e by omega), (show (a : Int) < st by omega), (show (st : Int) < mid by omega), (show (mid : Int) < e by omega), (show ¬ (e : Int) < b by omega), cs1, cs2]
      · have cs1 := f1 ⟨x2, y1⟩
        have cs2 := f2 ⟨x1, y1⟩
        have cs3 := f3 ⟨x2, y2⟩
        simp (config := { maxSteps := 1000000 }) only [RUN, PATHS, BASE, FA, POL, start_tm, Heap.empty, reduceIte, Nat.reduceLT, Nat.reduceLeDiff, Nat.reduceEqDiff, Nat.reduceAdd, Nat.reduceSub, Nat.reduceMul, Nat.reduceBEq, Int.reduceLT, Int.reduceLE, Int.reduceEq, Int.reduceNeg, Int.reduceAdd, Int.reduceSub, Int.reduceMul, Bool.false_eq_true, Bool.not_true, Bool.not_false, decide_eq_true_eq, and_self, true_and, and_true, reduceCtorEq, ne_eq, not_false_eq_true, not_true_eq_false, decide_true, decide_false, or_false, false_or, NUM, h20, h19, h18, h0, h1, h2, h3, h4, hd, hf, h24, w24, (show (st : Int) < m by omega), (show (m : Int) < e by omega), (show (a : Int) < st by omega), (show (st : Int) < mid by omega), (show (mid : Int) < e by omega), (show (e : Int) < b by omega), cs1, cs2, cs3]
theorem c_sym : ∀ sz, SYMP sz
  | 0, _, L, _, _, _, _, _, _, _, _, _, hlL, hlR, _, _, _, _, _, hsz, _, _ => by omega
  | sz + 1, A, L, R, B, a, m, b, n, ha, hm, hb, hlL, hlR, sL, sR, hI, hn, hl, hsz, H, hr => c_symS sz (c_sym sz) A L R B a m b n ha hm hb hlL hlR sL sR hI hn hl hsz H hr
end Go.Proofs.Ytnabgahkdomeoaa
