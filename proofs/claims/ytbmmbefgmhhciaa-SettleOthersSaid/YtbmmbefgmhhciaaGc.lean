/-
  Markets and their settling (part 3).
-/
import Derived.Test.YtbmmbefgmhhciaaGb
set_option linter.unusedSimpArgs false
set_option linter.unusedVariables false
set_option linter.unusedSectionVars false
/-
  A merge where the second side is a single quota.
-/
namespace Go.Proofs.Ytbmmbefgmhhciaa
namespace S
open Go GoV
set_option maxRecDepth 100000

/-- Where a single member goes that comes from behind. -/
theorem two_parts {L : List Qu} {y : Qu} {i : Nat} (hi : i ≤ L.length) (sL : QS L) (hI : ∀ x ∈ L, x.ix < y.ix) (k1 : 0 < i → ∀ x, L[i - 1]? = some x → ¬ QLT y x) (k2 : i < L.length → ∀ x, L[i]? = some x → QLT y x) :
    ∃ L1 L2, L = L1 ++ L2 ∧ L1.length = i ∧ QB L1 [y] ∧ QB [y] L2 := by
  obtain ⟨L1, L2, rfl, l1⟩ := part_at L i hi
  obtain ⟨s1, s2, _⟩ := QS_app.1 sL
  refine ⟨L1, L2, rfl, l1, QB_last s1 (by simp) fun u v hu hv => ?_, QB_last (by simp) s2 fun u v hu hv => ?_⟩
  · simp at hv; subst hv
    obtain ⟨p, q⟩ := getLast_at hu
    exact QLT.of_not (k1 (by omega) u (by rw [List.getElem?_append_left (by omega), ← l1]; exact q)) (hI u (by simp [List.mem_of_getElem? q]))
  · simp at hu; subst hu
    obtain ⟨p, q⟩ := head_at hv
    exact k2 (by simp; omega) v (by rw [List.getElem?_append_right (by omega), l1, Nat.sub_self]; exact q)
theorem c_symr (A L B : List Qu) (y : Qu) (a m b n : Nat) (ha : a = A.length) (hm : m = a + L.length) (hb : b = m + 1) (h2 : 2 ≤ L.length) (sL : QS L) (hI : ∀ x ∈ L, x.ix < y.ix) (hn : n = (A ++ (L ++ (y :: B))).length) (hl : n ≤ 1000000) (H : Heap)
    (hr : H.rows 2 = some (RW (A ++ (L ++ (y :: B))))) :
    ∃ M, M.Perm (L ++ [y]) ∧ QS M ∧ ∃ k, callF G Try.prog pol 66 [QG n, I a, I m, I b, CF] H = some (.ret (.tup []), ⟨upd H.rows 2 (some (RW (A ++ (M ++ B)))), k⟩) ∧ H.next ≤ k := by
  simp only [List.length_append, List.length_cons] at hn
  have hDl : (A ++ (L ++ (y :: B))).length = n := by simp only [List.length_append, List.length_cons]; omega
  have iy : (A ++ (L ++ (y :: B)))[m]? = some y := by
    rw [← List.append_assoc]; exact at_app' (by simp; omega)
  have iL : ∀ k, k < L.length → (A ++ (L ++ (y :: B)))[a + k]? = L[k]? := fun k hk => by
    rw [List.getElem?_append_right (by omega), show a + k - A.length = k by omega, List.getElem?_append_left hk]
  rw [callF_eq _ _ Try.func66 rfl Try.ntmps66 Try.results66 (by kernel_rfl) rfl (by exact Nat.le_of_ble_eq_true rfl)]
  simp (maxSteps := 999999) only [E0, seval, -Int.reduceNatCast', NUM, (show (b : Int) - m = 1 by omega), i64_in (x := (m : Int) - a) (by unfold I64; omega), (show ¬ (m : Int) - a = 1 by omega)]
  generalize hL : W _ (.loop _) _ = L'
  obtain ⟨ex, s, rfl, rfl, i, hi1, hi2, k1, k2, h14, h0, h2', hd, hf, hrow, hnx⟩ := loop_at hL (α := Nat × Nat) (fun p => p.2 - p.1)
    (fun s0 p s => a ≤ p.1 ∧ p.1 ≤ p.2 ∧ p.2 ≤ m ∧ (a < p.1 → ∀ x, L[p.1 - a - 1]? = some x → ¬ QLT y x) ∧ (p.2 < m → ∀ x, L[p.2 - a]? = some x → QLT y x) ∧ s.tmps 14 = I p.1 ∧ s.tmps 15 = I p.2 ∧ s.tmps 0 = QG n ∧ s.tmps 2 = I m ∧ s.tmps 4 = CF ∧ s.defers = [] ∧ s.fid = H.next ∧ s.H.rows = H.rows ∧ H.next ≤ s.H.next)
    (fun s0 ex s => ex = .exit 4 ∧ ∃ i, a ≤ i ∧ i ≤ m ∧ (a < i → ∀ x, L[i - a - 1]? = some x → ¬ QLT y x) ∧ (i < m → ∀ x, L[i - a]? = some x → QLT y x) ∧ s.tmps 14 = I i ∧ s.tmps 0 = QG n ∧ s.tmps 2 = I m ∧ s.defers = [] ∧ s.fid = H.next ∧ s.H.rows = H.rows ∧ H.next ≤ s.H.next) (a, m)
    (by simp (maxSteps := 999999) only [E0, seval, -Int.reduceNatCast']
        exact ⟨Nat.le_refl _, by omega, Nat.le_refl _, fun h => by omega, fun h => by omega, by omega⟩) (by
      rintro ⟨i, j⟩ s r hW ⟨q1, q2, q3, k1, k2, h14, h15, h0, h2', h4, hd, hf, hrow, hnx⟩
      dsimp only at q1 q2 q3 k1 k2 h14 h15
      by_cases hp : i < j
      rotate_left
      · simp (maxSteps := 999999) only [E0, seval, -Int.reduceNatCast', h14, h15, hd, hf, (show ¬ (i : Int) < j by omega)] at hW
        subst hW
        obtain rfl : i = j := by omega
        refine rd_exit ⟨rfl, i, q1, q3, k1, k2, ?_⟩
        simp (maxSteps := 999999) only [E0, seval, -Int.reduceNatCast', h14, h0, h2', hrow]
        exact hnx
      obtain ⟨h, hh⟩ : ∃ h, h = (i + j) / 2 := ⟨_, rfl⟩
      have mu := mid_u i j (by omega)
      rw [← hh] at mu
      have eL := iL (h - a) (by omega)
      rw [show a + (h - a) = h by omega] at eL
      have ex : L[h - a]? = some (L[h - a]'(by omega)) := List.getElem?_eq_getElem _
      have hxy := hI _ (List.getElem_mem (show h - a < L.length by omega))
      generalize L[h - a]'(by omega) = x at *
      rw [ex] at eL
      have r2 : s.H.rows 2 = some (RW (A ++ (L ++ (y :: B)))) := by rw [hrow]; exact hr
      have i1 := mget iy
      have i2 := mget eL
      generalize A ++ (L ++ (y :: B)) = D at *
      by_cases hc : x.r < y.r
      · have hcm : CMP y x < 0 := CMP_lt.2 hc
        simp (maxSteps := 999999) only [E0, seval, -Int.reduceNatCast', NUM, SQU, h14, h15, h0, h2', h4, hd, hf, r2, i1, i2, hDl, mu, c_cmp, hcm, Nat.zero_add, Nat.zero_le, List.length_map, Int.toNat_natCast, (show (i : Int) < j by omega), i64_in (x := (i : Int) + j) (by unfold I64; omega), i64_in (x := (h : Int)) (by unfold I64; omega), i64_in (x := (h : Int) + 1) (by unfold I64; omega), (show (0 : Int) ≤ h by omega), (show (0 : Int) ≤ m by omega), (show (h : Int) < n by omega), (show (m : Int) < n by omega)] at hW
        subst hW
        refine rd_next (i, h) ?_ (show h - i < j - i by omega)
        simp (maxSteps := 999999) only [E0, seval, -Int.reduceNatCast', h14, h0, h2', h4, hrow]
        refine ⟨by omega, by omega, by omega, k1, fun _ z ez => ?_, hnx⟩
        rw [ex] at ez; cases ez; exact .inl hc
      · have hcm : ¬ CMP y x < 0 := fun h => hc (CMP_lt.1 h)
        simp (maxSteps := 999999) only [E0, seval, -Int.reduceNatCast', NUM, SQU, h14, h15, h0, h2', h4, hd, hf, r2, i1, i2, hDl, mu, c_cmp, hcm, Nat.zero_add, Nat.zero_le, List.length_map, Int.toNat_natCast, (show (i : Int) < j by omega), i64_in (x := (i : Int) + j) (by unfold I64; omega), i64_in (x := (h : Int)) (by unfold I64; omega), i64_in (x := (h : Int) + 1) (by unfold I64; omega), (show (0 : Int) ≤ h by omega), (show (0 : Int) ≤ m by omega), (show (h : Int) < n by omega), (show (m : Int) < n by omega)] at hW
        subst hW
        refine rd_next (h + 1, j) ?_ (show j - (h + 1) < j - i by omega)
        simp (maxSteps := 999999) only [E0, seval, -Int.reduceNatCast', h15, h0, h2', h4, hrow]
        refine ⟨by omega, by omega, by omega, fun _ z ez => ?_, k2, by simp, hnx⟩
        rw [show h + 1 - a - 1 = h - a by omega, ex] at ez; cases ez
        exact fun hq => hc ((QLT_iff hxy).1 hq))
  obtain ⟨L1, L2, rfl, l1, b1, b2⟩ := two_parts (i := i - a) (by omega) sL hI (fun h => k1 (by omega)) (fun h => k2 (by omega))
  rw [List.length_append] at hn hm
  refine ⟨L1 ++ y :: L2, ?_, QS_ins sL b2 b1, ?_⟩
  · rw [List.append_assoc]
    exact List.Perm.append_left L1 (List.perm_append_comm (l₁ := [y]))
  simp (maxSteps := 999999) only [E0, seval, -Int.reduceNatCast', h14, h0, h2', hd, hf]
  generalize hL2 : W _ (.loop _) _ = L2'
  obtain ⟨ex, s2, rfl, rfl, hrow2, hd2, hnx2⟩ := loop_at hL2 (α := List Qu × List Qu) (fun p => p.1.length)
    (fun s0 p s => p.1 ++ p.2 = L2 ∧ s.H.rows = upd H.rows 2 (some (RW (A ++ (L1 ++ (p.1 ++ y :: (p.2 ++ B)))))) ∧ s.tmps 17 = I (a + L1.length + p.1.length) ∧ s.tmps 14 = I i ∧ s.tmps 0 = QG n ∧ s.defers = [] ∧ s.fid = H.next ∧ H.next ≤ s.H.next)
    (fun s0 ex s => ex = .exit 6 ∧ s.H.rows = upd H.rows 2 (some (RW (A ++ (L1 ++ (y :: (L2 ++ B)))))) ∧ s.defers = [] ∧ H.next ≤ s.H.next) (L2, [])
    (by simp (maxSteps := 999999) only [E0, seval, -Int.reduceNatCast', h14, h0]
        refine ⟨?_, by rw [hm]; simp; omega, hnx⟩
        rw [hrow, ← List.append_assoc L1, ← hr, upd_same]) (by
      rintro ⟨Q, P⟩ s r hW ⟨hPQ, hrow, h17, h14, h0, hd, hf, hnx⟩
      dsimp only at hPQ hrow h17
      have hlen : Q.length + P.length = L2.length := by rw [← hPQ]; simp
      rcases List.eq_nil_or_concat Q with rfl | ⟨Q', z, rfl⟩
      · simp only [List.length_nil, List.nil_append, Int.add_zero, Int.natCast_zero] at hlen hPQ h17
        simp (maxSteps := 999999) only [E0, seval, -Int.reduceNatCast', h17, h14, hd, hf, (show ¬ (i : Int) < (a : Int) + L1.length by omega)] at hW
        subst hW
        subst hPQ
        refine rd_exit ⟨rfl, ?_⟩
        simp (maxSteps := 999999) only [E0, seval, -Int.reduceNatCast', hrow]
        simpa using hnx
      · rw [List.concat_eq_append] at *
        simp only [List.length_append, List.length_cons, List.length_nil, List.append_assoc, List.cons_append, List.nil_append] at *
        obtain ⟨q, hq⟩ : ∃ q, q = a + L1.length + Q'.length := ⟨_, rfl⟩
        have h17' : s.tmps 17 = I ((q : Int) + 1) := by rw [h17]; congr 1; omega
        have r2 : s.H.rows 2 = some (RW (A ++ (L1 ++ (Q' ++ z :: y :: (P ++ B))))) := by rw [hrow]; simp
        have ez : (A ++ (L1 ++ (Q' ++ z :: y :: (P ++ B))))[q]? = some z := by
          rw [← List.append_assoc, ← List.append_assoc]; exact at_app' (by simp; omega)
        have ey : (A ++ (L1 ++ (Q' ++ z :: y :: (P ++ B))))[q + 1]? = some y := by
          have : A ++ (L1 ++ (Q' ++ z :: y :: (P ++ B))) = (A ++ L1 ++ Q' ++ [z]) ++ y :: (P ++ B) := by simp
          rw [this]; exact at_app' (by simp; omega)
        have sw : SWP (A ++ (L1 ++ (Q' ++ z :: y :: (P ++ B)))) (q + 1) q = A ++ (L1 ++ (Q' ++ y :: z :: (P ++ B))) := by
          have := SWP_at' (A ++ L1 ++ Q') [] (P ++ B) z y (i := q) (j := q + 1) (by simp; omega) (by simp; omega)
          simpa using this
        have i1 := mget ez
        have i2 := mget ey
        have em := mset ey ez
        obtain ⟨w, ew⟩ := mget2 ey ez
        have hDl : (A ++ (L1 ++ (Q' ++ z :: y :: (P ++ B)))).length = n := by simp only [List.length_append, List.length_cons]; omega
        generalize hD : A ++ (L1 ++ (Q' ++ z :: y :: (P ++ B))) = D at ez ey sw i1 i2 em ew hDl r2 hrow
        simp (maxSteps := 999999) only [E0, seval, -Int.reduceNatCast', NUM, SQU, h17', h14, h0, hd, hf, r2, i1, i2, ew, hDl, Nat.zero_add, Nat.zero_le, List.length_map, List.length_set, Int.toNat_natCast, Int.add_sub_cancel, (show ((q : Int) + 1).toNat = q + 1 by omega), (show (i : Int) < (q : Int) + 1 by omega), (show (0 : Int) ≤ q by omega), (show (0 : Int) ≤ (q : Int) + 1 by omega), (show (q : Int) < n by omega), (show (q : Int) + 1 < n by omega), i64_in (x := (q : Int)) (by unfold I64; omega)] at hW
        subst hW
        rw [if_pos (by kernel_rfl)]
        refine rd_next (Q', z :: P) ?_ (by simp)
        simp (maxSteps := 999999) only [E0, seval, -Int.reduceNatCast', h14, h0, em, sw, hrow]
        refine ⟨hPQ, ?_, by rw [hq]; simp, hnx⟩
        show upd (upd s.H.rows 2 _) 2 _ = _; rw [upd_upd, hrow, upd_upd])
  simp (maxSteps := 999999) only [E0, seval, -Int.reduceNatCast', hd2]
  exact ⟨s2.H.next, by rw [List.append_assoc, List.cons_append, ← hrow2], hnx2⟩
end S
end Go.Proofs.Ytbmmbefgmhhciaa

/-
  The merge of two stretches of quotas in order.
-/
namespace Go.Proofs.Ytbmmbefgmhhciaa
namespace S
open Go GoV
set_option maxRecDepth 100000

/-- A merge of stretches that have together no more members than a number. -/
def SYMP (sz : Nat) : Prop := ∀ (A L R B : List Qu) (a m b n : Nat) (ha : a = A.length) (hm : m = a + L.length) (hb : b = m + R.length) (hlL : 0 < L.length) (hlR : 0 < R.length) (sL : QS L) (sR : QS R) (hI : QI L R)
    (hn : n = (A ++ (L ++ (R ++ B))).length) (hl : n ≤ 1000000) (hsz : L.length + R.length ≤ sz) (H : Heap) (hr : H.rows 2 = some (RW (A ++ (L ++ (R ++ B))))),
    ∃ M, M.Perm (L ++ R) ∧ QS M ∧ ∃ k, callF G Try.prog pol 66 [QG n, I a, I m, I b, CF] H = some (.ret (.tup []), ⟨upd H.rows 2 (some (RW (A ++ (M ++ B)))), k⟩) ∧ H.next ≤ k
set_option maxHeartbeats 2000000 in
theorem c_symS (sz : Nat) (ih : SYMP sz) : SYMP (sz + 1) := by
    intro A L R B a m b n ha hm hb hlL hlR sL sR hI hn hl hsz H hr
    by_cases o1 : L.length = 1
    · obtain ⟨x, rfl⟩ := List.length_eq_one_iff.1 o1
      exact c_sym1 A R B x a m b n ha hm hb sR (fun y hy => hI x (by simp) y hy) hn hl H hr
    by_cases o2 : R.length = 1
    · obtain ⟨y, rfl⟩ := List.length_eq_one_iff.1 o2
      exact c_symr A L B y a m b n ha hm hb (by omega) sL (fun x hx => hI x hx y (by simp)) hn hl H hr
    have iL : ∀ c, a ≤ c → c < m → ∃ x ∈ L, (A ++ (L ++ (R ++ B)))[c]? = some x := fun c h1 h2 =>
      ⟨L[c - a]'(by omega), List.getElem_mem _, by rw [List.getElem?_append_right (by omega), List.getElem?_append_left (by omega), List.getElem?_eq_getElem (by omega)]; congr 2; omega⟩
    have iR : ∀ c, m ≤ c → c < b → ∃ y ∈ R, (A ++ (L ++ (R ++ B)))[c]? = some y := fun c h1 h2 =>
      ⟨R[c - m]'(by omega), List.getElem_mem _, by rw [List.getElem?_append_right (by omega), List.getElem?_append_right (by omega), List.getElem?_append_left (by omega), List.getElem?_eq_getElem (by omega)]; congr 2; omega⟩
    have hDl : (A ++ (L ++ (R ++ B))).length = n := hn.symm
    simp only [List.length_append] at hn
    obtain ⟨mid, hmid⟩ : ∃ mid, mid = (a + b) / 2 := ⟨_, rfl⟩
    obtain ⟨nn, hnn⟩ : ∃ nn, nn = mid + m := ⟨_, rfl⟩
    obtain ⟨pp, hpp⟩ : ∃ pp, pp = nn - 1 := ⟨_, rfl⟩
    have mab := mid_u a b (by omega)
    rw [← hmid] at mab
    obtain ⟨D, hD⟩ : ∃ D, D = A ++ (L ++ (R ++ B)) := ⟨_, rfl⟩
    rw [← hD] at iL iR hDl hr
    by_cases hmm : mid < m
    · obtain ⟨st0, hst⟩ : ∃ st0, st0 = mid + m - b := ⟨_, rfl⟩
      rw [callF_eq _ _ Try.func66 rfl Try.ntmps66 Try.results66 (by kernel_rfl) rfl (by exact Nat.le_of_ble_eq_true rfl)]
      simp (maxSteps := 999999) only [E0, seval, -Int.reduceNatCast', NUM, i64_in (x := (m : Int) - a) (by unfold I64; omega), i64_in (x := (b : Int) - m) (by unfold I64; omega), (show ¬ (m : Int) - a = 1 by omega), (show ¬ (b : Int) - m = 1 by omega), i64_in (x := (a : Int) + b) (by unfold I64; omega), mab, i64_in (x := (mid : Int)) (by unfold I64; omega), (show (mid : Int) + m = nn by omega), i64_in (x := (nn : Int)) (by unfold I64; omega), (show (nn : Int) - 1 = pp by omega), i64_in (x := (pp : Int)) (by unfold I64; omega), (show (mid : Int) < m by omega), (show (nn : Int) - b = st0 by omega), i64_in (x := (st0 : Int)) (by unfold I64; omega)]
      generalize hL : W _ (.loop _) _ = L'
      obtain ⟨ex, s, rfl, rfl, st, b1, b2, k1, k2, h20, h19, h18, h0, h1, h2, h3, h4, hd, hf, hrow, hnx⟩ := loop_at hL (α := Nat × Nat) (fun p => p.2 - p.1)
        (fun s0 p s => st0 ≤ p.1 ∧ p.1 ≤ p.2 ∧ p.2 ≤ mid ∧ (st0 < p.1 → ∀ x y, D[p.1 - 1]? = some x → D[mid + m - p.1]? = some y → ¬ QLT y x) ∧ (p.2 < mid → ∀ x y, D[p.2]? = some x → D[mid + m - 1 - p.2]? = some y → QLT y x) ∧
          s.tmps 20 = I p.1 ∧ s.tmps 21 = I p.2 ∧ s.tmps 22 = I pp ∧ s.tmps 19 = I nn ∧ s.tmps 18 = I mid ∧ s.tmps 0 = QG n ∧ s.tmps 1 = I a ∧ s.tmps 2 = I m ∧ s.tmps 3 = I b ∧ s.tmps 4 = CF ∧ s.defers = [] ∧ s.fid = H.next ∧ s.H.rows = H.rows ∧ H.next ≤ s.H.next)
        (fun s0 ex s => ex = .exit 8 ∧ ∃ st, st0 ≤ st ∧ st ≤ mid ∧ (st0 < st → ∀ x y, D[st - 1]? = some x → D[mid + m - st]? = some y → ¬ QLT y x) ∧ (st < mid → ∀ x y, D[st]? = some x → D[mid + m - 1 - st]? = some y → QLT y x) ∧
          s.tmps 20 = I st ∧ s.tmps 19 = I nn ∧ s.tmps 18 = I mid ∧ s.tmps 0 = QG n ∧ s.tmps 1 = I a ∧ s.tmps 2 = I m ∧ s.tmps 3 = I b ∧ s.tmps 4 = CF ∧ s.defers = [] ∧ s.fid = H.next ∧ s.H.rows = H.rows ∧ H.next ≤ s.H.next) (st0, mid)
        (by simp (maxSteps := 999999) only [E0, seval, -Int.reduceNatCast']
            exact ⟨Nat.le_refl _, by omega, Nat.le_refl _, fun h => by omega, fun h => by omega, by omega⟩) (by
          rintro ⟨i, j⟩ s r hW ⟨q1, q2, q3, k1, k2, h20, h21, h22, h19, h18, h0, h1, h2, h3, h4, hd, hf, hrow, hnx⟩
          dsimp only at q1 q2 q3 k1 k2 h20 h21
          by_cases hp : i < j
          rotate_left
          · simp (maxSteps := 999999) only [E0, seval, -Int.reduceNatCast', h20, h21, hd, hf, (show ¬ (i : Int) < j by omega)] at hW
            subst hW
            obtain rfl : i = j := by omega
            refine rd_exit ⟨rfl, i, q1, q3, k1, k2, ?_⟩
            simp (maxSteps := 999999) only [E0, seval, -Int.reduceNatCast', h20, h19, h18, h0, h1, h2, h3, h4, hrow]
            exact hnx
          obtain ⟨h, hh⟩ : ∃ h, h = (i + j) / 2 := ⟨_, rfl⟩
          have mu := mid_u i j (by omega)
          rw [← hh] at mu
          obtain ⟨x, mx, ex⟩ := iL h (by omega) (by omega)
          obtain ⟨g, hg⟩ : ∃ g, g = mid + m - 1 - h := ⟨_, rfl⟩
          obtain ⟨y, my, ey⟩ := iR g (by omega) (by omega)
          have hxy := hI x mx y my
          have r2 : s.H.rows 2 = some (RW D) := by rw [hrow]; exact hr
          have i1 := mget ex
          have i2 := mget ey
          by_cases hc : x.r < y.r
          · have hcm : CMP y x < 0 := CMP_lt.2 hc
            simp (maxSteps := 999999) only [E0, seval, -Int.reduceNatCast', NUM, SQU, h20, h21, h22, h19, h18, h0, h1, h2, h3, h4, hd, hf, r2, i1, i2, hDl, mu, c_cmp, hcm, Nat.zero_add, Nat.zero_le, List.length_map, Int.toNat_natCast, (show (i : Int) < j by omega), i64_in (x := (i : Int) + j) (by unfold I64; omega), i64_in (x := (h : Int)) (by unfold I64; omega), i64_in (x := (h : Int) + 1) (by unfold I64; omega), (show (pp : Int) - h = g by omega), i64_in (x := (g : Int)) (by unfold I64; omega), (show (0 : Int) ≤ h by omega), (show (0 : Int) ≤ g by omega), (show (h : Int) < n by omega), (show (g : Int) < n by omega)] at hW
            subst hW
            refine rd_next (i, h) ?_ (show h - i < j - i by omega)
            simp (maxSteps := 999999) only [E0, seval, -Int.reduceNatCast', h20, h22, h19, h18, h0, h1, h2, h3, h4, hrow]
            refine ⟨by omega, by omega, by omega, k1, fun _ u v eu ev => ?_, hnx⟩
            rw [ex] at eu; cases eu
            rw [← hg, ey] at ev; cases ev; exact .inl hc
          · have hcm : ¬ CMP y x < 0 := fun h => hc (CMP_lt.1 h)
            simp (maxSteps := 999999) only [E0, seval, -Int.reduceNatCast', NUM, SQU, h20, h21, h22, h19, h18, h0, h1, h2, h3, h4, hd, hf, r2, i1, i2, hDl, mu, c_cmp, hcm, Nat.zero_add, Nat.zero_le, List.length_map, Int.toNat_natCast, (show (i : Int) < j by omega), i64_in (x := (i : Int) + j) (by unfold I64; omega), i64_in (x := (h : Int)) (by unfold I64; omega), i64_in (x := (h : Int) + 1) (by unfold I64; omega), (show (pp : Int) - h = g by omega), i64_in (x := (g : Int)) (by unfold I64; omega), (show (0 : Int) ≤ h by omega), (show (0 : Int) ≤ g by omega), (show (h : Int) < n by omega), (show (g : Int) < n by omega)] at hW
            subst hW
            refine rd_next (h + 1, j) ?_ (show j - (h + 1) < j - i by omega)
            simp (maxSteps := 999999) only [E0, seval, -Int.reduceNatCast', h21, h22, h19, h18, h0, h1, h2, h3, h4, hrow]
            refine ⟨by omega, by omega, by omega, fun _ u v eu ev => ?_, k2, by simp, hnx⟩
            try rw [show h + 1 - 1 = h by omega] at eu
            rw [ex] at eu; cases eu
            rw [show mid + m - (h + 1) = g by omega, ey] at ev; cases ev
            exact fun hq => hc ((QLT_iff hxy).1 hq))
      obtain ⟨e, he⟩ : ∃ e, e = mid + m - st := ⟨_, rfl⟩
      subst hD
      obtain ⟨L1, L2, R1, R2, rfl, rfl, z1, z2, z3, qb⟩ := sym_parts ha hm hb hmid sL sR hI (.inl ⟨by omega, hst, rfl⟩) b1 b2 he k1 k2
      obtain ⟨sL1, sL2, _⟩ := QS_app.1 sL
      obtain ⟨sR1, sR2, _⟩ := QS_app.1 sR
      simp only [List.length_append] at hm hb hn hlL hlR hsz
      obtain ⟨H1, g1, n1, f1, f1'⟩ : ∃ H1 : Heap, H1.rows = upd H.rows 2 (some (RW (A ++ (L1 ++ (R1 ++ (L2 ++ (R2 ++ B))))))) ∧ s.H.next ≤ H1.next ∧ (0 < L2.length ∧ 0 < R1.length → callF G Try.prog pol 76 [QG n, I st, I m, I e, CF] s.H = some (.ret (.tup []), H1)) ∧ (¬ (0 < L2.length ∧ 0 < R1.length) → H1 = s.H) := by
        by_cases c : 0 < L2.length ∧ 0 < R1.length
        · obtain ⟨k, cs, hk⟩ := c_rotate (A ++ L1) L2 R1 (R2 ++ B) st m e n (by simp; omega) (by omega) (by omega) (by simp; omega) c.1 c.2 hl s.H (by rw [hrow, hr]; simp)
          exact ⟨_, by rw [hrow]; simp, hk, fun _ => cs, fun h => absurd c h⟩
        · refine ⟨s.H, ?_, Nat.le_refl _, fun h => absurd h c, fun _ => rfl⟩
          have : L2 = [] ∨ R1 = [] := by
            rcases Nat.eq_zero_or_pos L2.length with h | h
            · exact .inl (List.eq_nil_of_length_eq_zero h)
            · exact .inr (List.eq_nil_of_length_eq_zero (by omega))
          have e1 : A ++ (L1 ++ (R1 ++ (L2 ++ (R2 ++ B)))) = A ++ (L1 ++ L2 ++ (R1 ++ R2 ++ B)) := by rcases this with rfl | rfl <;> simp
          rw [e1, hrow, ← hr, upd_same]
      obtain ⟨M1, p1, s1, H2, g2, n2, f2, f2'⟩ : ∃ M1, M1.Perm (L1 ++ R1) ∧ QS M1 ∧ ∃ H2 : Heap, H2.rows = upd H.rows 2 (some (RW (A ++ (M1 ++ (L2 ++ (R2 ++ B)))))) ∧ H1.next ≤ H2.next ∧ (0 < L1.length ∧ 0 < R1.length → callF G Try.prog pol 66 [QG n, I a, I st, I mid, CF] H1 = some (.ret (.tup []), H2)) ∧ (¬ (0 < L1.length ∧ 0 < R1.length) → H2 = H1) := by
        by_cases c : 0 < L1.length ∧ 0 < R1.length
        · obtain ⟨M1, p1, s1, k, cs, hk⟩ := ih A L1 R1 (L2 ++ (R2 ++ B)) a st mid n ha z1 (by omega) c.1 c.2 sL1 sR1 (fun u hu v hv => hI u (by simp [hu]) v (by simp [hv])) (by simp; omega) hl (by omega) H1 (by rw [g1]; simp)
          exact ⟨M1, p1, s1, _, by rw [g1, upd_upd], hk, fun _ => cs, fun h => absurd c h⟩
        · have : L1 = [] ∨ R1 = [] := by
            rcases Nat.eq_zero_or_pos L1.length with h | h
            · exact .inl (List.eq_nil_of_length_eq_zero h)
            · exact .inr (List.eq_nil_of_length_eq_zero (by omega))
          refine ⟨L1 ++ R1, .refl _, by rcases this with rfl | rfl <;> simpa, H1, by rw [g1]; simp, Nat.le_refl _, fun h => absurd h c, fun _ => rfl⟩
      have lm1 := p1.length_eq
      rw [List.length_append] at lm1
      obtain ⟨M2, p2, s2, H3, g3, n3, f3, f3'⟩ : ∃ M2, M2.Perm (L2 ++ R2) ∧ QS M2 ∧ ∃ H3 : Heap, H3.rows = upd H.rows 2 (some (RW (A ++ (M1 ++ (M2 ++ B))))) ∧ H2.next ≤ H3.next ∧ (0 < L2.length ∧ 0 < R2.length → callF G Try.prog pol 66 [QG n, I mid, I e, I b, CF] H2 = some (.ret (.tup []), H3)) ∧ (¬ (0 < L2.length ∧ 0 < R2.length) → H3 = H2) := by
        by_cases c : 0 < L2.length ∧ 0 < R2.length
        · obtain ⟨M2, p2, s2, k, cs, hk⟩ := ih (A ++ M1) L2 R2 B mid e b n (by simp; omega) (by omega) (by omega) c.1 c.2 sL2 sR2 (fun u hu v hv => hI u (by simp [hu]) v (by simp [hv])) (by simp; omega) hl (by omega) H2 (by rw [g2]; simp)
          exact ⟨M2, p2, s2, _, by rw [g2, upd_upd, List.append_assoc], hk, fun _ => cs, fun h => absurd c h⟩
        · have : L2 = [] ∨ R2 = [] := by
            rcases Nat.eq_zero_or_pos L2.length with h | h
            · exact .inl (List.eq_nil_of_length_eq_zero h)
            · exact .inr (List.eq_nil_of_length_eq_zero (by omega))
          refine ⟨L2 ++ R2, .refl _, by rcases this with rfl | rfl <;> simpa, H2, by rw [g2]; simp, Nat.le_refl _, fun h => absurd h c, fun _ => rfl⟩
      refine ⟨M1 ++ M2, ?_, QS_app.2 ⟨s1, s2, qb.perm p1 p2⟩, H3.next, ?_, by omega⟩
      · refine (p1.append p2).trans ?_
        rw [List.append_assoc, List.append_assoc]
        refine List.Perm.append_left L1 ?_
        rw [← List.append_assoc, ← List.append_assoc]
        exact List.Perm.append_right R2 List.perm_append_comm
      have h24 : (nn : Int) - st = e := by omega
      have w24 := i64_in (x := (e : Int)) (by unfold I64; omega)
      rw [List.append_assoc M1, ← g3]
      clear k1 k2 g1 g2 g3 hL
      rcases Nat.eq_zero_or_pos L1.length with x1 | x1 <;> rcases Nat.eq_zero_or_pos R1.length with y1 | y1 <;> rcases Nat.eq_zero_or_pos L2.length with x2 | x2 <;> rcases Nat.eq_zero_or_pos R2.length with y2 | y2
      · exfalso; omega
      · exfalso; omega
      · exfalso; omega
      · exfalso; omega
      · exfalso; omega
      · obtain rfl := f1' (by omega)
        obtain rfl := f2' (by omega)
        obtain rfl := f3' (by omega)
        simp (maxSteps := 999999) only [E0, seval, -Int.reduceNatCast', NUM, h20, h19, h18, h0, h1, h2, h3, h4, hd, hf, h24, w24, (show ¬ (st : Int) < m by omega), (show (m : Int) < e by omega), (show ¬ (a : Int) < st by omega), (show (st : Int) < mid by omega), (show ¬ (mid : Int) < e by omega), (show (e : Int) < b by omega)]
      · have cs1 := f1 ⟨x2, y1⟩
        obtain rfl := f2' (by omega)
        obtain rfl := f3' (by omega)
        simp (maxSteps := 999999) only [E0, seval, -Int.reduceNatCast', NUM, h20, h19, h18, h0, h1, h2, h3, h4, hd, hf, h24, w24, (show (st : Int) < m by omega), (show (m : Int) < e by omega), (show ¬ (a : Int) < st by omega), (show (st : Int) < mid by omega), (show (mid : Int) < e by omega), (show ¬ (e : Int) < b by omega), cs1]
      · have cs1 := f1 ⟨x2, y1⟩
        obtain rfl := f2' (by omega)
        have cs3 := f3 ⟨x2, y2⟩
        simp (maxSteps := 999999) only [E0, seval, -Int.reduceNatCast', NUM, h20, h19, h18, h0, h1, h2, h3, h4, hd, hf, h24, w24, (show (st : Int) < m by omega), (show (m : Int) < e by omega), (show ¬ (a : Int) < st by omega), (show (st : Int) < mid by omega), (show (mid : Int) < e by omega), (show (e : Int) < b by omega), cs1, cs3]
      · exfalso; omega
      · obtain rfl := f1' (by omega)
        obtain rfl := f2' (by omega)
        obtain rfl := f3' (by omega)
        simp (maxSteps := 999999) only [E0, seval, -Int.reduceNatCast', NUM, h20, h19, h18, h0, h1, h2, h3, h4, hd, hf, h24, w24, (show ¬ (st : Int) < m by omega), (show ¬ (m : Int) < e by omega), (show (a : Int) < st by omega), (show ¬ (st : Int) < mid by omega), (show ¬ (mid : Int) < e by omega), (show (e : Int) < b by omega)]
      · obtain rfl := f1' (by omega)
        obtain rfl := f2' (by omega)
        obtain rfl := f3' (by omega)
        simp (maxSteps := 999999) only [E0, seval, -Int.reduceNatCast', NUM, h20, h19, h18, h0, h1, h2, h3, h4, hd, hf, h24, w24, (show (st : Int) < m by omega), (show ¬ (m : Int) < e by omega), (show (a : Int) < st by omega), (show ¬ (st : Int) < mid by omega), (show (mid : Int) < e by omega), (show ¬ (e : Int) < b by omega)]
      · obtain rfl := f1' (by omega)
        obtain rfl := f2' (by omega)
        have cs3 := f3 ⟨x2, y2⟩
        simp (maxSteps := 999999) only [E0, seval, -Int.reduceNatCast', NUM, h20, h19, h18, h0, h1, h2, h3, h4, hd, hf, h24, w24, (show (st : Int) < m by omega), (show ¬ (m : Int) < e by omega), (show (a : Int) < st by omega), (show ¬ (st : Int) < mid by omega), (show (mid : Int) < e by omega), (show (e : Int) < b by omega), cs3]
      · exfalso; omega
      · obtain rfl := f1' (by omega)
        have cs2 := f2 ⟨x1, y1⟩
        obtain rfl := f3' (by omega)
        simp (maxSteps := 999999) only [E0, seval, -Int.reduceNatCast', NUM, h20, h19, h18, h0, h1, h2, h3, h4, hd, hf, h24, w24, (show ¬ (st : Int) < m by omega), (show (m : Int) < e by omega), (show (a : Int) < st by omega), (show (st : Int) < mid by omega), (show ¬ (mid : Int) < e by omega), (show (e : Int) < b by omega), cs2]
      · have cs1 := f1 ⟨x2, y1⟩
        have cs2 := f2 ⟨x1, y1⟩
        obtain rfl := f3' (by omega)
        simp (maxSteps := 999999) only [E0, seval, -Int.reduceNatCast', NUM, h20, h19, h18, h0, h1, h2, h3, h4, hd, hf, h24, w24, (show (st : Int) < m by omega), (show (m : Int) < e by omega), (show (a : Int) < st by omega), (show (st : Int) < mid by omega), (show (mid : Int) < e by omega), (show ¬ (e : Int) < b by omega), cs1, cs2]
      · have cs1 := f1 ⟨x2, y1⟩
        have cs2 := f2 ⟨x1, y1⟩
        have cs3 := f3 ⟨x2, y2⟩
        simp (maxSteps := 999999) only [E0, seval, -Int.reduceNatCast', NUM, h20, h19, h18, h0, h1, h2, h3, h4, hd, hf, h24, w24, (show (st : Int) < m by omega), (show (m : Int) < e by omega), (show (a : Int) < st by omega), (show (st : Int) < mid by omega), (show (mid : Int) < e by omega), (show (e : Int) < b by omega), cs1, cs2, cs3]
    · rw [callF_eq _ _ Try.func66 rfl Try.ntmps66 Try.results66 (by kernel_rfl) rfl (by exact Nat.le_of_ble_eq_true rfl)]
      simp (maxSteps := 999999) only [E0, seval, -Int.reduceNatCast', NUM, i64_in (x := (m : Int) - a) (by unfold I64; omega), i64_in (x := (b : Int) - m) (by unfold I64; omega), (show ¬ (m : Int) - a = 1 by omega), (show ¬ (b : Int) - m = 1 by omega), i64_in (x := (a : Int) + b) (by unfold I64; omega), mab, i64_in (x := (mid : Int)) (by unfold I64; omega), (show (mid : Int) + m = nn by omega), i64_in (x := (nn : Int)) (by unfold I64; omega), (show (nn : Int) - 1 = pp by omega), i64_in (x := (pp : Int)) (by unfold I64; omega), (show ¬ (mid : Int) < m by omega)]
      generalize hL : W _ (.loop _) _ = L'
      obtain ⟨ex, s, rfl, rfl, st, b1, b2, k1, k2, h20, h19, h18, h0, h1, h2, h3, h4, hd, hf, hrow, hnx⟩ := loop_at hL (α := Nat × Nat) (fun p => p.2 - p.1)
        (fun s0 p s => a ≤ p.1 ∧ p.1 ≤ p.2 ∧ p.2 ≤ m ∧ (a < p.1 → ∀ x y, D[p.1 - 1]? = some x → D[mid + m - p.1]? = some y → ¬ QLT y x) ∧ (p.2 < m → ∀ x y, D[p.2]? = some x → D[mid + m - 1 - p.2]? = some y → QLT y x) ∧
          s.tmps 20 = I p.1 ∧ s.tmps 21 = I p.2 ∧ s.tmps 22 = I pp ∧ s.tmps 19 = I nn ∧ s.tmps 18 = I mid ∧ s.tmps 0 = QG n ∧ s.tmps 1 = I a ∧ s.tmps 2 = I m ∧ s.tmps 3 = I b ∧ s.tmps 4 = CF ∧ s.defers = [] ∧ s.fid = H.next ∧ s.H.rows = H.rows ∧ H.next ≤ s.H.next)
        (fun s0 ex s => ex = .exit 8 ∧ ∃ st, a ≤ st ∧ st ≤ m ∧ (a < st → ∀ x y, D[st - 1]? = some x → D[mid + m - st]? = some y → ¬ QLT y x) ∧ (st < m → ∀ x y, D[st]? = some x → D[mid + m - 1 - st]? = some y → QLT y x) ∧
          s.tmps 20 = I st ∧ s.tmps 19 = I nn ∧ s.tmps 18 = I mid ∧ s.tmps 0 = QG n ∧ s.tmps 1 = I a ∧ s.tmps 2 = I m ∧ s.tmps 3 = I b ∧ s.tmps 4 = CF ∧ s.defers = [] ∧ s.fid = H.next ∧ s.H.rows = H.rows ∧ H.next ≤ s.H.next) (a, m)
        (by simp (maxSteps := 999999) only [E0, seval, -Int.reduceNatCast']
            exact ⟨Nat.le_refl _, by omega, Nat.le_refl _, fun h => by omega, fun h => by omega, by omega⟩) (by
          rintro ⟨i, j⟩ s r hW ⟨q1, q2, q3, k1, k2, h20, h21, h22, h19, h18, h0, h1, h2, h3, h4, hd, hf, hrow, hnx⟩
          dsimp only at q1 q2 q3 k1 k2 h20 h21
          by_cases hp : i < j
          rotate_left
          · simp (maxSteps := 999999) only [E0, seval, -Int.reduceNatCast', h20, h21, hd, hf, (show ¬ (i : Int) < j by omega)] at hW
            subst hW
            obtain rfl : i = j := by omega
            refine rd_exit ⟨rfl, i, q1, q3, k1, k2, ?_⟩
            simp (maxSteps := 999999) only [E0, seval, -Int.reduceNatCast', h20, h19, h18, h0, h1, h2, h3, h4, hrow]
            exact hnx
          obtain ⟨h, hh⟩ : ∃ h, h = (i + j) / 2 := ⟨_, rfl⟩
          have mu := mid_u i j (by omega)
          rw [← hh] at mu
          obtain ⟨x, mx, ex⟩ := iL h (by omega) (by omega)
          obtain ⟨g, hg⟩ : ∃ g, g = mid + m - 1 - h := ⟨_, rfl⟩
          obtain ⟨y, my, ey⟩ := iR g (by omega) (by omega)
          have hxy := hI x mx y my
          have r2 : s.H.rows 2 = some (RW D) := by rw [hrow]; exact hr
          have i1 := mget ex
          have i2 := mget ey
          by_cases hc : x.r < y.r
          · have hcm : CMP y x < 0 := CMP_lt.2 hc
            simp (maxSteps := 999999) only [E0, seval, -Int.reduceNatCast', NUM, SQU, h20, h21, h22, h19, h18, h0, h1, h2, h3, h4, hd, hf, r2, i1, i2, hDl, mu, c_cmp, hcm, Nat.zero_add, Nat.zero_le, List.length_map, Int.toNat_natCast, (show (i : Int) < j by omega), i64_in (x := (i : Int) + j) (by unfold I64; omega), i64_in (x := (h : Int)) (by unfold I64; omega), i64_in (x := (h : Int) + 1) (by unfold I64; omega), (show (pp : Int) - h = g by omega), i64_in (x := (g : Int)) (by unfold I64; omega), (show (0 : Int) ≤ h by omega), (show (0 : Int) ≤ g by omega), (show (h : Int) < n by omega), (show (g : Int) < n by omega)] at hW
            subst hW
            refine rd_next (i, h) ?_ (show h - i < j - i by omega)
            simp (maxSteps := 999999) only [E0, seval, -Int.reduceNatCast', h20, h22, h19, h18, h0, h1, h2, h3, h4, hrow]
            refine ⟨by omega, by omega, by omega, k1, fun _ u v eu ev => ?_, hnx⟩
            rw [ex] at eu; cases eu
            rw [← hg, ey] at ev; cases ev; exact .inl hc
          · have hcm : ¬ CMP y x < 0 := fun h => hc (CMP_lt.1 h)
            simp (maxSteps := 999999) only [E0, seval, -Int.reduceNatCast', NUM, SQU, h20, h21, h22, h19, h18, h0, h1, h2, h3, h4, hd, hf, r2, i1, i2, hDl, mu, c_cmp, hcm, Nat.zero_add, Nat.zero_le, List.length_map, Int.toNat_natCast, (show (i : Int) < j by omega), i64_in (x := (i : Int) + j) (by unfold I64; omega), i64_in (x := (h : Int)) (by unfold I64; omega), i64_in (x := (h : Int) + 1) (by unfold I64; omega), (show (pp : Int) - h = g by omega), i64_in (x := (g : Int)) (by unfold I64; omega), (show (0 : Int) ≤ h by omega), (show (0 : Int) ≤ g by omega), (show (h : Int) < n by omega), (show (g : Int) < n by omega)] at hW
            subst hW
            refine rd_next (h + 1, j) ?_ (show j - (h + 1) < j - i by omega)
            simp (maxSteps := 999999) only [E0, seval, -Int.reduceNatCast', h21, h22, h19, h18, h0, h1, h2, h3, h4, hrow]
            refine ⟨by omega, by omega, by omega, fun _ u v eu ev => ?_, k2, by simp, hnx⟩
            try rw [show h + 1 - 1 = h by omega] at eu
            rw [ex] at eu; cases eu
            rw [show mid + m - (h + 1) = g by omega, ey] at ev; cases ev
            exact fun hq => hc ((QLT_iff hxy).1 hq))
      obtain ⟨e, he⟩ : ∃ e, e = mid + m - st := ⟨_, rfl⟩
      subst hD
      obtain ⟨L1, L2, R1, R2, rfl, rfl, z1, z2, z3, qb⟩ := sym_parts ha hm hb hmid sL sR hI (.inr ⟨by omega, rfl, rfl⟩) b1 b2 he k1 k2
      obtain ⟨sL1, sL2, _⟩ := QS_app.1 sL
      obtain ⟨sR1, sR2, _⟩ := QS_app.1 sR
      simp only [List.length_append] at hm hb hn hlL hlR hsz
      obtain ⟨H1, g1, n1, f1, f1'⟩ : ∃ H1 : Heap, H1.rows = upd H.rows 2 (some (RW (A ++ (L1 ++ (R1 ++ (L2 ++ (R2 ++ B))))))) ∧ s.H.next ≤ H1.next ∧ (0 < L2.length ∧ 0 < R1.length → callF G Try.prog pol 76 [QG n, I st, I m, I e, CF] s.H = some (.ret (.tup []), H1)) ∧ (¬ (0 < L2.length ∧ 0 < R1.length) → H1 = s.H) := by
        by_cases c : 0 < L2.length ∧ 0 < R1.length
        · obtain ⟨k, cs, hk⟩ := c_rotate (A ++ L1) L2 R1 (R2 ++ B) st m e n (by simp; omega) (by omega) (by omega) (by simp; omega) c.1 c.2 hl s.H (by rw [hrow, hr]; simp)
          exact ⟨_, by rw [hrow]; simp, hk, fun _ => cs, fun h => absurd c h⟩
        · refine ⟨s.H, ?_, Nat.le_refl _, fun h => absurd h c, fun _ => rfl⟩
          have : L2 = [] ∨ R1 = [] := by
            rcases Nat.eq_zero_or_pos L2.length with h | h
            · exact .inl (List.eq_nil_of_length_eq_zero h)
            · exact .inr (List.eq_nil_of_length_eq_zero (by omega))
          have e1 : A ++ (L1 ++ (R1 ++ (L2 ++ (R2 ++ B)))) = A ++ (L1 ++ L2 ++ (R1 ++ R2 ++ B)) := by rcases this with rfl | rfl <;> simp
          rw [e1, hrow, ← hr, upd_same]
      obtain ⟨M1, p1, s1, H2, g2, n2, f2, f2'⟩ : ∃ M1, M1.Perm (L1 ++ R1) ∧ QS M1 ∧ ∃ H2 : Heap, H2.rows = upd H.rows 2 (some (RW (A ++ (M1 ++ (L2 ++ (R2 ++ B)))))) ∧ H1.next ≤ H2.next ∧ (0 < L1.length ∧ 0 < R1.length → callF G Try.prog pol 66 [QG n, I a, I st, I mid, CF] H1 = some (.ret (.tup []), H2)) ∧ (¬ (0 < L1.length ∧ 0 < R1.length) → H2 = H1) := by
        by_cases c : 0 < L1.length ∧ 0 < R1.length
        · obtain ⟨M1, p1, s1, k, cs, hk⟩ := ih A L1 R1 (L2 ++ (R2 ++ B)) a st mid n ha z1 (by omega) c.1 c.2 sL1 sR1 (fun u hu v hv => hI u (by simp [hu]) v (by simp [hv])) (by simp; omega) hl (by omega) H1 (by rw [g1]; simp)
          exact ⟨M1, p1, s1, _, by rw [g1, upd_upd], hk, fun _ => cs, fun h => absurd c h⟩
        · have : L1 = [] ∨ R1 = [] := by
            rcases Nat.eq_zero_or_pos L1.length with h | h
            · exact .inl (List.eq_nil_of_length_eq_zero h)
            · exact .inr (List.eq_nil_of_length_eq_zero (by omega))
          refine ⟨L1 ++ R1, .refl _, by rcases this with rfl | rfl <;> simpa, H1, by rw [g1]; simp, Nat.le_refl _, fun h => absurd h c, fun _ => rfl⟩
      have lm1 := p1.length_eq
      rw [List.length_append] at lm1
      obtain ⟨M2, p2, s2, H3, g3, n3, f3, f3'⟩ : ∃ M2, M2.Perm (L2 ++ R2) ∧ QS M2 ∧ ∃ H3 : Heap, H3.rows = upd H.rows 2 (some (RW (A ++ (M1 ++ (M2 ++ B))))) ∧ H2.next ≤ H3.next ∧ (0 < L2.length ∧ 0 < R2.length → callF G Try.prog pol 66 [QG n, I mid, I e, I b, CF] H2 = some (.ret (.tup []), H3)) ∧ (¬ (0 < L2.length ∧ 0 < R2.length) → H3 = H2) := by
        by_cases c : 0 < L2.length ∧ 0 < R2.length
        · obtain ⟨M2, p2, s2, k, cs, hk⟩ := ih (A ++ M1) L2 R2 B mid e b n (by simp; omega) (by omega) (by omega) c.1 c.2 sL2 sR2 (fun u hu v hv => hI u (by simp [hu]) v (by simp [hv])) (by simp; omega) hl (by omega) H2 (by rw [g2]; simp)
          exact ⟨M2, p2, s2, _, by rw [g2, upd_upd, List.append_assoc], hk, fun _ => cs, fun h => absurd c h⟩
        · have : L2 = [] ∨ R2 = [] := by
            rcases Nat.eq_zero_or_pos L2.length with h | h
            · exact .inl (List.eq_nil_of_length_eq_zero h)
            · exact .inr (List.eq_nil_of_length_eq_zero (by omega))
          refine ⟨L2 ++ R2, .refl _, by rcases this with rfl | rfl <;> simpa, H2, by rw [g2]; simp, Nat.le_refl _, fun h => absurd h c, fun _ => rfl⟩
      refine ⟨M1 ++ M2, ?_, QS_app.2 ⟨s1, s2, qb.perm p1 p2⟩, H3.next, ?_, by omega⟩
      · refine (p1.append p2).trans ?_
        rw [List.append_assoc, List.append_assoc]
        refine List.Perm.append_left L1 ?_
        rw [← List.append_assoc, ← List.append_assoc]
        exact List.Perm.append_right R2 List.perm_append_comm
      have h24 : (nn : Int) - st = e := by omega
      have w24 := i64_in (x := (e : Int)) (by unfold I64; omega)
      rw [List.append_assoc M1, ← g3]
      clear k1 k2 g1 g2 g3 hL
      rcases Nat.eq_zero_or_pos L1.length with x1 | x1 <;> rcases Nat.eq_zero_or_pos R1.length with y1 | y1 <;> rcases Nat.eq_zero_or_pos L2.length with x2 | x2 <;> rcases Nat.eq_zero_or_pos R2.length with y2 | y2
      · exfalso; omega
      · exfalso; omega
      · exfalso; omega
      · exfalso; omega
      · exfalso; omega
      · obtain rfl := f1' (by omega)
        obtain rfl := f2' (by omega)
        obtain rfl := f3' (by omega)
        simp (maxSteps := 999999) only [E0, seval, -Int.reduceNatCast', NUM, h20, h19, h18, h0, h1, h2, h3, h4, hd, hf, h24, w24, (show ¬ (st : Int) < m by omega), (show (m : Int) < e by omega), (show ¬ (a : Int) < st by omega), (show (st : Int) < mid by omega), (show ¬ (mid : Int) < e by omega), (show (e : Int) < b by omega)]
      · have cs1 := f1 ⟨x2, y1⟩
        obtain rfl := f2' (by omega)
        obtain rfl := f3' (by omega)
        simp (maxSteps := 999999) only [E0, seval, -Int.reduceNatCast', NUM, h20, h19, h18, h0, h1, h2, h3, h4, hd, hf, h24, w24, (show (st : Int) < m by omega), (show (m : Int) < e by omega), (show ¬ (a : Int) < st by omega), (show (st : Int) < mid by omega), (show (mid : Int) < e by omega), (show ¬ (e : Int) < b by omega), cs1]
      · have cs1 := f1 ⟨x2, y1⟩
        obtain rfl := f2' (by omega)
        have cs3 := f3 ⟨x2, y2⟩
        simp (maxSteps := 999999) only [E0, seval, -Int.reduceNatCast', NUM, h20, h19, h18, h0, h1, h2, h3, h4, hd, hf, h24, w24, (show (st : Int) < m by omega), (show (m : Int) < e by omega), (show ¬ (a : Int) < st by omega), (show (st : Int) < mid by omega), (show (mid : Int) < e by omega), (show (e : Int) < b by omega), cs1, cs3]
      · exfalso; omega
      · obtain rfl := f1' (by omega)
        obtain rfl := f2' (by omega)
        obtain rfl := f3' (by omega)
        simp (maxSteps := 999999) only [E0, seval, -Int.reduceNatCast', NUM, h20, h19, h18, h0, h1, h2, h3, h4, hd, hf, h24, w24, (show ¬ (st : Int) < m by omega), (show ¬ (m : Int) < e by omega), (show (a : Int) < st by omega), (show ¬ (st : Int) < mid by omega), (show ¬ (mid : Int) < e by omega), (show (e : Int) < b by omega)]
      · obtain rfl := f1' (by omega)
        obtain rfl := f2' (by omega)
        obtain rfl := f3' (by omega)
        simp (maxSteps := 999999) only [E0, seval, -Int.reduceNatCast', NUM, h20, h19, h18, h0, h1, h2, h3, h4, hd, hf, h24, w24, (show (st : Int) < m by omega), (show ¬ (m : Int) < e by omega), (show (a : Int) < st by omega), (show ¬ (st : Int) < mid by omega), (show (mid : Int) < e by omega), (show ¬ (e : Int) < b by omega)]
      · obtain rfl := f1' (by omega)
        obtain rfl := f2' (by omega)
        have cs3 := f3 ⟨x2, y2⟩
        simp (maxSteps := 999999) only [E0, seval, -Int.reduceNatCast', NUM, h20, h19, h18, h0, h1, h2, h3, h4, hd, hf, h24, w24, (show (st : Int) < m by omega), (show ¬ (m : Int) < e by omega), (show (a : Int) < st by omega), (show ¬ (st : Int) < mid by omega), (show (mid : Int) < e by omega), (show (e : Int) < b by omega), cs3]
      · exfalso; omega
      · obtain rfl := f1' (by omega)
        have cs2 := f2 ⟨x1, y1⟩
        obtain rfl := f3' (by omega)
        simp (maxSteps := 999999) only [E0, seval, -Int.reduceNatCast', NUM, h20, h19, h18, h0, h1, h2, h3, h4, hd, hf, h24, w24, (show ¬ (st : Int) < m by omega), (show (m : Int) < e by omega), (show (a : Int) < st by omega), (show (st : Int) < mid by omega), (show ¬ (mid : Int) < e by omega), (show (e : Int) < b by omega), cs2]
      · have cs1 := f1 ⟨x2, y1⟩
        have cs2 := f2 ⟨x1, y1⟩
        obtain rfl := f3' (by omega)
        simp (maxSteps := 999999) only [E0, seval, -Int.reduceNatCast', NUM, h20, h19, h18, h0, h1, h2, h3, h4, hd, hf, h24, w24, (show (st : Int) < m by omega), (show (m : Int) < e by omega), (show (a : Int) < st by omega), (show (st : Int) < mid by omega), (show (mid : Int) < e by omega), (show ¬ (e : Int) < b by omega), cs1, cs2]
      · have cs1 := f1 ⟨x2, y1⟩
        have cs2 := f2 ⟨x1, y1⟩
        have cs3 := f3 ⟨x2, y2⟩
        simp (maxSteps := 999999) only [E0, seval, -Int.reduceNatCast', NUM, h20, h19, h18, h0, h1, h2, h3, h4, hd, hf, h24, w24, (show (st : Int) < m by omega), (show (m : Int) < e by omega), (show (a : Int) < st by omega), (show (st : Int) < mid by omega), (show (mid : Int) < e by omega), (show (e : Int) < b by omega), cs1, cs2, cs3]
theorem c_sym : ∀ sz, SYMP sz
  | 0, _, L, _, _, _, _, _, _, _, _, _, hlL, hlR, _, _, _, _, _, hsz, _, _ => by omega
  | sz + 1, A, L, R, B, a, m, b, n, ha, hm, hb, hlL, hlR, sL, sR, hI, hn, hl, hsz, H, hr => c_symS sz (c_sym sz) A L R B a m b n ha hm hb hlL hlR sL sR hI hn hl hsz H hr
end S
end Go.Proofs.Ytbmmbefgmhhciaa

/-
  The whole order: stretches of twenty, merged.
-/
namespace Go.Proofs.Ytbmmbefgmhhciaa
namespace S
open Go GoV
set_option maxRecDepth 100000

/-- Places within bounds. -/
def QW (o k : Nat) (l : List Qu) : Prop := ∀ x ∈ l, (o : Int) ≤ x.ix ∧ x.ix < (o : Int) + k
/-- In order stretch by stretch. -/
inductive SB (s : Nat) : Nat → List Qu → Prop
  | last (o : Nat) (d : List Qu) : d.length ≤ s → QS d → QW o s d → SB s o d
  | more (o : Nat) (c d : List Qu) : c.length = s → QS c → QW o s c → SB s (o + s) d → SB s o (c ++ d)
theorem SB_split {s o : Nat} {d : List Qu} (h : SB s o d) (hl : s ≤ d.length) : ∃ c d', d = c ++ d' ∧ c.length = s ∧ QS c ∧ QW o s c ∧ SB s (o + s) d' := by
  cases h with
  | last _ _ h1 h2 h3 => exact ⟨d, [], by simp, by omega, h2, h3, .last _ _ (by simp) (by simp) (fun x hx => by simp at hx)⟩
  | more _ c d' h1 h2 h3 h4 => exact ⟨c, d', rfl, h1, h2, h3, h4⟩
theorem SB_last {s o : Nat} {d : List Qu} (h : SB s o d) (hl : d.length ≤ s) (hs : 0 < s) : QS d ∧ QW o s d := by
  cases h with
  | last _ _ h1 h2 h3 => exact ⟨h2, h3⟩
  | more _ c d' h1 h2 h3 h4 =>
    have : d' = [] := List.eq_nil_of_length_eq_zero (by simp at hl; omega)
    subst this
    simpa using ⟨h2, h3⟩
theorem QW.wide {o k k' : Nat} {l : List Qu} (h : QW o k l) (hk : k ≤ k') : QW o k' l := fun x hx => by have := h x hx; omega
theorem QW.perm {o k : Nat} {l m : List Qu} (h : QW o k l) (p : m.Perm l) : QW o k m := fun x hx => h x (p.mem_iff.1 hx)
theorem QW.two {o s k : Nat} {c d p : List Qu} (h : QW o s c) (h' : QW (o + s) k d) (q : p.Perm (c ++ d)) : QW o (s + k) p := fun x hx => by
  rcases List.mem_append.1 (q.mem_iff.1 hx) with hx | hx
  · have := h x hx; omega
  · have := h' x hx; omega
theorem QW.before {o s k : Nat} {c d : List Qu} (h : QW o s c) (h' : QW (o + s) k d) : QI c d := fun x hx y hy => by
  have := h x hx; have := h' y hy; omega
/-- The places are the members' own. -/
def OWN (o : Nat) (d : List Qu) : Prop := ∀ (i : Nat) (x : Qu), d[i]? = some x → x.ix = (o : Int) + i
theorem OWN.split {o : Nat} {c d : List Qu} (h : OWN o (c ++ d)) : OWN o c ∧ OWN (o + c.length) d :=
  ⟨fun i x e => h i x (by rw [List.getElem?_append_left (List.getElem?_eq_some_iff.1 e).1]; exact e), fun i x e => by
    have := h (c.length + i) x (by rw [List.getElem?_append_right (by omega)]; simpa using e)
    omega⟩
theorem OWN.w {o : Nat} {d : List Qu} (h : OWN o d) : QW o d.length d := fun x hx => by
  obtain ⟨i, e⟩ := List.mem_iff_getElem?.1 hx
  have := h i x e
  have := (List.getElem?_eq_some_iff.1 e).1
  omega
theorem OWN.x {o : Nat} {d : List Qu} (h : OWN o d) : QX d := by
  refine List.pairwise_iff_getElem.2 fun i j hi hj hij => ?_
  have h1 := h i _ (List.getElem?_eq_getElem hi)
  have h2 := h j _ (List.getElem?_eq_getElem hj)
  omega
theorem perm_mid {A B X Y : List Qu} (h : X.Perm Y) : (A ++ (X ++ B)).Perm (A ++ (Y ++ B)) := List.Perm.append_left A (List.Perm.append_right B h)
theorem c_stable (S : List Qu) (n : Nat) (ho : OWN 0 S) (hn : n = S.length) (hl : n ≤ 1000000) (H : Heap) (hr : H.rows 2 = some (RW S)) :
    ∃ M, M.Perm S ∧ QS M ∧ ∃ k, callF G Try.prog pol 53 [QG n, I n, CF] H = some (.ret (.tup []), ⟨upd H.rows 2 (some (RW M)), k⟩) ∧ H.next ≤ k := by
  rw [callF_eq _ _ Try.func53 rfl Try.ntmps53 Try.results53 (by kernel_rfl) rfl (by exact Nat.le_of_ble_eq_true rfl)]
  simp (maxSteps := 999999) only [E0, seval, -Int.reduceNatCast']
  generalize hL : W _ (.loop _) _ = L
  obtain ⟨ex, s, rfl, rfl, M, d, h1, h2, h3, h4, h5, hrow, h6, h7, h0, h1', h2', hd, hf, hnx⟩ := loop_at hL (α := List Qu × List Qu) (fun p => p.2.length)
    (fun s0 p s => (p.1 ++ p.2).Perm S ∧ OWN p.1.length p.2 ∧ (∀ d', SB 20 p.1.length d' → SB 20 0 (p.1 ++ d')) ∧ s.H.rows = upd H.rows 2 (some (RW (p.1 ++ p.2))) ∧ s.tmps 6 = I 20 ∧ s.tmps 7 = I p.1.length ∧ s.tmps 8 = I (p.1.length + 20) ∧ s.tmps 0 = QG n ∧ s.tmps 1 = I n ∧ s.tmps 2 = CF ∧ s.defers = [] ∧ s.fid = H.next ∧ H.next ≤ s.H.next)
    (fun s0 ex s => ex = .exit 0 ∧ ∃ M d : List Qu, (M ++ d).Perm S ∧ d.length < 20 ∧ OWN M.length d ∧ (∀ d', SB 20 M.length d' → SB 20 0 (M ++ d')) ∧ M.length + d.length = n ∧ s.H.rows = upd H.rows 2 (some (RW (M ++ d))) ∧ s.tmps 6 = I 20 ∧ s.tmps 7 = I M.length ∧ s.tmps 0 = QG n ∧ s.tmps 1 = I n ∧ s.tmps 2 = CF ∧ s.defers = [] ∧ s.fid = H.next ∧ H.next ≤ s.H.next) ([], S)
    (by simp (maxSteps := 999999) only [E0, seval, -Int.reduceNatCast']
        refine ⟨.refl _, ho, fun d' h => h, by rw [← hr, upd_same], by simp, by simp, by omega⟩) (by
      rintro ⟨M, d⟩ s r hW ⟨hp, hw, hb, hrow, h6, h7, h8, h0, h1, h2, hd, hf, hnx⟩
      dsimp only at hp hw hb hrow h7 h8
      have hlen := hp.length_eq
      rw [List.length_append] at hlen
      by_cases hlt : M.length + 20 ≤ n
      rotate_left
      · simp (maxSteps := 999999) only [E0, seval, -Int.reduceNatCast', h8, h1, hd, hf, (show ¬ (M.length : Int) + 20 ≤ n by omega)] at hW
        subst hW
        refine rd_exit ⟨rfl, M, d, hp, by omega, hw, hb, by omega, ?_⟩
        simp (maxSteps := 999999) only [E0, seval, -Int.reduceNatCast', hrow, h6, h7, h0, h1, h2]
        exact hnx
      obtain ⟨c, d', rfl, hc⟩ := part_at d 20 (by omega)
      obtain ⟨w1, w2⟩ := hw.split
      rw [List.length_append] at hlen
      obtain ⟨z, hz⟩ : ∃ z, z = M.length + 20 := ⟨_, rfl⟩
      have h8' : s.tmps 8 = I z := by rw [h8, hz]; simp
      obtain ⟨C, p1, s1, k, cs, hk⟩ := c_insertion M c d' M.length z n rfl (by omega) w1.x (by simp; omega) hl s.H (by rw [hrow]; simp)
      simp (maxSteps := 999999) only [E0, seval, -Int.reduceNatCast', NUM, h6, h7, h8', h0, h1, h2, hd, hf, (show (z : Int) ≤ n by omega), i64_in (x := (z : Int) + 20) (by unfold I64; omega), cs] at hW
      subst hW
      have lC := p1.length_eq
      refine rd_next (M ++ C, d') ?_ (show d'.length < (c ++ d').length by simp; omega)
      simp (maxSteps := 999999) only [E0, seval, -Int.reduceNatCast', h6, h0, h1, h2, hrow, List.length_append]
      refine ⟨?_, ?_, fun e he => ?_, ?_, ?_, ?_, by omega⟩
      · rw [List.append_assoc]; exact (perm_mid p1).trans hp
      · rw [lC]; exact w2
      · rw [List.append_assoc]
        refine hb _ (.more _ _ _ (by omega) s1 ?_ (by rw [show M.length + 20 = M.length + C.length by omega]; exact he))
        have := w1.w.perm p1
        rw [hc] at this; exact this
      · rw [upd_upd, List.append_assoc]
      · rw [hz, lC, hc]
      · rw [hz, lC, hc])
  obtain ⟨C, p1, s1, k, cs, hk⟩ := c_insertion M d [] M.length n n rfl (by omega) h3.x (by simp; omega) hl s.H (by rw [hrow]; simp)
  have lC := p1.length_eq
  have sb : SB 20 0 (M ++ C) := h4 _ (.last _ _ (by omega) s1 ((h3.w.perm p1).wide (by omega)))
  have pm : (M ++ C).Perm S := (List.Perm.append_left M p1).trans h1
  simp (maxSteps := 999999) only [E0, seval, -Int.reduceNatCast', h6, h7, h0, h1', h2', hd, hf, cs]
  generalize hL2 : W _ (.loop _) _ = L2
  obtain ⟨ex, s2, rfl, rfl, M', pm', sm', hrow', hd', hnx'⟩ := loop_at hL2 (α := Nat × List Qu) (fun p => n - p.1)
    (fun s0 p s => 20 ≤ p.1 ∧ p.1 ≤ 4000000 ∧ p.2.Perm S ∧ SB p.1 0 p.2 ∧ s.H.rows = upd H.rows 2 (some (RW p.2)) ∧ s.tmps 6 = I p.1 ∧ s.tmps 0 = QG n ∧ s.tmps 1 = I n ∧ s.tmps 2 = CF ∧ s.defers = [] ∧ s.fid = H.next ∧ H.next ≤ s.H.next)
    (fun s0 ex s => ex = .exit 2 ∧ ∃ M : List Qu, M.Perm S ∧ QS M ∧ s.H.rows = upd H.rows 2 (some (RW M)) ∧ s.defers = [] ∧ H.next ≤ s.H.next) (20, M ++ C)
    (by simp (maxSteps := 999999) only [E0, seval, -Int.reduceNatCast', h6, h0, h1', h2', hrow, List.append_nil]
        exact ⟨pm, sb, by rw [upd_upd], rfl, Nat.le_trans hnx hk⟩) (by
      rintro ⟨z, M⟩ s r hW ⟨hz, hz', pm, sb, hrow, h6, h0, h1, h2, hd, hf, hnx⟩
      dsimp only at hz hz' pm sb hrow h6
      have lM := pm.length_eq
      by_cases hlt : z < n
      rotate_left
      · simp (maxSteps := 999999) only [E0, seval, -Int.reduceNatCast', h6, h1, hd, hf, (show ¬ (z : Int) < n by omega)] at hW
        subst hW
        refine rd_exit ⟨rfl, M, pm, (SB_last sb (by omega) (by omega)).1, ?_⟩
        simp (maxSteps := 999999) only [E0, seval, -Int.reduceNatCast', hrow]
        exact hnx
      simp (maxSteps := 999999) only [E0, seval, -Int.reduceNatCast', h6, h1, hd, hf, (show (z : Int) < n by omega), i64_in (x := 2 * (z : Int)) (by unfold I64; omega)] at hW
      generalize hL3 : W _ (.loop _) _ = L3 at hW
      obtain ⟨ex, s3, rfl, rfl, P, d, pm, ld, sd, hb, hn, hrow, h6, h7, h0, h1, h2, hd, hf, hnx⟩ := loop_at hL3 (α := List Qu × List Qu) (fun p => p.2.length)
        (fun s0 p s => (p.1 ++ p.2).Perm S ∧ SB z p.1.length p.2 ∧ (∀ d', SB (2 * z) p.1.length d' → SB (2 * z) 0 (p.1 ++ d')) ∧ s.H.rows = upd H.rows 2 (some (RW (p.1 ++ p.2))) ∧ s.tmps 6 = I z ∧ s.tmps 7 = I p.1.length ∧ s.tmps 8 = I (p.1.length + 2 * z) ∧ s.tmps 0 = QG n ∧ s.tmps 1 = I n ∧ s.tmps 2 = CF ∧ s.defers = [] ∧ s.fid = H.next ∧ H.next ≤ s.H.next)
        (fun s0 ex s => ex = .exit 4 ∧ ∃ P d : List Qu, (P ++ d).Perm S ∧ d.length < 2 * z ∧ SB z P.length d ∧ (∀ d', SB (2 * z) P.length d' → SB (2 * z) 0 (P ++ d')) ∧ P.length + d.length = n ∧ s.H.rows = upd H.rows 2 (some (RW (P ++ d))) ∧ s.tmps 6 = I z ∧ s.tmps 7 = I P.length ∧ s.tmps 0 = QG n ∧ s.tmps 1 = I n ∧ s.tmps 2 = CF ∧ s.defers = [] ∧ s.fid = H.next ∧ H.next ≤ s.H.next) ([], M)
        (by simp (maxSteps := 999999) only [E0, seval, -Int.reduceNatCast', h6, h0, h1, h2, hrow]
            exact ⟨pm, sb, fun d' h => h, by simp, by simp, hnx⟩) (by
          rintro ⟨P, d⟩ s r hW ⟨pm, sd, hb, hrow, h6, h7, h8, h0, h1, h2, hd, hf, hnx⟩
          dsimp only at pm sd hb hrow h7 h8
          have hlen := pm.length_eq
          rw [List.length_append] at hlen
          by_cases hlt : P.length + 2 * z ≤ n
          rotate_left
          · simp (maxSteps := 999999) only [E0, seval, -Int.reduceNatCast', h8, h1, hd, hf, (show ¬ (P.length : Int) + 2 * z ≤ n by omega)] at hW
            subst hW
            refine rd_exit ⟨rfl, P, d, pm, by omega, sd, hb, by omega, ?_⟩
            simp (maxSteps := 999999) only [E0, seval, -Int.reduceNatCast', hrow, h6, h7, h0, h1, h2]
            exact hnx
          obtain ⟨c, d1, rfl, lc, sc, wc, sd1⟩ := SB_split sd (by omega)
          rw [List.length_append] at hlen
          obtain ⟨c', d2, rfl, lc', sc', wc', sd2⟩ := SB_split sd1 (by omega)
          rw [List.length_append] at hlen
          obtain ⟨q, hq⟩ : ∃ q, q = P.length + z := ⟨_, rfl⟩
          obtain ⟨e, he⟩ : ∃ e, e = P.length + 2 * z := ⟨_, rfl⟩
          have h8' : s.tmps 8 = I e := by rw [h8, he]; simp
          obtain ⟨C, p1, s1, k, cs, hk⟩ := c_sym (c.length + c'.length) P c c' d2 P.length q e n rfl (by omega) (by omega) (by omega) (by omega) sc sc' (wc.before wc') (by simp; omega) hl (Nat.le_refl _) s.H (by rw [hrow]; simp)
          have lC := p1.length_eq
          rw [List.length_append] at lC
          simp (maxSteps := 999999) only [E0, seval, -Int.reduceNatCast', NUM, h6, h7, h8', h0, h1, h2, hd, hf, (show (e : Int) ≤ n by omega), i64_in (x := 2 * (z : Int)) (by unfold I64; omega), i64_in (x := (e : Int) + 2 * z) (by unfold I64; omega), (show (P.length : Int) + z = q by omega), i64_in (x := (q : Int)) (by unfold I64; omega), cs] at hW
          subst hW
          refine rd_next (P ++ C, d2) ?_ (show d2.length < (c ++ (c' ++ d2)).length by simp; omega)
          simp (maxSteps := 999999) only [E0, seval, -Int.reduceNatCast', h6, h0, h1, h2, hrow, List.length_append]
          refine ⟨?_, ?_, fun f hf => ?_, ?_, ?_, ?_, by omega⟩
          · rw [List.append_assoc]; exact (perm_mid (B := d2) p1).trans (by simpa using pm)
          · rw [show P.length + C.length = P.length + z + z by omega]; exact sd2
          · rw [List.append_assoc]
            refine hb _ (.more _ _ _ (by omega) s1 ?_ (by rw [show P.length + 2 * z = P.length + C.length by omega]; exact hf))
            rw [show 2 * z = z + z by omega]; exact wc.two wc' p1
          · rw [upd_upd, List.append_assoc]
          · congr 1; omega
          · congr 1; omega)
      obtain ⟨m, hm⟩ : ∃ m, m = P.length + z := ⟨_, rfl⟩
      by_cases hmn : m < n
      rotate_left
      · simp (maxSteps := 999999) only [E0, seval, -Int.reduceNatCast', NUM, h6, h7, h0, h1, h2, hd, hf, (show (P.length : Int) + z = m by omega), i64_in (x := (m : Int)) (by unfold I64; omega), (show ¬ (m : Int) < n by omega), i64_in (x := (z : Int) * 2) (by unfold I64; omega)] at hW
        subst hW
        have := SB_last sd (by omega) (by omega)
        refine rd_next (2 * z, P ++ d) ?_ (show n - 2 * z < n - z by omega)
        simp (maxSteps := 999999) only [E0, seval, -Int.reduceNatCast', h0, h1, h2, hrow]
        exact ⟨by omega, by omega, pm, hb _ (.last _ _ (by omega) this.1 (this.2.wide (by omega))), by congr 1; omega, hnx⟩
      obtain ⟨c, d1, rfl, lc, sc, wc, sd1⟩ := SB_split sd (by omega)
      rw [List.length_append] at hn ld
      obtain ⟨t1, t2⟩ := SB_last sd1 (by omega) (by omega)
      obtain ⟨C, p1, s1, k, cs, hk⟩ := c_sym (c.length + d1.length) P c d1 [] P.length m n n rfl (by omega) (by omega) (by omega) (by omega) sc t1 (wc.before t2) (by simp; omega) hl (Nat.le_refl _) s3.H (by rw [hrow]; simp)
      have lC := p1.length_eq
      rw [List.length_append] at lC
      simp (maxSteps := 999999) only [E0, seval, -Int.reduceNatCast', NUM, h6, h7, h0, h1, h2, hd, hf, (show (P.length : Int) + z = m by omega), i64_in (x := (m : Int)) (by unfold I64; omega), (show (m : Int) < n by omega), i64_in (x := (z : Int) * 2) (by unfold I64; omega), cs] at hW
      subst hW
      refine rd_next (2 * z, P ++ C) ?_ (show n - 2 * z < n - z by omega)
      simp (maxSteps := 999999) only [E0, seval, -Int.reduceNatCast', h0, h1, h2, hrow]
      refine ⟨by omega, by omega, (List.Perm.append_left P p1).trans pm, hb _ (.last _ _ (by omega) s1 ?_), by rw [upd_upd], by congr 1; omega, by omega⟩
      rw [show 2 * z = z + z by omega]; exact wc.two t2 p1)
  simp (maxSteps := 999999) only [E0, seval, -Int.reduceNatCast', hd']
  exact ⟨M', pm', sm', s2.H.next, by rw [← hrow'], hnx'⟩
theorem c_sort (S : List Qu) (n : Nat) (ho : OWN 0 S) (hn : n = S.length) (hl : n ≤ 1000000) (H : Heap) (hr : H.rows 2 = some (RW S)) :
    ∃ M, M.Perm S ∧ QS M ∧ ∃ k, callF G Try.prog pol 35 [QG n, CF] H = some (.ret (.tup []), ⟨upd H.rows 2 (some (RW M)), k⟩) ∧ H.next ≤ k := by
  obtain ⟨M, pm, sm, k, cs, hk⟩ := c_stable S n ho hn hl ⟨H.rows, H.next + 1⟩ hr
  refine ⟨M, pm, sm, k, ?_, by have : H.next + 1 ≤ k := hk; omega⟩
  rw [callF_eq _ _ Try.func35 rfl Try.ntmps35 Try.results35 (by kernel_rfl) rfl (by exact Nat.le_of_ble_eq_true rfl)]
  simp (maxSteps := 999999) only [E0, seval, -Int.reduceNatCast', cs]
end S
end Go.Proofs.Ytbmmbefgmhhciaa

/-
  How long a number is in binary.
-/
namespace Go.Proofs.Ytbmmbefgmhhciaa
namespace S
open Go GoV
set_option maxRecDepth 100000

def LEN (n : Nat) : Nat := if n = 0 then 0 else n.log2 + 1
theorem LEN_ok {n : Nat} (h : 0 < n) : n < 2 ^ LEN n ∧ 2 ^ LEN n ≤ 2 * n := by
  unfold LEN; rw [if_neg (by omega)]
  have h1 := Nat.log2_self_le (n := n) (by omega)
  have h2 := Nat.lt_log2_self (n := n)
  exact ⟨h2, by rw [Nat.pow_succ]; omega⟩
theorem tab_ok (T : ByteArray) (h : ((List.range 256).all fun n => (T[n]?.map UInt8.toNat) == some (LEN n)) = true) (x : Int) (hx : 0 ≤ x ∧ x < 256) : ∃ b : UInt8, T[x.toNat]? = some b ∧ b.toNat = LEN x.toNat := by
  have := List.all_eq_true.1 h x.toNat (by simp; omega)
  simp only [beq_iff_eq, Option.map_eq_some_iff] at this
  exact this
theorem u8_in {x : Int} (h : 0 ≤ x ∧ x < 256) : IntKind.u8.wrap x = x := by
  simp [IntKind.wrap, IntKind.bits, IntKind.signed]; omega
theorem shr_eq (x : Int) (k : Nat) (hk : k ≤ 64) : x.fdiv (2 ^ min k IntKind.u64.bits) = x / 2 ^ k := by
  rw [show min k IntKind.u64.bits = k by simp [IntKind.bits]; omega, Int.fdiv_eq_ediv_of_nonneg _ (by exact Int.pow_nonneg (by decide))]
theorem LEN_up {x y : Nat} {k j : Nat} (e : y = x / 2 ^ j) (h : 0 < y ∧ y < 2 ^ k ∧ 2 ^ k ≤ 2 * y) : 0 < x ∧ x < 2 ^ (k + j) ∧ 2 ^ (k + j) ≤ 2 * x := by
  subst e
  have hp : 0 < 2 ^ j := Nat.pow_pos (by decide)
  obtain ⟨h0, h1, h2⟩ := h
  have a1 : x < 2 ^ k * 2 ^ j := (Nat.div_lt_iff_lt_mul hp).1 h1
  have a2 := Nat.div_mul_le_self x (2 ^ j)
  have a3 : 2 ^ k * 2 ^ j ≤ 2 * (x / 2 ^ j) * 2 ^ j := Nat.mul_le_mul_right _ h2
  rw [Nat.mul_assoc] at a3
  rw [Nat.pow_add]
  refine ⟨?_, a1, by omega⟩
  rcases Nat.eq_zero_or_pos x with rfl | h
  · simp at h0
  · exact h
theorem c_len64 (n : Nat) (hx : 0 < n ∧ n < 18446744073709551616) : ∃ k : Nat, ap Try.prog pol 64 [U n] = some (.ret (I k)) ∧ n < 2 ^ k ∧ 2 ^ k ≤ 2 * n := by
  suffices h : ∃ k : Nat, ap Try.prog pol 64 [U n] = some (.ret (I k)) ∧ 0 < n ∧ n < 2 ^ k ∧ 2 ^ k ≤ 2 * n by
    obtain ⟨k, h1, h2, h3⟩ := h
    exact ⟨k, h1, h3⟩
  have up32 : ∀ {y k : Nat}, y = n / 4294967296 → 0 < y ∧ y < 2 ^ k ∧ 2 ^ k ≤ 2 * y → 0 < n ∧ n < 2 ^ (k + 32) ∧ 2 ^ (k + 32) ≤ 2 * n := fun e h => LEN_up (j := 32) e h
  have up16 : ∀ {x y k : Nat}, y = x / 65536 → 0 < y ∧ y < 2 ^ k ∧ 2 ^ k ≤ 2 * y → 0 < x ∧ x < 2 ^ (k + 16) ∧ 2 ^ (k + 16) ≤ 2 * x := fun e h => LEN_up (j := 16) e h
  have up8 : ∀ {x y k : Nat}, y = x / 256 → 0 < y ∧ y < 2 ^ k ∧ 2 ^ k ≤ 2 * y → 0 < x ∧ x < 2 ^ (k + 8) ∧ 2 ^ (k + 8) ≤ 2 * x := fun e h => LEN_up (j := 8) e h
  rw [ap_eq _ Try.func64 rfl Try.ntmps64 Try.results64 (by kernel_rfl) rfl (by exact Nat.le_of_ble_eq_true rfl)]
  by_cases h1 : 4294967296 ≤ n
  · obtain ⟨x1, e1⟩ : ∃ x1, x1 = n / 4294967296 := ⟨_, rfl⟩
    have s1 : (n : Int).fdiv (2 ^ min 32 IntKind.u64.bits) = x1 := by rw [shr_eq _ _ (by decide)]; omega
    by_cases h2 : 65536 ≤ x1
    · obtain ⟨x2, e2⟩ : ∃ x2, x2 = x1 / 65536 := ⟨_, rfl⟩
      have s2 : (x1 : Int).fdiv (2 ^ min 16 IntKind.u64.bits) = x2 := by rw [shr_eq _ _ (by decide)]; omega
      by_cases h3 : 256 ≤ x2
      · obtain ⟨x3, e3⟩ : ∃ x3, x3 = x2 / 256 := ⟨_, rfl⟩
        have s3 : (x2 : Int).fdiv (2 ^ min 8 IntKind.u64.bits) = x3 := by rw [shr_eq _ _ (by decide)]; omega
        simp (maxSteps := 999999) only [E0, seval, -Int.reduceNatCast', NUM, (show (4294967296 : Int) ≤ n by omega), s1, (show (65536 : Int) ≤ x1 by omega), s2, (show (256 : Int) ≤ x2 by omega), s3, (show (32 : Int).toNat = 32 from rfl), (show (16 : Int).toNat = 16 from rfl), (show (8 : Int).toNat = 8 from rfl), u8_in (x := (x3 : Int)) (by omega), Int.toNat_natCast, (show (0 : Int) ≤ x3 by omega), i64_in (x := (32 : Int) + 16) (by unfold I64; omega), i64_in (x := (48 : Int)) (by unfold I64; omega), i64_in (x := (16 : Int)) (by unfold I64; omega), i64_in (x := (8 : Int)) (by unfold I64; omega), i64_in (x := (40 : Int)) (by unfold I64; omega), i64_in (x := (24 : Int)) (by unfold I64; omega), i64_in (x := (56 : Int)) (by unfold I64; omega), i64_in (x := (0 : Int)) (by unfold I64; omega)]
        generalize hT : ByteArray.mk _ = T
        obtain ⟨b, eb, hb⟩ := tab_ok T (by rw [← hT]; kernel_rfl) x3 (by omega)
        rw [Int.toNat_natCast] at eb hb
        have l8 : LEN x3 ≤ 8 := by
          have := b.toNat_lt
          rcases Nat.eq_zero_or_pos x3 with h | h
          · rw [h]; decide
          · have := LEN_ok h
            rcases Nat.lt_or_ge 8 (LEN x3) with h' | h'
            · have : 2 ^ 9 ≤ 2 ^ LEN x3 := Nat.pow_le_pow_right (by decide) h'
              omega
            · exact h'
        simp (maxSteps := 999999) only [E0, seval, -Int.reduceNatCast', NUM, (show (4294967296 : Int) ≤ n by omega), s1, (show (65536 : Int) ≤ x1 by omega), s2, (show (256 : Int) ≤ x2 by omega), s3, (show (32 : Int).toNat = 32 from rfl), (show (16 : Int).toNat = 16 from rfl), (show (8 : Int).toNat = 8 from rfl), u8_in (x := (x3 : Int)) (by omega), Int.toNat_natCast, (show (0 : Int) ≤ x3 by omega), i64_in (x := (32 : Int) + 16) (by unfold I64; omega), i64_in (x := (48 : Int)) (by unfold I64; omega), i64_in (x := (16 : Int)) (by unfold I64; omega), i64_in (x := (8 : Int)) (by unfold I64; omega), i64_in (x := (40 : Int)) (by unfold I64; omega), i64_in (x := (24 : Int)) (by unfold I64; omega), i64_in (x := (56 : Int)) (by unfold I64; omega), i64_in (x := (0 : Int)) (by unfold I64; omega), eb, hb, i64_in (x := ((LEN x3 : Nat) : Int)) (by unfold I64; omega), i64_in (x := (56 : Int) + LEN x3) (by unfold I64; omega), Int.zero_add]
        exact ⟨LEN x3 + 8 + 16 + 32, by first | rfl | (congr 3; omega), up32 e1 (up16 e2 (up8 e3 ⟨by omega, LEN_ok (by omega)⟩))⟩
      · skip
        simp (maxSteps := 999999) only [E0, seval, -Int.reduceNatCast', NUM, (show (4294967296 : Int) ≤ n by omega), s1, (show (65536 : Int) ≤ x1 by omega), s2, (show ¬ (256 : Int) ≤ x2 by omega), (show (32 : Int).toNat = 32 from rfl), (show (16 : Int).toNat = 16 from rfl), (show (8 : Int).toNat = 8 from rfl), u8_in (x := (x2 : Int)) (by omega), Int.toNat_natCast, (show (0 : Int) ≤ x2 by omega), i64_in (x := (32 : Int) + 16) (by unfold I64; omega), i64_in (x := (48 : Int)) (by unfold I64; omega), i64_in (x := (16 : Int)) (by unfold I64; omega), i64_in (x := (8 : Int)) (by unfold I64; omega), i64_in (x := (40 : Int)) (by unfold I64; omega), i64_in (x := (24 : Int)) (by unfold I64; omega), i64_in (x := (56 : Int)) (by unfold I64; omega), i64_in (x := (0 : Int)) (by unfold I64; omega)]
        generalize hT : ByteArray.mk _ = T
        obtain ⟨b, eb, hb⟩ := tab_ok T (by rw [← hT]; kernel_rfl) x2 (by omega)
        rw [Int.toNat_natCast] at eb hb
        have l8 : LEN x2 ≤ 8 := by
          have := b.toNat_lt
          rcases Nat.eq_zero_or_pos x2 with h | h
          · rw [h]; decide
          · have := LEN_ok h
            rcases Nat.lt_or_ge 8 (LEN x2) with h' | h'
            · have : 2 ^ 9 ≤ 2 ^ LEN x2 := Nat.pow_le_pow_right (by decide) h'
              omega
            · exact h'
        simp (maxSteps := 999999) only [E0, seval, -Int.reduceNatCast', NUM, (show (4294967296 : Int) ≤ n by omega), s1, (show (65536 : Int) ≤ x1 by omega), s2, (show ¬ (256 : Int) ≤ x2 by omega), (show (32 : Int).toNat = 32 from rfl), (show (16 : Int).toNat = 16 from rfl), (show (8 : Int).toNat = 8 from rfl), u8_in (x := (x2 : Int)) (by omega), Int.toNat_natCast, (show (0 : Int) ≤ x2 by omega), i64_in (x := (32 : Int) + 16) (by unfold I64; omega), i64_in (x := (48 : Int)) (by unfold I64; omega), i64_in (x := (16 : Int)) (by unfold I64; omega), i64_in (x := (8 : Int)) (by unfold I64; omega), i64_in (x := (40 : Int)) (by unfold I64; omega), i64_in (x := (24 : Int)) (by unfold I64; omega), i64_in (x := (56 : Int)) (by unfold I64; omega), i64_in (x := (0 : Int)) (by unfold I64; omega), eb, hb, i64_in (x := ((LEN x2 : Nat) : Int)) (by unfold I64; omega), i64_in (x := (48 : Int) + LEN x2) (by unfold I64; omega), Int.zero_add]
        exact ⟨LEN x2 + 16 + 32, by first | rfl | (congr 3; omega), up32 e1 (up16 e2 (⟨by omega, LEN_ok (by omega)⟩))⟩
    · skip
      by_cases h3 : 256 ≤ x1
      · obtain ⟨x3, e3⟩ : ∃ x3, x3 = x1 / 256 := ⟨_, rfl⟩
        have s3 : (x1 : Int).fdiv (2 ^ min 8 IntKind.u64.bits) = x3 := by rw [shr_eq _ _ (by decide)]; omega
        simp (maxSteps := 999999) only [E0, seval, -Int.reduceNatCast', NUM, (show (4294967296 : Int) ≤ n by omega), s1, (show ¬ (65536 : Int) ≤ x1 by omega), (show (256 : Int) ≤ x1 by omega), s3, (show (32 : Int).toNat = 32 from rfl), (show (16 : Int).toNat = 16 from rfl), (show (8 : Int).toNat = 8 from rfl), u8_in (x := (x3 : Int)) (by omega), Int.toNat_natCast, (show (0 : Int) ≤ x3 by omega), i64_in (x := (32 : Int) + 16) (by unfold I64; omega), i64_in (x := (48 : Int)) (by unfold I64; omega), i64_in (x := (16 : Int)) (by unfold I64; omega), i64_in (x := (8 : Int)) (by unfold I64; omega), i64_in (x := (40 : Int)) (by unfold I64; omega), i64_in (x := (24 : Int)) (by unfold I64; omega), i64_in (x := (56 : Int)) (by unfold I64; omega), i64_in (x := (0 : Int)) (by unfold I64; omega)]
        generalize hT : ByteArray.mk _ = T
        obtain ⟨b, eb, hb⟩ := tab_ok T (by rw [← hT]; kernel_rfl) x3 (by omega)
        rw [Int.toNat_natCast] at eb hb
        have l8 : LEN x3 ≤ 8 := by
          have := b.toNat_lt
          rcases Nat.eq_zero_or_pos x3 with h | h
          · rw [h]; decide
          · have := LEN_ok h
            rcases Nat.lt_or_ge 8 (LEN x3) with h' | h'
            · have : 2 ^ 9 ≤ 2 ^ LEN x3 := Nat.pow_le_pow_right (by decide) h'
              omega
            · exact h'
        simp (maxSteps := 999999) only [E0, seval, -Int.reduceNatCast', NUM, (show (4294967296 : Int) ≤ n by omega), s1, (show ¬ (65536 : Int) ≤ x1 by omega), (show (256 : Int) ≤ x1 by omega), s3, (show (32 : Int).toNat = 32 from rfl), (show (16 : Int).toNat = 16 from rfl), (show (8 : Int).toNat = 8 from rfl), u8_in (x := (x3 : Int)) (by omega), Int.toNat_natCast, (show (0 : Int) ≤ x3 by omega), i64_in (x := (32 : Int) + 16) (by unfold I64; omega), i64_in (x := (48 : Int)) (by unfold I64; omega), i64_in (x := (16 : Int)) (by unfold I64; omega), i64_in (x := (8 : Int)) (by unfold I64; omega), i64_in (x := (40 : Int)) (by unfold I64; omega), i64_in (x := (24 : Int)) (by unfold I64; omega), i64_in (x := (56 : Int)) (by unfold I64; omega), i64_in (x := (0 : Int)) (by unfold I64; omega), eb, hb, i64_in (x := ((LEN x3 : Nat) : Int)) (by unfold I64; omega), i64_in (x := (40 : Int) + LEN x3) (by unfold I64; omega), Int.zero_add]
        exact ⟨LEN x3 + 8 + 32, by first | rfl | (congr 3; omega), up32 e1 (up8 e3 ⟨by omega, LEN_ok (by omega)⟩)⟩
      · skip
        simp (maxSteps := 999999) only [E0, seval, -Int.reduceNatCast', NUM, (show (4294967296 : Int) ≤ n by omega), s1, (show ¬ (65536 : Int) ≤ x1 by omega), (show ¬ (256 : Int) ≤ x1 by omega), (show (32 : Int).toNat = 32 from rfl), (show (16 : Int).toNat = 16 from rfl), (show (8 : Int).toNat = 8 from rfl), u8_in (x := (x1 : Int)) (by omega), Int.toNat_natCast, (show (0 : Int) ≤ x1 by omega), i64_in (x := (32 : Int) + 16) (by unfold I64; omega), i64_in (x := (48 : Int)) (by unfold I64; omega), i64_in (x := (16 : Int)) (by unfold I64; omega), i64_in (x := (8 : Int)) (by unfold I64; omega), i64_in (x := (40 : Int)) (by unfold I64; omega), i64_in (x := (24 : Int)) (by unfold I64; omega), i64_in (x := (56 : Int)) (by unfold I64; omega), i64_in (x := (0 : Int)) (by unfold I64; omega)]
        generalize hT : ByteArray.mk _ = T
        obtain ⟨b, eb, hb⟩ := tab_ok T (by rw [← hT]; kernel_rfl) x1 (by omega)
        rw [Int.toNat_natCast] at eb hb
        have l8 : LEN x1 ≤ 8 := by
          have := b.toNat_lt
          rcases Nat.eq_zero_or_pos x1 with h | h
          · rw [h]; decide
          · have := LEN_ok h
            rcases Nat.lt_or_ge 8 (LEN x1) with h' | h'
            · have : 2 ^ 9 ≤ 2 ^ LEN x1 := Nat.pow_le_pow_right (by decide) h'
              omega
            · exact h'
        simp (maxSteps := 999999) only [E0, seval, -Int.reduceNatCast', NUM, (show (4294967296 : Int) ≤ n by omega), s1, (show ¬ (65536 : Int) ≤ x1 by omega), (show ¬ (256 : Int) ≤ x1 by omega), (show (32 : Int).toNat = 32 from rfl), (show (16 : Int).toNat = 16 from rfl), (show (8 : Int).toNat = 8 from rfl), u8_in (x := (x1 : Int)) (by omega), Int.toNat_natCast, (show (0 : Int) ≤ x1 by omega), i64_in (x := (32 : Int) + 16) (by unfold I64; omega), i64_in (x := (48 : Int)) (by unfold I64; omega), i64_in (x := (16 : Int)) (by unfold I64; omega), i64_in (x := (8 : Int)) (by unfold I64; omega), i64_in (x := (40 : Int)) (by unfold I64; omega), i64_in (x := (24 : Int)) (by unfold I64; omega), i64_in (x := (56 : Int)) (by unfold I64; omega), i64_in (x := (0 : Int)) (by unfold I64; omega), eb, hb, i64_in (x := ((LEN x1 : Nat) : Int)) (by unfold I64; omega), i64_in (x := (32 : Int) + LEN x1) (by unfold I64; omega), Int.zero_add]
        exact ⟨LEN x1 + 32, by first | rfl | (congr 3; omega), up32 e1 (⟨by omega, LEN_ok (by omega)⟩)⟩
  · skip
    by_cases h2 : 65536 ≤ n
    · obtain ⟨x2, e2⟩ : ∃ x2, x2 = n / 65536 := ⟨_, rfl⟩
      have s2 : (n : Int).fdiv (2 ^ min 16 IntKind.u64.bits) = x2 := by rw [shr_eq _ _ (by decide)]; omega
      by_cases h3 : 256 ≤ x2
      · obtain ⟨x3, e3⟩ : ∃ x3, x3 = x2 / 256 := ⟨_, rfl⟩
        have s3 : (x2 : Int).fdiv (2 ^ min 8 IntKind.u64.bits) = x3 := by rw [shr_eq _ _ (by decide)]; omega
        simp (maxSteps := 999999) only [E0, seval, -Int.reduceNatCast', NUM, (show ¬ (4294967296 : Int) ≤ n by omega), (show (65536 : Int) ≤ n by omega), s2, (show (256 : Int) ≤ x2 by omega), s3, (show (32 : Int).toNat = 32 from rfl), (show (16 : Int).toNat = 16 from rfl), (show (8 : Int).toNat = 8 from rfl), u8_in (x := (x3 : Int)) (by omega), Int.toNat_natCast, (show (0 : Int) ≤ x3 by omega), i64_in (x := (32 : Int) + 16) (by unfold I64; omega), i64_in (x := (48 : Int)) (by unfold I64; omega), i64_in (x := (16 : Int)) (by unfold I64; omega), i64_in (x := (8 : Int)) (by unfold I64; omega), i64_in (x := (40 : Int)) (by unfold I64; omega), i64_in (x := (24 : Int)) (by unfold I64; omega), i64_in (x := (56 : Int)) (by unfold I64; omega), i64_in (x := (0 : Int)) (by unfold I64; omega)]
        generalize hT : ByteArray.mk _ = T
        obtain ⟨b, eb, hb⟩ := tab_ok T (by rw [← hT]; kernel_rfl) x3 (by omega)
        rw [Int.toNat_natCast] at eb hb
        have l8 : LEN x3 ≤ 8 := by
          have := b.toNat_lt
          rcases Nat.eq_zero_or_pos x3 with h | h
          · rw [h]; decide
          · have := LEN_ok h
            rcases Nat.lt_or_ge 8 (LEN x3) with h' | h'
            · have : 2 ^ 9 ≤ 2 ^ LEN x3 := Nat.pow_le_pow_right (by decide) h'
              omega
            · exact h'
        simp (maxSteps := 999999) only [E0, seval, -Int.reduceNatCast', NUM, (show ¬ (4294967296 : Int) ≤ n by omega), (show (65536 : Int) ≤ n by omega), s2, (show (256 : Int) ≤ x2 by omega), s3, (show (32 : Int).toNat = 32 from rfl), (show (16 : Int).toNat = 16 from rfl), (show (8 : Int).toNat = 8 from rfl), u8_in (x := (x3 : Int)) (by omega), Int.toNat_natCast, (show (0 : Int) ≤ x3 by omega), i64_in (x := (32 : Int) + 16) (by unfold I64; omega), i64_in (x := (48 : Int)) (by unfold I64; omega), i64_in (x := (16 : Int)) (by unfold I64; omega), i64_in (x := (8 : Int)) (by unfold I64; omega), i64_in (x := (40 : Int)) (by unfold I64; omega), i64_in (x := (24 : Int)) (by unfold I64; omega), i64_in (x := (56 : Int)) (by unfold I64; omega), i64_in (x := (0 : Int)) (by unfold I64; omega), eb, hb, i64_in (x := ((LEN x3 : Nat) : Int)) (by unfold I64; omega), i64_in (x := (24 : Int) + LEN x3) (by unfold I64; omega), Int.zero_add]
        exact ⟨LEN x3 + 8 + 16, by first | rfl | (congr 3; omega), up16 e2 (up8 e3 ⟨by omega, LEN_ok (by omega)⟩)⟩
      · skip
        simp (maxSteps := 999999) only [E0, seval, -Int.reduceNatCast', NUM, (show ¬ (4294967296 : Int) ≤ n by omega), (show (65536 : Int) ≤ n by omega), s2, (show ¬ (256 : Int) ≤ x2 by omega), (show (32 : Int).toNat = 32 from rfl), (show (16 : Int).toNat = 16 from rfl), (show (8 : Int).toNat = 8 from rfl), u8_in (x := (x2 : Int)) (by omega), Int.toNat_natCast, (show (0 : Int) ≤ x2 by omega), i64_in (x := (32 : Int) + 16) (by unfold I64; omega), i64_in (x := (48 : Int)) (by unfold I64; omega), i64_in (x := (16 : Int)) (by unfold I64; omega), i64_in (x := (8 : Int)) (by unfold I64; omega), i64_in (x := (40 : Int)) (by unfold I64; omega), i64_in (x := (24 : Int)) (by unfold I64; omega), i64_in (x := (56 : Int)) (by unfold I64; omega), i64_in (x := (0 : Int)) (by unfold I64; omega)]
        generalize hT : ByteArray.mk _ = T
        obtain ⟨b, eb, hb⟩ := tab_ok T (by rw [← hT]; kernel_rfl) x2 (by omega)
        rw [Int.toNat_natCast] at eb hb
        have l8 : LEN x2 ≤ 8 := by
          have := b.toNat_lt
          rcases Nat.eq_zero_or_pos x2 with h | h
          · rw [h]; decide
          · have := LEN_ok h
            rcases Nat.lt_or_ge 8 (LEN x2) with h' | h'
            · have : 2 ^ 9 ≤ 2 ^ LEN x2 := Nat.pow_le_pow_right (by decide) h'
              omega
            · exact h'
        simp (maxSteps := 999999) only [E0, seval, -Int.reduceNatCast', NUM, (show ¬ (4294967296 : Int) ≤ n by omega), (show (65536 : Int) ≤ n by omega), s2, (show ¬ (256 : Int) ≤ x2 by omega), (show (32 : Int).toNat = 32 from rfl), (show (16 : Int).toNat = 16 from rfl), (show (8 : Int).toNat = 8 from rfl), u8_in (x := (x2 : Int)) (by omega), Int.toNat_natCast, (show (0 : Int) ≤ x2 by omega), i64_in (x := (32 : Int) + 16) (by unfold I64; omega), i64_in (x := (48 : Int)) (by unfold I64; omega), i64_in (x := (16 : Int)) (by unfold I64; omega), i64_in (x := (8 : Int)) (by unfold I64; omega), i64_in (x := (40 : Int)) (by unfold I64; omega), i64_in (x := (24 : Int)) (by unfold I64; omega), i64_in (x := (56 : Int)) (by unfold I64; omega), i64_in (x := (0 : Int)) (by unfold I64; omega), eb, hb, i64_in (x := ((LEN x2 : Nat) : Int)) (by unfold I64; omega), i64_in (x := (16 : Int) + LEN x2) (by unfold I64; omega), Int.zero_add]
        exact ⟨LEN x2 + 16, by first | rfl | (congr 3; omega), up16 e2 (⟨by omega, LEN_ok (by omega)⟩)⟩
    · skip
      by_cases h3 : 256 ≤ n
      · obtain ⟨x3, e3⟩ : ∃ x3, x3 = n / 256 := ⟨_, rfl⟩
        have s3 : (n : Int).fdiv (2 ^ min 8 IntKind.u64.bits) = x3 := by rw [shr_eq _ _ (by decide)]; omega
        simp (maxSteps := 999999) only [E0, seval, -Int.reduceNatCast', NUM, (show ¬ (4294967296 : Int) ≤ n by omega), (show ¬ (65536 : Int) ≤ n by omega), (show (256 : Int) ≤ n by omega), s3, (show (32 : Int).toNat = 32 from rfl), (show (16 : Int).toNat = 16 from rfl), (show (8 : Int).toNat = 8 from rfl), u8_in (x := (x3 : Int)) (by omega), Int.toNat_natCast, (show (0 : Int) ≤ x3 by omega), i64_in (x := (32 : Int) + 16) (by unfold I64; omega), i64_in (x := (48 : Int)) (by unfold I64; omega), i64_in (x := (16 : Int)) (by unfold I64; omega), i64_in (x := (8 : Int)) (by unfold I64; omega), i64_in (x := (40 : Int)) (by unfold I64; omega), i64_in (x := (24 : Int)) (by unfold I64; omega), i64_in (x := (56 : Int)) (by unfold I64; omega), i64_in (x := (0 : Int)) (by unfold I64; omega)]
        generalize hT : ByteArray.mk _ = T
        obtain ⟨b, eb, hb⟩ := tab_ok T (by rw [← hT]; kernel_rfl) x3 (by omega)
        rw [Int.toNat_natCast] at eb hb
        have l8 : LEN x3 ≤ 8 := by
          have := b.toNat_lt
          rcases Nat.eq_zero_or_pos x3 with h | h
          · rw [h]; decide
          · have := LEN_ok h
            rcases Nat.lt_or_ge 8 (LEN x3) with h' | h'
            · have : 2 ^ 9 ≤ 2 ^ LEN x3 := Nat.pow_le_pow_right (by decide) h'
              omega
            · exact h'
        simp (maxSteps := 999999) only [E0, seval, -Int.reduceNatCast', NUM, (show ¬ (4294967296 : Int) ≤ n by omega), (show ¬ (65536 : Int) ≤ n by omega), (show (256 : Int) ≤ n by omega), s3, (show (32 : Int).toNat = 32 from rfl), (show (16 : Int).toNat = 16 from rfl), (show (8 : Int).toNat = 8 from rfl), u8_in (x := (x3 : Int)) (by omega), Int.toNat_natCast, (show (0 : Int) ≤ x3 by omega), i64_in (x := (32 : Int) + 16) (by unfold I64; omega), i64_in (x := (48 : Int)) (by unfold I64; omega), i64_in (x := (16 : Int)) (by unfold I64; omega), i64_in (x := (8 : Int)) (by unfold I64; omega), i64_in (x := (40 : Int)) (by unfold I64; omega), i64_in (x := (24 : Int)) (by unfold I64; omega), i64_in (x := (56 : Int)) (by unfold I64; omega), i64_in (x := (0 : Int)) (by unfold I64; omega), eb, hb, i64_in (x := ((LEN x3 : Nat) : Int)) (by unfold I64; omega), i64_in (x := (8 : Int) + LEN x3) (by unfold I64; omega), Int.zero_add]
        exact ⟨LEN x3 + 8, by first | rfl | (congr 3; omega), up8 e3 ⟨by omega, LEN_ok (by omega)⟩⟩
      · skip
        simp (maxSteps := 999999) only [E0, seval, -Int.reduceNatCast', NUM, (show ¬ (4294967296 : Int) ≤ n by omega), (show ¬ (65536 : Int) ≤ n by omega), (show ¬ (256 : Int) ≤ n by omega), (show (32 : Int).toNat = 32 from rfl), (show (16 : Int).toNat = 16 from rfl), (show (8 : Int).toNat = 8 from rfl), u8_in (x := (n : Int)) (by omega), Int.toNat_natCast, (show (0 : Int) ≤ n by omega), i64_in (x := (32 : Int) + 16) (by unfold I64; omega), i64_in (x := (48 : Int)) (by unfold I64; omega), i64_in (x := (16 : Int)) (by unfold I64; omega), i64_in (x := (8 : Int)) (by unfold I64; omega), i64_in (x := (40 : Int)) (by unfold I64; omega), i64_in (x := (24 : Int)) (by unfold I64; omega), i64_in (x := (56 : Int)) (by unfold I64; omega), i64_in (x := (0 : Int)) (by unfold I64; omega)]
        generalize hT : ByteArray.mk _ = T
        obtain ⟨b, eb, hb⟩ := tab_ok T (by rw [← hT]; kernel_rfl) n (by omega)
        rw [Int.toNat_natCast] at eb hb
        have l8 : LEN n ≤ 8 := by
          have := b.toNat_lt
          rcases Nat.eq_zero_or_pos n with h | h
          · rw [h]; decide
          · have := LEN_ok h
            rcases Nat.lt_or_ge 8 (LEN n) with h' | h'
            · have : 2 ^ 9 ≤ 2 ^ LEN n := Nat.pow_le_pow_right (by decide) h'
              omega
            · exact h'
        simp (maxSteps := 999999) only [E0, seval, -Int.reduceNatCast', NUM, (show ¬ (4294967296 : Int) ≤ n by omega), (show ¬ (65536 : Int) ≤ n by omega), (show ¬ (256 : Int) ≤ n by omega), (show (32 : Int).toNat = 32 from rfl), (show (16 : Int).toNat = 16 from rfl), (show (8 : Int).toNat = 8 from rfl), u8_in (x := (n : Int)) (by omega), Int.toNat_natCast, (show (0 : Int) ≤ n by omega), i64_in (x := (32 : Int) + 16) (by unfold I64; omega), i64_in (x := (48 : Int)) (by unfold I64; omega), i64_in (x := (16 : Int)) (by unfold I64; omega), i64_in (x := (8 : Int)) (by unfold I64; omega), i64_in (x := (40 : Int)) (by unfold I64; omega), i64_in (x := (24 : Int)) (by unfold I64; omega), i64_in (x := (56 : Int)) (by unfold I64; omega), i64_in (x := (0 : Int)) (by unfold I64; omega), eb, hb, i64_in (x := ((LEN n : Nat) : Int)) (by unfold I64; omega), i64_in (x := (0 : Int) + LEN n) (by unfold I64; omega), Int.zero_add]
        exact ⟨LEN n, by first | rfl | (congr 3; omega), ⟨by omega, LEN_ok (by omega)⟩⟩
end S
end Go.Proofs.Ytbmmbefgmhhciaa

/-
  Long division by halves of words, in natural numbers.
-/
namespace Go.Proofs.Ytbmmbefgmhhciaa
namespace S
open Go GoV
set_option maxRecDepth 100000

/-- A step of the search for a digit. -/
theorem kd_less {q rh un un1 y1 y0 v : Nat} (hv : v = y1 * 4294967296 + y0) (h0 : y0 < 4294967296) (hu : un < v) (h1 : un1 < 4294967296) (he : q * y1 + rh = un)
    (hc : 4294967296 ≤ q ∨ 4294967296 * rh + un1 < q * y0) (hq : (un * 4294967296 + un1) / v ≤ q) : 1 ≤ q ∧ (un * 4294967296 + un1) / v ≤ q - 1 := by
  have hlt : (un * 4294967296 + un1) / v < q := by
    have hv0 : 0 < v := by omega
    rcases hc with hc | hc
    · refine Nat.lt_of_lt_of_le ((Nat.div_lt_iff_lt_mul hv0).2 ?_) hc
      have : un + 1 ≤ v := hu
      have := Nat.mul_le_mul_right 4294967296 this
      rw [Nat.add_mul] at this
      rw [Nat.mul_comm 4294967296 v]; omega
    · refine (Nat.div_lt_iff_lt_mul hv0).2 ?_
      have e : q * v = q * y1 * 4294967296 + q * y0 := by rw [hv, Nat.mul_add, Nat.mul_assoc]
      rw [e, ← he, Nat.add_mul]
      omega
  exact ⟨Nat.lt_of_le_of_lt (Nat.zero_le _) hlt, Nat.le_sub_one_of_lt hlt⟩
theorem kd_over {q rh un un1 y1 y0 v : Nat} (hv : v = y1 * 4294967296 + y0) (h0 : y0 < 4294967296) (hu : un < v) (he : q * y1 + rh = un)
    (hr : 4294967296 ≤ rh) (hq : (un * 4294967296 + un1) / v ≤ q) : q = (un * 4294967296 + un1) / v := by
  refine Nat.le_antisymm ?_ hq
  have hv0 : 0 < v := by omega
  rw [Nat.le_div_iff_mul_le hv0]
  have ql : q < 4294967296 := by
    rcases Nat.lt_or_ge q 4294967296 with h | h
    · exact h
    · have := Nat.mul_le_mul_right y1 h
      omega
  have e : q * v = q * y1 * 4294967296 + q * y0 := by rw [hv, Nat.mul_add, Nat.mul_assoc]
  have b : q * y0 ≤ 4294967296 * 4294967296 := Nat.mul_le_mul (by omega) (by omega)
  rw [e, ← he, Nat.add_mul]
  omega
theorem kd_done {q rh un un1 y1 y0 v : Nat} (hv : v = y1 * 4294967296 + y0) (hu : un < v) (he : q * y1 + rh = un)
    (hc : q * y0 ≤ 4294967296 * rh + un1) (hq : (un * 4294967296 + un1) / v ≤ q) : q = (un * 4294967296 + un1) / v := by
  refine Nat.le_antisymm ?_ hq
  have hv0 : 0 < v := by omega
  rw [Nat.le_div_iff_mul_le hv0]
  have e : q * v = q * y1 * 4294967296 + q * y0 := by rw [hv, Nat.mul_add, Nat.mul_assoc]
  rw [e, ← he, Nat.add_mul]
  omega
theorem kd_first {un un1 y1 y0 v : Nat} (hv : v = y1 * 4294967296 + y0) (hy : 0 < y1) (h1 : un1 < 4294967296) : (un * 4294967296 + un1) / v ≤ un / y1 := by
  have e : un / y1 = (un * 4294967296 + un1) / (y1 * 4294967296) := by
    rw [Nat.mul_comm y1, ← Nat.div_div_eq_div_mul]
    congr 1; omega
  rw [e]
  exact Nat.div_le_div_left (by omega) (Nat.mul_pos hy (by decide))
theorem kd_lt {un un1 v : Nat} (hu : un < v) (h1 : un1 < 4294967296) : (un * 4294967296 + un1) / v < 4294967296 := by
  have hv0 : 0 < v := by omega
  refine (Nat.div_lt_iff_lt_mul hv0).2 ?_
  have : un + 1 ≤ v := hu
  have := Nat.mul_le_mul_right 4294967296 this
  rw [Nat.add_mul] at this
  rw [Nat.mul_comm 4294967296 v]; omega
/-- Both digits together. -/
theorem kd_two {N y s v A q1 r1 q0 r0 u0 : Nat} (hv : v = y * 2 ^ s) (hy : 0 < y) (hN : N * 2 ^ s = A * 4294967296 + u0) (e1 : v * q1 + r1 = A) (e2 : v * q0 + r0 = r1 * 4294967296 + u0) (l2 : r0 < v) :
    q1 * 4294967296 + q0 = N / y ∧ r0 / 2 ^ s = N % y := by
  have hp : 0 < 2 ^ s := Nat.pow_pos (by decide)
  have hv0 : 0 < v := by rw [hv]; exact Nat.mul_pos hy hp
  have key : N * 2 ^ s = v * (q1 * 4294967296 + q0) + r0 := by
    rw [hN, ← e1, Nat.add_mul, Nat.mul_add, ← Nat.mul_assoc]
    omega
  have d1 : N * 2 ^ s / v = q1 * 4294967296 + q0 := by
    rw [key, Nat.mul_add_div hv0, Nat.div_eq_of_lt l2, Nat.add_zero]
  have d2 : N * 2 ^ s % v = r0 := by
    rw [key, Nat.mul_add_mod, Nat.mod_eq_of_lt l2]
  rw [hv] at d1 d2
  rw [Nat.mul_div_mul_right _ _ hp] at d1
  rw [Nat.mul_mod_mul_right] at d2
  exact ⟨d1.symm, by rw [← d2, Nat.mul_div_cancel _ hp]⟩
/-- The number before the division, moved up. -/
theorem kd_up {hi lo y s k : Nat} (hs : s + k = 64) (hh : hi < y) (hl : lo < 18446744073709551616) (hy : y * 2 ^ s < 18446744073709551616) :
    (hi * 18446744073709551616 + lo) * 2 ^ s = (hi * 2 ^ s + lo / 2 ^ k) * 18446744073709551616 + lo * 2 ^ s % 18446744073709551616 ∧ hi * 2 ^ s + lo / 2 ^ k < y * 2 ^ s ∧ lo / 2 ^ k < 2 ^ s := by
  have hp : 0 < 2 ^ s := Nat.pow_pos (by decide)
  have hk : 0 < 2 ^ k := Nat.pow_pos (by decide)
  have e : 18446744073709551616 = 2 ^ s * 2 ^ k := by rw [← Nat.pow_add, hs]
  have c : lo / 2 ^ k < 2 ^ s := (Nat.div_lt_iff_lt_mul hk).2 (by omega)
  have a : lo * 2 ^ s / 18446744073709551616 = lo / 2 ^ k := by
    rw [e, Nat.mul_comm (2 ^ s), Nat.mul_div_mul_right _ _ hp]
  have b := Nat.div_add_mod (lo * 2 ^ s) 18446744073709551616
  rw [a] at b
  refine ⟨?_, ?_, c⟩
  · rw [Nat.add_mul, Nat.add_mul, ← b, Nat.mul_right_comm]
    omega
  · have : hi + 1 ≤ y := hh
    have := Nat.mul_le_mul_right (2 ^ s) this
    rw [Nat.add_mul] at this
    omega
theorem mul_halves {x y : Nat} (hy : y < 4294967296) : (x / 4294967296 * y + x % 4294967296 * y / 4294967296) / 4294967296 = x * y / 18446744073709551616 := by
  have e := Nat.div_add_mod x 4294967296
  have h : x * y = x / 4294967296 * y * 4294967296 + x % 4294967296 * y := by
    conv => lhs; rw [← e]
    rw [Nat.add_mul, Nat.mul_assoc, Nat.mul_comm 4294967296 (_ * y)]
  rw [h, show (18446744073709551616 : Nat) = 4294967296 * 4294967296 by decide, ← Nat.div_div_eq_div_mul]
  congr 1
  generalize x / 4294967296 * y = a
  generalize x % 4294967296 * y = b
  omega
end S
end Go.Proofs.Ytbmmbefgmhhciaa

/-
  Products and quotients of 128 bits.
-/
namespace Go.Proofs.Ytbmmbefgmhhciaa
namespace S
open Go GoV
set_option maxRecDepth 100000

theorem and_mask (n : Nat) (h : n < 18446744073709551616) : IntKind.u64.wrap ((BitVec.ofInt IntKind.u64.bits (n : Int) &&& BitVec.ofInt IntKind.u64.bits 4294967295).toNat : Nat) = ((n % 4294967296 : Nat) : Int) := by
  have e : (BitVec.ofInt IntKind.u64.bits (n : Int) &&& BitVec.ofInt IntKind.u64.bits 4294967295).toNat = n % 4294967296 := by
    rw [BitVec.toNat_and]
    have e1 : (BitVec.ofInt IntKind.u64.bits (n : Int)).toNat = n := by
      rw [BitVec.toNat_ofInt]; simp [IntKind.bits]; omega
    have e2 : (BitVec.ofInt IntKind.u64.bits 4294967295).toNat = 2 ^ 32 - 1 := by decide
    rw [e1, e2, Nat.and_two_pow_sub_one_eq_mod]
  rw [e, u64_in]
  unfold U64; omega
theorem or_add (a b s : Nat) (hb : b < 2 ^ s) (h : 2 ^ s * a + b < 18446744073709551616) : IntKind.u64.wrap ((BitVec.ofInt IntKind.u64.bits ((2 ^ s * a : Nat) : Int) ||| BitVec.ofInt IntKind.u64.bits (b : Int)).toNat : Nat) = ((2 ^ s * a + b : Nat) : Int) := by
  have e : (BitVec.ofInt IntKind.u64.bits ((2 ^ s * a : Nat) : Int) ||| BitVec.ofInt IntKind.u64.bits (b : Int)).toNat = 2 ^ s * a + b := by
    rw [BitVec.toNat_or]
    have e1 : ∀ n : Nat, n < 18446744073709551616 → (BitVec.ofInt IntKind.u64.bits (n : Int)).toNat = n := fun n hn => by
      rw [BitVec.toNat_ofInt]; simp [IntKind.bits]; omega
    rw [e1 _ (by omega), e1 _ (by omega), Nat.two_pow_add_eq_or_of_lt hb]
  rw [e, u64_in]
  unfold U64; omega
theorem shr_n (n : Nat) (k : Nat) (hk : k ≤ 64) : (n : Int).fdiv (2 ^ min k IntKind.u64.bits) = ((n / 2 ^ k : Nat) : Int) := by
  rw [shr_eq _ _ hk, Int.natCast_ediv, Int.natCast_pow]; rfl
theorem u64_n {n : Nat} (h : n < 18446744073709551616) : IntKind.u64.wrap (n : Int) = n := u64_in (by unfold U64; omega)
theorem c_mul64 (x y : Nat) (hx : x < 18446744073709551616) (hy : y < 4294967296) : ap Try.prog pol 33 [U x, U y] = some (.ret (.tup [U ((x * y / 18446744073709551616 : Nat) : Int), U ((x * y % 18446744073709551616 : Nat) : Int)])) := by
  obtain ⟨x0, e0⟩ : ∃ x0, x0 = x % 4294967296 := ⟨_, rfl⟩
  obtain ⟨x1, e1⟩ : ∃ x1, x1 = x / 4294967296 := ⟨_, rfl⟩
  have m1 := and_mask x hx
  have m2 := and_mask y (by omega)
  have s1 := shr_n x 32 (by decide)
  have s2 := shr_n y 32 (by decide)
  rw [← e0] at m1
  rw [show x / 2 ^ 32 = x1 from e1.symm] at s1
  rw [show y % 4294967296 = y by omega] at m2
  rw [show y / 2 ^ 32 = 0 by omega] at s2
  have b0 : x0 * y < 18446744073709551616 := by
    have := Nat.mul_le_mul (show x0 ≤ 4294967295 by omega) (show y ≤ 4294967295 by omega)
    omega
  have b1 : x1 * y ≤ 4294967295 * 4294967295 := Nat.mul_le_mul (show x1 ≤ 4294967295 by omega) (show y ≤ 4294967295 by omega)
  have mh := mul_halves (x := x) (y := y) hy
  rw [← e0, ← e1] at mh
  have w0 := shr_n (x0 * y) 32 (by decide)
  obtain ⟨p, hp⟩ : ∃ p, p = x0 * y := ⟨_, rfl⟩
  obtain ⟨q, hq⟩ : ∃ q, q = x1 * y := ⟨_, rfl⟩
  rw [← hp] at w0 b0 mh
  rw [← hq] at b1 mh
  obtain ⟨t, ht⟩ : ∃ t, t = q + p / 4294967296 := ⟨_, rfl⟩
  have mt := and_mask t (by omega)
  have st := shr_n t 32 (by decide)
  have sz := shr_n (t % 4294967296) 32 (by decide)
  rw [show t % 4294967296 / 2 ^ 32 = 0 by omega] at sz
  rw [ap_eq _ Try.func33 rfl Try.ntmps33 Try.results33 (by kernel_rfl) rfl (by exact Nat.le_of_ble_eq_true rfl)]
  simp (maxSteps := 999999) only [E0, seval, -Int.reduceNatCast', NUM, m1, m2, s1, s2, (show (32 : Int).toNat = 32 from rfl), (show (x0 : Int) * y = (p : Int) by rw [hp]; simp), (show (x1 : Int) * y = (q : Int) by rw [hq]; simp), u64_n b0, u64_n (n := q) (by omega), w0, (show (q : Int) + ((p / 2 ^ 32 : Nat) : Int) = (t : Int) by rw [ht]; rfl), u64_n (n := t) (by omega), mt, st, sz, Int.natCast_zero, Int.mul_zero, Int.add_zero, Int.zero_add, (show IntKind.u64.wrap 0 = 0 from rfl), u64_n (n := t % 4294967296) (by omega), u64_n (n := t / 2 ^ 32) (by omega), (show (x : Int) * y = ((x * y : Nat) : Int) by simp)]
  rw [wrap_u64, ← mh, ht]
  rfl
theorem c_lz (y : Nat) (h : 0 < y ∧ y < 18446744073709551616) : ∃ s : Nat, ap Try.prog pol 52 [U y] = some (.ret (I s)) ∧ s ≤ 63 ∧ y * 2 ^ s < 18446744073709551616 ∧ 9223372036854775808 ≤ y * 2 ^ s := by
  obtain ⟨k, ck, k1, k2⟩ := c_len64 y h
  have hk : k ≤ 64 := by
    rcases Nat.lt_or_ge 64 k with h' | h'
    · have : 2 ^ 65 ≤ 2 ^ k := Nat.pow_le_pow_right (by decide) h'
      omega
    · exact h'
  have hk0 : 1 ≤ k := by
    rcases Nat.eq_zero_or_pos k with rfl | h'
    · omega
    · exact h'
  have e : 2 ^ k * 2 ^ (64 - k) = 18446744073709551616 := by rw [← Nat.pow_add, show k + (64 - k) = 64 by omega]
  have a1 := Nat.mul_lt_mul_of_pos_right k1 (Nat.pow_pos (n := 64 - k) (show 0 < 2 by decide))
  have a2 := Nat.mul_le_mul_right (2 ^ (64 - k)) k2
  rw [Nat.mul_assoc] at a2
  refine ⟨64 - k, ?_, by omega, by omega, by omega⟩
  rw [ap_eq _ Try.func52 rfl Try.ntmps52 Try.results52 (by kernel_rfl) rfl (by exact Nat.le_of_ble_eq_true rfl)]
  simp (maxSteps := 999999) only [E0, seval, -Int.reduceNatCast', NUM, ck, i64_in (x := ((64 - k : Nat) : Int)) (by unfold I64; omega), (show (64 : Int) - k = ((64 - k : Nat) : Int) by omega)]
end S
end Go.Proofs.Ytbmmbefgmhhciaa

/-
  Division of 128 bits.
-/
namespace Go.Proofs.Ytbmmbefgmhhciaa
namespace S
open Go GoV
set_option maxRecDepth 100000

set_option maxHeartbeats 2000000 in
theorem c_div64 (hi lo y : Nat) (hh : hi < y) (hl : lo < 18446744073709551616) (hy : y < 18446744073709551616) : ap Try.prog pol 34 [U hi, U lo, U y] =
    some (.ret (.tup [U ((hi * 18446744073709551616 + lo) / y : Nat), U ((hi * 18446744073709551616 + lo) % y : Nat)])) := by
  by_cases h0 : hi = 0
  · subst h0
    rw [Nat.zero_mul, Nat.zero_add]
    have t1 : (lo : Int).tdiv y = ((lo / y : Nat) : Int) := by rw [Int.tdiv_eq_ediv_of_nonneg (by omega)]; simp
    have t2 : (lo : Int).tmod y = ((lo % y : Nat) : Int) := by rw [Int.tmod_eq_emod_of_nonneg (by omega)]; simp
    have l1 := Nat.div_le_self lo y
    rw [ap_eq _ Try.func34 rfl Try.ntmps34 Try.results34 (by kernel_rfl) rfl (by exact Nat.le_of_ble_eq_true rfl)]
    simp (maxSteps := 999999) only [E0, seval, -Int.reduceNatCast', NUM, (show ¬ (y : Int) = 0 by omega), (show ¬ (y : Int) ≤ (0 : Nat) by omega), Int.natCast_zero, (show ¬ (y : Int) ≤ 0 by omega), t1, t2, u64_n (n := lo / y) (by omega)]
  obtain ⟨sh, cs, s63, v1, v2⟩ := c_lz y (by omega)
  obtain ⟨k, hk⟩ : ∃ k, sh + k = 64 := ⟨64 - sh, by omega⟩
  obtain ⟨e1, e2, e3⟩ := kd_up hk hh hl v1
  obtain ⟨v, hv⟩ : ∃ v, v = y * 2 ^ sh := ⟨_, rfl⟩
  have cv : (y : Int) * 2 ^ min sh IntKind.u64.bits = (v : Int) := by rw [hv, show min sh IntKind.u64.bits = sh by simp [IntKind.bits]; omega]; simp
  rw [← hv] at v1 v2 e2
  have chi : (hi : Int) * 2 ^ min sh IntKind.u64.bits = ((2 ^ sh * hi : Nat) : Int) := by rw [show min sh IntKind.u64.bits = sh by simp [IntKind.bits]; omega, Nat.mul_comm]; simp
  have clo : (lo : Int) * 2 ^ min sh IntKind.u64.bits = ((lo * 2 ^ sh : Nat) : Int) := by rw [show min sh IntKind.u64.bits = sh by simp [IntKind.bits]; omega]; simp
  have clk := shr_n lo k (by omega)
  obtain ⟨l, hlk⟩ : ∃ l, l = lo / 2 ^ k := ⟨_, rfl⟩
  rw [← hlk] at clk e1 e2 e3
  have cor := or_add hi l sh e3 (by rw [Nat.mul_comm]; omega)
  obtain ⟨u, hu⟩ : ∃ u, u = 2 ^ sh * hi + l := ⟨_, rfl⟩
  rw [← hu] at cor
  rw [show hi * 2 ^ sh + l = u by rw [hu, Nat.mul_comm]] at e1 e2
  have u10w : IntKind.u64.wrap ((lo * 2 ^ sh : Nat) : Int) = ((lo * 2 ^ sh % 18446744073709551616 : Nat) : Int) := by rw [wrap_u64, Int.natCast_emod]; rfl
  obtain ⟨u10, hu10⟩ : ∃ u10, u10 = lo * 2 ^ sh % 18446744073709551616 := ⟨_, rfl⟩
  rw [← hu10] at u10w e1
  obtain ⟨h2, hh2⟩ : ∃ h2, h2 = 2 ^ sh * hi := ⟨_, rfl⟩
  rw [← hh2] at chi cor hu
  have l10 : u10 < 18446744073709551616 := by omega
  have su1 := shr_n u10 32 (by decide)
  have su0 := and_mask u10 l10
  obtain ⟨u1, hu1⟩ : ∃ u1, u1 = u10 / 4294967296 := ⟨_, rfl⟩
  obtain ⟨u0, hu0⟩ : ∃ u0, u0 = u10 % 4294967296 := ⟨_, rfl⟩
  rw [show u10 / 2 ^ 32 = u1 from hu1.symm] at su1
  rw [← hu0] at su0
  have sa := shr_n v 32 (by decide)
  have sb := and_mask v v1
  obtain ⟨a, ha⟩ : ∃ a, a = v / 4294967296 := ⟨_, rfl⟩
  obtain ⟨b, hb⟩ : ∃ b, b = v % 4294967296 := ⟨_, rfl⟩
  rw [show v / 2 ^ 32 = a from ha.symm] at sa
  rw [← hb] at sb
  have hab : v = a * 4294967296 + b := by omega
  have hb32 : b < 4294967296 := by omega
  have a0 : 0 < a := by omega
  have a32 : a < 4294967296 := by omega
  have huL : u < v := e2
  have hu1L : u1 < 4294967296 := by omega
  have hu1M : u0 < 4294967296 := by omega
  have tq : ∀ n : Nat, (n : Int).tdiv a = ((n / a : Nat) : Int) := fun n => by rw [Int.tdiv_eq_ediv_of_nonneg (by omega)]; simp
  have rq : ∀ n : Nat, n < 18446744073709551616 → IntKind.u64.wrap (((n / a : Nat) : Int) * a) = ((n / a * a : Nat) : Int) ∧ IntKind.u64.wrap ((n : Int) - ((n / a * a : Nat) : Int)) = ((n % a : Nat) : Int) := fun n hn => by
    have h1 := Nat.div_mul_le_self n a
    have h2 := Nat.mod_add_div n a
    rw [Nat.mul_comm] at h2
    refine ⟨by rw [← Int.natCast_mul]; exact u64_n (by omega), ?_⟩
    rw [show (n : Int) - ((n / a * a : Nat) : Int) = ((n % a : Nat) : Int) by omega]
    exact u64_n (by have := Nat.mod_lt n a0; omega)
  obtain ⟨r1, r2⟩ := rq u (by omega)
  have dl1 := Nat.div_le_self u a
  rw [ap_eq _ Try.func34 rfl Try.ntmps34 Try.results34 (by kernel_rfl) rfl (by exact Nat.le_of_ble_eq_true rfl)]
  simp (maxSteps := 999999) only [E0, seval, -Int.reduceNatCast', NUM, cs, cv, chi, clo, clk, cor, u10w, su1, su0, sa, sb, tq, r1, r2, (show ¬ (y : Int) = 0 by omega), (show ¬ (y : Int) ≤ hi by omega), (show ¬ (hi : Int) = 0 by omega), Int.toNat_natCast, u64_n (n := sh) (by omega), u64_n (n := v) v1, u64_n (n := h2) (by omega), (show (64 : Int) - sh = (k : Int) by omega), u64_n (n := k) (by omega), (show ¬ (sh : Int) < 0 by omega), (show ¬ (k : Int) < 0 by omega), (show ¬ (a : Int) = 0 by omega), (show (32 : Int).toNat = 32 from rfl), u64_n (n := u / a) (by omega)]
  generalize hL : W _ (.loop _) _ = L
  obtain ⟨ex, s, rfl, rfl, h15, h2, h8, h9, h10, h11, h13, h14, hd, hf⟩ := loop_at hL (α := Nat × Nat) (fun p => p.1)
    (fun s0 p s => p.1 * a + p.2 = u ∧ (u * 4294967296 + u1) / v ≤ p.1 ∧ p.2 < 4294967296 ∧ p.1 < 18446744073709551616 ∧ s.tmps 15 = U p.1 ∧ s.tmps 16 = U p.2 ∧ s.tmps 2 = U v ∧ s.tmps 8 = U sh ∧ s.tmps 9 = U a ∧ s.tmps 10 = U b ∧ s.tmps 11 = U u ∧ s.tmps 13 = U u1 ∧ s.tmps 14 = U u0 ∧ s.defers = [] ∧ s.fid = 0)
    (fun s0 ex s => ex = .exit 0 ∧ s.tmps 15 = U ((u * 4294967296 + u1) / v : Nat) ∧ s.tmps 2 = U v ∧ s.tmps 8 = U sh ∧ s.tmps 9 = U a ∧ s.tmps 10 = U b ∧ s.tmps 11 = U u ∧ s.tmps 13 = U u1 ∧ s.tmps 14 = U u0 ∧ s.defers = [] ∧ s.fid = 0) (u / a, u % a)
    (by simp (maxSteps := 999999) only [E0, seval, -Int.reduceNatCast']
        refine ⟨by rw [Nat.mul_comm]; exact Nat.div_add_mod u a, kd_first hab a0 hu1L, by have := Nat.mod_lt u a0; omega, by omega⟩) (by
      rintro ⟨q, rh⟩ s r hW ⟨he, hq, hr, hq64, hq0, h16, h2, h8, h9, h10, h11, h13, h14, hd, hf⟩
      dsimp only at he hq hr hq64 hq0 h16
      by_cases hc1 : 4294967296 ≤ q
      · obtain ⟨g1, g2⟩ := kd_less hab hb32 huL hu1L he (.inl hc1) hq
        have he' : (q - 1) * a + (rh + a) = u := by rw [Nat.sub_mul, Nat.one_mul]; have := Nat.mul_le_mul_right a g1; omega
        by_cases hov : 4294967296 ≤ rh + a
        · simp (maxSteps := 999999) only [E0, seval, -Int.reduceNatCast', NUM, hq0, h16, h2, h8, h9, h10, h11, h13, h14, hd, hf, (show (4294967296 : Int) ≤ q by omega), (show (q : Int) - 1 = ((q - 1 : Nat) : Int) by omega), u64_n (n := q - 1) (by omega), (show (rh : Int) + a = ((rh + a : Nat) : Int) by omega), u64_n (n := rh + a) (by omega), (show (4294967296 : Int) ≤ ((rh + a : Nat) : Int) by omega)] at hW
          subst hW
          have := kd_over hab hb32 huL he' hov g2
          refine rd_exit ⟨rfl, ?_⟩
          simp (maxSteps := 999999) only [E0, seval, -Int.reduceNatCast', h2, h8, h9, h10, h11, h13, h14, hd, hf, this]
        · simp (maxSteps := 999999) only [E0, seval, -Int.reduceNatCast', NUM, hq0, h16, h2, h8, h9, h10, h11, h13, h14, hd, hf, (show (4294967296 : Int) ≤ q by omega), (show (q : Int) - 1 = ((q - 1 : Nat) : Int) by omega), u64_n (n := q - 1) (by omega), (show (rh : Int) + a = ((rh + a : Nat) : Int) by omega), u64_n (n := rh + a) (by omega), (show ¬ (4294967296 : Int) ≤ ((rh + a : Nat) : Int) by omega)] at hW
          subst hW
          refine rd_next (q - 1, rh + a) ?_ (show q - 1 < q by omega)
          simp (maxSteps := 999999) only [E0, seval, -Int.reduceNatCast', h2, h8, h9, h10, h11, h13, h14, hd, hf]
          exact ⟨he', g2, by omega, by omega⟩
      have b1 : q * b ≤ 4294967295 * 4294967295 := Nat.mul_le_mul (by omega) (by omega)
      obtain ⟨w, hw⟩ : ∃ w, w = q * b := ⟨_, rfl⟩
      have hwc : (q : Int) * b = w := by rw [hw]; simp
      rw [← hw] at b1
      by_cases hc2 : 4294967296 * rh + u1 < w
      · obtain ⟨g1, g2⟩ := kd_less hab hb32 huL hu1L he (.inr (by rw [← hw]; exact hc2)) hq
        have he' : (q - 1) * a + (rh + a) = u := by rw [Nat.sub_mul, Nat.one_mul]; have := Nat.mul_le_mul_right a g1; omega
        by_cases hov : 4294967296 ≤ rh + a
        · simp (maxSteps := 999999) only [E0, seval, -Int.reduceNatCast', NUM, hq0, h16, h2, h8, h9, h10, h11, h13, h14, hd, hf, (show ¬ (4294967296 : Int) ≤ q by omega), hwc, u64_n (n := w) (by omega), (show (4294967296 : Int) * rh = ((4294967296 * rh : Nat) : Int) by omega), u64_n (n := 4294967296 * rh) (by omega), (show ((4294967296 * rh : Nat) : Int) + u1 = ((4294967296 * rh + u1 : Nat) : Int) by omega), u64_n (n := 4294967296 * rh + u1) (by omega), (show ((4294967296 * rh + u1 : Nat) : Int) < w by omega), (show (q : Int) - 1 = ((q - 1 : Nat) : Int) by omega), u64_n (n := q - 1) (by omega), (show (rh : Int) + a = ((rh + a : Nat) : Int) by omega), u64_n (n := rh + a) (by omega), (show (4294967296 : Int) ≤ ((rh + a : Nat) : Int) by omega)] at hW
          subst hW
          have := kd_over hab hb32 huL he' hov g2
          refine rd_exit ⟨rfl, ?_⟩
          simp (maxSteps := 999999) only [E0, seval, -Int.reduceNatCast', h2, h8, h9, h10, h11, h13, h14, hd, hf, this]
        · simp (maxSteps := 999999) only [E0, seval, -Int.reduceNatCast', NUM, hq0, h16, h2, h8, h9, h10, h11, h13, h14, hd, hf, (show ¬ (4294967296 : Int) ≤ q by omega), hwc, u64_n (n := w) (by omega), (show (4294967296 : Int) * rh = ((4294967296 * rh : Nat) : Int) by omega), u64_n (n := 4294967296 * rh) (by omega), (show ((4294967296 * rh : Nat) : Int) + u1 = ((4294967296 * rh + u1 : Nat) : Int) by omega), u64_n (n := 4294967296 * rh + u1) (by omega), (show ((4294967296 * rh + u1 : Nat) : Int) < w by omega), (show (q : Int) - 1 = ((q - 1 : Nat) : Int) by omega), u64_n (n := q - 1) (by omega), (show (rh : Int) + a = ((rh + a : Nat) : Int) by omega), u64_n (n := rh + a) (by omega), (show ¬ (4294967296 : Int) ≤ ((rh + a : Nat) : Int) by omega)] at hW
          subst hW
          refine rd_next (q - 1, rh + a) ?_ (show q - 1 < q by omega)
          simp (maxSteps := 999999) only [E0, seval, -Int.reduceNatCast', h2, h8, h9, h10, h11, h13, h14, hd, hf]
          exact ⟨he', g2, by omega, by omega⟩
      · simp (maxSteps := 999999) only [E0, seval, -Int.reduceNatCast', NUM, hq0, h16, h2, h8, h9, h10, h11, h13, h14, hd, hf, (show ¬ (4294967296 : Int) ≤ q by omega), hwc, u64_n (n := w) (by omega), (show (4294967296 : Int) * rh = ((4294967296 * rh : Nat) : Int) by omega), u64_n (n := 4294967296 * rh) (by omega), (show ((4294967296 * rh : Nat) : Int) + u1 = ((4294967296 * rh + u1 : Nat) : Int) by omega), u64_n (n := 4294967296 * rh + u1) (by omega), (show ¬ ((4294967296 * rh + u1 : Nat) : Int) < w by omega)] at hW
        subst hW
        have := kd_done hab huL he (by rw [← hw]; omega) hq
        refine rd_exit ⟨rfl, ?_⟩
        simp (maxSteps := 999999) only [E0, seval, -Int.reduceNatCast', h2, h8, h9, h10, h11, h13, h14, hd, hf, ← this, hq0])
  have dm1 := Nat.div_add_mod (u * 4294967296 + u1) v
  have md1 := Nat.mod_lt (u * 4294967296 + u1) (show 0 < v by omega)
  have lt1 := kd_lt huL hu1L
  obtain ⟨d1, hd1⟩ : ∃ d1, d1 = (u * 4294967296 + u1) / v := ⟨_, rfl⟩
  obtain ⟨u2, hu2⟩ : ∃ u2, u2 = (u * 4294967296 + u1) % v := ⟨_, rfl⟩
  rw [← hd1] at h15 dm1 lt1
  rw [← hu2] at dm1 md1
  have w2 : IntKind.u64.wrap (IntKind.u64.wrap (IntKind.u64.wrap ((u : Int) * 4294967296) + u1) - IntKind.u64.wrap ((d1 : Int) * v)) = (u2 : Int) := by
    have : (d1 : Int) * v = ((v * d1 : Nat) : Int) := by rw [Nat.mul_comm]; simp
    rw [this]
    generalize v * d1 = z at *
    simp only [wrap_u64]
    omega
  have huM : u2 < v := md1
  obtain ⟨r1', r2'⟩ := rq u2 (by omega)
  have dl2 := Nat.div_le_self u2 a
  simp (maxSteps := 999999) only [E0, seval, -Int.reduceNatCast', NUM, h2, h8, h9, h10, h11, h13, h14, h15, hd, hf, w2, tq, r1', r2', (show ¬ (a : Int) = 0 by omega), u64_n (n := u2 / a) (by omega)]
  generalize hM : W _ (.loop _) _ = M
  obtain ⟨ex, s, rfl, rfl, h18, h2, h8, h9, h10, h14, h15, h17, hd, hf⟩ := loop_at hM (α := Nat × Nat) (fun p => p.1)
    (fun s0 p s => p.1 * a + p.2 = u2 ∧ (u2 * 4294967296 + u0) / v ≤ p.1 ∧ p.2 < 4294967296 ∧ p.1 < 18446744073709551616 ∧ s.tmps 18 = U p.1 ∧ s.tmps 16 = U p.2 ∧ s.tmps 2 = U v ∧ s.tmps 8 = U sh ∧ s.tmps 9 = U a ∧ s.tmps 10 = U b ∧ s.tmps 14 = U u0 ∧ s.tmps 15 = U d1 ∧ s.tmps 17 = U u2 ∧ s.defers = [] ∧ s.fid = 0)
    (fun s0 ex s => ex = .exit 2 ∧ s.tmps 18 = U ((u2 * 4294967296 + u0) / v : Nat) ∧ s.tmps 2 = U v ∧ s.tmps 8 = U sh ∧ s.tmps 9 = U a ∧ s.tmps 10 = U b ∧ s.tmps 14 = U u0 ∧ s.tmps 15 = U d1 ∧ s.tmps 17 = U u2 ∧ s.defers = [] ∧ s.fid = 0) (u2 / a, u2 % a)
    (by simp (maxSteps := 999999) only [E0, seval, -Int.reduceNatCast', h2, h8, h9, h10, h14, h15, hd, hf]
        refine ⟨by rw [Nat.mul_comm]; exact Nat.div_add_mod u2 a, kd_first hab a0 hu1M, by have := Nat.mod_lt u2 a0; omega, by omega⟩) (by
      rintro ⟨q, rh⟩ s r hW ⟨he, hq, hr, hq64, hq0, h16, h2, h8, h9, h10, h14, h15, h17, hd, hf⟩
      dsimp only at he hq hr hq64 hq0 h16
      by_cases hc1 : 4294967296 ≤ q
      · obtain ⟨g1, g2⟩ := kd_less hab hb32 huM hu1M he (.inl hc1) hq
        have he' : (q - 1) * a + (rh + a) = u2 := by rw [Nat.sub_mul, Nat.one_mul]; have := Nat.mul_le_mul_right a g1; omega
        by_cases hov : 4294967296 ≤ rh + a
        · simp (maxSteps := 999999) only [E0, seval, -Int.reduceNatCast', NUM, hq0, h16, h2, h8, h9, h10, h14, h15, h17, hd, hf, (show (4294967296 : Int) ≤ q by omega), (show (q : Int) - 1 = ((q - 1 : Nat) : Int) by omega), u64_n (n := q - 1) (by omega), (show (rh : Int) + a = ((rh + a : Nat) : Int) by omega), u64_n (n := rh + a) (by omega), (show (4294967296 : Int) ≤ ((rh + a : Nat) : Int) by omega)] at hW
          subst hW
          have := kd_over hab hb32 huM he' hov g2
          refine rd_exit ⟨rfl, ?_⟩
          simp (maxSteps := 999999) only [E0, seval, -Int.reduceNatCast', h2, h8, h9, h10, h14, h15, h17, hd, hf, this]
        · simp (maxSteps := 999999) only [E0, seval, -Int.reduceNatCast', NUM, hq0, h16, h2, h8, h9, h10, h14, h15, h17, hd, hf, (show (4294967296 : Int) ≤ q by omega), (show (q : Int) - 1 = ((q - 1 : Nat) : Int) by omega), u64_n (n := q - 1) (by omega), (show (rh : Int) + a = ((rh + a : Nat) : Int) by omega), u64_n (n := rh + a) (by omega), (show ¬ (4294967296 : Int) ≤ ((rh + a : Nat) : Int) by omega)] at hW
          subst hW
          refine rd_next (q - 1, rh + a) ?_ (show q - 1 < q by omega)
          simp (maxSteps := 999999) only [E0, seval, -Int.reduceNatCast', h2, h8, h9, h10, h14, h15, h17, hd, hf]
          exact ⟨he', g2, by omega, by omega⟩
      have b1 : q * b ≤ 4294967295 * 4294967295 := Nat.mul_le_mul (by omega) (by omega)
      obtain ⟨w, hw⟩ : ∃ w, w = q * b := ⟨_, rfl⟩
      have hwc : (q : Int) * b = w := by rw [hw]; simp
      rw [← hw] at b1
      by_cases hc2 : 4294967296 * rh + u0 < w
      · obtain ⟨g1, g2⟩ := kd_less hab hb32 huM hu1M he (.inr (by rw [← hw]; exact hc2)) hq
        have he' : (q - 1) * a + (rh + a) = u2 := by rw [Nat.sub_mul, Nat.one_mul]; have := Nat.mul_le_mul_right a g1; omega
        by_cases hov : 4294967296 ≤ rh + a
        · simp (maxSteps := 999999) only [E0, seval, -Int.reduceNatCast', NUM, hq0, h16, h2, h8, h9, h10, h14, h15, h17, hd, hf, (show ¬ (4294967296 : Int) ≤ q by omega), hwc, u64_n (n := w) (by omega), (show (4294967296 : Int) * rh = ((4294967296 * rh : Nat) : Int) by omega), u64_n (n := 4294967296 * rh) (by omega), (show ((4294967296 * rh : Nat) : Int) + u0 = ((4294967296 * rh + u0 : Nat) : Int) by omega), u64_n (n := 4294967296 * rh + u0) (by omega), (show ((4294967296 * rh + u0 : Nat) : Int) < w by omega), (show (q : Int) - 1 = ((q - 1 : Nat) : Int) by omega), u64_n (n := q - 1) (by omega), (show (rh : Int) + a = ((rh + a : Nat) : Int) by omega), u64_n (n := rh + a) (by omega), (show (4294967296 : Int) ≤ ((rh + a : Nat) : Int) by omega)] at hW
          subst hW
          have := kd_over hab hb32 huM he' hov g2
          refine rd_exit ⟨rfl, ?_⟩
          simp (maxSteps := 999999) only [E0, seval, -Int.reduceNatCast', h2, h8, h9, h10, h14, h15, h17, hd, hf, this]
        · simp (maxSteps := 999999) only [E0, seval, -Int.reduceNatCast', NUM, hq0, h16, h2, h8, h9, h10, h14, h15, h17, hd, hf, (show ¬ (4294967296 : Int) ≤ q by omega), hwc, u64_n (n := w) (by omega), (show (4294967296 : Int) * rh = ((4294967296 * rh : Nat) : Int) by omega), u64_n (n := 4294967296 * rh) (by omega), (show ((4294967296 * rh : Nat) : Int) + u0 = ((4294967296 * rh + u0 : Nat) : Int) by omega), u64_n (n := 4294967296 * rh + u0) (by omega), (show ((4294967296 * rh + u0 : Nat) : Int) < w by omega), (show (q : Int) - 1 = ((q - 1 : Nat) : Int) by omega), u64_n (n := q - 1) (by omega), (show (rh : Int) + a = ((rh + a : Nat) : Int) by omega), u64_n (n := rh + a) (by omega), (show ¬ (4294967296 : Int) ≤ ((rh + a : Nat) : Int) by omega)] at hW
          subst hW
          refine rd_next (q - 1, rh + a) ?_ (show q - 1 < q by omega)
          simp (maxSteps := 999999) only [E0, seval, -Int.reduceNatCast', h2, h8, h9, h10, h14, h15, h17, hd, hf]
          exact ⟨he', g2, by omega, by omega⟩
      · simp (maxSteps := 999999) only [E0, seval, -Int.reduceNatCast', NUM, hq0, h16, h2, h8, h9, h10, h14, h15, h17, hd, hf, (show ¬ (4294967296 : Int) ≤ q by omega), hwc, u64_n (n := w) (by omega), (show (4294967296 : Int) * rh = ((4294967296 * rh : Nat) : Int) by omega), u64_n (n := 4294967296 * rh) (by omega), (show ((4294967296 * rh : Nat) : Int) + u0 = ((4294967296 * rh + u0 : Nat) : Int) by omega), u64_n (n := 4294967296 * rh + u0) (by omega), (show ¬ ((4294967296 * rh + u0 : Nat) : Int) < w by omega)] at hW
        subst hW
        have := kd_done hab huM he (by rw [← hw]; omega) hq
        refine rd_exit ⟨rfl, ?_⟩
        simp (maxSteps := 999999) only [E0, seval, -Int.reduceNatCast', h2, h8, h9, h10, h14, h15, h17, hd, hf, ← this, hq0])
  have dm2 := Nat.div_add_mod (u2 * 4294967296 + u0) v
  have md2 := Nat.mod_lt (u2 * 4294967296 + u0) (show 0 < v by omega)
  have lt2 := kd_lt huM hu1M
  obtain ⟨d0, hd0⟩ : ∃ d0, d0 = (u2 * 4294967296 + u0) / v := ⟨_, rfl⟩
  obtain ⟨u3, hu3⟩ : ∃ u3, u3 = (u2 * 4294967296 + u0) % v := ⟨_, rfl⟩
  rw [← hd0] at h18 dm2 lt2
  rw [← hu3] at dm2 md2
  have w3 : IntKind.u64.wrap (IntKind.u64.wrap (IntKind.u64.wrap ((u2 : Int) * 4294967296) + u0) - IntKind.u64.wrap ((d0 : Int) * v)) = (u3 : Int) := by
    have : (d0 : Int) * v = ((v * d0 : Nat) : Int) := by rw [Nat.mul_comm]; simp
    rw [this]
    generalize v * d0 = z at *
    simp only [wrap_u64]
    omega
  obtain ⟨f1, f2⟩ := kd_two (A := u * 4294967296 + u1) (u0 := u0) hv (by omega) (by rw [e1, hu1, hu0]; omega) dm1 dm2 md2
  have w4 : IntKind.u64.wrap (IntKind.u64.wrap ((d1 : Int) * 4294967296) + d0) = ((d1 * 4294967296 + d0 : Nat) : Int) := by
    simp only [wrap_u64]
    omega
  simp (maxSteps := 999999) only [E0, seval, -Int.reduceNatCast', NUM, h2, h8, h9, h10, h14, h15, h17, h18, hd, hf, w3, w4, Int.toNat_natCast, (show ¬ (sh : Int) < 0 by omega), shr_n u3 sh (by omega), f1, f2]
end S
end Go.Proofs.Ytbmmbefgmhhciaa

/-
  Shares by weight, in plain numbers.
-/
namespace Go.Proofs.Ytbmmbefgmhhciaa
namespace S
open Go GoV
set_option maxRecDepth 100000

def SUMI : List Int → Int
  | [] => 0
  | x :: l => x + SUMI l
theorem SUMI_app : ∀ (l m : List Int), SUMI (l ++ m) = SUMI l + SUMI m
  | [], m => by simp [SUMI]
  | x :: l, m => by simp only [List.cons_append, SUMI, SUMI_app l m]; omega
theorem SUMI_take {l : List Int} {j : Nat} {x : Int} (e : l[j]? = some x) : SUMI (l.take (j + 1)) = SUMI (l.take j) + x := by
  rw [List.take_add_one, e, SUMI_app]; simp [SUMI]
theorem SUMI_bounds {a b : Int} : ∀ (l : List Int), (∀ x ∈ l, a ≤ x ∧ x ≤ b) → a * l.length ≤ SUMI l ∧ SUMI l ≤ b * l.length
  | [], _ => by simp [SUMI]
  | x :: l, h => by
    have h1 := SUMI_bounds l (fun y hy => h y (by simp [hy]))
    have h2 := h x (by simp)
    simp only [SUMI, List.length_cons, Int.natCast_add, Int.mul_add, Int.natCast_one, Int.mul_one]
    omega
theorem SUMI_perm {l m : List Int} (h : l.Perm m) : SUMI l = SUMI m := by
  induction h with
  | nil => rfl
  | cons x _ ih => simp only [SUMI, ih]
  | swap x y l => simp only [SUMI]; omega
  | trans _ _ h1 h2 => exact h1.trans h2
theorem SUMI_set : ∀ (l : List Int) (k : Nat) (x y : Int), l[k]? = some x → SUMI (l.set k y) = SUMI l - x + y
  | [], k, _, _, h => by simp at h
  | z :: l, 0, x, y, h => by simp at h; subst h; simp only [List.set_cons_zero, SUMI]; omega
  | z :: l, k + 1, x, y, h => by
    have := SUMI_set l k x y (by simpa using h)
    simp only [List.set_cons_succ, SUMI, this]; omega
/-- The shares, rounded down. -/
def SHQ (T S : Int) (w : List Int) : List Int := w.map fun x => T * x / S
def QUOF (T S : Int) : Nat → List Int → List Qu
  | _, [] => []
  | i, x :: l => ⟨i, T * x % S⟩ :: QUOF T S (i + 1) l
/-- The remainders. -/
def QUO (T S : Int) (w : List Int) : List Qu := QUOF T S 0 w
theorem QUOF_app (T S : Int) : ∀ (i : Nat) (a b : List Int), QUOF T S i (a ++ b) = QUOF T S i a ++ QUOF T S (i + a.length) b
  | i, [], b => by simp [QUOF]
  | i, x :: a, b => by
    simp only [List.cons_append, QUOF, QUOF_app T S (i + 1) a b, List.length_cons]
    rw [show i + 1 + a.length = i + (a.length + 1) by omega]
theorem QUO_take {T S : Int} {w : List Int} {j : Nat} {x : Int} (e : w[j]? = some x) : QUO T S (w.take (j + 1)) = QUO T S (w.take j) ++ [⟨j, T * x % S⟩] := by
  have hj := (List.getElem?_eq_some_iff.1 e).1
  rw [List.take_add_one, e, QUO, QUOF_app]
  simp [QUOF, QUO, Nat.min_eq_left (Nat.le_of_lt hj)]
theorem QUOF_len (T S : Int) : ∀ (i : Nat) (w : List Int), (QUOF T S i w).length = w.length
  | _, [] => rfl
  | i, x :: l => by simp [QUOF, QUOF_len T S (i + 1) l]
theorem QUO_len (T S : Int) (w : List Int) : (QUO T S w).length = w.length := QUOF_len T S 0 w
theorem QUOF_get (T S : Int) : ∀ (i : Nat) (w : List Int) (j : Nat), (QUOF T S i w)[j]? = (w[j]?).map fun x => ⟨(i + j : Nat), T * x % S⟩
  | _, [], _ => by simp [QUOF]
  | i, x :: l, 0 => by simp [QUOF]
  | i, x :: l, j + 1 => by simp only [QUOF, List.getElem?_cons_succ, QUOF_get T S (i + 1) l j]; rw [show i + 1 + j = i + (j + 1) by omega]
theorem QUO_get (T S : Int) (w : List Int) (j : Nat) : (QUO T S w)[j]? = (w[j]?).map fun x => ⟨(j : Nat), T * x % S⟩ := by
  rw [QUO, QUOF_get, Nat.zero_add]
theorem QUO_mem {T S : Int} {w : List Int} {q : Qu} (h : q ∈ QUO T S w) : ∃ (j : Nat) (x : Int), w[j]? = some x ∧ q = ⟨j, T * x % S⟩ := by
  obtain ⟨j, e⟩ := List.mem_iff_getElem?.1 h
  rw [QUO_get] at e
  obtain ⟨x, e1, e2⟩ := Option.map_eq_some_iff.1 e
  exact ⟨j, x, e1, e2.symm⟩
theorem QS_unique {l m : List Qu} (h : l.Perm m) (hl : QS l) (hm : QS m) : l = m :=
  List.Perm.eq_of_pairwise (fun a b _ _ h1 h2 => absurd h2 h1.asymm) hl hm h
/-- One more at a place. -/
def BMP1 (q : List Int) (k : Int) : List Int := q.set k.toNat (q.getD k.toNat 0 + 1)
def BMP (ks : List Int) (q : List Int) : List Int := ks.foldl BMP1 q
theorem BMP1_len (q : List Int) (k : Int) : (BMP1 q k).length = q.length := by simp [BMP1]
theorem BMP_len (ks q : List Int) : (BMP ks q).length = q.length := by
  induction ks generalizing q with
  | nil => rfl
  | cons k ks ih => show (BMP ks (BMP1 q k)).length = _; rw [ih, BMP1_len]
theorem BMP_snoc (ks : List Int) (k : Int) (q : List Int) : BMP (ks ++ [k]) q = BMP1 (BMP ks q) k := by simp [BMP]
theorem BMP_sum (q : List Int) : ∀ (ks : List Int), (∀ k ∈ ks, 0 ≤ k ∧ k < q.length) → SUMI (BMP ks q) = SUMI q + ks.length := by
  intro ks
  induction ks generalizing q with
  | nil => intro _; simp [BMP]
  | cons k ks ih =>
    intro h
    have hk := h k (by simp)
    show SUMI (BMP ks (BMP1 q k)) = _
    rw [ih (BMP1 q k) (by rw [BMP1_len]; exact fun j hj => h j (by simp [hj]))]
    have e : q[k.toNat]? = some (q[k.toNat]'(by omega)) := List.getElem?_eq_getElem _
    have := SUMI_set q k.toNat _ (q.getD k.toNat 0 + 1) e
    rw [BMP1, this, List.getD_eq_getElem?_getD, e]
    simp only [Option.getD_some, List.length_cons, Int.natCast_add, Int.natCast_one]
    omega
theorem BMP_get (i : Nat) (x : Int) : ∀ (ks : List Int) (q : List Int), ks.Nodup → (∀ k ∈ ks, 0 ≤ k) → q[i]? = some x → (BMP ks q)[i]? = some (if (i : Int) ∈ ks then x + 1 else x)
  | [], q, _, _, e => by simpa [BMP] using e
  | k :: ks, q, hn, hk, e => by
    have hn' := List.nodup_cons.1 hn
    have k0 := hk k (by simp)
    have hi := (List.getElem?_eq_some_iff.1 e).1
    show (BMP ks (BMP1 q k))[i]? = _
    by_cases h : k.toNat = i
    · have e1 : (BMP1 q k)[i]? = some (x + 1) := by
        rw [BMP1, h, List.getElem?_set_self hi, List.getD_eq_getElem?_getD, e]; rfl
      rw [BMP_get i (x + 1) ks _ hn'.2 (fun j hj => hk j (by simp [hj])) e1]
      have : (i : Int) = k := by omega
      rw [this, if_neg hn'.1, if_pos (by simp)]
    · have e1 : (BMP1 q k)[i]? = some x := by
        rw [BMP1, List.getElem?_set_ne h]; exact e
      rw [BMP_get i x ks _ hn'.2 (fun j hj => hk j (by simp [hj])) e1]
      have : (i : Int) ≠ k := by omega
      simp [this]
/-- What is divided and what stays. -/
theorem SH_sum (T S : Int) : ∀ (i : Nat) (w : List Int), S * SUMI (SHQ T S w) + SUMI ((QUOF T S i w).map Qu.r) = T * SUMI w
  | _, [] => by simp [SHQ, QUOF, SUMI]
  | i, x :: l => by
    have ih := SH_sum T S (i + 1) l
    have := Int.mul_ediv_add_emod (T * x) S
    simp only [SHQ, QUOF, SUMI, List.map_cons, Int.mul_add] at *
    omega
structure SHA (T S : Int) (w : List Int) (M : List Qu) (left : Nat) : Prop where
  pm : M.Perm (QUO T S w)
  qs : QS M
  lf : (left : Int) = T - SUMI (SHQ T S w)
section
variable {T S : Int} {w : List Int} {M : List Qu} {left : Nat}
theorem SHA.len (h : SHA T S w M left) : M.length = w.length := by rw [h.pm.length_eq, QUO_len]
theorem SHA.rest (h : SHA T S w M left) (hs : S = SUMI w) : SUMI (M.map Qu.r) = S * left := by
  have h1 := SH_sum T S 0 w
  rw [SUMI_perm (h.pm.map Qu.r), h.lf, Int.mul_sub, ← hs, Int.mul_comm T S] at *
  unfold QUO; omega
theorem SHA.r_in (h : SHA T S w M left) (hS : 0 < S) : ∀ q ∈ M, 0 ≤ q.r ∧ q.r ≤ S - 1 := fun q hq => by
  obtain ⟨j, x, _, rfl⟩ := QUO_mem (h.pm.mem_iff.1 hq)
  have h1 := Int.emod_nonneg (T * x) (show S ≠ 0 by omega)
  have h2 := Int.emod_lt_of_pos (T * x) hS
  exact ⟨h1, by show T * x % S ≤ S - 1; omega⟩
theorem SHA.left_le (h : SHA T S w M left) (hs : S = SUMI w) (hS : 0 < S) : left ≤ M.length := by
  have h1 := h.rest hs
  have h2 := (SUMI_bounds (a := 0) (b := S - 1) (M.map Qu.r) (by
    intro x hx
    obtain ⟨q, hq, rfl⟩ := List.mem_map.1 hx
    exact h.r_in hS q hq)).2
  rw [h1, List.length_map] at h2
  rcases Nat.lt_or_ge M.length left with h3 | h3
  · have h4 : S * ((M.length : Int) + 1) ≤ S * left := Int.mul_le_mul_of_nonneg_left (by omega) (by omega)
    have e1 : (S - 1) * (M.length : Int) = S * M.length - M.length := by rw [Int.sub_mul, Int.one_mul]
    rw [Int.mul_add, Int.mul_one] at h4
    omega
  · exact h3
theorem SHA.pos (h : SHA T S w M left) (hs : S = SUMI w) (hS : 0 < S) : ∀ q ∈ M.take left, 0 < q.r := by
  intro q hq
  have hr := h.r_in hS
  rcases Int.lt_or_le 0 q.r with h0 | h0
  · exact h0
  exfalso
  obtain ⟨M1, M2, e⟩ := List.append_of_mem hq
  have e2 : M = M1 ++ q :: (M2 ++ M.drop left) := by
    have h' := (List.take_append_drop left M).symm
    rw [e, List.append_assoc] at h'
    exact h'
  have l1 : M1.length < left := by
    have := congrArg List.length e
    rw [List.length_take, List.length_append, List.length_cons] at this
    omega
  have qs := h.qs
  rw [e2] at qs
  have z2 : ∀ x ∈ (q :: (M2 ++ M.drop left)).map Qu.r, (0 : Int) ≤ x ∧ x ≤ 0 := by
    intro x hx
    obtain ⟨p, hp, rfl⟩ := List.mem_map.1 hx
    have hpM := hr p (by rw [e2]; exact List.mem_append_right _ hp)
    refine ⟨hpM.1, ?_⟩
    rcases List.mem_cons.1 hp with rfl | hp
    · exact h0
    · have := (List.pairwise_cons.1 (List.pairwise_append.1 qs).2.1).1 p hp
      unfold QLT at this; omega
  have h2 := SUMI_bounds _ z2
  have h1 := (SUMI_bounds (a := 0) (b := S - 1) (M1.map Qu.r) (by
    intro x hx
    obtain ⟨p, hp, rfl⟩ := List.mem_map.1 hx
    exact hr p (by rw [e2]; exact List.mem_append_left _ hp))).2
  have h3 := h.rest hs
  have h4 : SUMI (M.map Qu.r) = SUMI (M1.map Qu.r) + SUMI ((q :: (M2 ++ M.drop left)).map Qu.r) := by
    conv => lhs; rw [e2]
    rw [List.map_append, SUMI_app]
  rw [List.length_map] at h1
  have h5 : S * ((M1.length : Int) + 1) ≤ S * left := Int.mul_le_mul_of_nonneg_left (by omega) (by omega)
  have e1 : (S - 1) * (M1.length : Int) = S * M1.length - M1.length := by rw [Int.sub_mul, Int.one_mul]
  rw [Int.mul_add, Int.mul_one] at h5
  omega
def SHA.K (_ : SHA T S w M left) : List Int := (M.take left).map Qu.ix
theorem SHA.k_nodup (h : SHA T S w M left) : h.K.Nodup := by
  have h1 : (M.map Qu.ix).Nodup := by
    rw [(h.pm.map Qu.ix).nodup_iff]
    refine List.pairwise_iff_getElem.2 fun i j hi hj hij => ?_
    rw [List.length_map] at hi hj
    have hi' := hi; have hj' := hj
    rw [QUO_len] at hi' hj'
    have e1 := QUO_get T S w i
    have e2 := QUO_get T S w j
    rw [List.getElem?_eq_getElem hi, List.getElem?_eq_getElem hi'] at e1
    rw [List.getElem?_eq_getElem hj, List.getElem?_eq_getElem hj'] at e2
    simp only [Option.map_some, Option.some.injEq] at e1 e2
    rw [List.getElem_map, List.getElem_map, e1, e2]
    show (i : Int) ≠ j
    omega
  unfold SHA.K
  rw [List.map_take]
  exact h1.sublist (List.take_sublist _ _)
theorem SHA.k_in (h : SHA T S w M left) : ∀ k ∈ h.K, 0 ≤ k ∧ k < w.length := by
  intro k hk
  obtain ⟨q, hq, rfl⟩ := List.mem_map.1 hk
  obtain ⟨j, x, e, rfl⟩ := QUO_mem (h.pm.mem_iff.1 (List.mem_of_mem_take hq))
  have := (List.getElem?_eq_some_iff.1 e).1
  exact ⟨by show (0 : Int) ≤ j; omega, by show (j : Int) < w.length; omega⟩
/-- The shares. -/
def SHA.out (h : SHA T S w M left) : List Int := BMP h.K (SHQ T S w)
theorem SHQ_len : (SHQ T S w).length = w.length := by simp [SHQ]
theorem SHA.out_len (h : SHA T S w M left) : h.out.length = w.length := by rw [SHA.out, BMP_len, SHQ_len]
theorem SHA.out_sum (h : SHA T S w M left) (hs : S = SUMI w) (hS : 0 < S) : SUMI h.out = T := by
  rw [SHA.out, BMP_sum _ _ (by rw [SHQ_len]; exact h.k_in), SHA.K, List.length_map, List.length_take, Nat.min_eq_left (h.left_le hs hS), h.lf]
  omega
theorem SHA.out_get (h : SHA T S w M left) {i : Nat} {x : Int} (e : w[i]? = some x) : h.out[i]? = some (if (i : Int) ∈ h.K then T * x / S + 1 else T * x / S) :=
  BMP_get i _ _ _ h.k_nodup (fun k hk => (h.k_in k hk).1) (by simp [SHQ, e])
theorem SHA.k_pos (h : SHA T S w M left) (hs : S = SUMI w) (hS : 0 < S) {i : Nat} {x : Int} (e : w[i]? = some x) (hk : (i : Int) ∈ h.K) : 0 < T * x % S := by
  obtain ⟨q, hq, eq⟩ := List.mem_map.1 hk
  have hp := h.pos hs hS q hq
  obtain ⟨j, y, e', rfl⟩ := QUO_mem (h.pm.mem_iff.1 (List.mem_of_mem_take hq))
  have : j = i := by have : (j : Int) = i := eq; omega
  subst this
  rw [e] at e'; cases e'
  exact hp
/-- Whoever comes before one that gets more gets more as well. -/
theorem SHA.k_down (h : SHA T S w M left) {i j : Nat} {x y : Int} (ei : w[i]? = some x) (ej : w[j]? = some y) (hk : (i : Int) ∈ h.K) (hr : T * x % S < T * y % S) : (j : Int) ∈ h.K := by
  obtain ⟨q, hq, eq⟩ := List.mem_map.1 hk
  obtain ⟨i', x', e', rfl⟩ := QUO_mem (h.pm.mem_iff.1 (List.mem_of_mem_take hq))
  have : i' = i := by have : (i' : Int) = i := eq; omega
  subst this
  rw [ei] at e'; cases e'
  have hm : (⟨j, T * y % S⟩ : Qu) ∈ M := by
    rw [h.pm.mem_iff]
    refine List.mem_iff_getElem?.2 ⟨j, ?_⟩
    rw [QUO_get, ej]; rfl
  have hm' := hm
  rw [← List.take_append_drop left M] at hm'
  rcases List.mem_append.1 hm' with h1 | h1
  · exact List.mem_map.2 ⟨_, h1, rfl⟩
  · have qs := h.qs
    rw [← List.take_append_drop left M] at qs
    have := (List.pairwise_append.1 qs).2.2 _ hq _ h1
    unfold QLT at this
    simp only at this
    omega
end
end S
end Go.Proofs.Ytbmmbefgmhhciaa

/-
  stakes.Share.
-/
namespace Go.Proofs.Ytbmmbefgmhhciaa
namespace S
open Go GoV
set_option maxRecDepth 100000

def CKW (T : Int) (w : List Int) : Int := if 600 < w.length then 2 else if (0 ≤ T ∧ T ≤ 1099511627776) ∧ ∀ x ∈ w, OKL x then 0 else 380
theorem CKW_0 {T : Int} {w : List Int} (h : CKW T w = 0) : w.length ≤ 600 ∧ (0 ≤ T ∧ T ≤ 1099511627776) ∧ ∀ x ∈ w, OKL x := by
  unfold CKW at h
  split at h
  · cases h
  · split at h
    · next h1 h2 => exact ⟨by omega, h2⟩
    · cases h
theorem c_right (T : Int) (w : List Int) (c : Option Nat) : ap Try.prog pol 32 [I T, .vs 1 (w.map I) c] = some (.ret (I (CKW T w))) := by
  rw [ap_eq _ Try.func32 rfl Try.ntmps32 Try.results32 (by kernel_rfl) rfl (by exact Nat.le_of_ble_eq_true rfl)]
  by_cases hl : 600 < w.length
  · rw [show CKW T w = 2 by unfold CKW; rw [if_pos hl]]
    simp (maxSteps := 999999) only [E0, seval, -Int.reduceNatCast', NUM, SIN, List.length_map, (show (600 : Int) < w.length by omega)]
  have ch := c_has4 w c (by omega)
  have ci := c_in T 1099511627776
  by_cases h1 : 0 ≤ T ∧ T ≤ 1099511627776
  rotate_left
  · rw [show CKW T w = 380 by unfold CKW; rw [if_neg hl, if_neg (fun h => h1 h.1)]]
    rw [decide_eq_false h1] at ci
    simp (maxSteps := 999999) only [E0, seval, -Int.reduceNatCast', NUM, SIN, List.length_map, (show ¬ (600 : Int) < w.length by omega), ci]
  rw [decide_eq_true h1] at ci
  by_cases h2 : ∃ x ∈ w, ¬ OKL x
  · rw [show CKW T w = 380 by unfold CKW; rw [if_neg hl, if_neg (fun h => by obtain ⟨x, hx, hn⟩ := h2; exact hn (h.2 x hx))]]
    rw [decide_eq_true h2] at ch
    simp (maxSteps := 999999) only [E0, seval, -Int.reduceNatCast', NUM, SIN, List.length_map, (show ¬ (600 : Int) < w.length by omega), ci, ch]
  · rw [show CKW T w = 0 by unfold CKW; rw [if_neg hl, if_pos ⟨h1, fun x hx => Decidable.not_not.1 fun h => h2 ⟨x, hx, h⟩⟩]]
    rw [decide_eq_false h2] at ch
    simp (maxSteps := 999999) only [E0, seval, -Int.reduceNatCast', NUM, SIN, List.length_map, (show ¬ (600 : Int) < w.length by omega), ci, ch]
/-- The shares so far, and noughts. -/
def PADZ (q : List Int) (n : Nat) : List Int := q ++ List.replicate (n - q.length) 0
theorem PADZ_set {q : List Int} {n : Nat} (x : Int) (h : q.length < n) : (PADZ q n).set q.length x = PADZ (q ++ [x]) n := by
  unfold PADZ
  rw [show n - q.length = (n - (q ++ [x]).length) + 1 by simp; omega, List.replicate_succ]
  simp
theorem PADZ_len {q : List Int} {n : Nat} (h : q.length ≤ n) : (PADZ q n).length = n := by simp [PADZ]; omega
theorem PADZ_at {q : List Int} {n : Nat} (h : q.length < n) : (PADZ q n)[q.length]? = some 0 := by
  unfold PADZ
  rw [List.getElem?_append_right (by omega), Nat.sub_self, show n - q.length = (n - q.length - 1) + 1 by omega, List.replicate_succ]; rfl
theorem SHQ_take {T S : Int} {w : List Int} {j : Nat} {x : Int} (e : w[j]? = some x) : SHQ T S (w.take (j + 1)) = SHQ T S (w.take j) ++ [T * x / S] := by
  rw [List.take_add_one, e]; simp [SHQ]
theorem SUM_take_le {w : List Int} (h : ∀ x ∈ w, OKL x) (j : Nat) : 0 ≤ SUMI (w.take j) ∧ SUMI (w.take j) ≤ 1073741824 * w.length := by
  have h1 := SUMI_bounds (a := 0) (b := 1073741824) (w.take j) (fun x hx => h x (List.mem_of_mem_take hx))
  have : ((w.take j).length : Int) ≤ w.length := by rw [List.length_take]; omega
  omega
theorem mapI_set (l : List Int) (k : Nat) (x : Int) : (l.map I).set k (I x) = (l.set k x).map I := by rw [List.map_set]
theorem zeros (n : Nat) : List.replicate n (I 0) = ((PADZ [] n).map I) := by simp [PADZ]
end S
end Go.Proofs.Ytbmmbefgmhhciaa

/-
  stakes.Share, walked.
-/
namespace Go.Proofs.Ytbmmbefgmhhciaa
namespace S
open Go GoV
set_option maxRecDepth 100000

theorem SHQ_take_sum {T S : Int} {w : List Int} (hT : 0 ≤ T ∧ T ≤ 1099511627776) (hS : 0 < S) (hs : S = SUMI w) (h : ∀ x ∈ w, OKL x) (j : Nat) : 0 ≤ SUMI (SHQ T S (w.take j)) ∧ SUMI (SHQ T S (w.take j)) ≤ T := by
  have h1 := SH_sum T S 0 (w.take j)
  have h2 := (SUMI_bounds (a := 0) (b := S) ((QUOF T S 0 (w.take j)).map Qu.r) (by
    intro x hx
    obtain ⟨q, hq, rfl⟩ := List.mem_map.1 hx
    obtain ⟨i, y, _, rfl⟩ := QUO_mem hq
    have a1 := Int.emod_nonneg (T * y) (show S ≠ 0 by omega)
    have a2 := Int.emod_lt_of_pos (T * y) hS
    exact ⟨a1, by show T * y % S ≤ S; omega⟩)).1
  have h3 : SUMI (w.take j) ≤ S := by
    have e : SUMI w = SUMI (w.take j) + SUMI (w.drop j) := by rw [← SUMI_app, List.take_append_drop]
    have := (SUMI_bounds (a := 0) (b := 1073741824) (w.drop j) (fun x hx => h x (List.mem_of_mem_drop hx))).1
    omega
  have h4 : T * SUMI (w.take j) ≤ T * S := Int.mul_le_mul_of_nonneg_left h3 hT.1
  refine ⟨?_, ?_⟩
  · have := (SUMI_bounds (a := 0) (b := T) (SHQ T S (w.take j)) (by
      intro x hx
      obtain ⟨y, hy, rfl⟩ := List.mem_map.1 hx
      have hy' := h y (List.mem_of_mem_take hy)
      unfold OKL at hy'
      have p := Int.mul_nonneg hT.1 hy'.1
      have p2 := Int.mul_le_mul_of_nonneg_left (show y ≤ S by
        have := List.mem_iff_getElem?.1 (List.mem_of_mem_take hy)
        obtain ⟨i, ei⟩ := this
        have e1 := SUMI_take ei
        have b0 := (SUM_take_le h i).1
        have e : SUMI w = SUMI (w.take (i + 1)) + SUMI (w.drop (i + 1)) := by rw [← SUMI_app, List.take_append_drop]
        have := (SUMI_bounds (a := 0) (b := 1073741824) (w.drop (i + 1)) (fun x hx => h x (List.mem_of_mem_drop hx))).1
        omega) hT.1
      exact ⟨Int.ediv_nonneg p (by omega), Int.ediv_le_of_le_mul hS (by omega)⟩)).1
    omega
  · rcases Int.lt_or_le T (SUMI (SHQ T S (w.take j))) with h5 | h5
    · have h6 := Int.mul_le_mul_of_nonneg_left (show T + 1 ≤ SUMI (SHQ T S (w.take j)) by omega) (show 0 ≤ S by omega)
      rw [Int.mul_add, Int.mul_one, Int.mul_comm S T] at h6
      omega
    · exact h5
theorem c_shareE (T : Int) (w : List Int) (c : Option Nat) (h : CKW T w ≠ 0) : ap Try.prog pol 21 [I T, .vs 1 (w.map I) c] = some (.ret (.tup [.nils, I 0, I (CKW T w)])) := by
  have cr := c_right T w c
  rw [ap_eq _ Try.func21 rfl Try.ntmps21 Try.results21 (by kernel_rfl) rfl (by exact Nat.le_of_ble_eq_true rfl)]
  simp (maxSteps := 999999) only [E0, seval, -Int.reduceNatCast', NUM, SIN, cr, h]
theorem OWN_quo (T S : Int) (w : List Int) : OWN 0 (QUO T S w) := by
  intro i q e
  rw [QUO_get] at e
  obtain ⟨x, _, rfl⟩ := Option.map_eq_some_iff.1 e
  show (i : Int) = (0 : Nat) + i; omega
theorem c_share0 (T : Int) (w : List Int) (c : Option Nat) (h : CKW T w = 0) (h0 : SUMI w = 0) : ap Try.prog pol 21 [I T, .vs 1 (w.map I) c] = some (.ret (.tup [.vs 1 ((List.replicate w.length 0).map I) none, I T, I 0])) := by
  have cr := c_right T w c
  obtain ⟨hl, hT, hw⟩ := CKW_0 h
  obtain ⟨Z, hZ⟩ : ∃ Z, Z = PADZ [] w.length := ⟨_, rfl⟩
  have lZ : Z.length = w.length := by rw [hZ]; exact PADZ_len (by simp)
  have zs : List.replicate w.length (I 0) = Z.map I := by rw [hZ]; exact zeros _
  rw [ap_eq _ Try.func21 rfl Try.ntmps21 Try.results21 (by kernel_rfl) rfl (by exact Nat.le_of_ble_eq_true rfl)]
  simp (maxSteps := 999999) only [E0, seval, -Int.reduceNatCast', NUM, SIN, cr, h, List.length_map, Int.toNat_natCast, (show (0 : Int) ≤ w.length by omega), (show (w.length : Int) ≤ maxN by unfold maxN; omega), (show 8 ≤ maxB by decide), zs]
  generalize hL : W _ (.loop _) _ = L
  obtain ⟨ex, s, rfl, rfl, h7, h0', h1, h4, hH, hd, hf⟩ := loop_at hL (α := Nat) (fun j => w.length - j)
    (fun s0 j s => j ≤ w.length ∧ s.tmps 31 = I j ∧ s.tmps 30 = I w.length ∧ s.tmps 29 = .vs 1 (w.map I) c ∧ s.tmps 7 = I (SUMI (w.take j)) ∧ s.tmps 0 = I T ∧ s.tmps 1 = .vs 1 (w.map I) c ∧ s.tmps 4 = .gsl 1 1 w.length 0 w.length ∧ s.H = s0.H ∧ s.defers = [] ∧ s.fid = 0)
    (fun s0 ex s => ex = .exit 0 ∧ s.tmps 7 = I (SUMI w) ∧ s.tmps 0 = I T ∧ s.tmps 1 = .vs 1 (w.map I) c ∧ s.tmps 4 = .gsl 1 1 w.length 0 w.length ∧ s.H = s0.H ∧ s.defers = [] ∧ s.fid = 0) 0
    (by simp (maxSteps := 999999) only [E0, seval, -Int.reduceNatCast', List.take_zero]; exact ⟨by omega, by simp, by simp [SUMI]⟩) (by
      rintro j s r hW ⟨hj, h31, h30, h29, h7, h0, h1, h4, hH, hd, hf⟩
      by_cases hp : j < w.length
      · have e0 : w[j]? = some w[j] := List.getElem?_eq_getElem hp
        have e1 := map_get (f := I) e0
        have st := SUMI_take e0
        have b1 := SUM_take_le hw (j + 1)
        generalize w[j] = x at *
        simp (maxSteps := 999999) only [E0, seval, -Int.reduceNatCast', NUM, h31, h30, h29, h7, h0, h1, h4, hd, hf, e1, List.length_map, Int.toNat_natCast, (show (j : Int) < w.length by omega), (show (0 : Int) ≤ j by omega), ← st, i64_in (x := SUMI (w.take (j + 1))) (by unfold I64; omega), i64_in (x := (j : Int) + 1) (by unfold I64; omega)] at hW
        subst hW
        refine rd_next (j + 1) ?_ (show w.length - (j + 1) < w.length - j by omega)
        simp (maxSteps := 999999) only [E0, seval, -Int.reduceNatCast', h30, h29, h0, h1, h4, hH]
        exact ⟨by omega, by simp⟩
      · simp (maxSteps := 999999) only [E0, seval, -Int.reduceNatCast', h31, h30, hd, hf, (show ¬ (j : Int) < w.length by omega)] at hW
        subst hW
        rw [List.take_of_length_le (by omega)] at h7
        refine rd_exit ⟨rfl, ?_⟩
        simp (maxSteps := 999999) only [E0, seval, -Int.reduceNatCast', h7, h0, h1, h4, hH])
  have r1 : s.H.rows 1 = some (.gro 1 (Z.map I) 0) := by rw [hH]; simp (maxSteps := 999999) only [E0, seval, -Int.reduceNatCast']
  have zz : Z = List.replicate w.length 0 := by rw [hZ]; simp [PADZ]
  simp (maxSteps := 999999) only [E0, seval, -Int.reduceNatCast', NUM, SIN, h7, h0', h1, h4, hd, hf, h0, r1, lZ, List.length_map, Nat.zero_add, Nat.le_refl]
  rw [List.take_of_length_le (by simp [lZ]), SIN.2.2.1, zz]
end S
end Go.Proofs.Ytbmmbefgmhhciaa

/-
  stakes.Share where something is divided.
-/
namespace Go.Proofs.Ytbmmbefgmhhciaa
namespace S
open Go GoV
set_option maxRecDepth 100000

set_option maxHeartbeats 1000000 in
theorem c_share1 (T : Int) (w : List Int) (c : Option Nat) (h : CKW T w = 0) (h0 : SUMI w ≠ 0) :
    ∃ M left, ∃ hs : SHA T (SUMI w) w M left, ap Try.prog pol 21 [I T, .vs 1 (w.map I) c] = some (.ret (.tup [.vs 1 (hs.out.map I) none, I 0, I 0])) := by
  have cr := c_right T w c
  obtain ⟨hl, hT, hw⟩ := CKW_0 h
  obtain ⟨S, hS⟩ : ∃ S, S = SUMI w := ⟨_, rfl⟩
  have bS := SUM_take_le hw w.length
  rw [List.take_length, ← hS] at bS
  rw [← hS] at h0
  have S0 : 0 < S := by omega
  obtain ⟨Z, hZ⟩ : ∃ Z, Z = PADZ [] w.length := ⟨_, rfl⟩
  have lZ : Z.length = w.length := by rw [hZ]; exact PADZ_len (by simp)
  have zs : List.replicate w.length (I 0) = Z.map I := by rw [hZ]; exact zeros _
  rw [ap_eq _ Try.func21 rfl Try.ntmps21 Try.results21 (by kernel_rfl) rfl (by exact Nat.le_of_ble_eq_true rfl)]
  simp (maxSteps := 999999) only [E0, seval, -Int.reduceNatCast', NUM, SIN, cr, h, List.length_map, Int.toNat_natCast, (show (0 : Int) ≤ w.length by omega), (show (w.length : Int) ≤ maxN by unfold maxN; omega), (show 8 ≤ maxB by decide), zs]
  generalize hL : W _ (.loop _) _ = L
  obtain ⟨ex, s, rfl, rfl, h7, h0', h1, h4, hH, hd, hf⟩ := loop_at hL (α := Nat) (fun j => w.length - j)
    (fun s0 j s => j ≤ w.length ∧ s.tmps 31 = I j ∧ s.tmps 30 = I w.length ∧ s.tmps 29 = .vs 1 (w.map I) c ∧ s.tmps 7 = I (SUMI (w.take j)) ∧ s.tmps 0 = I T ∧ s.tmps 1 = .vs 1 (w.map I) c ∧ s.tmps 4 = .gsl 1 1 w.length 0 w.length ∧ s.H = s0.H ∧ s.defers = [] ∧ s.fid = 0)
    (fun s0 ex s => ex = .exit 0 ∧ s.tmps 7 = I (SUMI w) ∧ s.tmps 0 = I T ∧ s.tmps 1 = .vs 1 (w.map I) c ∧ s.tmps 4 = .gsl 1 1 w.length 0 w.length ∧ s.H = s0.H ∧ s.defers = [] ∧ s.fid = 0) 0
    (by simp (maxSteps := 999999) only [E0, seval, -Int.reduceNatCast', List.take_zero]; exact ⟨by omega, by simp, by simp [SUMI]⟩) (by
      rintro j s r hW ⟨hj, h31, h30, h29, h7, h0, h1, h4, hH, hd, hf⟩
      by_cases hp : j < w.length
      · have e0 : w[j]? = some w[j] := List.getElem?_eq_getElem hp
        have e1 := map_get (f := I) e0
        have st := SUMI_take e0
        have b1 := SUM_take_le hw (j + 1)
        generalize w[j] = x at *
        simp (maxSteps := 999999) only [E0, seval, -Int.reduceNatCast', NUM, h31, h30, h29, h7, h0, h1, h4, hd, hf, e1, List.length_map, Int.toNat_natCast, (show (j : Int) < w.length by omega), (show (0 : Int) ≤ j by omega), ← st, i64_in (x := SUMI (w.take (j + 1))) (by unfold I64; omega), i64_in (x := (j : Int) + 1) (by unfold I64; omega)] at hW
        subst hW
        refine rd_next (j + 1) ?_ (show w.length - (j + 1) < w.length - j by omega)
        simp (maxSteps := 999999) only [E0, seval, -Int.reduceNatCast', h30, h29, h0, h1, h4, hH]
        exact ⟨by omega, by simp⟩
      · simp (maxSteps := 999999) only [E0, seval, -Int.reduceNatCast', h31, h30, hd, hf, (show ¬ (j : Int) < w.length by omega)] at hW
        subst hW
        rw [List.take_of_length_le (by omega)] at h7
        refine rd_exit ⟨rfl, ?_⟩
        simp (maxSteps := 999999) only [E0, seval, -Int.reduceNatCast', h7, h0, h1, h4, hH])
  have r1 : s.H.rows 1 = some (.gro 1 (Z.map I) 0) := by rw [hH]; simp (maxSteps := 999999) only [E0, seval, -Int.reduceNatCast']
  have nx : s.H.next = 2 := by rw [hH]; rfl
  rw [← hS] at h7
  simp (maxSteps := 999999) only [E0, seval, -Int.reduceNatCast', NUM, SIN, h7, h0', h1, h4, hd, hf, h0, List.length_map, nx]
  clear hL
  generalize hL : W _ (.loop _) _ = L
  obtain ⟨ex, s2, rfl, rfl, h10, h11, h4, q1, q2, hd, hf⟩ := loop_at hL (α := Nat) (fun j => w.length - j)
    (fun s0 j s => j ≤ w.length ∧ s.tmps 46 = I j ∧ s.tmps 45 = I w.length ∧ s.tmps 44 = .vs 1 (w.map I) c ∧ s.tmps 7 = I S ∧ s.tmps 0 = I T ∧ s.tmps 4 = .gsl 1 1 w.length 0 w.length ∧ s.tmps 10 = I (T - SUMI (SHQ T S (w.take j))) ∧ s.tmps 11 = QG j ∧
      s.H.rows 1 = some (.gro 1 ((PADZ (SHQ T S (w.take j)) w.length).map I) 0) ∧ s.H.rows 2 = some (RW (QUO T S (w.take j))) ∧ s.defers = [] ∧ s.fid = 0)
    (fun s0 ex s => ex = .exit 2 ∧ s.tmps 10 = I (T - SUMI (SHQ T S w)) ∧ s.tmps 11 = QG w.length ∧ s.tmps 4 = .gsl 1 1 w.length 0 w.length ∧ s.H.rows 1 = some (.gro 1 ((SHQ T S w).map I) 0) ∧ s.H.rows 2 = some (RW (QUO T S w)) ∧ s.defers = [] ∧ s.fid = 0) 0
    (by simp (maxSteps := 999999) only [E0, seval, -Int.reduceNatCast', List.take_zero, r1, nx, h0', h4]
        refine ⟨Nat.zero_le _, rfl, ?_, ?_, ?_, ?_⟩
        · exact h7
        · simp [SHQ, SUMI]
        · rw [hZ]; rfl
        · simp [QUO, QUOF]) (by
      rintro j s r hW ⟨hj, h46, h45, h44, h7, h0', h4, h10, h11, r1, r2, hd, hf⟩
      by_cases hp : j < w.length
      · have e0 : w[j]? = some w[j] := List.getElem?_eq_getElem hp
        have e1 := map_get (f := I) e0
        have sq := SHQ_take (T := T) (S := S) e0
        have qq := QUO_take (T := T) (S := S) e0
        have b1 := SHQ_take_sum hT S0 hS hw (j + 1)
        have b0 := SHQ_take_sum hT S0 hS hw j
        have okx := hw _ (List.mem_of_getElem? e0)
        unfold OKL at okx
        have ls : (SHQ T S (w.take j)).length = j := by rw [SHQ_len, List.length_take]; omega
        have p1 := PADZ_at (q := SHQ T S (w.take j)) (n := w.length) (by omega)
        have p2 := PADZ_set (q := SHQ T S (w.take j)) (n := w.length) (T * w[j] / S) (by omega)
        have p3 := PADZ_len (q := SHQ T S (w.take j)) (n := w.length) (by omega)
        rw [ls] at p1 p2
        rw [← sq] at p2
        have lq : (QUO T S (w.take j)).length = j := by rw [QUO_len, List.length_take]; omega
        rw [sq, SUMI_app] at b1
        have xq : SUMI [T * w[j] / S] = T * w[j] / S := by simp [SUMI]
        rw [xq] at b1
        have q0 : 0 ≤ T * w[j] / S := Int.ediv_nonneg (Int.mul_nonneg hT.1 okx.1) (by omega)
        generalize w[j] = x at *
        obtain ⟨t, rfl⟩ := Int.eq_ofNat_of_zero_le hT.1
        obtain ⟨v, rfl⟩ := Int.eq_ofNat_of_zero_le okx.1
        obtain ⟨S', rfl⟩ := Int.eq_ofNat_of_zero_le (show 0 ≤ S by omega)
        have cm := c_mul64 t v (by omega) (by omega)
        have tv : t * v ≤ 1099511627776 * 1073741824 := Nat.mul_le_mul (by omega) (by omega)
        have hov : t * v / 18446744073709551616 < S' := by
          have a1 : v ≤ S' := by
            have e1' := SUMI_take e0
            have b0' := (SUM_take_le hw j).1
            have e : SUMI w = SUMI (w.take (j + 1)) + SUMI (w.drop (j + 1)) := by rw [← SUMI_app, List.take_append_drop]
            have := (SUMI_bounds (a := 0) (b := 1073741824) (w.drop (j + 1)) (fun x hx => hw x (List.mem_of_mem_drop hx))).1
            omega
          have a2 : t * v ≤ 1099511627776 * v := Nat.mul_le_mul_right _ (by omega)
          omega
        have cd := c_div64 (t * v / 18446744073709551616) (t * v % 18446744073709551616) S' hov (by omega) (by omega)
        rw [show t * v / 18446744073709551616 * 18446744073709551616 + t * v % 18446744073709551616 = t * v by omega] at cd
        have k1 : ((t * v / S' : Nat) : Int) = (t : Int) * v / S' := by simp
        have k2 : ((t * v % S' : Nat) : Int) = (t : Int) * v % S' := by simp
        rw [k1, k2] at cd
        generalize hqq : (t : Int) * v / S' = Q at *
        generalize hrr : (t : Int) * v % S' = R at *
        obtain ⟨P, hP⟩ : ∃ P, P = PADZ (SHQ t S' (w.take j)) w.length := ⟨_, rfl⟩
        rw [← hP] at p1 p2 p3 r1
        have p2' := mapI_set P j Q
        rw [p2] at p2'
        have p1' := map_get (f := I) p1
        have pq : ((P.map I).set j (I Q))[j]? = some (I Q) := by
          rw [List.getElem?_set_self]; simpa [p3] using hp
        simp (maxSteps := 999999) only [E0, seval, -Int.reduceNatCast', NUM, h46, h45, h44, h7, h0', h4, h10, h11, hd, hf, r1, r2, e1, cm, cd, p1', p3, lq, pq, List.length_map, List.length_set, Int.toNat_natCast, (show (j : Int) < w.length by omega), (show (0 : Int) ≤ j by omega), i64_in (x := (j : Int) + 1) (by unfold I64; omega), u64_in (x := (t : Int)) (by unfold U64; omega), u64_in (x := (v : Int)) (by unfold U64; omega), u64_in (x := (S' : Int)) (by unfold U64; omega), Nat.zero_add, Nat.zero_le, i64_in (x := Q) (by unfold I64; omega), i64_in (x := (t : Int) - SUMI (SHQ t S' (w.take j)) - Q) (by unfold I64; omega), (show j + 1 ≤ 67108864 by omega)] at hW
        subst hW
        refine rd_next (j + 1) ?_ (show w.length - (j + 1) < w.length - j by omega)
        simp (maxSteps := 999999) only [E0, seval, -Int.reduceNatCast', h45, h44, h7, h0', h4, p2', sq, SUMI_app, SUMI, Int.add_zero, qq, Int.sub_sub]
        exact ⟨by omega, by simp, by simp⟩
      · simp (maxSteps := 999999) only [E0, seval, -Int.reduceNatCast', h46, h45, hd, hf, (show ¬ (j : Int) < w.length by omega)] at hW
        subst hW
        have : j = w.length := by omega
        subst this
        rw [List.take_length] at h10 r1 r2
        refine rd_exit ⟨rfl, ?_⟩
        simp (maxSteps := 999999) only [E0, seval, -Int.reduceNatCast', h10, h11, h4, r1, r2]
        simp [PADZ, SHQ])
  obtain ⟨left, hlf⟩ := Int.eq_ofNat_of_zero_le (show 0 ≤ T - SUMI (SHQ T S w) by
    have := (SHQ_take_sum hT S0 hS hw w.length).2
    rw [List.take_length] at this; omega)
  obtain ⟨M, pm, qs, k, cs, hk⟩ := c_sort (QUO T S w) w.length (OWN_quo T S w) (QUO_len T S w).symm (by omega) s2.H q2
  have hs : SHA T S w M left := ⟨pm, qs, hlf.symm⟩
  have lM := hs.len
  have ll := hs.left_le hS S0
  subst hS
  refine ⟨M, left, hs, ?_⟩
  rw [hlf] at h10
  have lq : (SHQ T (SUMI w) w).length = w.length := SHQ_len
  have lo := hs.out_len
  have ki := hs.k_in
  have ot : hs.out = BMP ((M.take left).map Qu.ix) (SHQ T (SUMI w) w) := rfl
  have kd : hs.K = (M.take left).map Qu.ix := rfl
  rw [kd] at ki
  rw [ot] at lo ⊢
  rcases Nat.eq_zero_or_pos left with l0 | l0
  · subst l0
    simp (maxSteps := 999999) only [E0, seval, -Int.reduceNatCast', NUM, SIN, SQU, h10, h11, h4, q1, hd, hf, cs, WW_loop, lq, Int.natCast_zero, List.length_map, Int.toNat_natCast, Nat.zero_add, Nat.le_refl, (show (0 : Int) ≤ w.length by omega)]
    rw [List.take_of_length_le (by simp [lq]), SIN.2.2.1]; rfl
  simp (maxSteps := 999999) only [E0, seval, -Int.reduceNatCast', NUM, SIN, SQU, h10, h11, h4, q1, hd, hf, cs, lq, List.length_map, Int.sub_zero, Int.toNat_natCast, Nat.zero_add, Nat.le_refl, (show (0 : Int) ≤ (left : Int) by omega), (show (left : Int) ≤ w.length by omega), (show ¬ (0 : Int) = left by omega)]
  clear hL
  generalize hL : W _ (.loop _) _ = L
  obtain ⟨ex, s3, rfl, rfl, h4, q1, hd⟩ := loop_at hL (α := Nat) (fun j => left - j)
    (fun s0 j s => j ≤ left ∧ s.tmps 91 = I j ∧ s.tmps 90 = I left ∧ s.tmps 89 = .gsl 2 2 w.length 0 left ∧ s.tmps 4 = .gsl 1 1 w.length 0 w.length ∧
      s.H.rows 1 = some (.gro 1 ((BMP ((M.take j).map Qu.ix) (SHQ T (SUMI w) w)).map I) 0) ∧ s.H.rows 2 = some (RW M) ∧ s.defers = [] ∧ s.fid = 0)
    (fun s0 ex s => ex = .exit 4 ∧ s.tmps 4 = .gsl 1 1 w.length 0 w.length ∧ s.H.rows 1 = some (.gro 1 ((BMP ((M.take left).map Qu.ix) (SHQ T (SUMI w) w)).map I) 0) ∧ s.defers = []) 0
    (by simp (maxSteps := 999999) only [E0, seval, -Int.reduceNatCast', List.take_zero, q1, h4]
        exact ⟨Nat.zero_le _, rfl, rfl⟩) (by
      rintro j s r hW ⟨hj, h91, h90, h89, h4, r1, r2, hd, hf⟩
      by_cases hp : j < left
      · have e0 : M[j]? = some (M[j]'(by omega)) := List.getElem?_eq_getElem _
        have e1 := mget e0
        have tk : (M.take (j + 1)).map Qu.ix = (M.take j).map Qu.ix ++ [(M[j]'(by omega)).ix] := by rw [List.take_add_one, e0, List.map_append]; rfl
        have hm : (M[j]'(by omega)).ix ∈ (M.take left).map Qu.ix := List.mem_map.2 ⟨_, List.mem_iff_getElem?.2 ⟨j, by rw [List.getElem?_take, if_pos hp]; exact e0⟩, rfl⟩
        have kx := ki _ hm
        generalize (M[j]'(by omega)) = x at *
        obtain ⟨a, ea⟩ := Int.eq_ofNat_of_zero_le kx.1
        obtain ⟨B, hB⟩ : ∃ B, B = BMP ((M.take j).map Qu.ix) (SHQ T (SUMI w) w) := ⟨_, rfl⟩
        have lB : B.length = w.length := by rw [hB, BMP_len, lq]
        have bs : BMP ((M.take (j + 1)).map Qu.ix) (SHQ T (SUMI w) w) = BMP1 B x.ix := by rw [tk, BMP_snoc, ← hB]
        rw [← hB] at r1
        have b0 : B[a]? = some (B[a]'(by omega)) := List.getElem?_eq_getElem _
        have bb : 0 ≤ B[a]'(by omega) ∧ B[a]'(by omega) ≤ 1099511627776 + 1 := by
          have sb : ((M.take j).map Qu.ix).Sublist ((M.take left).map Qu.ix) := by
            rw [show M.take j = (M.take left).take j by rw [List.take_take, Nat.min_eq_left (by omega)]]
            exact (List.take_sublist _ _).map _
          have wa : w[a]? = some (w[a]'(by omega)) := List.getElem?_eq_getElem _
          have sq : (SHQ T (SUMI w) w)[a]? = some (T * w[a]'(by omega) / SUMI w) := by simp [SHQ, wa]
          have bg := BMP_get a _ ((M.take j).map Qu.ix) _ (hs.k_nodup.sublist sb) (fun k hk => (ki k (sb.subset hk)).1) sq
          rw [← hB, b0] at bg
          have okx := hw _ (List.mem_of_getElem? wa)
          unfold OKL at okx
          have q0 : 0 ≤ T * w[a]'(by omega) / SUMI w := Int.ediv_nonneg (Int.mul_nonneg hT.1 okx.1) (by omega)
          have wS : w[a]'(by omega) ≤ SUMI w := by
            have e1' := SUMI_take wa
            have b0' := (SUM_take_le hw a).1
            have e : SUMI w = SUMI (w.take (a + 1)) + SUMI (w.drop (a + 1)) := by rw [← SUMI_app, List.take_append_drop]
            have := (SUMI_bounds (a := 0) (b := 1073741824) (w.drop (a + 1)) (fun x hx => hw x (List.mem_of_mem_drop hx))).1
            omega
          have q1 : T * w[a]'(by omega) / SUMI w ≤ T := Int.ediv_le_of_le_mul S0 (Int.mul_le_mul_of_nonneg_left wS hT.1)
          injection bg with bg
          rw [bg]
          split <;> omega
        have b1 : BMP1 B x.ix = B.set a (B[a]'(by omega) + 1) := by
          rw [BMP1, ea, Int.toNat_natCast, List.getD_eq_getElem?_getD, b0]; rfl
        generalize B[a]'(by omega) = y at *
        have b2 := map_get (f := I) b0
        have ms := mapI_set B a (y + 1)
        rcases hbx : s.boxes 19 with _ | ⟨ver, cs⟩
        · simp (maxSteps := 999999) only [E0, seval, -Int.reduceNatCast', NUM, SIN, SQU, h91, h90, h89, h4, r1, r2, hd, hf, hbx, e1, ea, lB, lM, b2, List.length_map, Int.toNat_natCast, Nat.zero_add, Nat.zero_le, (show (j : Int) < left by omega), (show (0 : Int) ≤ j by omega), (show (0 : Int) ≤ a by omega), (show (a : Int) < w.length by omega), i64_in (x := y + 1) (by unfold I64; omega), i64_in (x := (j : Int) + 1) (by unfold I64; omega)] at hW
          subst hW
          refine rd_next (j + 1) ?_ (show left - (j + 1) < left - j by omega)
          simp (maxSteps := 999999) only [E0, seval, -Int.reduceNatCast', h90, h89, h4, bs, b1, ms, r2]
          exact ⟨by omega, by simp⟩
        · simp (maxSteps := 999999) only [E0, seval, -Int.reduceNatCast', NUM, SIN, SQU, h91, h90, h89, h4, r1, r2, hd, hf, hbx, e1, ea, lB, lM, b2, List.length_map, Int.toNat_natCast, Nat.zero_add, Nat.zero_le, (show (j : Int) < left by omega), (show (0 : Int) ≤ j by omega), (show (0 : Int) ≤ a by omega), (show (a : Int) < w.length by omega), i64_in (x := y + 1) (by unfold I64; omega), i64_in (x := (j : Int) + 1) (by unfold I64; omega)] at hW
          subst hW
          refine rd_next (j + 1) ?_ (show left - (j + 1) < left - j by omega)
          simp (maxSteps := 999999) only [E0, seval, -Int.reduceNatCast', h90, h89, h4, bs, b1, ms, r2]
          exact ⟨by omega, by simp⟩
      · simp (maxSteps := 999999) only [E0, seval, -Int.reduceNatCast', h91, h90, hd, hf, (show ¬ (j : Int) < left by omega)] at hW
        subst hW
        have : j = left := by omega
        subst this
        refine rd_exit ⟨rfl, ?_⟩
        simp (maxSteps := 999999) only [E0, seval, -Int.reduceNatCast', h4, r1])
  simp (maxSteps := 999999) only [E0, seval, -Int.reduceNatCast', NUM, SIN, h4, q1, hd, lo, List.length_map, Nat.zero_add, Nat.le_refl]
  rw [List.take_of_length_le (by rw [List.length_map, lo]; exact Nat.le_refl _), SIN.2.2.1]
end S
end Go.Proofs.Ytbmmbefgmhhciaa

/-
  The reference's division, sum and greatest member.
-/
namespace Go.Proofs.Ytbmmbefgmhhciaa
namespace S
open Go GoV
set_option maxRecDepth 100000

theorem SHO_one {T S : Int} {w : List Int} {M M' : List Qu} {l l' : Nat} (h : SHA T S w M l) (h' : SHA T S w M' l') : h.out = h'.out := by
  obtain rfl := QS_unique (h.pm.trans h'.pm.symm) h.qs h'.qs
  have : l = l' := by have := h.lf; have := h'.lf; omega
  subst this; rfl
open Classical in
/-- The shares. -/
noncomputable def SHO (T : Int) (w : List Int) : List Int := if h : ∃ M, ∃ left, SHA T (SUMI w) w M left then h.choose_spec.choose_spec.out else []
theorem SHO_eq {T : Int} {w : List Int} {M : List Qu} {l : Nat} (h : SHA T (SUMI w) w M l) : h.out = SHO T w := by
  have hh : ∃ M, ∃ left, SHA T (SUMI w) w M left := ⟨M, l, h⟩
  unfold SHO
  rw [dif_pos hh]
  exact SHO_one _ _
/-- What Share answers. -/
noncomputable def SHV (T : Int) (w : List Int) : PV := if CKW T w ≠ 0 then .tup [.nils, I 0, I (CKW T w)] else if SUMI w = 0 then .tup [.vs 1 ((List.replicate w.length 0).map I) none, I T, I 0] else .tup [.vs 1 ((SHO T w).map I) none, I 0, I 0]
theorem c_share (T : Int) (w : List Int) (c : Option Nat) : ap Try.prog pol 21 [I T, .vs 1 (w.map I) c] = some (.ret (SHV T w)) := by
  unfold SHV
  split
  · next h => exact c_shareE T w c h
  · next h =>
    have h := Decidable.not_not.1 h
    split
    · next h0 => exact c_share0 T w c h h0
    · next h0 =>
      obtain ⟨M, l, hs, e⟩ := c_share1 T w c h h0
      rw [e, SHO_eq hs]
theorem and_one (n : Nat) (h : n < 9223372036854775808) : IntKind.i64.wrap ((BitVec.ofInt IntKind.i64.bits (n : Int) &&& BitVec.ofInt IntKind.i64.bits 1).toNat : Nat) = ((n % 2 : Nat) : Int) := by
  have e : (BitVec.ofInt IntKind.i64.bits (n : Int) &&& BitVec.ofInt IntKind.i64.bits 1).toNat = n % 2 := by
    rw [BitVec.toNat_and]
    have e1 : (BitVec.ofInt IntKind.i64.bits (n : Int)).toNat = n := by
      rw [BitVec.toNat_ofInt]; simp [IntKind.bits]; omega
    have e2 : (BitVec.ofInt IntKind.i64.bits 1).toNat = 2 ^ 1 - 1 := by decide
    rw [e1, e2, Nat.and_two_pow_sub_one_eq_mod]
  rw [e, i64_in]
  unfold I64; omega
theorem shr_i (n : Nat) (k : Nat) (hk : k ≤ 64) : (n : Int).fdiv (2 ^ min k IntKind.i64.bits) = ((n / 2 ^ k : Nat) : Int) := by
  rw [show min k IntKind.i64.bits = k by simp [IntKind.bits]; omega, Int.fdiv_eq_ediv_of_nonneg _ (by exact Int.pow_nonneg (by decide)), Int.natCast_ediv, Int.natCast_pow]; rfl
end S
end Go.Proofs.Ytbmmbefgmhhciaa

/-
  What the shares are worth.
-/
namespace Go.Proofs.Ytbmmbefgmhhciaa
namespace S
open Go GoV
set_option maxRecDepth 100000

noncomputable def OUTS (T : Int) (w : List Int) : List Int := if SUMI w = 0 then List.replicate w.length 0 else SHO T w
noncomputable def REST (T : Int) (w : List Int) : Int := if SUMI w = 0 then T else 0
theorem SHV_ok {T : Int} {w : List Int} (h : CKW T w = 0) : SHV T w = .tup [.vs 1 ((OUTS T w).map I) none, I (REST T w), I 0] := by
  unfold SHV OUTS REST
  rw [if_neg (by rw [h]; decide)]
  split <;> rfl
theorem OUTS_len {T : Int} {w : List Int} (h : CKW T w = 0) : (OUTS T w).length = w.length := by
  unfold OUTS
  split
  · simp
  · next h0 =>
    obtain ⟨M, l, hs, _⟩ := c_share1 T w none h h0
    rw [← SHO_eq hs, hs.out_len]

theorem SUMI_zero : ∀ (w : List Int), (∀ x ∈ w, 0 ≤ x) → SUMI w = 0 → ∀ x ∈ w, x = 0
  | [], _, _, x, hx => by simp at hx
  | y :: w, h, e, x, hx => by
    have h1 := (SUMI_bounds (a := 0) (b := y + SUMI w) w (fun z hz => ⟨h z (by simp [hz]), by
      have key : ∀ (l : List Int), (∀ a ∈ l, 0 ≤ a) → ∀ a ∈ l, a ≤ SUMI l := by
        intro l
        induction l with
        | nil => intro _ a ha; simp at ha
        | cons b l ih =>
          intro hl a ha
          have hs := (SUMI_bounds (a := 0) (b := 0) [] (by simp)).1
          have ih' := ih (fun c hc => hl c (by simp [hc]))
          have hb := hl b (by simp)
          have hl0 : 0 ≤ SUMI l := by
            cases l with
            | nil => simp [SUMI]
            | cons c l => have := ih' c (by simp); have := hl c (by simp); omega
          rcases List.mem_cons.1 ha with rfl | ha
          · simp only [SUMI]; omega
          · have := ih' a ha; simp only [SUMI]; omega
      have := key w (fun a ha => h a (by simp [ha])) z hz
      have := h y (by simp)
      omega⟩)).1
    have hy := h y (by simp)
    simp only [SUMI] at e
    rcases List.mem_cons.1 hx with rfl | hx
    · omega
    · exact SUMI_zero w (fun z hz => h z (by simp [hz])) (by omega) x hx
theorem OUTS_sum {T : Int} {w : List Int} (h : CKW T w = 0) : SUMI (OUTS T w) + REST T w = T := by
  unfold OUTS REST
  split
  · next h0 =>
    have : ∀ n : Nat, SUMI (List.replicate n 0) = 0 := by
      intro n
      induction n with
      | zero => rfl
      | succ n ih => simp only [List.replicate_succ, SUMI, ih]; omega
    rw [this]; omega
  · next h0 =>
    obtain ⟨M, l, hs, _⟩ := c_share1 T w none h h0
    have h1 := SUM_take_le (CKW_0 h).2.2 w.length
    rw [List.take_length] at h1
    rw [← SHO_eq hs, hs.out_sum rfl (by omega)]; omega
theorem OUTS_q {T : Int} {w : List Int} (h : CKW T w = 0) (h0 : SUMI w ≠ 0) {i : Nat} {x n : Int} (e : w[i]? = some x) (en : (OUTS T w)[i]? = some n) :
    n = T * x / SUMI w ∨ (n = T * x / SUMI w + 1 ∧ 0 < T * x % SUMI w) := by
  obtain ⟨M, l, hs, _⟩ := c_share1 T w none h h0
  have h1 := SUM_take_le (CKW_0 h).2.2 w.length
  rw [List.take_length] at h1
  have o : OUTS T w = hs.out := by unfold OUTS; rw [if_neg h0, SHO_eq hs]
  rw [o, hs.out_get e] at en
  injection en with en
  by_cases hk : (i : Int) ∈ hs.K
  · rw [if_pos hk] at en
    exact .inr ⟨en.symm, hs.k_pos rfl (by omega) e hk⟩
  · rw [if_neg hk] at en
    exact .inl en.symm
theorem OUTS_in {T : Int} {w : List Int} (h : CKW T w = 0) {i : Nat} {x n : Int} (e : w[i]? = some x) (en : (OUTS T w)[i]? = some n) : 0 ≤ n ∧ (0 < n → x ≠ 0) := by
  obtain ⟨_, hT, hw⟩ := CKW_0 h
  have hx := hw x (List.mem_of_getElem? e)
  unfold OKL at hx
  by_cases h0 : SUMI w = 0
  · unfold OUTS at en
    rw [if_pos h0, List.getElem?_replicate] at en
    split at en
    · injection en with en; omega
    · cases en
  · have h1 := SUM_take_le hw w.length
    rw [List.take_length] at h1
    have S0 : 0 < SUMI w := by omega
    have q0 : 0 ≤ T * x / SUMI w := Int.ediv_nonneg (Int.mul_nonneg hT.1 hx.1) (by omega)
    rcases OUTS_q h h0 e en with h2 | ⟨h2, h3⟩
    · refine ⟨by omega, fun h4 h5 => ?_⟩
      subst h5
      simp at h2; omega
    · refine ⟨by omega, fun h4 h5 => ?_⟩
      subst h5
      simp at h3
theorem OUTS_take {T : Int} {w : List Int} (h : CKW T w = 0) (j : Nat) : 0 ≤ SUMI ((OUTS T w).take j) ∧ SUMI ((OUTS T w).take j) ≤ T := by
  have lo := OUTS_len h
  have nn : ∀ x ∈ OUTS T w, 0 ≤ x := by
    intro x hx
    obtain ⟨i, ei⟩ := List.mem_iff_getElem?.1 hx
    have hi : i < w.length := by rw [← lo]; exact (List.getElem?_eq_some_iff.1 ei).1
    exact (OUTS_in h (List.getElem?_eq_getElem hi) ei).1
  have pos : ∀ l : List Int, (∀ x ∈ l, 0 ≤ x) → 0 ≤ SUMI l := by
    intro l
    induction l with
    | nil => intro _; simp [SUMI]
    | cons a l ih => intro hl; have := ih (fun b hb => hl b (by simp [hb])); have := hl a (by simp); simp only [SUMI]; omega
  have h1 := pos _ (fun x hx => nn x (List.mem_of_mem_take hx) : ∀ x ∈ (OUTS T w).take j, 0 ≤ x)
  have h2 := pos _ (fun x hx => nn x (List.mem_of_mem_drop hx) : ∀ x ∈ (OUTS T w).drop j, 0 ≤ x)
  have h3 : SUMI (OUTS T w) = SUMI ((OUTS T w).take j) + SUMI ((OUTS T w).drop j) := by rw [← SUMI_app, List.take_append_drop]
  have h4 := OUTS_sum h
  have h5 : 0 ≤ REST T w := by
    have := (CKW_0 h).2.1
    unfold REST; split <;> omega
  omega
end S
end Go.Proofs.Ytbmmbefgmhhciaa

/-
  What offers pay: plain numbers.
-/
namespace Go.Proofs.Ytbmmbefgmhhciaa
open Go GoV
set_option maxRecDepth 100000

theorem ABS_bd {n : Int} (h : -1073741824 ≤ n ∧ n ≤ 1073741824) : S.OKL (ABS n) := by unfold S.OKL ABS; omega
/-- The rebates. -/
noncomputable def REB (os : List Ofr) (set : Int) : List Int := S.OUTS (PRC os set os.length) (WGS os set)
/-- What an offer pays. -/
noncomputable def PAY (os : List Ofr) (set : Int) (i : Nat) (x : Ofr) : Int := if BIT set i = 1 then x.pr - (REB os set).getD i 0 else 0
noncomputable def PAYS (os : List Ofr) (set : Int) : List Int := PART (PAY os set) os os.length
open Classical in
/-- Whether a set can be settled. -/
noncomputable def PE (M : Mkt) (set : Int) : Int := if ASK M set ≠ 0 then ASK M set else if AFT M set = none ∨ PRC M.os set M.os.length < 0 then 470 else 0
noncomputable def PAYV (M : Mkt) (set : Int) : PV := if PE M set ≠ 0 then .tup [.nils, I (PE M set)] else .tup [.vs 1 ((PAYS M.os set).map I) none, I 0]
theorem PE_0 {M : Mkt} {set : Int} (h : PE M set = 0) : ASK M set = 0 ∧ AFT M set ≠ none ∧ 0 ≤ PRC M.os set M.os.length := by
  unfold PE at h
  split at h
  · next h1 => exact absurd h h1
  · next h1 =>
    split at h
    · omega
    · next h2 => exact ⟨Decidable.not_not.1 h1, fun g => h2 (.inl g), by omega⟩
theorem WGS_ok {os : List Ofr} (h : PRB os) (set : Int) : ∀ x ∈ WGS os set, S.OKL x := by
  intro x hx
  obtain ⟨i, hi⟩ := List.mem_iff_getElem?.1 hx
  unfold WGS at hi
  rw [PART_get] at hi
  cases e : os[i]? with
  | none => rw [e] at hi; cases hi
  | some y =>
    rw [e] at hi
    simp only [Option.map_some, Option.some.injEq] at hi
    subst hi
    have := h y (List.mem_of_getElem? e)
    unfold WGT
    split
    · split
      · exact ABS_bd this
      · exact ⟨by omega, by omega⟩
    · exact ⟨by omega, by omega⟩
theorem CKW_ok {os : List Ofr} (h : PRB os) (set : Int) (hl : os.length ≤ 12) (h0 : 0 ≤ PRC os set os.length) : S.CKW (PRC os set os.length) (WGS os set) = 0 := by
  have b := PRC_bd h set os.length
  unfold S.CKW
  rw [if_neg (by unfold WGS; rw [PART_len]; omega), if_pos ⟨⟨h0, by omega⟩, WGS_ok h set⟩]
theorem REB_len {os : List Ofr} (h : PRB os) (set : Int) (hl : os.length ≤ 12) (h0 : 0 ≤ PRC os set os.length) : (REB os set).length = os.length := by
  unfold REB
  rw [S.OUTS_len (CKW_ok h set hl h0)]
  unfold WGS
  rw [PART_len]
end Go.Proofs.Ytbmmbefgmhhciaa

/-
  What offers pay: the walk.
-/
namespace Go.Proofs.Ytbmmbefgmhhciaa
open Go GoV
set_option maxRecDepth 100000

theorem c_size (n : Int) (h : -1073741824 ≤ n ∧ n ≤ 1073741824) : ap Try.prog pol 20 [I n] = some (.ret (I (ABS n))) := by
  rw [ap_eq _ Try.func20 rfl Try.ntmps20 Try.results20 (by kernel_rfl) rfl (by exact Nat.le_of_ble_eq_true rfl)]
  simp (maxSteps := 999999) only [E0, seval, -Int.reduceNatCast', NUM, Int.zero_sub, (i64_in (x := -n) (by unfold I64; omega)), ABS]
section
variable {M : Mkt} (hr : ∀ x ∈ M.D.rs, x.OK) {q : Cps} (hv : DV M.D q.cs q.gs q.ds q.ws) (hA : AWV M.aw q.av)
include hv hA
theorem c_schosen (set : Int) : ap Try.prog pol 19 [.agg (mcl M q), I set] = some (.ret (.fn 31 [.rop (mcl M q), .rop [I set]])) := by
  rw [ap_eq _ Try.func19 rfl Try.ntmps19 Try.results19 (by kernel_rfl) rfl (by exact Nat.le_of_ble_eq_true rfl)]
  simp (maxSteps := 999999) only [E0, seval, -Int.reduceNatCast', NUM, SRCH, SFRM, SCRP, SRGT, SDTY, hv.s0, hv.s1, hv.s2, hv.fz, SAV hA, SOFR, SLOT, INTS]
theorem c_due (lo : M.os.length ≤ 12) (R : List Int) (P k : Nat) (x : Ofr) (u : Int) (e : M.os[k]? = some x) (eu : R[k]? = some u) (hx : -1073741824 ≤ x.pr ∧ x.pr ≤ 1073741824) (hu : 0 ≤ u ∧ u ≤ 1099511627776) (H : Heap) (hP : H.rows P = some (.gro 1 [.vs 1 (R.map I) none] 0)) :
    callF G Try.prog pol 22 [I k, .rop (mcl M q), .ptr P 1 0 0] H = some (.ret (I (x.pr - u)), ⟨H.rows, H.next + 1⟩) := by
  have hk : k < M.os.length := (List.getElem?_eq_some_iff.1 e).1
  have hk2 : k < R.length := (List.getElem?_eq_some_iff.1 eu).1
  have e1 := map_get (f := ofr q.cl) e
  have e2 := ints_get eu
  rw [callF_eq _ _ Try.func22 rfl Try.ntmps22 Try.results22 (by kernel_rfl) rfl (by exact Nat.le_of_ble_eq_true rfl)]
  simp (maxSteps := 999999) only [E0, seval, -Int.reduceNatCast', NUM, SRCH, SFRM, SCRP, SRGT, SDTY, hv.s0, hv.s1, hv.s2, hv.fz, SAV hA, SOFR, SLOT, INTS, hP, e1, e2, List.length_map, Int.toNat_natCast, Nat.zero_add, Nat.zero_le, (show (k : Int) < M.os.length by omega), (show (k : Int) < R.length by omega), (show (0 : Int) ≤ k by omega), (i64_in (x := x.pr - u) (by unfold I64; omega))]
include hr
set_option maxHeartbeats 4000000 in
theorem c_payE (set : Int) (e : Int) (he : e ≠ 0) (h : (ASK M set = e) ∨ (e = 470 ∧ ASK M set = 0 ∧ (AFT M set = none ∨ PRC M.os set M.os.length < 0))) : ap Try.prog pol 8 [.agg (mcl M q), I set] = some (.ret (.tup [.nils, I e])) := by
  have cv := c_value hr hv hA set
  unfold VALV at cv
  rw [ap_eq _ Try.func8 rfl Try.ntmps8 Try.results8 (by kernel_rfl) rfl (by exact Nat.le_of_ble_eq_true rfl)]
  rcases h with rfl | ⟨rfl, h0, h⟩
  · rw [if_pos he] at cv
    simp (maxSteps := 999999) only [E0, seval, -Int.reduceNatCast', NUM, SRCH, SFRM, SCRP, SRGT, SDTY, hv.s0, hv.s1, hv.s2, hv.fz, SAV hA, SOFR, SLOT, INTS, cv, he]
  · rw [if_neg (fun g => g h0)] at cv
    by_cases ha : AFT M set = none
    · rw [if_pos ha] at cv
      simp (maxSteps := 999999) only [E0, seval, -Int.reduceNatCast', NUM, SRCH, SFRM, SCRP, SRGT, SDTY, hv.s0, hv.s1, hv.s2, hv.fz, SAV hA, SOFR, SLOT, INTS, cv]
    · rw [if_neg ha] at cv
      have h := h.resolve_left ha
      simp (maxSteps := 999999) only [E0, seval, -Int.reduceNatCast', NUM, SRCH, SFRM, SCRP, SRGT, SDTY, hv.s0, hv.s1, hv.s2, hv.fz, SAV hA, SOFR, SLOT, INTS, cv, h]
end
end Go.Proofs.Ytbmmbefgmhhciaa

/-
  What offers pay: the walk of a set that can be settled.
-/
namespace Go.Proofs.Ytbmmbefgmhhciaa
open Go GoV
set_option maxRecDepth 100000

theorem ite_chkF3 {α : Type} {ops : Array Oper} (L : Nat → Nat → Nat → List (Nat × MF)) (a b c : Nat) (hab : a ≠ b) (hac : a ≠ c) (hbc : b ≠ c) {x y z : α} (h : ∀ f : Nat → Nat, f 1 = a → f 2 = b → f 3 = c → renL f (L 1 2 3) = L a b c) (hk : chkL ops (L 1 2 3) (L 1 2 3) = false) (e : (if chkL ops (L a b c) (L a b c) = true then x else y) = z) : y = z := by
  obtain ⟨f, g, h1, h2, e1, _⟩ := perm_ext id id (fun _ => rfl) (fun _ => rfl) 1 a
  obtain ⟨f', g', h1', h2', e2, k2⟩ := perm_ext f g h1 h2 2 b
  obtain ⟨f'', g'', h1'', h2'', e3, k3⟩ := perm_ext f' g' h1' h2' 3 c
  have q1 : f' 1 = a := by rw [k2 1 (by decide) (by omega)]; exact e1
  have : chkL ops (L a b c) (L a b c) = false := by rw [← h f'' (by rw [k3 1 (by decide) (by omega)]; exact q1) (by rw [k3 2 (by decide) (by omega)]; exact e2) e3, chkL_ren (inv_inj h1'')]; exact hk
  rw [if_neg (by rw [this]; simp)] at e; exact e
section
variable {M : Mkt} (hr : ∀ x ∈ M.D.rs, x.OK) {q : Cps} (hv : DV M.D q.cs q.gs q.ds q.ws) (hA : AWV M.aw q.av)
include hr hv hA
set_option maxHeartbeats 8000000 in
theorem c_pay0 (set : Int) (h0 : ASK M set = 0) (ha : AFT M set ≠ none) (hp : 0 ≤ PRC M.os set M.os.length) (R : List Int) (r : Int) (lR : R.length = M.os.length) (bR : ∀ x ∈ R, 0 ≤ x ∧ x ≤ 1099511627776)
    (hs : ∀ c, ap Try.prog pol 21 [I (PRC M.os set M.os.length), .vs 1 ((WGS M.os set).map I) c] = some (.ret (.tup [.vs 1 (R.map I) none, I r, I 0]))) :
    ap Try.prog pol 8 [.agg (mcl M q), I set] = some (.ret (.tup [.vs 1 ((PART (fun i x => if BIT set i = 1 then x.pr - R.getD i 0 else 0) M.os M.os.length).map I) none, I 0])) := by
  have cv := c_value hr hv hA set
  unfold VALV at cv
  rw [if_neg (fun g => g h0), if_neg ha] at cv
  have prb := MC_prb (ASK_0 h0).1
  have lo := (MC_0 (ASK_0 h0).1).2.2.1
  have cc := c_schosen hv hA set
  have zs : List.replicate M.os.length (I 0) = (PART (WGT set) M.os 0).map I := by rw [PART_0]; simp
  rw [ap_eq _ Try.func8 rfl Try.ntmps8 Try.results8 (by kernel_rfl) rfl (by exact Nat.le_of_ble_eq_true rfl)]
  simp (maxSteps := 999999) only [E0, seval, -Int.reduceNatCast', zs, (show (0 : Int) ≤ M.os.length by omega), (show (M.os.length : Int) ≤ maxN by unfold maxN; omega), (show 8 ≤ maxB by decide), Int.toNat_natCast, NUM, SRCH, SFRM, SCRP, SRGT, SDTY, hv.s0, hv.s1, hv.s2, hv.fz, SAV hA, SOFR, SLOT, INTS, cv, cc, (show ¬ PRC M.os set M.os.length < 0 by omega), List.length_map, (show ¬ (M.os.length : Int) < 0 by omega)]
  rw [callF_eq _ _ Try.func31 rfl Try.ntmps31 Try.results31 (by kernel_rfl) rfl (by exact Nat.le_of_ble_eq_true rfl)]
  simp (maxSteps := 999999) only [E0, seval, -Int.reduceNatCast', NUM, SRCH, SFRM, SCRP, SRGT, SDTY, hv.s0, hv.s1, hv.s2, hv.fz, SAV hA, SOFR, SLOT, INTS, List.length_map]
  generalize hL : W _ (.loop _) _ = L
  obtain ⟨ex, s, rfl, rfl, g1, g2, g3, g4, g5, gn, gd, gf⟩ := loop_at hL (α := Nat) (fun k => M.os.length - k)
    (fun s0 k s => k ≤ M.os.length ∧ s.tmps 9 = I k ∧ s.tmps 8 = I M.os.length ∧ s.tmps 7 = .vs 6 (M.os.map (ofr q.cl)) q.co ∧ s.tmps 0 = .yield 5 ∧ s.tmps 2 = .rop [I set] ∧ s.H.rows 1 = some (.gro 1 [.nils] 0) ∧ s.H.rows 2 = some (.gro 1 ((PART (WGT set) M.os k).map I) 0) ∧ s.H.rows 3 = some (.gro 1 [.gsl 1 2 M.os.length 0 M.os.length] 0) ∧ s.H.rows 4 = some .dfr ∧ s.H.rows 5 = s0.H.rows 5 ∧ 6 < s.H.next ∧ s.defers = [] ∧ s.fid = 6)
    (fun s0 ex s => ex = .exit 0 ∧ s.H.rows 1 = some (.gro 1 [.nils] 0) ∧ s.H.rows 2 = some (.gro 1 ((WGS M.os set).map I) 0) ∧ s.H.rows 3 = some (.gro 1 [.gsl 1 2 M.os.length 0 M.os.length] 0) ∧ s.H.rows 4 = some .dfr ∧ s.H.rows 5 = s0.H.rows 5 ∧ 6 < s.H.next ∧ s.defers = [] ∧ s.fid = 6) 0
    (by simp (maxSteps := 999999) only [E0, seval, -Int.reduceNatCast']; exact ⟨Nat.zero_le _, by simp⟩) (by
      rintro k s r hW ⟨hk, h9, h8, h7, h0, h2, g1, g2, g3, g4, g5, gn, gd, gf⟩
      simp (maxSteps := 999999) only [E0, seval, -Int.reduceNatCast'] at g5
      by_cases hp' : k < M.os.length
      rotate_left
      · simp (maxSteps := 999999) only [E0, seval, -Int.reduceNatCast', NUM, h9, h8, gd, gf, (show ¬ (k : Int) < M.os.length by omega)] at hW
        subst hW
        have : k = M.os.length := by omega
        subst this
        refine rd_exit ⟨rfl, ?_⟩
        simp (maxSteps := 999999) only [E0, seval, -Int.reduceNatCast', g1, g2, g3, g4, g5, gd, WGS]
        exact gn
      have e0 : M.os[k]? = some M.os[k] := List.getElem?_eq_getElem hp'
      have e1 := map_get (f := ofr q.cl) e0
      have xb := prb _ (List.getElem_mem hp')
      have p1 := PART_succ (g := WGT set) e0
      have p2 := PART_same (g := WGT set) e0
      have pl := PART_len (WGT set) M.os k
      have pz : (PART (WGT set) M.os k)[k]? = some 0 := by rw [PART_get, e0]; simp
      have pi := ints_get pz
      generalize M.os[k] = x at *
      have pg : WGT set k x = if BIT set k = 1 then ABS x.pr else 0 := rfl
      have cs := c_size x.pr xb
      generalize PART (WGT set) M.os k = Q at *
      rcases hb5 : s.boxes 5 with _ | ⟨v5, c5⟩
      all_goals
        by_cases hb : BIT set k = 1
        · rw [if_pos hb] at pg
          rw [pg] at p1
          simp (maxSteps := 999999) only [E0, seval, -Int.reduceNatCast', NUM, Try.func8, SRCH, SFRM, SCRP, SRGT, SDTY, hv.s0, hv.s1, hv.s2, hv.fz, SAV hA, SOFR, SLOT, INTS, INB, hb, cs, pl, pi, h9, h8, h7, h0, h2, g1, g2, g3, g4, g5, gd, gf, hb5, e1, List.length_map, Int.toNat_natCast, Nat.zero_add, Nat.zero_le, (show k < M.os.length by omega), (show (k : Int) < M.os.length by omega), (show (0 : Int) ≤ k by omega), (show ¬ (k : Int) < 0 by omega), (i64_in (x := (k : Int) + 1) (by unfold I64; omega))] at hW
          rw [if_pos (by kernel_rfl)] at hW
          subst hW
          refine rd_next (k + 1) ?_ (show M.os.length - (k + 1) < M.os.length - k by omega)
          simp (maxSteps := 999999) only [E0, seval, -Int.reduceNatCast', h8, h7, h0, h2, g1, g2, g3, g4, g5, gd, p1]
          refine ⟨by omega, by simp, ?_, by omega⟩
          rw [List.map_set]
        · rw [if_neg hb] at pg
          have p2 := p2 pg
          simp (maxSteps := 999999) only [E0, seval, -Int.reduceNatCast', NUM, Try.func8, SRCH, SFRM, SCRP, SRGT, SDTY, hv.s0, hv.s1, hv.s2, hv.fz, SAV hA, SOFR, SLOT, INTS, INB, hb, h9, h8, h7, h0, h2, g1, g2, g3, g4, g5, gd, gf, hb5, e1, List.length_map, Int.toNat_natCast, (show (k : Int) < M.os.length by omega), (show (0 : Int) ≤ k by omega), (show ¬ (k : Int) < 0 by omega), (i64_in (x := (k : Int) + 1) (by unfold I64; omega))] at hW
          subst hW
          refine rd_next (k + 1) ?_ (show M.os.length - (k + 1) < M.os.length - k by omega)
          simp (maxSteps := 999999) only [E0, seval, -Int.reduceNatCast', h8, h7, h0, h2, g1, g2, g3, g4, g5, gd, p2]
          exact ⟨by omega, by simp, gn⟩)
  simp (maxSteps := 999999) only [E0, seval, -Int.reduceNatCast'] at g5
  clear hL
  have hw : (WGS M.os set).length = M.os.length := PART_len _ _ _
  have wt : List.take M.os.length ((WGS M.os set).map I) = (WGS M.os set).map I := List.take_of_length_le (by rw [List.length_map, hw]; exact Nat.le_refl _)
  have zs2 : List.replicate M.os.length (I 0) = (PART (fun i x => if BIT set i = 1 then x.pr - R.getD i 0 else 0) M.os 0).map I := by rw [PART_0]; simp
  obtain ⟨f1, t1, b1, d1, H1, r1⟩ := s
  dsimp only at g1 g2 g3 g4 g5 gn gd gf
  obtain ⟨n1, H1n⟩ : ∃ n, n = H1.next := ⟨_, rfl⟩
  obtain ⟨P, hP⟩ : ∃ P, H1.next = P := ⟨_, rfl⟩
  rw [hP] at gn
  have np : ((¬ P = 1) ∧ (¬ P = 2) ∧ (¬ P = 3) ∧ (¬ P = 4) ∧ (¬ P = 5) ∧ (¬ P = 0) ∧ (¬ 4 = P + 1) ∧ (¬ 4 = P + 1 + 1) ∧ (¬ 4 = P + 1 + 1 + 1) ∧ (¬ 4 = P + 1 + 1 + 1 + 1) ∧ (¬ P = 3) ∧ (¬ P = 2) ∧ (¬ P = 1) ∧ (¬ 3 = P) ∧ (¬ 2 = P) ∧ (¬ 1 = P) ∧ (¬ 0 = P)) ∧ (¬ 1 = P) ∧ (¬ 2 = P) ∧ (¬ 3 = P) ∧ (¬ 4 = P) ∧ (¬ 5 = P) := by omega
  subst gd
  simp (maxSteps := 999999) only [E0, seval, -Int.reduceNatCast', NUM, NADD, Nat.zero_add, Nat.le_refl, np,  hP, g1, g2, g3, g4, g5, gf, hs, hw, wt, zs2, SRCH, SFRM, SCRP, SRGT, SDTY, hv.s0, hv.s1, hv.s2, hv.fz, SAV hA, SOFR, SLOT, INTS, cc, Try.func8, List.length_map, (show ¬ (M.os.length : Int) < 0 by omega), (show (0 : Int) ≤ M.os.length by omega), (show (M.os.length : Int) ≤ maxN by unfold maxN; omega), (show 8 ≤ maxB by decide), Int.toNat_natCast]
  have pp : (¬ P = P + 1) ∧ (¬ P = P + 1 + 1) ∧ (¬ P = P + 1 + 1 + 1) ∧ (¬ P = P + 1 + 1 + 1 + 1) ∧ (¬ P = P + 1 + 1 + 1 + 1 + 1) ∧ (¬ P + 1 = P) ∧ (¬ P + 1 = P + 1 + 1) ∧ (¬ P + 1 = P + 1 + 1 + 1) ∧ (¬ P + 1 = P + 1 + 1 + 1 + 1) ∧ (¬ P + 1 = P + 1 + 1 + 1 + 1 + 1) ∧ (¬ P + 1 + 1 = P) ∧ (¬ P + 1 + 1 = P + 1) ∧ (¬ P + 1 + 1 = P + 1 + 1 + 1) ∧ (¬ P + 1 + 1 = P + 1 + 1 + 1 + 1) ∧ (¬ P + 1 + 1 = P + 1 + 1 + 1 + 1 + 1) ∧ (¬ P + 1 + 1 + 1 = P) ∧ (¬ P + 1 + 1 + 1 = P + 1) ∧ (¬ P + 1 + 1 + 1 = P + 1 + 1) ∧ (¬ P + 1 + 1 + 1 = P + 1 + 1 + 1 + 1) ∧ (¬ P + 1 + 1 + 1 = P + 1 + 1 + 1 + 1 + 1) ∧ (¬ P + 1 + 1 + 1 + 1 = P) ∧ (¬ P + 1 + 1 + 1 + 1 = P + 1) ∧ (¬ P + 1 + 1 + 1 + 1 = P + 1 + 1) ∧ (¬ P + 1 + 1 + 1 + 1 = P + 1 + 1 + 1) ∧ (¬ P + 1 + 1 + 1 + 1 = P + 1 + 1 + 1 + 1 + 1) ∧ (¬ P + 1 + 1 + 1 + 1 + 1 = P) ∧ (¬ P + 1 + 1 + 1 + 1 + 1 = P + 1) ∧ (¬ P + 1 + 1 + 1 + 1 + 1 = P + 1 + 1) ∧ (¬ P + 1 + 1 + 1 + 1 + 1 = P + 1 + 1 + 1) ∧ (¬ P + 1 + 1 + 1 + 1 + 1 = P + 1 + 1 + 1 + 1) := by omega
  generalize hE : callF _ _ _ _ _ _ = E
  rw [callF_eq _ _ Try.func31 rfl Try.ntmps31 Try.results31 (by kernel_rfl) rfl (by exact Nat.le_of_ble_eq_true rfl)] at hE
  simp (maxSteps := 999999) only [E0, seval, -Int.reduceNatCast', NUM, NADD, np, pp, hP, SRCH, SFRM, SCRP, SRGT, SDTY, hv.s0, hv.s1, hv.s2, hv.fz, SAV hA, SOFR, SLOT, INTS, List.length_map] at hE
  generalize hL : W _ (.loop _) _ = L at hE
  obtain ⟨ex, s, rfl, rfl, g1, g2, g7, g3, g4, g5, g6, gn, gd, gf⟩ := loop_at hL (α := Nat) (fun k => M.os.length - k)
    (fun s0 k s => k ≤ M.os.length ∧ s.tmps 9 = I k ∧ s.tmps 8 = I M.os.length ∧ s.tmps 7 = .vs 6 (M.os.map (ofr q.cl)) q.co ∧ s.tmps 0 = .yield (P + 1 + 1 + 1 + 1) ∧ s.tmps 2 = .rop [I set] ∧ s.H.rows (P + 1 + 1) = some (.gro 1 ((PART (fun i x => if BIT set i = 1 then x.pr - R.getD i 0 else 0) M.os k).map I) 0) ∧ s.H.rows 1 = some (.gro 1 [.gsl 1 (P + 1 + 1) M.os.length 0 M.os.length] 0) ∧ s.H.rows 4 = some .dfr ∧ s.H.rows P = some (.gro 1 [.vs 1 (R.map I) none] 0) ∧ s.H.rows (P + 1) = some (.gro 1 [.fn 22 [.rop (mcl M q), .ptr P 1 0 0]] 0) ∧ s.H.rows (P + 1 + 1 + 1) = some .dfr ∧ s.H.rows (P + 1 + 1 + 1 + 1) = s0.H.rows (P + 1 + 1 + 1 + 1) ∧ P + 1 + 1 + 1 + 1 + 1 < s.H.next ∧ s.defers = [] ∧ s.fid = P + 1 + 1 + 1 + 1 + 1)
    (fun s0 ex s => ex = .exit 0 ∧ s.H.rows (P + 1 + 1) = some (.gro 1 ((PART (fun i x => if BIT set i = 1 then x.pr - R.getD i 0 else 0) M.os M.os.length).map I) 0) ∧ s.H.rows 1 = some (.gro 1 [.gsl 1 (P + 1 + 1) M.os.length 0 M.os.length] 0) ∧ s.H.rows 4 = some .dfr ∧ s.H.rows P = some (.gro 1 [.vs 1 (R.map I) none] 0) ∧ s.H.rows (P + 1) = some (.gro 1 [.fn 22 [.rop (mcl M q), .ptr P 1 0 0]] 0) ∧ s.H.rows (P + 1 + 1 + 1) = some .dfr ∧ s.H.rows (P + 1 + 1 + 1 + 1) = s0.H.rows (P + 1 + 1 + 1 + 1) ∧ P + 1 + 1 + 1 + 1 + 1 < s.H.next ∧ s.defers = [] ∧ s.fid = P + 1 + 1 + 1 + 1 + 1) 0
    (by simp (maxSteps := 999999) only [E0, seval, -Int.reduceNatCast', NADD, np, pp, g4]; exact ⟨Nat.zero_le _, by simp⟩) (by
      rintro k s r hW ⟨hk, h9, h8, h7, h0, h2, g1, g2, g7, g3, g4, g5, g6, gn, gd, gf⟩
      simp (maxSteps := 999999) only [E0, seval, -Int.reduceNatCast', NADD, np, pp] at g6
      by_cases hp' : k < M.os.length
      rotate_left
      · simp (maxSteps := 999999) only [E0, seval, -Int.reduceNatCast', NUM, h9, h8, gd, gf, (show ¬ (k : Int) < M.os.length by omega)] at hW
        subst hW
        have : k = M.os.length := by omega
        subst this
        refine rd_exit ⟨rfl, ?_⟩
        simp (maxSteps := 999999) only [E0, seval, -Int.reduceNatCast', NADD, np, pp, g1, g2, g7, g3, g4, g5, g6, gd]
        exact gn
      have e0 : M.os[k]? = some M.os[k] := List.getElem?_eq_getElem hp'
      have e1 := map_get (f := ofr q.cl) e0
      have xb := prb _ (List.getElem_mem hp')
      have r0 : R[k]? = some (R[k]'(by omega)) := List.getElem?_eq_getElem _
      have ub := bR _ (List.getElem_mem (l := R) (n := k) (by omega))
      have rd : R.getD k 0 = R[k]'(by omega) := by simp [List.getD_eq_getElem?_getD, r0]
      have p1 := PART_succ (g := (fun i x => if BIT set i = 1 then x.pr - R.getD i 0 else 0)) e0
      have p2 := PART_same (g := (fun i x => if BIT set i = 1 then x.pr - R.getD i 0 else 0)) e0
      have pl := PART_len (fun i x => if BIT set i = 1 then x.pr - R.getD i 0 else 0) M.os k
      have pz : (PART (fun i x => if BIT set i = 1 then x.pr - R.getD i 0 else 0) M.os k)[k]? = some 0 := by rw [PART_get, e0]; simp
      have pi := ints_get pz
      generalize (R[k]'(by omega)) = u at *
      generalize M.os[k] = x at *
      have cd := fun H h => c_due (M := M) hv hA lo R P k x u e0 r0 xb ub H h
      simp only [rd] at p1 p2
      generalize PART (fun i x => if BIT set i = 1 then x.pr - R.getD i 0 else 0) M.os k = Q at *
      rcases hb5 : s.boxes 5 with _ | ⟨v5, c5⟩
      all_goals
        by_cases hb : BIT set k = 1
        rotate_left
        · rw [if_neg hb] at p2
          have p2 := p2 rfl
          simp (maxSteps := 999999) only [E0, seval, -Int.reduceNatCast', NUM, NADD, np, pp, Try.func8, SRCH, SFRM, SCRP, SRGT, SDTY, hv.s0, hv.s1, hv.s2, hv.fz, SAV hA, SOFR, SLOT, INTS, INB, hb, h9, h8, h7, h0, h2, g1, g2, g7, g3, g4, g5, g6, gd, gf, hb5, e1, List.length_map, Int.toNat_natCast, (show (k : Int) < M.os.length by omega), (show (0 : Int) ≤ k by omega), (show ¬ (k : Int) < 0 by omega), (i64_in (x := (k : Int) + 1) (by unfold I64; omega))] at hW
          subst hW
          refine rd_next (k + 1) ?_ (show M.os.length - (k + 1) < M.os.length - k by omega)
          simp (maxSteps := 999999) only [E0, seval, -Int.reduceNatCast', NADD, np, pp, h8, h7, h0, h2, g1, g2, g7, g3, g4, g5, g6, gd, p2]
          exact ⟨by omega, by simp, gn⟩
        · rw [if_pos hb] at p1
          simp (maxSteps := 999999) only [E0, seval, -Int.reduceNatCast', BRU, NUM, NADD, np, pp, Try.func8, SRCH, SFRM, SCRP, SRGT, SDTY, hv.s0, hv.s1, hv.s2, hv.fz, SAV hA, SOFR, SLOT, INTS, INB, hb, cd, pl, pi, h9, h8, h7, h0, h2, g1, g2, g7, g3, g4, g5, g6, gd, gf, hb5, e1, List.length_map, Int.toNat_natCast, Nat.zero_add, Nat.zero_le, (show k < M.os.length by omega), (show (k : Int) < M.os.length by omega), (show (0 : Int) ≤ k by omega), (show ¬ (k : Int) < 0 by omega), (i64_in (x := (k : Int) + 1) (by unfold I64; omega))] at hW
          rw [if_pos (by kernel_rfl)] at hW
          replace hW := ite_chkF3 (fun a b c => [(6, [Vr.row c], [Vr.row c]), (4, [Vr.all], [Vr.all]), (2, [Vr.row b], []), (0, [Vr.row a], [])]) 1 (P + 1) (P + 1 + 1) (by omega) (by omega) (by omega) (by intro f h1 h2 h3; simp [renL, renM, renV, h1, h2, h3]) (by kernel_rfl) hW
          rw [brute_eq (L := [[0, 1, 2, 3, 4, 5, 6], [0, 1, 3, 2, 4, 5, 6], [0, 2, 1, 3, 4, 5, 6], [0, 2, 3, 1, 4, 5, 6], [0, 2, 3, 4, 1, 5, 6], [0, 3, 1, 2, 4, 5, 6], [0, 3, 2, 1, 4, 5, 6], [0, 3, 2, 4, 1, 5, 6], [1, 0, 2, 3, 4, 5, 6], [1, 0, 3, 2, 4, 5, 6], [1, 2, 0, 3, 4, 5, 6], [1, 2, 3, 0, 4, 5, 6], [1, 2, 3, 4, 0, 5, 6], [1, 3, 0, 2, 4, 5, 6], [1, 3, 2, 0, 4, 5, 6], [1, 3, 2, 4, 0, 5, 6], [2, 0, 1, 3, 4, 5, 6], [2, 0, 3, 1, 4, 5, 6], [2, 0, 3, 4, 1, 5, 6], [2, 1, 0, 3, 4, 5, 6], [2, 1, 3, 0, 4, 5, 6], [2, 1, 3, 4, 0, 5, 6], [2, 3, 0, 1, 4, 5, 6], [2, 3, 0, 4, 1, 5, 6], [2, 3, 1, 0, 4, 5, 6], [2, 3, 1, 4, 0, 5, 6], [2, 3, 4, 0, 1, 5, 6], [2, 3, 4, 1, 0, 5, 6], [3, 0, 1, 2, 4, 5, 6], [3, 0, 2, 1, 4, 5, 6], [3, 0, 2, 4, 1, 5, 6], [3, 1, 0, 2, 4, 5, 6], [3, 1, 2, 0, 4, 5, 6], [3, 1, 2, 4, 0, 5, 6], [3, 2, 0, 1, 4, 5, 6], [3, 2, 0, 4, 1, 5, 6], [3, 2, 1, 0, 4, 5, 6], [3, 2, 1, 4, 0, 5, 6], [3, 2, 4, 0, 1, 5, 6], [3, 2, 4, 1, 0, 5, 6]]) (by kernel_rfl) (by kernel_rfl) ?hB] at hW
          case hB => simp (maxSteps := 999999) only [E0, seval, -Int.reduceNatCast', upd_sort, BRU, NUM, NADD, np, pp, Try.func8, SRCH, SFRM, SCRP, SRGT, SDTY, hv.s0, hv.s1, hv.s2, hv.fz, SAV hA, SOFR, SLOT, INTS, INB, hb, cd, pl, pi, h9, h8, h7, h0, h2, g1, g2, g7, g3, g4, g5, g6, gd, gf, hb5, e1, List.length_map, Int.toNat_natCast, Nat.zero_add, Nat.zero_le, (show k < M.os.length by omega), (show (k : Int) < M.os.length by omega), (show (0 : Int) ≤ k by omega), (show ¬ (k : Int) < 0 by omega), (i64_in (x := (k : Int) + 1) (by unfold I64; omega))]
          simp (maxSteps := 999999) only [E0, seval, -Int.reduceNatCast', BRU, NUM, NADD, np, pp, Try.func8, SRCH, SFRM, SCRP, SRGT, SDTY, hv.s0, hv.s1, hv.s2, hv.fz, SAV hA, SOFR, SLOT, INTS, INB, hb, cd, pl, pi, h9, h8, h7, h0, h2, g1, g2, g7, g3, g4, g5, g6, gd, gf, hb5, e1, List.length_map, Int.toNat_natCast, Nat.zero_add, Nat.zero_le, (show k < M.os.length by omega), (show (k : Int) < M.os.length by omega), (show (0 : Int) ≤ k by omega), (show ¬ (k : Int) < 0 by omega), (i64_in (x := (k : Int) + 1) (by unfold I64; omega))] at hW
          subst hW
          refine rd_next (k + 1) ?_ (show M.os.length - (k + 1) < M.os.length - k by omega)
          simp (maxSteps := 999999) only [E0, seval, -Int.reduceNatCast', NADD, np, pp, h8, h7, h0, h2, g1, g2, g7, g3, g4, g5, g6, gd, p1]
          refine ⟨by omega, by simp, ?_, by omega⟩
          rw [List.map_set])
  clear hL
  obtain ⟨f2, t2, b2, d2, H2, r2⟩ := s
  dsimp only at g1 g2 g7 g3 g4 g5 g6 gn gd gf hE
  subst gd
  simp (maxSteps := 999999) only [E0, seval, -Int.reduceNatCast', NADD, np, pp] at g6
  simp (maxSteps := 999999) only [E0, seval, -Int.reduceNatCast', NUM, NADD, np, pp] at hE
  subst hE
  have wt2 : List.take M.os.length ((PART (fun i x => if BIT set i = 1 then x.pr - R.getD i 0 else 0) M.os M.os.length).map I) = (PART (fun i x => if BIT set i = 1 then x.pr - R.getD i 0 else 0) M.os M.os.length).map I := List.take_of_length_le (by rw [List.length_map, PART_len]; exact Nat.le_refl _)
  simp (maxSteps := 999999) only [E0, seval, -Int.reduceNatCast', wt2, NUM, NADD, np, pp, g1, g2, g7, g3, g4, g5, g6, gf, PART_len, INTS, List.length_map, Nat.zero_add, Nat.le_refl]
end
end Go.Proofs.Ytbmmbefgmhhciaa

/-
  What Pay answers.
-/
namespace Go.Proofs.Ytbmmbefgmhhciaa
open Go GoV
set_option maxRecDepth 100000

theorem REB_bd {os : List Ofr} (h : PRB os) (set : Int) (hl : os.length ≤ 12) (h0 : 0 ≤ PRC os set os.length) : ∀ x ∈ REB os set, 0 ≤ x ∧ x ≤ 1099511627776 := by
  have ck := CKW_ok h set hl h0
  have hT := (S.CKW_0 ck).2.1
  intro x hx
  obtain ⟨i, ei⟩ := List.mem_iff_getElem?.1 hx
  have t1 := S.OUTS_take ck i
  have t2 := S.OUTS_take ck (i + 1)
  have := S.SUMI_take (l := S.OUTS (PRC os set os.length) (WGS os set)) ei
  have hn : ∃ w, (WGS os set)[i]? = some w := by
    have hi : i < (REB os set).length := (List.getElem?_eq_some_iff.1 ei).1
    unfold REB at hi
    rw [S.OUTS_len ck] at hi
    exact ⟨_, List.getElem?_eq_getElem hi⟩
  obtain ⟨w, hw⟩ := hn
  have := (S.OUTS_in ck hw ei).1
  omega
section
variable {M : Mkt} (hr : ∀ x ∈ M.D.rs, x.OK) {q : Cps} (hv : DV M.D q.cs q.gs q.ds q.ws) (hA : AWV M.aw q.av)
include hr hv hA
theorem c_pay (set : Int) : ap Try.prog pol 8 [.agg (mcl M q), I set] = some (.ret (PAYV M set)) := by
  unfold PAYV
  by_cases h : PE M set = 0
  rotate_left
  · rw [if_pos h]
    refine c_payE hr hv hA set _ h ?_
    unfold PE at h ⊢
    split
    · exact .inl rfl
    · next h1 =>
      split
      · next h2 => exact .inr ⟨rfl, Decidable.not_not.1 h1, h2⟩
      · next h2 => rw [if_neg h1, if_neg h2] at h; exact absurd rfl h
  rw [if_neg (fun g => g h)]
  obtain ⟨h0, ha, hp⟩ := PE_0 h
  have prb := MC_prb (ASK_0 h0).1
  have lo := (MC_0 (ASK_0 h0).1).2.2.1
  exact c_pay0 hr hv hA set h0 ha hp (REB M.os set) _ (REB_len prb set lo hp) (REB_bd prb set lo hp) (fun c => by rw [S.c_share, S.SHV_ok (CKW_ok prb set lo hp)]; rfl)
end
end Go.Proofs.Ytbmmbefgmhhciaa
