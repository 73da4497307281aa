/-
  The reference's Share.
-/
import Derived.Test.YtnabgahkdomeoaaC22
set_option linter.unusedSimpArgs false
set_option linter.unusedVariables false
set_option linter.unusedSectionVars false
namespace Go.Proofs.Ytnabgahkdomeoaa
open Go GoV
set_option maxRecDepth 100000

def NEG (ks R : List Int) : List Int := ks.foldl (fun R k => R.set k.toNat (-1)) R
theorem NEG_snoc (ks : List Int) (k : Int) (R : List Int) : NEG (ks ++ [k]) R = (NEG ks R).set k.toNat (-1) := by simp [NEG]
theorem NEG_len (ks R : List Int) : (NEG ks R).length = R.length := by
  induction ks generalizing R with
  | nil => rfl
  | cons k ks ih => show (NEG ks (R.set k.toNat (-1))).length = _; rw [ih, List.length_set]
theorem NEG_get (i : Nat) (x : Int) : ∀ (ks R : List Int), (∀ k ∈ ks, 0 ≤ k) → R[i]? = some x → (NEG ks R)[i]? = some (if (i : Int) ∈ ks then -1 else x)
  | [], R, _, e => by simpa [NEG] using e
  | k :: ks, R, hk, e => by
    have k0 := hk k (by simp)
    have hi := (List.getElem?_eq_some_iff.1 e).1
    show (NEG ks (R.set k.toNat (-1)))[i]? = _
    by_cases h : k.toNat = i
    · have e1 : (R.set k.toNat (-1))[i]? = some (-1) := by rw [h, List.getElem?_set_self hi]
      rw [NEG_get i (-1) ks _ (fun j hj => hk j (by simp [hj])) e1]
      have : (i : Int) = k := by omega
      rw [this]; simp
    · have e1 : (R.set k.toNat (-1))[i]? = some x := by rw [List.getElem?_set_ne h]; exact e
      rw [NEG_get i x ks _ (fun j hj => hk j (by simp [hj])) e1]
      have : (i : Int) ≠ k := by omega
      simp [this]
def RSQ (T S : Int) (w : List Int) : List Int := w.map fun x => T * x % S
theorem RSQ_len {T S : Int} {w : List Int} : (RSQ T S w).length = w.length := by simp [RSQ]
theorem RSQ_take {T S : Int} {w : List Int} {j : Nat} {x : Int} (e : w[j]? = some x) : RSQ T S (w.take (j + 1)) = RSQ T S (w.take j) ++ [T * x % S] := by
  rw [List.take_add_one, e]; simp [RSQ]
/-- The next in order is the first of the greatest. -/
theorem SHA.next {T S : Int} {w : List Int} {M : List Qu} {left : Nat} (h : SHA T S w M left) (hS : 0 < S) {j : Nat} {q : Qu} (e : M[j]? = some q) {a : Nat} (ha : q.ix = a) : GRT (NEG ((M.take j).map Qu.ix) (RSQ T S w)) a := by
  have nd : (M.map Qu.ix).Nodup := by
    have h' : SHA T S w M left := h
    have : (M.take M.length).map Qu.ix = M.map Qu.ix := by rw [List.take_length]
    rw [(h.pm.map Qu.ix).nodup_iff]
    refine List.pairwise_iff_getElem.2 fun i j hi hj hij => ?_
    rw [List.length_map] at hi hj
    have hi' := hi; have hj' := hj
    rw [QUO_len] at hi' hj'
    have e1 := QUO_get T S w i
    have e2 := QUO_get T S w j
    rw [List.getElem?_eq_getElem hi, List.getElem?_eq_getElem hi'] at e1
    rw [List.getElem?_eq_getElem hj, List.getElem?_eq_getElem hj'] at e2
    simp only [Option.map_some, Option.some.injEq] at e1 e2
    rw [List.getElem_map, List.getElem_map, e1, e2]
    show (i : Int) ≠ j
    omega
  have hjl := (List.getElem?_eq_some_iff.1 e).1
  have spl : M = M.take j ++ q :: M.drop (j + 1) := by
    have := (List.take_append_drop j M).symm
    rw [List.drop_eq_getElem_cons hjl, (List.getElem?_eq_some_iff.1 e).2] at this
    exact this
  have k0 : ∀ k ∈ (M.take j).map Qu.ix, 0 ≤ k := by
    intro k hk
    obtain ⟨p, hp, rfl⟩ := List.mem_map.1 hk
    obtain ⟨i, x, _, rfl⟩ := QUO_mem (h.pm.mem_iff.1 (List.mem_of_mem_take hp))
    show (0 : Int) ≤ i; omega
  obtain ⟨a', x, ex, eq⟩ := QUO_mem (h.pm.mem_iff.1 (List.mem_of_getElem? e))
  have : a' = a := by rw [eq] at ha; have : (a' : Int) = a := ha; omega
  subst this
  have qx : q.ix = (a' : Int) := ha
  have rx : (RSQ T S w)[a']? = some (T * x % S) := by simp [RSQ, ex]
  have qn : (a' : Int) ∉ (M.take j).map Qu.ix := by
    rw [spl, List.map_append, List.map_cons] at nd
    have := (List.pairwise_append.1 nd).2.2
    intro hm
    exact this _ hm _ (by simp) qx.symm
  have v := NEG_get a' _ _ _ k0 rx
  rw [if_neg qn] at v
  refine ⟨_, v, fun i y ey => ?_⟩
  have hi : i < w.length := by
    have := (List.getElem?_eq_some_iff.1 ey).1
    rw [NEG_len, RSQ_len] at this; exact this
  have ez : w[i]? = some w[i] := List.getElem?_eq_getElem hi
  have rz : (RSQ T S w)[i]? = some (T * w[i] % S) := by simp [RSQ, ez]
  generalize w[i] = z at *
  have v' := NEG_get i _ _ _ k0 rz
  have r0 := Int.emod_nonneg (T * x) (show S ≠ 0 by omega)
  rw [ey] at v'
  injection v' with v'
  by_cases hm : (i : Int) ∈ (M.take j).map Qu.ix
  · rw [if_pos hm] at v'
    omega
  rw [if_neg hm] at v'
  subst v'
  have hM : (⟨i, T * z % S⟩ : Qu) ∈ M := by
    rw [h.pm.mem_iff]
    refine List.mem_iff_getElem?.2 ⟨i, ?_⟩
    rw [QUO_get, ez]; rfl
  rw [spl] at hM
  rcases List.mem_append.1 hM with h1 | h1
  · exact absurd (List.mem_map.2 ⟨_, h1, rfl⟩) hm
  rcases List.mem_cons.1 h1 with h1 | h1
  · have e1 : (i : Int) = a' := by rw [← qx, ← h1]
    have : i = a' := by omega
    subst this
    rw [ex] at ez; cases ez
    exact ⟨Int.le_refl _, fun h => absurd h (by omega)⟩
  · have qs := h.qs
    rw [spl] at qs
    have := (List.pairwise_cons.1 (List.pairwise_append.1 qs).2.1).1 _ h1
    rw [eq] at this
    unfold QLT at this
    simp only at this
    omega
theorem c_rShareE (T : Int) (w : List Int) (c : Option Nat) (h : CKW T w ≠ 0) : ap Try.prog pol 17 [I T, .vs 1 (w.map I) c] = some (.ret (.tup [.nils, I 0, I (CKW T w)])) := by
  have cr := c_rshare T w c
  rw [ap_eq _ Try.func17 rfl Try.ntmps17 Try.results17 (by kernel_rfl) rfl (by exact Nat.le_of_ble_eq_true rfl)]
  simp (config := { maxSteps := 1000000 }) only [RUN, PATHS, BASE, FA, POL, start_tm, Heap.empty, reduceIte, Nat.reduceLT, Nat.reduceLeDiff, Nat.reduceEqDiff, Nat.reduceAdd, Nat.reduceSub, Nat.reduceMul, Nat.reduceBEq, Int.reduceLT, Int.reduceLE, Int.reduceEq, Int.reduceNeg, Int.reduceAdd, Int.reduceSub, Int.reduceMul, Bool.false_eq_true, Bool.not_true, Bool.not_false, decide_eq_true_eq, and_self, true_and, and_true, reduceCtorEq, ne_eq, not_false_eq_true, not_true_eq_false, decide_true, decide_false, or_false, false_or, NUM, SIN, cr, h]
theorem c_rShare0 (T : Int) (w : List Int) (c : Option Nat) (h : CKW T w = 0) (h0 : SUMI w = 0) : ap Try.prog pol 17 [I T, .vs 1 (w.map I) c] = some (.ret (.tup [.vs 1 ((List.replicate w.length 0).map I) none, I T, I 0])) := by
  have cr := c_rshare T w c
  obtain ⟨hl, hT, hw⟩ := CKW_0 h
  have cs := c_sumV w c (fun j => by have := SUM_take_le hw j; unfold I64; omega) (by omega)
  obtain ⟨Z, hZ⟩ : ∃ Z, Z = PADZ [] w.length := ⟨_, rfl⟩
  have lZ : Z.length = w.length := by rw [hZ]; exact PADZ_len (by simp)
  have zs : List.replicate w.length (I 0) = Z.map I := by rw [hZ]; exact zeros _
  have zz : Z = List.replicate w.length 0 := by rw [hZ]; simp [PADZ]
  rw [ap_eq _ Try.func17 rfl Try.ntmps17 Try.results17 (by kernel_rfl) rfl (by exact Nat.le_of_ble_eq_true rfl)]
  simp (config := { maxSteps := 1000000 }) only [RUN, PATHS, BASE, FA, POL, start_tm, Heap.empty, reduceIte, Nat.reduceLT, Nat.reduceLeDiff, Nat.reduceEqDiff, Nat.reduceAdd, Nat.reduceSub, Nat.reduceMul, Nat.reduceBEq, Int.reduceLT, Int.reduceLE, Int.reduceEq, Int.reduceNeg, Int.reduceAdd, Int.reduceSub, Int.reduceMul, Bool.false_eq_true, Bool.not_true, Bool.not_false, decide_eq_true_eq, and_self, true_and, and_true, reduceCtorEq, ne_eq, not_false_eq_true, not_true_eq_false, decide_true, decide_false, or_false, false_or, NUM, SIN, cr, h, cs, h0, List.length_map, Int.toNat_natCast, (show (0 : Int) ≤ w.length by omega), (show (w.length : Int) ≤ maxN by unfold maxN; omega), (show 8 ≤ maxB by decide), zs, lZ, Nat.zero_add, Nat.le_refl]
  rw [List.take_of_length_le (by simp [lZ]), SIN.2.2.1, zz]
set_option maxHeartbeats 1000000 in
theorem c_rShare1 (T : Int) (w : List Int) (c : Option Nat) (h : CKW T w = 0) (h0 : SUMI w ≠ 0) {M : List Qu} {left : Nat} (hs : SHA T (SUMI w) w M left) :
    ap Try.prog pol 17 [I T, .vs 1 (w.map I) c] = some (.ret (.tup [.vs 1 (hs.out.map I) none, I 0, I 0])) := by
  have cr := c_rshare T w c
  obtain ⟨hl, hT, hw⟩ := CKW_0 h
  have cs := c_sumV w c (fun j => by have := SUM_take_le hw j; unfold I64; omega) (by omega)
  obtain ⟨S, hS⟩ : ∃ S, S = SUMI w := ⟨_, rfl⟩
  have bS := SUM_take_le hw w.length
  rw [List.take_length, ← hS] at bS
  rw [← hS] at h0 cs
  have S0 : 0 < S := by omega
  obtain ⟨Z, hZ⟩ : ∃ Z, Z = PADZ [] w.length := ⟨_, rfl⟩
  have lZ : Z.length = w.length := by rw [hZ]; exact PADZ_len (by simp)
  have zs : List.replicate w.length (I 0) = Z.map I := by rw [hZ]; exact zeros _
  rw [ap_eq _ Try.func17 rfl Try.ntmps17 Try.results17 (by kernel_rfl) rfl (by exact Nat.le_of_ble_eq_true rfl)]
  simp (config := { maxSteps := 1000000 }) only [RUN, PATHS, BASE, FA, POL, start_tm, Heap.empty, reduceIte, Nat.reduceLT, Nat.reduceLeDiff, Nat.reduceEqDiff, Nat.reduceAdd, Nat.reduceSub, Nat.reduceMul, Nat.reduceBEq, Int.reduceLT, Int.reduceLE, Int.reduceEq, Int.reduceNeg, Int.reduceAdd, Int.reduceSub, Int.reduceMul, Bool.false_eq_true, Bool.not_true, Bool.not_false, decide_eq_true_eq, and_self, true_and, and_true, reduceCtorEq, ne_eq, not_false_eq_true, not_true_eq_false, decide_true, decide_false, or_false, false_or, NUM, SIN, cr, h, cs, h0, List.length_map, Int.toNat_natCast, (show (0 : Int) ≤ w.length by omega), (show (w.length : Int) ≤ maxN by unfold maxN; omega), (show 8 ≤ maxB by decide), zs]
  generalize hL : W _ (.loop _) _ = L
  obtain ⟨ex, s, rfl, rfl, h0', h8, h10, r1, r3, hd, hf⟩ := loop_at hL (α := Nat) (fun j => w.length - j)
    (fun s0 j s => j ≤ w.length ∧ s.tmps 11 = I j ∧ s.tmps 1 = .vs 1 (w.map I) c ∧ s.tmps 9 = I S ∧ s.tmps 0 = I T ∧ s.tmps 8 = .gsl 1 1 w.length 0 w.length ∧ s.tmps 10 = .gsl 1 3 w.length 0 w.length ∧
      s.H.rows 1 = some (.gro 1 ((PADZ (SHQ T S (w.take j)) w.length).map I) 0) ∧ s.H.rows 3 = some (.gro 1 ((PADZ (RSQ T S (w.take j)) w.length).map I) 0) ∧ s.defers = [] ∧ s.fid = 0)
    (fun s0 ex s => ex = .exit 0 ∧ s.tmps 0 = I T ∧ s.tmps 8 = .gsl 1 1 w.length 0 w.length ∧ s.tmps 10 = .gsl 1 3 w.length 0 w.length ∧ s.H.rows 1 = some (.gro 1 ((SHQ T S w).map I) 0) ∧ s.H.rows 3 = some (.gro 1 ((RSQ T S w).map I) 0) ∧ s.defers = [] ∧ s.fid = 0) 0
    (by simp (config := { maxSteps := 1000000 }) only [RUN, PATHS, BASE, FA, POL, start_tm, Heap.empty, reduceIte, Nat.reduceLT, Nat.reduceLeDiff, Nat.reduceEqDiff, Nat.reduceAdd, Nat.reduceSub, Nat.reduceMul, Nat.reduceBEq, Int.reduceLT, Int.reduceLE, Int.reduceEq, Int.reduceNeg, Int.reduceAdd, Int.reduceSub, Int.reduceMul, Bool.false_eq_true, Bool.not_true, Bool.not_false, decide_eq_true_eq, and_self, true_and, and_true, reduceCtorEq, ne_eq, not_false_eq_true, not_true_eq_false, decide_true, decide_false, or_false, false_or, List.take_zero]
        refine ⟨Nat.zero_le _, rfl, ?_, ?_⟩
        · rw [hZ]; rfl
        · rw [hZ]; rfl) (by
      rintro j s r hW ⟨hj, h11, h1, h9, h0', h8, h10, r1, r3, hd, hf⟩
      by_cases hp : j < w.length
      · have e0 : w[j]? = some w[j] := List.getElem?_eq_getElem hp
        have e1 := map_get (f := I) e0
        have sq := SHQ_take (T := T) (S := S) e0
        have rq := RSQ_take (T := T) (S := S) e0
        have okx := hw _ (List.mem_of_getElem? e0)
        unfold OKL at okx
        have ls : (SHQ T S (w.take j)).length = j := by rw [SHQ_len, List.length_take]; omega
        have lr : (RSQ T S (w.take j)).length = j := by rw [RSQ_len, List.length_take]; omega
        have p1 := PADZ_at (q := SHQ T S (w.take j)) (n := w.length) (by omega)
        have p2 := PADZ_set (q := SHQ T S (w.take j)) (n := w.length) (T * w[j] / S) (by omega)
        have p3 := PADZ_len (q := SHQ T S (w.take j)) (n := w.length) (by omega)
        have t1 := PADZ_at (q := RSQ T S (w.take j)) (n := w.length) (by omega)
        have t2 := PADZ_set (q := RSQ T S (w.take j)) (n := w.length) (T * w[j] % S) (by omega)
        have t3 := PADZ_len (q := RSQ T S (w.take j)) (n := w.length) (by omega)
        rw [ls] at p1 p2
        rw [lr] at t1 t2
        rw [← sq] at p2
        rw [← rq] at t2
        have a1 : w[j] ≤ S := by
          have e1' := SUMI_take e0
          have b0' := (SUM_take_le hw j).1
          have e : SUMI w = SUMI (w.take (j + 1)) + SUMI (w.drop (j + 1)) := by rw [← SUMI_app, List.take_append_drop]
          have := (SUMI_bounds (a := 0) (b := 1073741824) (w.drop (j + 1)) (fun x hx => hw x (List.mem_of_mem_drop hx))).1
          omega
        generalize w[j] = x at *
        obtain ⟨t, rfl⟩ := Int.eq_ofNat_of_zero_le hT.1
        obtain ⟨v, rfl⟩ := Int.eq_ofNat_of_zero_le okx.1
        obtain ⟨S', rfl⟩ := Int.eq_ofNat_of_zero_le (show 0 ≤ S by omega)
        have cd := c_divide t v S' (by omega) (by omega) (by omega) (by omega)
        have k1 : ((t * v / S' : Nat) : Int) = (t : Int) * v / S' := by simp
        have k2 : ((t * v % S' : Nat) : Int) = (t : Int) * v % S' := by simp
        rw [k1, k2] at cd
        generalize hqq : (t : Int) * v / S' = Q at *
        generalize hrr : (t : Int) * v % S' = R at *
        obtain ⟨P, hP⟩ : ∃ P, P = PADZ (SHQ t S' (w.take j)) w.length := ⟨_, rfl⟩
        rw [← hP] at p1 p2 p3 r1
        have p2' := mapI_set P j Q
        rw [p2] at p2'
        have p1' := map_get (f := I) p1
        obtain ⟨P', hP'⟩ : ∃ P', P' = PADZ (RSQ t S' (w.take j)) w.length := ⟨_, rfl⟩
        rw [← hP'] at t1 t2 t3 r3
        have t2' := mapI_set P' j R
        rw [t2] at t2'
        have t1' := map_get (f := I) t1
        simp (config := { maxSteps := 1000000 }) only [RUN, PATHS, BASE, FA, POL, start_tm, Heap.empty, reduceIte, Nat.reduceLT, Nat.reduceLeDiff, Nat.reduceEqDiff, Nat.reduceAdd, Nat.reduceSub, Nat.reduceMul, Nat.reduceBEq, Int.reduceLT, Int.reduceLE, Int.reduceEq, Int.reduceNeg, Int.reduceAdd, Int.reduceSub, Int.reduceMul, Bool.false_eq_true, Bool.not_true, Bool.not_false, decide_eq_true_eq, and_self, true_and, and_true, reduceCtorEq, ne_eq, not_false_eq_true, not_true_eq_false, decide_true, decide_false, or_false, false_or, NUM, h11, h1, h9, h0', h8, h10, hd, hf, r1, r3, e1, cd, p1', p3, t1', t3, List.length_map, List.length_set, Int.toNat_natCast, (show (j : Int) < w.length by omega), (show (0 : Int) ≤ j by omega), i64_in (x := (j : Int) + 1) (by unfold I64; omega), Nat.zero_add, Nat.zero_le] at hW
        subst hW
        refine rd_next (j + 1) ?_ (show w.length - (j + 1) < w.length - j by omega)
        simp (config := { maxSteps := 1000000 }) only [RUN, PATHS, BASE, FA, POL, start_tm, Heap.empty, reduceIte, Nat.reduceLT, Nat.reduceLeDiff, Nat.reduceEqDiff, Nat.reduceAdd, Nat.reduceSub, Nat.reduceMul, Nat.reduceBEq, Int.reduceLT, Int.reduceLE, Int.reduceEq, Int.reduceNeg, Int.reduceAdd, Int.reduceSub, Int.reduceMul, Bool.false_eq_true, Bool.not_true, Bool.not_false, decide_eq_true_eq, and_self, true_and, and_true, reduceCtorEq, ne_eq, not_false_eq_true, not_true_eq_false, decide_true, decide_false, or_false, false_or, h1, h9, h0', h8, h10, p2', t2']
        exact ⟨by omega, by simp⟩
      · simp (config := { maxSteps := 1000000 }) only [RUN, PATHS, BASE, FA, POL, start_tm, Heap.empty, reduceIte, Nat.reduceLT, Nat.reduceLeDiff, Nat.reduceEqDiff, Nat.reduceAdd, Nat.reduceSub, Nat.reduceMul, Nat.reduceBEq, Int.reduceLT, Int.reduceLE, Int.reduceEq, Int.reduceNeg, Int.reduceAdd, Int.reduceSub, Int.reduceMul, Bool.false_eq_true, Bool.not_true, Bool.not_false, decide_eq_true_eq, and_self, true_and, and_true, reduceCtorEq, ne_eq, not_false_eq_true, not_true_eq_false, decide_true, decide_false, or_false, false_or, h11, h1, hd, hf, List.length_map, (show ¬ (j : Int) < w.length by omega)] at hW
        subst hW
        have : j = w.length := by omega
        subst this
        rw [List.take_length] at r1 r3
        refine rd_exit ⟨rfl, ?_⟩
        simp (config := { maxSteps := 1000000 }) only [RUN, PATHS, BASE, FA, POL, start_tm, Heap.empty, reduceIte, Nat.reduceLT, Nat.reduceLeDiff, Nat.reduceEqDiff, Nat.reduceAdd, Nat.reduceSub, Nat.reduceMul, Nat.reduceBEq, Int.reduceLT, Int.reduceLE, Int.reduceEq, Int.reduceNeg, Int.reduceAdd, Int.reduceSub, Int.reduceMul, Bool.false_eq_true, Bool.not_true, Bool.not_false, decide_eq_true_eq, and_self, true_and, and_true, reduceCtorEq, ne_eq, not_false_eq_true, not_true_eq_false, decide_true, decide_false, or_false, false_or, h0', h8, h10, r1, r3]
        simp [PADZ, SHQ, RSQ])
  have lq : (SHQ T S w).length = w.length := SHQ_len
  have cg := c_sumG (SHQ T S w) 1 (fun j => by
    have e : (SHQ T S w).take j = SHQ T S (w.take j) := by simp [SHQ]
    have := SHQ_take_sum hT S0 hS hw j
    rw [e]; unfold I64; omega) (by omega) s.H r1
  rw [lq] at cg
  have hlf := hs.lf
  rw [← hS] at hlf
  have lM := hs.len
  have ll := hs.left_le rfl (by omega)
  simp (config := { maxSteps := 1000000 }) only [RUN, PATHS, BASE, FA, POL, start_tm, Heap.empty, reduceIte, Nat.reduceLT, Nat.reduceLeDiff, Nat.reduceEqDiff, Nat.reduceAdd, Nat.reduceSub, Nat.reduceMul, Nat.reduceBEq, Int.reduceLT, Int.reduceLE, Int.reduceEq, Int.reduceNeg, Int.reduceAdd, Int.reduceSub, Int.reduceMul, Bool.false_eq_true, Bool.not_true, Bool.not_false, decide_eq_true_eq, and_self, true_and, and_true, reduceCtorEq, ne_eq, not_false_eq_true, not_true_eq_false, decide_true, decide_false, or_false, false_or, NUM, SIN, h0', h8, h10, hd, hf, cg, ← hlf, i64_in (x := (left : Int)) (by unfold I64; omega)]
  have lo := hs.out_len
  have ki := hs.k_in
  have ot : hs.out = BMP ((M.take left).map Qu.ix) (SHQ T (SUMI w) w) := rfl
  have kd : hs.K = (M.take left).map Qu.ix := rfl
  rw [kd] at ki
  rw [ot] at lo ⊢
  subst hS
  clear hL
  generalize hL : W _ (.loop _) _ = L
  obtain ⟨ex, s2, rfl, rfl, h8, r1, hd⟩ := loop_at hL (α := Nat) (fun j => left - j)
    (fun s0 j s => j ≤ left ∧ s.tmps 14 = I ((left : Int) - j) ∧ s.tmps 8 = .gsl 1 1 w.length 0 w.length ∧ s.tmps 10 = .gsl 1 3 w.length 0 w.length ∧
      s.H.rows 1 = some (.gro 1 ((BMP ((M.take j).map Qu.ix) (SHQ T (SUMI w) w)).map I) 0) ∧ s.H.rows 3 = some (.gro 1 ((NEG ((M.take j).map Qu.ix) (RSQ T (SUMI w) w)).map I) 0) ∧ s.defers = [] ∧ s.fid = 0)
    (fun s0 ex s => ex = .exit 2 ∧ s.tmps 8 = .gsl 1 1 w.length 0 w.length ∧ s.H.rows 1 = some (.gro 1 ((BMP ((M.take left).map Qu.ix) (SHQ T (SUMI w) w)).map I) 0) ∧ s.defers = []) 0
    (by simp (config := { maxSteps := 1000000 }) only [RUN, PATHS, BASE, FA, POL, start_tm, Heap.empty, reduceIte, Nat.reduceLT, Nat.reduceLeDiff, Nat.reduceEqDiff, Nat.reduceAdd, Nat.reduceSub, Nat.reduceMul, Nat.reduceBEq, Int.reduceLT, Int.reduceLE, Int.reduceEq, Int.reduceNeg, Int.reduceAdd, Int.reduceSub, Int.reduceMul, Bool.false_eq_true, Bool.not_true, Bool.not_false, decide_eq_true_eq, and_self, true_and, and_true, reduceCtorEq, ne_eq, not_false_eq_true, not_true_eq_false, decide_true, decide_false, or_false, false_or, List.take_zero, r1, r3, h8, h10]
        exact ⟨Nat.zero_le _, by simp, rfl, rfl⟩) (by
      rintro j s r hW ⟨hj, h14, h8, h10, r1, r3, hd, hf⟩
      by_cases hp : j < left
      · have e0 : M[j]? = some (M[j]'(by omega)) := List.getElem?_eq_getElem _
        have tk : (M.take (j + 1)).map Qu.ix = (M.take j).map Qu.ix ++ [(M[j]'(by omega)).ix] := by rw [List.take_add_one, e0, List.map_append]; rfl
        have hm : (M[j]'(by omega)).ix ∈ (M.take left).map Qu.ix := List.mem_map.2 ⟨_, List.mem_iff_getElem?.2 ⟨j, by rw [List.getElem?_take, if_pos hp]; exact e0⟩, rfl⟩
        have kx := ki _ hm
        generalize (M[j]'(by omega)) = x at *
        obtain ⟨a, ea⟩ := Int.eq_ofNat_of_zero_le kx.1
        have gt := hs.next S0 e0 ea
        obtain ⟨B, hB⟩ : ∃ B, B = BMP ((M.take j).map Qu.ix) (SHQ T (SUMI w) w) := ⟨_, rfl⟩
        have lB : B.length = w.length := by rw [hB, BMP_len, lq]
        have bs : BMP ((M.take (j + 1)).map Qu.ix) (SHQ T (SUMI w) w) = BMP1 B x.ix := by rw [tk, BMP_snoc, ← hB]
        obtain ⟨N, hN⟩ : ∃ N, N = NEG ((M.take j).map Qu.ix) (RSQ T (SUMI w) w) := ⟨_, rfl⟩
        have lN : N.length = w.length := by rw [hN, NEG_len, RSQ_len]
        have ns : NEG ((M.take (j + 1)).map Qu.ix) (RSQ T (SUMI w) w) = N.set a (-1) := by rw [tk, NEG_snoc, ← hN, ea, Int.toNat_natCast]
        rw [← hB] at r1
        rw [← hN] at r3 gt
        obtain ⟨g, cgr, hg⟩ := c_greatest N 3 (by omega) (by omega) s.H r3
        obtain rfl := GRT_one hg gt
        rw [lN] at cgr
        have b0 : B[g]? = some (B[g]'(by omega)) := List.getElem?_eq_getElem _
        have n0 : N[g]? = some (N[g]'(by omega)) := List.getElem?_eq_getElem _
        have bb : 0 ≤ B[g]'(by omega) ∧ B[g]'(by omega) ≤ 1099511627776 + 1 := by
          have sb : ((M.take j).map Qu.ix).Sublist ((M.take left).map Qu.ix) := by
            rw [show M.take j = (M.take left).take j by rw [List.take_take, Nat.min_eq_left (by omega)]]
            exact (List.take_sublist _ _).map _
          have wa : w[g]? = some (w[g]'(by omega)) := List.getElem?_eq_getElem _
          have sq : (SHQ T (SUMI w) w)[g]? = some (T * w[g]'(by omega) / SUMI w) := by simp [SHQ, wa]
          have bg := BMP_get g _ ((M.take j).map Qu.ix) _ (hs.k_nodup.sublist sb) (fun k hk => (ki k (sb.subset hk)).1) sq
          rw [← hB, b0] at bg
          have okx := hw _ (List.mem_of_getElem? wa)
          unfold OKL at okx
          have q0 : 0 ≤ T * w[g]'(by omega) / SUMI w := Int.ediv_nonneg (Int.mul_nonneg hT.1 okx.1) (by omega)
          have wS : w[g]'(by omega) ≤ SUMI w := by
            have e1' := SUMI_take wa
            have b0' := (SUM_take_le hw g).1
            have e : SUMI w = SUMI (w.take (g + 1)) + SUMI (w.drop (g + 1)) := by rw [← SUMI_app, List.take_append_drop]
            have := (SUMI_bounds (a := 0) (b := 1073741824) (w.drop (g + 1)) (fun x hx => hw x (List.mem_of_mem_drop hx))).1
            omega
          have q1 : T * w[g]'(by omega) / SUMI w ≤ T := Int.ediv_le_of_le_mul S0 (Int.mul_le_mul_of_nonneg_left wS hT.1)
          injection bg with bg
          rw [bg]
          split <;> omega
        have b1 : BMP1 B x.ix = B.set g (B[g]'(by omega) + 1) := by
          rw [BMP1, ea, Int.toNat_natCast, List.getD_eq_getElem?_getD, b0]; rfl
        generalize B[g]'(by omega) = y at *
        generalize N[g]'(by omega) = z at *
        have b2 := map_get (f := I) b0
        have n2 := map_get (f := I) n0
        have ms := mapI_set B g (y + 1)
        have ns' := mapI_set N g (-1)
        simp (config := { maxSteps := 1000000 }) only [RUN, PATHS, BASE, FA, POL, start_tm, Heap.empty, reduceIte, Nat.reduceLT, Nat.reduceLeDiff, Nat.reduceEqDiff, Nat.reduceAdd, Nat.reduceSub, Nat.reduceMul, Nat.reduceBEq, Int.reduceLT, Int.reduceLE, Int.reduceEq, Int.reduceNeg, Int.reduceAdd, Int.reduceSub, Int.reduceMul, Bool.false_eq_true, Bool.not_true, Bool.not_false, decide_eq_true_eq, and_self, true_and, and_true, reduceCtorEq, ne_eq, not_false_eq_true, not_true_eq_false, decide_true, decide_false, or_false, false_or, NUM, SIN, h14, h8, h10, r1, r3, hd, hf, cgr, lB, lN, b2, n2, List.length_map, Int.toNat_natCast, Nat.zero_add, Nat.zero_le, (show (0 : Int) < (left : Int) - j by omega), (show (0 : Int) ≤ g by omega), (show (g : Int) < w.length by omega), i64_in (x := y + 1) (by unfold I64; omega), i64_in (x := (left : Int) - j - 1) (by unfold I64; omega)] at hW
        subst hW
        refine rd_next (j + 1) ?_ (show left - (j + 1) < left - j by omega)
        simp (config := { maxSteps := 1000000 }) only [RUN, PATHS, BASE, FA, POL, start_tm, Heap.empty, reduceIte, Nat.reduceLT, Nat.reduceLeDiff, Nat.reduceEqDiff, Nat.reduceAdd, Nat.reduceSub, Nat.reduceMul, Nat.reduceBEq, Int.reduceLT, Int.reduceLE, Int.reduceEq, Int.reduceNeg, Int.reduceAdd, Int.reduceSub, Int.reduceMul, Bool.false_eq_true, Bool.not_true, Bool.not_false, decide_eq_true_eq, and_self, true_and, and_true, reduceCtorEq, ne_eq, not_false_eq_true, not_true_eq_false, decide_true, decide_false, or_false, false_or, h8, h10, bs, b1, ms, ns, ns']
        exact ⟨by omega, by congr 1; omega⟩
      · simp (config := { maxSteps := 1000000 }) only [RUN, PATHS, BASE, FA, POL, start_tm, Heap.empty, reduceIte, Nat.reduceLT, Nat.reduceLeDiff, Nat.reduceEqDiff, Nat.reduceAdd, Nat.reduceSub, Nat.reduceMul, Nat.reduceBEq, Int.reduceLT, Int.reduceLE, Int.reduceEq, Int.reduceNeg, Int.reduceAdd, Int.reduceSub, Int.reduceMul, Bool.false_eq_true, Bool.not_true, Bool.not_false, decide_eq_true_eq, and_self, true_and, and_true, reduceCtorEq, ne_eq, not_false_eq_true, not_true_eq_false, decide_true, decide_false, or_false, false_or, h14, hd, hf, (show ¬ (0 : Int) < (left : Int) - j by omega)] at hW
        subst hW
        have : j = left := by omega
        subst this
        refine rd_exit ⟨rfl, ?_⟩
        simp (config := { maxSteps := 1000000 }) only [RUN, PATHS, BASE, FA, POL, start_tm, Heap.empty, reduceIte, Nat.reduceLT, Nat.reduceLeDiff, Nat.reduceEqDiff, Nat.reduceAdd, Nat.reduceSub, Nat.reduceMul, Nat.reduceBEq, Int.reduceLT, Int.reduceLE, Int.reduceEq, Int.reduceNeg, Int.reduceAdd, Int.reduceSub, Int.reduceMul, Bool.false_eq_true, Bool.not_true, Bool.not_false, decide_eq_true_eq, and_self, true_and, and_true, reduceCtorEq, ne_eq, not_false_eq_true, not_true_eq_false, decide_true, decide_false, or_false, false_or, h8, r1])
  simp (config := { maxSteps := 1000000 }) only [RUN, PATHS, BASE, FA, POL, start_tm, Heap.empty, reduceIte, Nat.reduceLT, Nat.reduceLeDiff, Nat.reduceEqDiff, Nat.reduceAdd, Nat.reduceSub, Nat.reduceMul, Nat.reduceBEq, Int.reduceLT, Int.reduceLE, Int.reduceEq, Int.reduceNeg, Int.reduceAdd, Int.reduceSub, Int.reduceMul, Bool.false_eq_true, Bool.not_true, Bool.not_false, decide_eq_true_eq, and_self, true_and, and_true, reduceCtorEq, ne_eq, not_false_eq_true, not_true_eq_false, decide_true, decide_false, or_false, false_or, NUM, SIN, h8, r1, hd, lo, List.length_map, Nat.zero_add, Nat.le_refl]
  rw [List.take_of_length_le (by rw [List.length_map, lo]; exact Nat.le_refl _), SIN.2.2.1]
theorem c_rShare (T : Int) (w : List Int) (c : Option Nat) : ap Try.prog pol 17 [I T, .vs 1 (w.map I) c] = some (.ret (SHV T w)) := by
  unfold SHV
  split
  · next h => exact c_rShareE T w c h
  · next h =>
    have h := Decidable.not_not.1 h
    split
    · next h0 => exact c_rShare0 T w c h h0
    · next h0 =>
      obtain ⟨M, l, hs, _⟩ := c_share1 T w none h h0
      rw [c_rShare1 T w c h h0 hs, SHO_eq hs]
end Go.Proofs.Ytnabgahkdomeoaa
