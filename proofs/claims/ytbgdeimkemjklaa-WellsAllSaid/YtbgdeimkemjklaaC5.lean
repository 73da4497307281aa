/-
  Sums; the reference's Owed and Repaid.
-/
import Derived.Test.YtbgdeimkemjklaaC4
set_option linter.unusedSimpArgs false
set_option linter.unusedVariables false
set_option linter.unusedSectionVars false
namespace Go.Proofs.Ytbgdeimkemjklaa
open Go GoV
set_option maxRecDepth 100000

def UNT (d : Int) (k p : List Int) : List Int := (List.range (DAYS k p)).map fun t => PSUM p k t p.length / d
theorem UNT_len (d : Int) (k p : List Int) : (UNT d k p).length = DAYS k p := by simp [UNT]
theorem UNT_get {d : Int} {k p : List Int} {t : Nat} (h : t < DAYS k p) : (UNT d k p).getD t 0 = PSUM p k t p.length / d := by
  simp [UNT, List.getD_eq_getElem?_getD, h]
theorem DAYS_le {d : Int} {k p : List Int} (h : BD d k p) : DAYS k p ≤ 463 := by
  have := h.p1; have := h.k1
  unfold DAYS; split <;> omega
theorem UNT_bd {d : Int} {k p : List Int} (h : BD d k p) (t : Nat) : 0 ≤ (UNT d k p).getD t 0 ∧ (UNT d k p).getD t 0 ≤ 450359962737049600 := by
  have := h.d1
  by_cases ht : t < DAYS k p
  · rw [UNT_get ht]
    have b := PSUM_bd h t p.length
    have b2 := Int.ediv_nonneg b.1 (show 0 ≤ d by omega)
    have b3 := Int.ediv_le_self d b.1
    have := h.p1
    omega
  · have := UNT_len d k p
    rw [List.getD_eq_getElem?_getD, List.getElem?_eq_none (by omega)]; simp
/-- What stood the day before. -/
def PRV (u : List Int) (i : Nat) : Int := if i = 0 then 0 else u.getD (i - 1) 0
def OWEf (u : List Int) (i : Nat) : Int := u.getD i 0 - PRV u i
def OWE (u : List Int) : List Int := (List.range u.length).map (OWEf u)
def REPf (u r : List Int) (i : Nat) : Int := max 0 (u.getD i 0 - KS r (i + 1))
def REP (u r : List Int) : List Int := (List.range u.length).map (REPf u r)
def SUMS (l : List Int) : List Int := (List.range l.length).map fun i => KS l (i + 1)
theorem PRV_succ (u : List Int) (i : Nat) : PRV u (i + 1) = u.getD i 0 := by simp [PRV]
/-- The list so far. -/
def sofar (f : Nat → Int) (i : Nat) : List PV := (List.range i).map fun j => I (f j)
theorem sofar_succ (f : Nat → Int) (i : Nat) : sofar f i ++ [I (f i)] = sofar f (i + 1) := by simp [sofar, List.range_succ]
theorem sofar_len (f : Nat → Int) (i : Nat) : (sofar f i).length = i := by simp [sofar]
theorem sofar_zero (f : Nat → Int) : sofar f 0 = [] := rfl
theorem sofar_strip (H : Heap) (f : Nat → Int) (i : Nat) : (sofar f i).map (strip1 H) = sofar f i := by
  simp only [sofar, List.map_map]; rfl
theorem sofar_ints (f : Nat → Int) (i : Nat) : sofar f i = ((List.range i).map f).map I := by simp [sofar]
theorem SOFAR : (∀ n : Nat, 0 + n = n) ∧ (∀ n : Nat, (n ≤ n) = True) ∧ (∀ f i, (sofar f i).length = i) ∧ (∀ H f i, (sofar f i).map (strip1 H) = sofar f i) ∧ (∀ {α : Type} (l : List α), l.drop 0 = l) ∧ (∀ f i, (sofar f i).take i = sofar f i) :=
  ⟨Nat.zero_add, fun n => eq_true (Nat.le_refl n), sofar_len, sofar_strip, fun _ => rfl, fun f i => List.take_of_length_le (by rw [sofar_len]; omega)⟩
theorem KS_le (l : List Int) (h : LIT l) (i : Nat) : 0 ≤ KS l i ∧ KS l i ≤ i * 1073741824 := by
  unfold KS
  exact take_bd (by omega) h i
/-- A list of whole numbers that are no debts. -/
def OKL (l : List Int) : Prop := ∀ x ∈ l, 0 ≤ x ∧ x ≤ 1125899906842624
instance (l : List Int) : Decidable (OKL l) := by unfold OKL; infer_instance
theorem c_sums (l : List Int) (c : Option Nat) (hl : l.length ≤ 4096) : ap Try.prog pol 20 [ints l c] = some (.ret (.tup [if OKL l then ints (SUMS l) none else ints [] none, .bool (decide (OKL l))])) := by
  rw [ap_eq _ Try.func20 rfl Try.ntmps20 Try.results20 (by kernel_rfl) rfl (by exact Nat.le_of_ble_eq_true rfl)]
  simp (config := { maxSteps := 1000000 }) only [RUN, PATHS, BASE, FA, POL, start_tm, Heap.empty, reduceIte, Nat.reduceLT, Nat.reduceLeDiff, Nat.reduceEqDiff, Nat.reduceAdd, Nat.reduceSub, Nat.reduceMul, Nat.reduceBEq, Int.reduceLT, Int.reduceLE, Int.reduceEq, Int.reduceNeg, Int.reduceAdd, Int.reduceSub, Int.reduceMul, Bool.false_eq_true, Bool.not_true, Bool.not_false, decide_eq_true_eq, and_self, true_and, and_true, reduceCtorEq, ne_eq, not_false_eq_true, not_true_eq_false, decide_true, decide_false, or_false, false_or, INTS]
  generalize hL : W _ (.loop _) _ = L
  obtain ⟨ex, s, rfl, hex, hd⟩ := loop_at hL (α := Nat) (fun j => l.length - j)
    (fun s0 j s => j ≤ l.length ∧ OKL (l.take j) ∧ s.tmps 9 = I j ∧ s.tmps 8 = I l.length ∧ s.tmps 7 = ints l c ∧ s.tmps 4 = I (KS l j) ∧ s.tmps 2 = .gsl 1 1 j 0 j ∧ s.H.rows 1 = some (.gro 1 (sofar (fun i => KS l (i + 1)) j) 0) ∧ s.defers = [] ∧ s.fid = 0)
    (fun s0 ex s => ((ex = .exit 0 ∧ OKL l ∧ s.tmps 2 = .gsl 1 1 l.length 0 l.length ∧ s.H.rows 1 = some (.gro 1 (sofar (fun i => KS l (i + 1)) l.length) 0)) ∨ (ex = .ret ∧ ¬ OKL l ∧ s.tmps 3 = .bool false ∧ ∃ id, s.tmps 2 = .gsl 1 id 0 0 0 ∧ s.H.rows id = some (.gro 1 [] 0))) ∧ s.defers = [] ∧ s.fid = 0) 0
    (by simp (config := { maxSteps := 1000000 }) only [RUN, PATHS, BASE, FA, POL, start_tm, Heap.empty, reduceIte, Nat.reduceLT, Nat.reduceLeDiff, Nat.reduceEqDiff, Nat.reduceAdd, Nat.reduceSub, Nat.reduceMul, Nat.reduceBEq, Int.reduceLT, Int.reduceLE, Int.reduceEq, Int.reduceNeg, Int.reduceAdd, Int.reduceSub, Int.reduceMul, Bool.false_eq_true, Bool.not_true, Bool.not_false, decide_eq_true_eq, and_self, true_and, and_true, reduceCtorEq, ne_eq, not_false_eq_true, not_true_eq_false, decide_true, decide_false, or_false, false_or, sofar_zero, KS_zero]; simp [OKL]) (by
      rintro j s r hW ⟨hj, ht, h9, h8, h7, h4, h2, hr, hd, hf⟩
      by_cases hp : j < l.length
      · have e0 : l[j]? = some l[j] := List.getElem?_eq_getElem hp
        have e1 := ints_get e0
        have eg : l.getD j 0 = l[j] := by rw [List.getD_eq_getElem?_getD, e0]; rfl
        have bd := take_bd (d := 1125899906842624) (by omega) ht j
        rw [List.take_take, Nat.min_self] at bd
        change 0 ≤ KS l j ∧ KS l j ≤ _ at bd
        by_cases hx : 0 ≤ l[j] ∧ l[j] ≤ 1125899906842624
        · have es := KS_succ l j
          rw [eg] at es
          have so := sofar_succ (fun i => KS l (i + 1)) j
          rw [es] at so
          simp (config := { maxSteps := 1000000 }) only [RUN, PATHS, BASE, FA, POL, start_tm, Heap.empty, reduceIte, Nat.reduceLT, Nat.reduceLeDiff, Nat.reduceEqDiff, Nat.reduceAdd, Nat.reduceSub, Nat.reduceMul, Nat.reduceBEq, Int.reduceLT, Int.reduceLE, Int.reduceEq, Int.reduceNeg, Int.reduceAdd, Int.reduceSub, Int.reduceMul, Bool.false_eq_true, Bool.not_true, Bool.not_false, decide_eq_true_eq, and_self, true_and, and_true, reduceCtorEq, ne_eq, not_false_eq_true, not_true_eq_false, decide_true, decide_false, or_false, false_or, INTS, SOFAR, so, h9, h8, h7, h4, h2, hr, hd, hf, e1, Int.toNat_natCast, (show j ≤ 67108863 by omega), (show ¬ l[j] < 0 by omega), (show ¬ 1125899906842624 < l[j] by omega), (show (j : Int) < l.length by omega), (show (0 : Int) ≤ j by omega), (i64_in (x := (j : Int) + 1) (by unfold I64; omega)), (i64_in (x := KS l j + l[j]) (by unfold I64; omega))] at hW
          subst hW
          refine rd_next (j + 1) ?_ (show l.length - (j + 1) < l.length - j by omega)
          simp (config := { maxSteps := 1000000 }) only [RUN, PATHS, BASE, FA, POL, start_tm, Heap.empty, reduceIte, Nat.reduceLT, Nat.reduceLeDiff, Nat.reduceEqDiff, Nat.reduceAdd, Nat.reduceSub, Nat.reduceMul, Nat.reduceBEq, Int.reduceLT, Int.reduceLE, Int.reduceEq, Int.reduceNeg, Int.reduceAdd, Int.reduceSub, Int.reduceMul, Bool.false_eq_true, Bool.not_true, Bool.not_false, decide_eq_true_eq, and_self, true_and, and_true, reduceCtorEq, ne_eq, not_false_eq_true, not_true_eq_false, decide_true, decide_false, or_false, false_or, h8, h7, es, hf]
          refine ⟨by omega, ?_, by simp⟩
          intro x hx'
          rw [List.take_add_one, e0] at hx'
          simp only [Option.toList_some, List.mem_append, List.mem_singleton] at hx'
          rcases hx' with hx' | rfl
          · exact ht x hx'
          · exact hx
        · have bad : ¬ OKL l := fun h => hx (h _ (List.getElem_mem hp))
          by_cases hx1 : l[j] < 0
          · simp (config := { maxSteps := 1000000 }) only [RUN, PATHS, BASE, FA, POL, start_tm, Heap.empty, reduceIte, Nat.reduceLT, Nat.reduceLeDiff, Nat.reduceEqDiff, Nat.reduceAdd, Nat.reduceSub, Nat.reduceMul, Nat.reduceBEq, Int.reduceLT, Int.reduceLE, Int.reduceEq, Int.reduceNeg, Int.reduceAdd, Int.reduceSub, Int.reduceMul, Bool.false_eq_true, Bool.not_true, Bool.not_false, decide_eq_true_eq, and_self, true_and, and_true, reduceCtorEq, ne_eq, not_false_eq_true, not_true_eq_false, decide_true, decide_false, or_false, false_or, INTS, SOFAR, h9, h8, h7, h4, h2, hr, hd, hf, e1, Int.toNat_natCast, hx1, (show (j : Int) < l.length by omega), (show (0 : Int) ≤ j by omega)] at hW
            subst hW
            refine rd_ret ⟨.inr ⟨rfl, bad, ?_⟩, ?_⟩ <;> simp (config := { maxSteps := 1000000 }) only [RUN, PATHS, BASE, FA, POL, start_tm, Heap.empty, reduceIte, Nat.reduceLT, Nat.reduceLeDiff, Nat.reduceEqDiff, Nat.reduceAdd, Nat.reduceSub, Nat.reduceMul, Nat.reduceBEq, Int.reduceLT, Int.reduceLE, Int.reduceEq, Int.reduceNeg, Int.reduceAdd, Int.reduceSub, Int.reduceMul, Bool.false_eq_true, Bool.not_true, Bool.not_false, decide_eq_true_eq, and_self, true_and, and_true, reduceCtorEq, ne_eq, not_false_eq_true, not_true_eq_false, decide_true, decide_false, or_false, false_or, hf]
            exact ⟨_, rfl, by simp⟩
          · simp (config := { maxSteps := 1000000 }) only [RUN, PATHS, BASE, FA, POL, start_tm, Heap.empty, reduceIte, Nat.reduceLT, Nat.reduceLeDiff, Nat.reduceEqDiff, Nat.reduceAdd, Nat.reduceSub, Nat.reduceMul, Nat.reduceBEq, Int.reduceLT, Int.reduceLE, Int.reduceEq, Int.reduceNeg, Int.reduceAdd, Int.reduceSub, Int.reduceMul, Bool.false_eq_true, Bool.not_true, Bool.not_false, decide_eq_true_eq, and_self, true_and, and_true, reduceCtorEq, ne_eq, not_false_eq_true, not_true_eq_false, decide_true, decide_false, or_false, false_or, INTS, SOFAR, h9, h8, h7, h4, h2, hr, hd, hf, e1, Int.toNat_natCast, hx1, (show 1125899906842624 < l[j] by omega), (show (j : Int) < l.length by omega), (show (0 : Int) ≤ j by omega)] at hW
            subst hW
            refine rd_ret ⟨.inr ⟨rfl, bad, ?_⟩, ?_⟩ <;> simp (config := { maxSteps := 1000000 }) only [RUN, PATHS, BASE, FA, POL, start_tm, Heap.empty, reduceIte, Nat.reduceLT, Nat.reduceLeDiff, Nat.reduceEqDiff, Nat.reduceAdd, Nat.reduceSub, Nat.reduceMul, Nat.reduceBEq, Int.reduceLT, Int.reduceLE, Int.reduceEq, Int.reduceNeg, Int.reduceAdd, Int.reduceSub, Int.reduceMul, Bool.false_eq_true, Bool.not_true, Bool.not_false, decide_eq_true_eq, and_self, true_and, and_true, reduceCtorEq, ne_eq, not_false_eq_true, not_true_eq_false, decide_true, decide_false, or_false, false_or, hf]
            exact ⟨_, rfl, by simp⟩
      · simp (config := { maxSteps := 1000000 }) only [RUN, PATHS, BASE, FA, POL, start_tm, Heap.empty, reduceIte, Nat.reduceLT, Nat.reduceLeDiff, Nat.reduceEqDiff, Nat.reduceAdd, Nat.reduceSub, Nat.reduceMul, Nat.reduceBEq, Int.reduceLT, Int.reduceLE, Int.reduceEq, Int.reduceNeg, Int.reduceAdd, Int.reduceSub, Int.reduceMul, Bool.false_eq_true, Bool.not_true, Bool.not_false, decide_eq_true_eq, and_self, true_and, and_true, reduceCtorEq, ne_eq, not_false_eq_true, not_true_eq_false, decide_true, decide_false, or_false, false_or, INTS, h9, h8, h7, h4, h2, hr, hd, hf, (show ¬ (j : Int) < l.length by omega)] at hW
        subst hW
        have : j = l.length := by omega
        subst this
        rw [List.take_length] at ht
        refine rd_exit ⟨.inl ⟨rfl, ht, ?_⟩, ?_⟩ <;> simp (config := { maxSteps := 1000000 }) only [RUN, PATHS, BASE, FA, POL, start_tm, Heap.empty, reduceIte, Nat.reduceLT, Nat.reduceLeDiff, Nat.reduceEqDiff, Nat.reduceAdd, Nat.reduceSub, Nat.reduceMul, Nat.reduceBEq, Int.reduceLT, Int.reduceLE, Int.reduceEq, Int.reduceNeg, Int.reduceAdd, Int.reduceSub, Int.reduceMul, Bool.false_eq_true, Bool.not_true, Bool.not_false, decide_eq_true_eq, and_self, true_and, and_true, reduceCtorEq, ne_eq, not_false_eq_true, not_true_eq_false, decide_true, decide_false, or_false, false_or, h2, hr])
  rcases hex with ⟨rfl, h, h2, hr⟩ | ⟨rfl, h, h3, id, h2, hr⟩
  · simp (config := { maxSteps := 1000000 }) only [RUN, PATHS, BASE, FA, POL, start_tm, Heap.empty, reduceIte, Nat.reduceLT, Nat.reduceLeDiff, Nat.reduceEqDiff, Nat.reduceAdd, Nat.reduceSub, Nat.reduceMul, Nat.reduceBEq, Int.reduceLT, Int.reduceLE, Int.reduceEq, Int.reduceNeg, Int.reduceAdd, Int.reduceSub, Int.reduceMul, Bool.false_eq_true, Bool.not_true, Bool.not_false, decide_eq_true_eq, and_self, true_and, and_true, reduceCtorEq, ne_eq, not_false_eq_true, not_true_eq_false, decide_true, decide_false, or_false, false_or, hd, h2, hr, isNils_gsl, SOFAR, h]
    rw [sofar_ints]
    rfl
  · simp (config := { maxSteps := 1000000 }) only [RUN, PATHS, BASE, FA, POL, start_tm, Heap.empty, reduceIte, Nat.reduceLT, Nat.reduceLeDiff, Nat.reduceEqDiff, Nat.reduceAdd, Nat.reduceSub, Nat.reduceMul, Nat.reduceBEq, Int.reduceLT, Int.reduceLE, Int.reduceEq, Int.reduceNeg, Int.reduceAdd, Int.reduceSub, Int.reduceMul, Bool.false_eq_true, Bool.not_true, Bool.not_false, decide_eq_true_eq, and_self, true_and, and_true, reduceCtorEq, ne_eq, not_false_eq_true, not_true_eq_false, decide_true, decide_false, or_false, false_or, hd, h2, h3, hr, h]
    rfl
theorem wrapW {x : Int} (h : -9223372036854775808 ≤ x ∧ x ≤ 9223372036854775807) : IntKind.i64.wrap x = x := i64_in h
theorem c_refowed (f r d : Int) (k p : List Int) (c c' : Option Nat) (hk : k.length ≤ 1000000) (hp : p.length ≤ 1000000) : ap Try.prog pol 16 [well f r d k c, ints p c'] =
    some (.ret (if CHK f r d k p = 0 then .tup [ints (OWE (UNT d k p)) none, I 0] else .tup [.nils, I (CHK f r d k p)])) := by
  rw [ap_eq _ Try.func16 rfl Try.ntmps16 Try.results16 (by kernel_rfl) rfl (by exact Nat.le_of_ble_eq_true rfl)]
  by_cases h0 : CHK f r d k p = 0
  · have bd := BD_of h0
    have := bd.k0
    have hD := DAYS_le bd
    simp (config := { maxSteps := 1000000 }) only [RUN, PATHS, BASE, FA, POL, start_tm, Heap.empty, reduceIte, Nat.reduceLT, Nat.reduceLeDiff, Nat.reduceEqDiff, Nat.reduceAdd, Nat.reduceSub, Nat.reduceMul, Nat.reduceBEq, Int.reduceLT, Int.reduceLE, Int.reduceEq, Int.reduceNeg, Int.reduceAdd, Int.reduceSub, Int.reduceMul, Bool.false_eq_true, Bool.not_true, Bool.not_false, decide_eq_true_eq, and_self, true_and, and_true, reduceCtorEq, ne_eq, not_false_eq_true, not_true_eq_false, decide_true, decide_false, or_false, false_or, INTS, h0, c_refcheck f r d k p c c' hk hp]
    generalize hL : W _ (.loop _) _ = L
    obtain ⟨ex, s, rfl, rfl, h7, hr, hd, hf, hb⟩ := loop_at hL (α := Nat) (fun j => DAYS k p - j)
      (fun s0 j s => j ≤ DAYS k p ∧ s.tmps 9 = I j ∧ s.tmps 8 = I (PRV (UNT d k p) j) ∧ s.tmps 7 = .gsl 1 1 j 0 j ∧ s.tmps 2 = .bptr 0 2 0 0 ∧ s.tmps 1 = ints p c' ∧ s.H.rows 1 = some (.gro 1 (sofar (OWEf (UNT d k p)) j) 0) ∧ s.defers = [] ∧ s.fid = 0 ∧ s.boxes 2 = some (0, [I f, I r, I d, ints k c]))
      (fun s0 ex s => ex = .exit 0 ∧ s.tmps 7 = .gsl 1 1 (DAYS k p) 0 (DAYS k p) ∧ s.H.rows 1 = some (.gro 1 (sofar (OWEf (UNT d k p)) (DAYS k p)) 0) ∧ s.defers = [] ∧ s.fid = 0 ∧ s.boxes 2 = some (0, [I f, I r, I d, ints k c])) 0
      (by simp (config := { maxSteps := 1000000 }) only [RUN, PATHS, BASE, FA, POL, start_tm, Heap.empty, reduceIte, Nat.reduceLT, Nat.reduceLeDiff, Nat.reduceEqDiff, Nat.reduceAdd, Nat.reduceSub, Nat.reduceMul, Nat.reduceBEq, Int.reduceLT, Int.reduceLE, Int.reduceEq, Int.reduceNeg, Int.reduceAdd, Int.reduceSub, Int.reduceMul, Bool.false_eq_true, Bool.not_true, Bool.not_false, decide_eq_true_eq, and_self, true_and, and_true, reduceCtorEq, ne_eq, not_false_eq_true, not_true_eq_false, decide_true, decide_false, or_false, false_or, sofar_zero]; simp [PRV]) (by
        rintro j s r0 hW ⟨hj, h9, h8, h7, h2, h1, hr, hd, hf, hb⟩
        by_cases hp' : j < DAYS k p
        · have so : sofar (OWEf (UNT d k p)) j ++ [I ((UNT d k p).getD j 0 - PRV (UNT d k p) j)] = sofar (OWEf (UNT d k p)) (j + 1) := sofar_succ _ j
          have b1 := UNT_bd bd j
          have b2 : 0 ≤ PRV (UNT d k p) j ∧ PRV (UNT d k p) j ≤ 450359962737049600 := by
            unfold PRV; split
            · omega
            · exact UNT_bd bd _
          simp (config := { maxSteps := 1000000 }) only [RUN, PATHS, BASE, FA, POL, start_tm, Heap.empty, reduceIte, Nat.reduceLT, Nat.reduceLeDiff, Nat.reduceEqDiff, Nat.reduceAdd, Nat.reduceSub, Nat.reduceMul, Nat.reduceBEq, Int.reduceLT, Int.reduceLE, Int.reduceEq, Int.reduceNeg, Int.reduceAdd, Int.reduceSub, Int.reduceMul, Bool.false_eq_true, Bool.not_true, Bool.not_false, decide_eq_true_eq, and_self, true_and, and_true, reduceCtorEq, ne_eq, not_false_eq_true, not_true_eq_false, decide_true, decide_false, or_false, false_or, INTS, SOFAR, so, h9, h8, h7, h2, h1, hr, hd, hf, hb, c_days f r d k p c c' hk hp bd.k0, c_refuntil f r d k p c c' bd j (by omega), ← UNT_get hp', (show (j : Int) < DAYS k p by omega), (show j ≤ 67108863 by omega), (i64_in (x := (j : Int) + 1) (by unfold I64; omega)), (i64_in (x := (UNT d k p).getD j 0 - PRV (UNT d k p) j) (by unfold I64; omega))] at hW
          subst hW
          refine rd_next (j + 1) ?_ (show DAYS k p - (j + 1) < DAYS k p - j by omega)
          simp (config := { maxSteps := 1000000 }) only [RUN, PATHS, BASE, FA, POL, start_tm, Heap.empty, reduceIte, Nat.reduceLT, Nat.reduceLeDiff, Nat.reduceEqDiff, Nat.reduceAdd, Nat.reduceSub, Nat.reduceMul, Nat.reduceBEq, Int.reduceLT, Int.reduceLE, Int.reduceEq, Int.reduceNeg, Int.reduceAdd, Int.reduceSub, Int.reduceMul, Bool.false_eq_true, Bool.not_true, Bool.not_false, decide_eq_true_eq, and_self, true_and, and_true, reduceCtorEq, ne_eq, not_false_eq_true, not_true_eq_false, decide_true, decide_false, or_false, false_or, h2, h1, PRV_succ]
          exact ⟨by omega, by simp, hb⟩
        · simp (config := { maxSteps := 1000000 }) only [RUN, PATHS, BASE, FA, POL, start_tm, Heap.empty, reduceIte, Nat.reduceLT, Nat.reduceLeDiff, Nat.reduceEqDiff, Nat.reduceAdd, Nat.reduceSub, Nat.reduceMul, Nat.reduceBEq, Int.reduceLT, Int.reduceLE, Int.reduceEq, Int.reduceNeg, Int.reduceAdd, Int.reduceSub, Int.reduceMul, Bool.false_eq_true, Bool.not_true, Bool.not_false, decide_eq_true_eq, and_self, true_and, and_true, reduceCtorEq, ne_eq, not_false_eq_true, not_true_eq_false, decide_true, decide_false, or_false, false_or, INTS, h9, h8, h7, h2, h1, hr, hd, hf, hb, c_days f r d k p c c' hk hp bd.k0, (show ¬ (j : Int) < DAYS k p by omega)] at hW
          subst hW
          have : j = DAYS k p := by omega
          subst this
          refine rd_exit ⟨rfl, ?_⟩ 
          simp (config := { maxSteps := 1000000 }) only [RUN, PATHS, BASE, FA, POL, start_tm, Heap.empty, reduceIte, Nat.reduceLT, Nat.reduceLeDiff, Nat.reduceEqDiff, Nat.reduceAdd, Nat.reduceSub, Nat.reduceMul, Nat.reduceBEq, Int.reduceLT, Int.reduceLE, Int.reduceEq, Int.reduceNeg, Int.reduceAdd, Int.reduceSub, Int.reduceMul, Bool.false_eq_true, Bool.not_true, Bool.not_false, decide_eq_true_eq, and_self, true_and, and_true, reduceCtorEq, ne_eq, not_false_eq_true, not_true_eq_false, decide_true, decide_false, or_false, false_or, h7, hr, hb])
    simp (config := { maxSteps := 1000000 }) only [RUN, PATHS, BASE, FA, POL, start_tm, Heap.empty, reduceIte, Nat.reduceLT, Nat.reduceLeDiff, Nat.reduceEqDiff, Nat.reduceAdd, Nat.reduceSub, Nat.reduceMul, Nat.reduceBEq, Int.reduceLT, Int.reduceLE, Int.reduceEq, Int.reduceNeg, Int.reduceAdd, Int.reduceSub, Int.reduceMul, Bool.false_eq_true, Bool.not_true, Bool.not_false, decide_eq_true_eq, and_self, true_and, and_true, reduceCtorEq, ne_eq, not_false_eq_true, not_true_eq_false, decide_true, decide_false, or_false, false_or, h7, hr, hd, hf, hb, SOFAR, isNils_gsl]
    rw [sofar_ints, ← UNT_len d k p]
    rfl
  · simp (config := { maxSteps := 1000000 }) only [RUN, PATHS, BASE, FA, POL, start_tm, Heap.empty, reduceIte, Nat.reduceLT, Nat.reduceLeDiff, Nat.reduceEqDiff, Nat.reduceAdd, Nat.reduceSub, Nat.reduceMul, Nat.reduceBEq, Int.reduceLT, Int.reduceLE, Int.reduceEq, Int.reduceNeg, Int.reduceAdd, Int.reduceSub, Int.reduceMul, Bool.false_eq_true, Bool.not_true, Bool.not_false, decide_eq_true_eq, and_self, true_and, and_true, reduceCtorEq, ne_eq, not_false_eq_true, not_true_eq_false, decide_true, decide_false, or_false, false_or, INTS, h0, c_refcheck f r d k p c c' hk hp]
theorem c_refrepaid (f r d : Int) (k p q : List Int) (c c' c'' : Option Nat) (hk : k.length ≤ 1000000) (hp : p.length ≤ 1000000) : ap Try.prog pol 18 [well f r d k c, ints p c', ints q c''] =
    some (.ret (if CHK f r d k p = 0 then (if q.length = DAYS k p ∧ LIT q then .tup [ints (REP (UNT d k p) q) none, I 0] else .tup [.nils, I 420]) else .tup [.nils, I (CHK f r d k p)])) := by
  rw [ap_eq _ Try.func18 rfl Try.ntmps18 Try.results18 (by kernel_rfl) rfl (by exact Nat.le_of_ble_eq_true rfl)]
  by_cases h0 : CHK f r d k p = 0
  · have bd := BD_of h0
    have := bd.k0
    have hD := DAYS_le bd
    by_cases hl : q.length = DAYS k p
    · by_cases hq1 : LIT q
      · simp (config := { maxSteps := 1000000 }) only [RUN, PATHS, BASE, FA, POL, start_tm, Heap.empty, reduceIte, Nat.reduceLT, Nat.reduceLeDiff, Nat.reduceEqDiff, Nat.reduceAdd, Nat.reduceSub, Nat.reduceMul, Nat.reduceBEq, Int.reduceLT, Int.reduceLE, Int.reduceEq, Int.reduceNeg, Int.reduceAdd, Int.reduceSub, Int.reduceMul, Bool.false_eq_true, Bool.not_true, Bool.not_false, decide_eq_true_eq, and_self, true_and, and_true, reduceCtorEq, ne_eq, not_false_eq_true, not_true_eq_false, decide_true, decide_false, or_false, false_or, INTS, h0, c_refcheck f r d k p c c' hk hp, c_days f r d k p c c' hk hp bd.k0, hl, hq1, c_reflitres q c'' (by omega)]
        generalize hL : W _ (.loop _) _ = L
        obtain ⟨ex, s, rfl, rfl, h7, hr, hd, hf, hb⟩ := loop_at hL (α := Nat) (fun j => DAYS k p - j)
          (fun s0 j s => j ≤ DAYS k p ∧ s.tmps 11 = I j ∧ s.tmps 10 = I (KS q j) ∧ s.tmps 9 = .gsl 1 1 j 0 j ∧ s.tmps 3 = .bptr 0 3 0 0 ∧ s.tmps 1 = ints p c' ∧ s.tmps 2 = ints q c'' ∧ s.H.rows 1 = some (.gro 1 (sofar (REPf (UNT d k p) q) j) 0) ∧ s.defers = [] ∧ s.fid = 0 ∧ s.boxes 3 = some (0, [I f, I r, I d, ints k c]))
          (fun s0 ex s => ex = .exit 0 ∧ s.tmps 9 = .gsl 1 1 (DAYS k p) 0 (DAYS k p) ∧ s.H.rows 1 = some (.gro 1 (sofar (REPf (UNT d k p) q) (DAYS k p)) 0) ∧ s.defers = [] ∧ s.fid = 0 ∧ s.boxes 3 = some (0, [I f, I r, I d, ints k c])) 0
          (by simp (config := { maxSteps := 1000000 }) only [RUN, PATHS, BASE, FA, POL, start_tm, Heap.empty, reduceIte, Nat.reduceLT, Nat.reduceLeDiff, Nat.reduceEqDiff, Nat.reduceAdd, Nat.reduceSub, Nat.reduceMul, Nat.reduceBEq, Int.reduceLT, Int.reduceLE, Int.reduceEq, Int.reduceNeg, Int.reduceAdd, Int.reduceSub, Int.reduceMul, Bool.false_eq_true, Bool.not_true, Bool.not_false, decide_eq_true_eq, and_self, true_and, and_true, reduceCtorEq, ne_eq, not_false_eq_true, not_true_eq_false, decide_true, decide_false, or_false, false_or, sofar_zero, KS_zero]; simp) (by
            rintro j s r0 hW ⟨hj, h11, h10, h9, h3, h1, h2, hr, hd, hf, hb⟩
            by_cases hp' : j < DAYS k p
            · have so : sofar (REPf (UNT d k p) q) j ++ [I (max 0 ((UNT d k p).getD j 0 - KS q (j + 1)))] = sofar (REPf (UNT d k p) q) (j + 1) := sofar_succ _ j
              have e0 : q[j]? = some (q[j]'(by omega)) := List.getElem?_eq_getElem (by omega)
              have e1 := ints_get e0
              have eg : q.getD j 0 = q[j] := by rw [List.getD_eq_getElem?_getD, e0]; rfl
              have b1 := UNT_bd bd j
              have b2 := KS_le q hq1 j
              have b3 := KS_le q hq1 (j + 1)
              have es := KS_succ q j
              rw [eg] at es
              rw [es] at so
              simp (config := { maxSteps := 1000000 }) only [RUN, PATHS, BASE, FA, POL, start_tm, Heap.empty, reduceIte, Nat.reduceLT, Nat.reduceLeDiff, Nat.reduceEqDiff, Nat.reduceAdd, Nat.reduceSub, Nat.reduceMul, Nat.reduceBEq, Int.reduceLT, Int.reduceLE, Int.reduceEq, Int.reduceNeg, Int.reduceAdd, Int.reduceSub, Int.reduceMul, Bool.false_eq_true, Bool.not_true, Bool.not_false, decide_eq_true_eq, and_self, true_and, and_true, reduceCtorEq, ne_eq, not_false_eq_true, not_true_eq_false, decide_true, decide_false, or_false, false_or, INTS, SOFAR, so, h11, h10, h9, h3, h2, h1, hr, hd, hf, hb, hl, e1, Int.toNat_natCast, c_refuntil f r d k p c c' bd j (by omega), ← UNT_get hp', (show (j : Int) < DAYS k p by omega), (show (0 : Int) ≤ j by omega), (show j ≤ 67108863 by omega), (i64_in (x := (j : Int) + 1) (by unfold I64; omega)), (i64_in (x := KS q j + q[j]) (by unfold I64; omega)), (i64_in (x := (UNT d k p).getD j 0 - (KS q j + q[j])) (by unfold I64; omega))] at hW
              subst hW
              refine rd_next (j + 1) ?_ (show DAYS k p - (j + 1) < DAYS k p - j by omega)
              simp (config := { maxSteps := 1000000 }) only [RUN, PATHS, BASE, FA, POL, start_tm, Heap.empty, reduceIte, Nat.reduceLT, Nat.reduceLeDiff, Nat.reduceEqDiff, Nat.reduceAdd, Nat.reduceSub, Nat.reduceMul, Nat.reduceBEq, Int.reduceLT, Int.reduceLE, Int.reduceEq, Int.reduceNeg, Int.reduceAdd, Int.reduceSub, Int.reduceMul, Bool.false_eq_true, Bool.not_true, Bool.not_false, decide_eq_true_eq, and_self, true_and, and_true, reduceCtorEq, ne_eq, not_false_eq_true, not_true_eq_false, decide_true, decide_false, or_false, false_or, h2, h1, h3, es, hb]
              exact ⟨by omega, by simp⟩
            · simp (config := { maxSteps := 1000000 }) only [RUN, PATHS, BASE, FA, POL, start_tm, Heap.empty, reduceIte, Nat.reduceLT, Nat.reduceLeDiff, Nat.reduceEqDiff, Nat.reduceAdd, Nat.reduceSub, Nat.reduceMul, Nat.reduceBEq, Int.reduceLT, Int.reduceLE, Int.reduceEq, Int.reduceNeg, Int.reduceAdd, Int.reduceSub, Int.reduceMul, Bool.false_eq_true, Bool.not_true, Bool.not_false, decide_eq_true_eq, and_self, true_and, and_true, reduceCtorEq, ne_eq, not_false_eq_true, not_true_eq_false, decide_true, decide_false, or_false, false_or, INTS, h11, h10, h9, h3, h2, h1, hr, hd, hf, hb, hl, (show ¬ (j : Int) < DAYS k p by omega)] at hW
              subst hW
              have : j = DAYS k p := by omega
              subst this
              refine rd_exit ⟨rfl, ?_⟩ 
              simp (config := { maxSteps := 1000000 }) only [RUN, PATHS, BASE, FA, POL, start_tm, Heap.empty, reduceIte, Nat.reduceLT, Nat.reduceLeDiff, Nat.reduceEqDiff, Nat.reduceAdd, Nat.reduceSub, Nat.reduceMul, Nat.reduceBEq, Int.reduceLT, Int.reduceLE, Int.reduceEq, Int.reduceNeg, Int.reduceAdd, Int.reduceSub, Int.reduceMul, Bool.false_eq_true, Bool.not_true, Bool.not_false, decide_eq_true_eq, and_self, true_and, and_true, reduceCtorEq, ne_eq, not_false_eq_true, not_true_eq_false, decide_true, decide_false, or_false, false_or, h9, hr, hb])
        simp (config := { maxSteps := 1000000 }) only [RUN, PATHS, BASE, FA, POL, start_tm, Heap.empty, reduceIte, Nat.reduceLT, Nat.reduceLeDiff, Nat.reduceEqDiff, Nat.reduceAdd, Nat.reduceSub, Nat.reduceMul, Nat.reduceBEq, Int.reduceLT, Int.reduceLE, Int.reduceEq, Int.reduceNeg, Int.reduceAdd, Int.reduceSub, Int.reduceMul, Bool.false_eq_true, Bool.not_true, Bool.not_false, decide_eq_true_eq, and_self, true_and, and_true, reduceCtorEq, ne_eq, not_false_eq_true, not_true_eq_false, decide_true, decide_false, or_false, false_or, h7, hr, hd, hf, hb, SOFAR, isNils_gsl]
        rw [sofar_ints, ← UNT_len d k p]
        rfl
      · simp (config := { maxSteps := 1000000 }) only [RUN, PATHS, BASE, FA, POL, start_tm, Heap.empty, reduceIte, Nat.reduceLT, Nat.reduceLeDiff, Nat.reduceEqDiff, Nat.reduceAdd, Nat.reduceSub, Nat.reduceMul, Nat.reduceBEq, Int.reduceLT, Int.reduceLE, Int.reduceEq, Int.reduceNeg, Int.reduceAdd, Int.reduceSub, Int.reduceMul, Bool.false_eq_true, Bool.not_true, Bool.not_false, decide_eq_true_eq, and_self, true_and, and_true, reduceCtorEq, ne_eq, not_false_eq_true, not_true_eq_false, decide_true, decide_false, or_false, false_or, INTS, h0, c_refcheck f r d k p c c' hk hp, c_days f r d k p c c' hk hp bd.k0, hl, hq1, c_reflitres q c'' (by omega), and_false]
    · simp (config := { maxSteps := 1000000 }) only [RUN, PATHS, BASE, FA, POL, start_tm, Heap.empty, reduceIte, Nat.reduceLT, Nat.reduceLeDiff, Nat.reduceEqDiff, Nat.reduceAdd, Nat.reduceSub, Nat.reduceMul, Nat.reduceBEq, Int.reduceLT, Int.reduceLE, Int.reduceEq, Int.reduceNeg, Int.reduceAdd, Int.reduceSub, Int.reduceMul, Bool.false_eq_true, Bool.not_true, Bool.not_false, decide_eq_true_eq, and_self, true_and, and_true, reduceCtorEq, ne_eq, not_false_eq_true, not_true_eq_false, decide_true, decide_false, or_false, false_or, INTS, h0, c_refcheck f r d k p c c' hk hp, c_days f r d k p c c' hk hp bd.k0, (show ¬ (q.length : Int) = DAYS k p by omega), hl, false_and]
  · simp (config := { maxSteps := 1000000 }) only [RUN, PATHS, BASE, FA, POL, start_tm, Heap.empty, reduceIte, Nat.reduceLT, Nat.reduceLeDiff, Nat.reduceEqDiff, Nat.reduceAdd, Nat.reduceSub, Nat.reduceMul, Nat.reduceBEq, Int.reduceLT, Int.reduceLE, Int.reduceEq, Int.reduceNeg, Int.reduceAdd, Int.reduceSub, Int.reduceMul, Bool.false_eq_true, Bool.not_true, Bool.not_false, decide_eq_true_eq, and_self, true_and, and_true, reduceCtorEq, ne_eq, not_false_eq_true, not_true_eq_false, decide_true, decide_false, or_false, false_or, INTS, h0, c_refcheck f r d k p c c' hk hp]
end Go.Proofs.Ytbgdeimkemjklaa
