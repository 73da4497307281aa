/-
  The law of all wells of a district: what it computes.
-/
import Derived.Test.YtbgdeimkemjklaaC25
set_option linter.unusedSimpArgs false
set_option linter.unusedVariables false
set_option linter.unusedSectionVars false
namespace Go.Proofs.Ytbgdeimkemjklaa
open Go GoV
set_option maxRecDepth 100000

abbrev V32 (n : Int) : PV := .int .u32 n
def U32 (x : Int) : Prop := 0 ≤ x ∧ x ≤ 4294967295
theorem sh_u32 {g : Nat} {cs : List PV} (h : Sh Try.prog (g + 1) 51 cs) : ∃ n, cs = [V32 n] ∧ U32 n := by
  simp only [Sh, Try.underlying51] at h
  obtain ⟨n, rfl, w⟩ := h
  have := wf_bd w
  simp [IntKind.min, IntKind.max, IntKind.bits, IntKind.signed] at this
  exact ⟨n, rfl, this.1, by omega⟩
theorem agg_u32 : aggB Try.prog 51 = false := by kernel_rfl
theorem agg_u32s : aggB Try.prog 50 = false := by kernel_rfl
theorem sh_u32s {g : Nat} {cs : List PV} (h : Sh Try.prog (g + 2) 50 cs) : ∃ l : List Int, cs = [.vs 1 (l.map V32) none] ∧ ∀ x ∈ l, U32 x := by
  unfold Sh at h
  simp only [Try.underlying50] at h
  obtain ⟨es, rfl, _, hx⟩ := h
  obtain ⟨l, rfl, hl⟩ := els_map V32 U32 (P := fun x => ∃ ps, x = elOf (aggB Try.prog 51) ps ∧ Sh Try.prog (g + 1) 51 ps) (by
    rintro x ⟨ps, rfl, hs⟩
    obtain ⟨n, rfl, hn⟩ := sh_u32 hs
    exact ⟨n, by rw [agg_u32]; rfl, hn⟩) es hx
  exact ⟨l, rfl, hl⟩
def lit (l : List Int) (i : Nat) : Int := (l.getD i 0).tmod 1073741825
theorem w_all (D : Dis) (ws : List Wel) (hr : ∀ x ∈ D.rs, x.OK) (l : List Int) (hl : ∀ x ∈ l, U32 x) : ap Try.prog pol 9 [dv D ws, .vs 1 (l.map V32) none] = some (.ret (.bool true)) := by
  obtain ⟨b, eb, hb⟩ := c_fewwells D ws
  rw [ap_eq _ Try.func9 rfl Try.ntmps9 Try.results9 (by kernel_rfl) rfl (by exact Nat.le_of_ble_eq_true rfl)]
  cases b with
  | false =>
    simp (config := { maxSteps := 1000000 }) only [RUN, PATHS, BASE, FA, POL, start_tm, Heap.empty, reduceIte, Nat.reduceLT, Nat.reduceLeDiff, Nat.reduceEqDiff, Nat.reduceAdd, Nat.reduceSub, Nat.reduceMul, Nat.reduceBEq, Int.reduceLT, Int.reduceLE, Int.reduceEq, Int.reduceNeg, Int.reduceAdd, Int.reduceSub, Int.reduceMul, Bool.false_eq_true, Bool.not_true, Bool.not_false, decide_eq_true_eq, and_self, true_and, and_true, reduceCtorEq, ne_eq, not_false_eq_true, not_true_eq_false, decide_true, decide_false, or_false, false_or, NUM, SRCH, SFRM, SCRP, SRGT, SDTY, SWEL, c_sane, eb]
  | true =>
  have hw := hb rfl
  by_cases hn : (30 : Int) < l.length
  · simp (config := { maxSteps := 1000000 }) only [RUN, PATHS, BASE, FA, POL, start_tm, Heap.empty, reduceIte, Nat.reduceLT, Nat.reduceLeDiff, Nat.reduceEqDiff, Nat.reduceAdd, Nat.reduceSub, Nat.reduceMul, Nat.reduceBEq, Int.reduceLT, Int.reduceLE, Int.reduceEq, Int.reduceNeg, Int.reduceAdd, Int.reduceSub, Int.reduceMul, Bool.false_eq_true, Bool.not_true, Bool.not_false, decide_eq_true_eq, and_self, true_and, and_true, reduceCtorEq, ne_eq, not_false_eq_true, not_true_eq_false, decide_true, decide_false, or_false, false_or, NUM, SRCH, SFRM, SCRP, SRGT, SDTY, SWEL, c_sane, eb, List.length_map, hn]
  obtain ⟨c2, H', e2, hh, hnx, hc2⟩ := c_wellscheck D ws hr ⟨fun _ => none, 1⟩ _ rfl
  simp (config := { maxSteps := 1000000 }) only [RUN, PATHS, BASE, FA, POL, start_tm, Heap.empty, reduceIte, Nat.reduceLT, Nat.reduceLeDiff, Nat.reduceEqDiff, Nat.reduceAdd, Nat.reduceSub, Nat.reduceMul, Nat.reduceBEq, Int.reduceLT, Int.reduceLE, Int.reduceEq, Int.reduceNeg, Int.reduceAdd, Int.reduceSub, Int.reduceMul, Bool.false_eq_true, Bool.not_true, Bool.not_false, decide_eq_true_eq, and_self, true_and, and_true, reduceCtorEq, ne_eq, not_false_eq_true, not_true_eq_false, decide_true, decide_false, or_false, false_or, NUM, SRCH, SFRM, SCRP, SRGT, SDTY, SWEL, c_sane, eb, e2, List.length_map, hn]
  by_cases hc : c2 = 0
  rotate_left
  · simp (config := { maxSteps := 1000000 }) only [RUN, PATHS, BASE, FA, POL, start_tm, Heap.empty, reduceIte, Nat.reduceLT, Nat.reduceLeDiff, Nat.reduceEqDiff, Nat.reduceAdd, Nat.reduceSub, Nat.reduceMul, Nat.reduceBEq, Int.reduceLT, Int.reduceLE, Int.reduceEq, Int.reduceNeg, Int.reduceAdd, Int.reduceSub, Int.reduceMul, Bool.false_eq_true, Bool.not_true, Bool.not_false, decide_eq_true_eq, and_self, true_and, and_true, reduceCtorEq, ne_eq, not_false_eq_true, not_true_eq_false, decide_true, decide_false, or_false, false_or, NUM, hc]
  subst hc
  simp (config := { maxSteps := 1000000 }) only [RUN, PATHS, BASE, FA, POL, start_tm, Heap.empty, reduceIte, Nat.reduceLT, Nat.reduceLeDiff, Nat.reduceEqDiff, Nat.reduceAdd, Nat.reduceSub, Nat.reduceMul, Nat.reduceBEq, Int.reduceLT, Int.reduceLE, Int.reduceEq, Int.reduceNeg, Int.reduceAdd, Int.reduceSub, Int.reduceMul, Bool.false_eq_true, Bool.not_true, Bool.not_false, decide_eq_true_eq, and_self, true_and, and_true, reduceCtorEq, ne_eq, not_false_eq_true, not_true_eq_false, decide_true, decide_false, or_false, false_or, NUM]
  generalize hE : callF _ _ _ 21 _ _ = E
  obtain ⟨H2, c1, rfl, hh2, hn2, hk⟩ := c_xcheck D hr none none _ _ _ _ (SL_vs 2 _ none) (SL_vs 10 _ none) (SL_vs 4 _ none) _ _ hE
  have good : D.LEN ∧ D.K ∧ ws.length ≤ 64 ∧ WLEN ws ∧ WGOOD D ws := by
    unfold WCHK at hc2
    rcases hc2 with ⟨_, h⟩ | ⟨_, _, h⟩ | ⟨_, _, _, h⟩ | ⟨_, _, _, _, h⟩ | ⟨h1, h2, h3, h4, _⟩
    · omega
    · omega
    · omega
    · omega
    · exact ⟨h1, h2, h3.1, h3.2, h4⟩
  obtain ⟨gl, gk, g64, gwl, gg⟩ := good
  have hc1 : c1 = 0 := by
    rcases hk with ⟨h, _⟩ | ⟨_, _, h⟩ | ⟨_, h, _⟩
    · exact absurd gl h
    · exact h
    · exact absurd gk h
  subst hc1
  simp (config := { maxSteps := 1000000 }) only [RUN, PATHS, BASE, FA, POL, start_tm, Heap.empty, reduceIte, Nat.reduceLT, Nat.reduceLeDiff, Nat.reduceEqDiff, Nat.reduceAdd, Nat.reduceSub, Nat.reduceMul, Nat.reduceBEq, Int.reduceLT, Int.reduceLE, Int.reduceEq, Int.reduceNeg, Int.reduceAdd, Int.reduceSub, Int.reduceMul, Bool.false_eq_true, Bool.not_true, Bool.not_false, decide_eq_true_eq, and_self, true_and, and_true, reduceCtorEq, ne_eq, not_false_eq_true, not_true_eq_false, decide_true, decide_false, or_false, false_or, NUM, List.length_map]
  have ge : ∀ i, i < l.length → 0 ≤ l.getD i 0 ∧ l.getD i 0 ≤ 4294967295 := fun i hi => by
    have e : l.getD i 0 = l[i] := by simp [List.getD_eq_getElem?_getD, hi]
    rw [e]; exact hl _ (List.getElem_mem hi)
  have lb : ∀ i, i < l.length → 0 ≤ lit l i ∧ lit l i ≤ 1073741824 := fun i hi => by
    have := ge i hi
    unfold lit
    have h1 := Int.tmod_nonneg 1073741825 this.1
    have h2 := Int.tmod_lt_of_pos (l.getD i 0) (b := 1073741825) (by omega)
    omega
  generalize hL : W _ (.loop _) _ = L
  obtain ⟨ex, s, rfl, rfl, g5, gr, g2, gb, gd, gf⟩ := loop_at hL (α := Nat) (fun j => l.length - j)
    (fun s0 j s => j ≤ l.length ∧ s.tmps 32 = I j ∧ s.tmps 31 = I l.length ∧ s.tmps 30 = .vs 1 (l.map V32) none ∧ s.tmps 5 = .gsl 1 H2.next j 0 j ∧ s.H.rows H2.next = some (.gro 1 (sofar (lit l) j) 0) ∧ s.tmps 2 = .bptr 0 2 0 0 ∧ s.boxes 2 = some (0, dc D ws) ∧ s.defers = [] ∧ s.fid = 0)
    (fun s0 ex s => ex = .exit 0 ∧ s.tmps 5 = .gsl 1 H2.next l.length 0 l.length ∧ s.H.rows H2.next = some (.gro 1 (sofar (lit l) l.length) 0) ∧ s.tmps 2 = .bptr 0 2 0 0 ∧ s.boxes 2 = some (0, dc D ws) ∧ s.defers = [] ∧ s.fid = 0) 0
    (by simp (config := { maxSteps := 1000000 }) only [RUN, PATHS, BASE, FA, POL, start_tm, Heap.empty, reduceIte, Nat.reduceLT, Nat.reduceLeDiff, Nat.reduceEqDiff, Nat.reduceAdd, Nat.reduceSub, Nat.reduceMul, Nat.reduceBEq, Int.reduceLT, Int.reduceLE, Int.reduceEq, Int.reduceNeg, Int.reduceAdd, Int.reduceSub, Int.reduceMul, Bool.false_eq_true, Bool.not_true, Bool.not_false, decide_eq_true_eq, and_self, true_and, and_true, reduceCtorEq, ne_eq, not_false_eq_true, not_true_eq_false, decide_true, decide_false, or_false, false_or, sofar_zero]; simp) (by
      rintro j s r hW ⟨hj, hi, hn', h30, h5, hrr, h2, hb, hd, hf⟩
      by_cases hp : j < l.length
      · have e0 : l[j]? = some l[j] := List.getElem?_eq_getElem hp
        have e1 : (l.map V32)[j]? = some (V32 l[j]) := by simp [hp]
        have eg : l.getD j 0 = l[j] := by rw [List.getD_eq_getElem?_getD, e0]; rfl
        have b1 := ge j hp
        have b2 := lb j hp
        have so := sofar_succ (lit l) j
        have el : lit l j = l[j].tmod 1073741825 := by unfold lit; rw [eg]
        rw [el] at so b2
        rw [eg] at b1
        simp (config := { maxSteps := 1000000 }) only [RUN, PATHS, BASE, FA, POL, start_tm, Heap.empty, reduceIte, Nat.reduceLT, Nat.reduceLeDiff, Nat.reduceEqDiff, Nat.reduceAdd, Nat.reduceSub, Nat.reduceMul, Nat.reduceBEq, Int.reduceLT, Int.reduceLE, Int.reduceEq, Int.reduceNeg, Int.reduceAdd, Int.reduceSub, Int.reduceMul, Bool.false_eq_true, Bool.not_true, Bool.not_false, decide_eq_true_eq, and_self, true_and, and_true, reduceCtorEq, ne_eq, not_false_eq_true, not_true_eq_false, decide_true, decide_false, or_false, false_or, NUM, SOFAR, so, hi, hn', h30, h5, hrr, h2, hb, hd, hf, e1, List.length_map, Int.toNat_natCast, (show j ≤ 67108863 by omega), (show (j : Int) < l.length by omega), (show (0 : Int) ≤ j by omega), (i64_in (x := (j : Int) + 1) (by unfold I64; omega)), (i64_in (x := l[j]) (by unfold I64; omega)), (i64_in (x := l[j].tmod 1073741825) (by unfold I64; omega))] at hW
        subst hW
        refine rd_next (j + 1) ?_ (show l.length - (j + 1) < l.length - j by omega)
        simp (config := { maxSteps := 1000000 }) only [RUN, PATHS, BASE, FA, POL, start_tm, Heap.empty, reduceIte, Nat.reduceLT, Nat.reduceLeDiff, Nat.reduceEqDiff, Nat.reduceAdd, Nat.reduceSub, Nat.reduceMul, Nat.reduceBEq, Int.reduceLT, Int.reduceLE, Int.reduceEq, Int.reduceNeg, Int.reduceAdd, Int.reduceSub, Int.reduceMul, Bool.false_eq_true, Bool.not_true, Bool.not_false, decide_eq_true_eq, and_self, true_and, and_true, reduceCtorEq, ne_eq, not_false_eq_true, not_true_eq_false, decide_true, decide_false, or_false, false_or, hn', h30, h2, hb]
        exact ⟨by omega, by simp⟩
      · simp (config := { maxSteps := 1000000 }) only [RUN, PATHS, BASE, FA, POL, start_tm, Heap.empty, reduceIte, Nat.reduceLT, Nat.reduceLeDiff, Nat.reduceEqDiff, Nat.reduceAdd, Nat.reduceSub, Nat.reduceMul, Nat.reduceBEq, Int.reduceLT, Int.reduceLE, Int.reduceEq, Int.reduceNeg, Int.reduceAdd, Int.reduceSub, Int.reduceMul, Bool.false_eq_true, Bool.not_true, Bool.not_false, decide_eq_true_eq, and_self, true_and, and_true, reduceCtorEq, ne_eq, not_false_eq_true, not_true_eq_false, decide_true, decide_false, or_false, false_or, List.length_map, hi, hn', h30, h5, hrr, h2, hb, hd, hf, (show ¬ (j : Int) < l.length by omega)] at hW
        subst hW
        have : j = l.length := by omega
        subst this
        refine rd_exit ⟨rfl, ?_⟩
        simp (config := { maxSteps := 1000000 }) only [RUN, PATHS, BASE, FA, POL, start_tm, Heap.empty, reduceIte, Nat.reduceLT, Nat.reduceLeDiff, Nat.reduceEqDiff, Nat.reduceAdd, Nat.reduceSub, Nat.reduceMul, Nat.reduceBEq, Int.reduceLT, Int.reduceLE, Int.reduceEq, Int.reduceNeg, Int.reduceAdd, Int.reduceSub, Int.reduceMul, Bool.false_eq_true, Bool.not_true, Bool.not_false, decide_eq_true_eq, and_self, true_and, and_true, reduceCtorEq, ne_eq, not_false_eq_true, not_true_eq_false, decide_true, decide_false, or_false, false_or, h5, hrr, h2, hb])
  clear hL
  simp (config := { maxSteps := 1000000 }) only [RUN, PATHS, BASE, FA, POL, start_tm, Heap.empty, reduceIte, Nat.reduceLT, Nat.reduceLeDiff, Nat.reduceEqDiff, Nat.reduceAdd, Nat.reduceSub, Nat.reduceMul, Nat.reduceBEq, Int.reduceLT, Int.reduceLE, Int.reduceEq, Int.reduceNeg, Int.reduceAdd, Int.reduceSub, Int.reduceMul, Bool.false_eq_true, Bool.not_true, Bool.not_false, decide_eq_true_eq, and_self, true_and, and_true, reduceCtorEq, ne_eq, not_false_eq_true, not_true_eq_false, decide_true, decide_false, or_false, false_or, NUM, g5, gr, g2, gb, gd, gf, List.length_map]
  have ll : LIT ((List.range l.length).map (lit l)) := by
    intro x hx
    simp only [List.mem_map, List.mem_range] at hx
    obtain ⟨i, hi, rfl⟩ := hx
    exact lb i hi
  obtain ⟨q1, q2, q3, q4, q5⟩ := gl
  generalize hL : W _ (.loop _) _ = L
  obtain ⟨ex, s, rfl, rfl, gd, gf⟩ := loop_at hL (α := Nat) (fun j => ws.length - j)
    (fun s0 j s => j ≤ ws.length ∧ s.tmps 46 = I j ∧ s.tmps 45 = I ws.length ∧ s.tmps 44 = .vs 4 (ws.map wel) none ∧ s.tmps 5 = .gsl 1 H2.next l.length 0 l.length ∧ (∃ fr, s.H.rows H2.next = some (.gro 1 (sofar (lit l) l.length) fr)) ∧ s.tmps 2 = .bptr 0 2 0 0 ∧ s.boxes 2 = some (0, dc D ws) ∧ s.defers = [] ∧ s.fid = 0)
    (fun s0 ex s => ex = .exit 2 ∧ s.defers = [] ∧ s.fid = 0) 0
    (by simp (config := { maxSteps := 1000000 }) only [RUN, PATHS, BASE, FA, POL, start_tm, Heap.empty, reduceIte, Nat.reduceLT, Nat.reduceLeDiff, Nat.reduceEqDiff, Nat.reduceAdd, Nat.reduceSub, Nat.reduceMul, Nat.reduceBEq, Int.reduceLT, Int.reduceLE, Int.reduceEq, Int.reduceNeg, Int.reduceAdd, Int.reduceSub, Int.reduceMul, Bool.false_eq_true, Bool.not_true, Bool.not_false, decide_eq_true_eq, and_self, true_and, and_true, reduceCtorEq, ne_eq, not_false_eq_true, not_true_eq_false, decide_true, decide_false, or_false, false_or, g5, gr, g2, gb]; exact ⟨by omega, by simp, ⟨0, rfl⟩⟩) (by
      rintro j s r hW ⟨hj, h46, h45, h44, h5, ⟨fr, hrr⟩, h2, hb, hd, hf⟩
      by_cases hp : j < ws.length
      · have e0 : ws[j]? = some ws[j] := List.getElem?_eq_getElem hp
        have e1 := map_get (f := wel) e0
        have hkj := gwl _ _ e0
        have hgj := gg _ _ e0
        simp only at hkj hgj
        generalize ws[j] = x at *
        have h0 : CHK x.f x.r x.d x.k ((List.range l.length).map (lit l)) = 0 := by
          have hw' : WOK x.f x.r x.d x.k 600 64 := ⟨hgj.1, by have := hgj.2.1; omega, hgj.2.2.1, by have := hgj.2.2.2.1; omega, hgj.2.2.2.2⟩
          unfold CHK
          rw [if_neg (by simp; omega), if_pos ⟨hw', ll⟩]
        have co := c_owed x.f x.r x.d x.k ((List.range l.length).map (lit l)) none none (by omega) (by simp; omega)
        rw [if_pos h0] at co
        have co' : ap Try.prog pol 15 [well x.f x.r x.d x.k none, .vs 1 (sofar (lit l) l.length) none] = some (.ret (.tup [ints (OWE (UNT x.d x.k ((List.range l.length).map (lit l)))) none, I 0])) := by
          rw [sofar_ints]; exact co
        obtain ⟨u1, u2, u3, u4, _⟩ := hgj
        simp (config := { maxSteps := 1000000 }) only [RUN, PATHS, BASE, FA, POL, start_tm, Heap.empty, reduceIte, Nat.reduceLT, Nat.reduceLeDiff, Nat.reduceEqDiff, Nat.reduceAdd, Nat.reduceSub, Nat.reduceMul, Nat.reduceBEq, Int.reduceLT, Int.reduceLE, Int.reduceEq, Int.reduceNeg, Int.reduceAdd, Int.reduceSub, Int.reduceMul, Bool.false_eq_true, Bool.not_true, Bool.not_false, decide_eq_true_eq, and_self, true_and, and_true, reduceCtorEq, ne_eq, not_false_eq_true, not_true_eq_false, decide_true, decide_false, or_false, false_or, NUM, INTS, SOFAR, sofar_strip0, co', h46, h45, h44, h5, hrr, h2, hb, hd, hf, e1, List.length_map, Int.toNat_natCast, (show (j : Int) < ws.length by omega), (show (0 : Int) ≤ j by omega), (i64_in (x := (j : Int) + 1) (by unfold I64; omega)), (show ¬ x.f < 0 by omega), (show ¬ (D.fs.length : Int) ≤ x.f by omega), (show ¬ x.r < 0 by omega), (show ¬ (D.rs.length : Int) ≤ x.r by omega)] at hW
        subst hW
        refine rd_next (j + 1) ?_ (show ws.length - (j + 1) < ws.length - j by omega)
        simp (config := { maxSteps := 1000000 }) only [RUN, PATHS, BASE, FA, POL, start_tm, Heap.empty, reduceIte, Nat.reduceLT, Nat.reduceLeDiff, Nat.reduceEqDiff, Nat.reduceAdd, Nat.reduceSub, Nat.reduceMul, Nat.reduceBEq, Int.reduceLT, Int.reduceLE, Int.reduceEq, Int.reduceNeg, Int.reduceAdd, Int.reduceSub, Int.reduceMul, Bool.false_eq_true, Bool.not_true, Bool.not_false, decide_eq_true_eq, and_self, true_and, and_true, reduceCtorEq, ne_eq, not_false_eq_true, not_true_eq_false, decide_true, decide_false, or_false, false_or, h45, h44, h2, hb, h5]
        exact ⟨by omega, by simp, ⟨_, rfl⟩⟩
      · simp (config := { maxSteps := 1000000 }) only [RUN, PATHS, BASE, FA, POL, start_tm, Heap.empty, reduceIte, Nat.reduceLT, Nat.reduceLeDiff, Nat.reduceEqDiff, Nat.reduceAdd, Nat.reduceSub, Nat.reduceMul, Nat.reduceBEq, Int.reduceLT, Int.reduceLE, Int.reduceEq, Int.reduceNeg, Int.reduceAdd, Int.reduceSub, Int.reduceMul, Bool.false_eq_true, Bool.not_true, Bool.not_false, decide_eq_true_eq, and_self, true_and, and_true, reduceCtorEq, ne_eq, not_false_eq_true, not_true_eq_false, decide_true, decide_false, or_false, false_or, List.length_map, h46, h45, h44, h5, hrr, h2, hb, hd, hf, (show ¬ (j : Int) < ws.length by omega)] at hW
        subst hW
        refine rd_exit ⟨rfl, ?_⟩
        exact ⟨rfl, rfl⟩)
  simp (config := { maxSteps := 1000000 }) only [RUN, PATHS, BASE, FA, POL, start_tm, Heap.empty, reduceIte, Nat.reduceLT, Nat.reduceLeDiff, Nat.reduceEqDiff, Nat.reduceAdd, Nat.reduceSub, Nat.reduceMul, Nat.reduceBEq, Int.reduceLT, Int.reduceLE, Int.reduceEq, Int.reduceNeg, Int.reduceAdd, Int.reduceSub, Int.reduceMul, Bool.false_eq_true, Bool.not_true, Bool.not_false, decide_eq_true_eq, and_self, true_and, and_true, reduceCtorEq, ne_eq, not_false_eq_true, not_true_eq_false, decide_true, decide_false, or_false, false_or, gd, gf]
end Go.Proofs.Ytbgdeimkemjklaa
