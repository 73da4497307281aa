/-
  expand.Check: the whole district.
-/
import Derived.Test.YtaggpjlkapnonaaC4
set_option linter.unusedSimpArgs false
set_option linter.unusedVariables false
set_option linter.unusedSectionVars false
namespace Go.Proofs.Ytaggpjlkapnonaa
open Go GoV
set_option maxRecDepth 100000

/-- A slice's value. -/
structure SL (sz : Nat) (l : List PV) (v : PV) : Prop where
  len : ∀ e, lenK (some (.slice e)) v = some (.int .i64 l.length)
  at_ : ∀ k : Int, iAddrK (some sz) v (some k) = if 0 ≤ k ∧ k < l.length then rowC l[k.toNat]? else none
theorem SL_vs (sz : Nat) (l : List PV) (c : Option Nat) : SL sz l (.vs sz l c) :=
  ⟨fun _ => rfl, fun k => by rw [iAddrK_vs]; simp⟩
theorem SL_nils (sz : Nat) : SL sz [] .nils :=
  ⟨fun _ => rfl, fun k => by rw [iAddrK_nils, if_neg (by rw [List.length_nil]; omega)]⟩
abbrev crp (x : Crp) : PV := .agg [.str x.nm, I x.n]
structure Dty where
  (nm : ByteArray) (fm rc due : Int)
abbrev dty (x : Dty) : PV := .agg [.str x.nm, I x.fm, I x.rc, I x.due]
def CRPK (x : Crp) : Prop := 0 ≤ x.n ∧ x.n ≤ 1048576
instance (x : Crp) : Decidable (CRPK x) := by unfold CRPK; infer_instance
def FRMK (nr nc : Int) (x : Frm) : Prop := (0 ≤ x.at_ ∧ x.at_ < nr) ∧ (0 ≤ x.ar ∧ x.ar ≤ 1048576) ∧ (if 0 < x.ar then 0 ≤ x.cr ∧ x.cr < nc else x.cr = -1)
instance (a b : Int) (x : Frm) : Decidable (FRMK a b x) := by unfold FRMK; infer_instance
def DTYK (hours nf nr : Int) (x : Dty) : Prop := (0 ≤ x.fm ∧ x.fm < nf) ∧ (0 ≤ x.rc ∧ x.rc < nr) ∧ (0 ≤ x.due ∧ x.due ≤ hours)
instance (a b c : Int) (x : Dty) : Decidable (DTYK a b c x) := by unfold DTYK; infer_instance
/-- All members, with their places. -/
def ALLI {α : Type} (P : Nat → α → Prop) (l : List α) : Prop := ∀ i x, l[i]? = some x → P i x
theorem ALLI_take {α : Type} {P : Nat → α → Prop} {l : List α} {j : Nat} {x : α} (h : ALLI P (l.take j)) (e : l[j]? = some x) (hx : P j x) : ALLI P (l.take (j + 1)) := by
  intro i y hy
  rw [List.getElem?_take] at hy
  split at hy
  · by_cases hi : i = j
    · subst hi
      rw [e] at hy
      cases hy; exact hx
    · exact h i y (by rw [List.getElem?_take, if_pos (by omega)]; exact hy)
  · simp at hy
/-- A district but for its wells. -/
structure Dis where
  (nm : ByteArray) (hours cap start : Int) (rs : List Rch) (fs : List Frm) (cs : List Crp) (gs : List Rgt) (ds : List Dty)
def Dis.K (D : Dis) : Prop := (1 ≤ D.hours ∧ D.hours ≤ 4096) ∧ (0 ≤ D.start ∧ D.start ≤ D.cap ∧ D.cap ≤ 1099511627776) ∧ 0 < D.rs.length ∧
  ALLI (fun i x => RUP i x ∧ RIN x) D.rs ∧ ALLI (fun _ x => CRPK x) D.cs ∧ ALLI (fun _ x => FRMK D.rs.length D.cs.length x) D.fs ∧
  ALLI (fun _ x => RGT D.hours D.fs.length D.rs.length x) D.gs ∧ ALLI (fun _ x => DTYK D.hours D.fs.length D.rs.length x) D.ds
/-- How far a walk over the district has come. -/
def EX (D : List PV) (e : Int) (H : Heap) (s : St) : Prop := s.tmps 2 = .bptr H.next 2 0 0 ∧ s.tmps 1 = I e ∧ s.boxes 2 = some (0, D) ∧ s.defers = [] ∧ s.fid = H.next ∧ s.H.rows = H.rows ∧ H.next ≤ s.H.next
def PEX (e : Int) (H : Heap) (ex : Ex) (s : St) : Prop := ex = .pan (.iface 106 (I e)) ∧ s.defers = [] ∧ s.H.rows = H.rows ∧ H.next ≤ s.H.next
theorem endK_p {P : Program} {pol : Pol} {rs : List ResultVar} {v : PV} {s : St} (h : s.defers = []) : endK P pol rs (some v) s = some (.pan v, s.H) := by
  obtain ⟨f, t, b, d, H, rc⟩ := s
  simp only at h; subst h; rfl
theorem c_examine (D : Dis) (hr : ∀ x ∈ D.rs, x.OK) (l1 : D.rs.length ≤ 10000) (l2 : D.fs.length ≤ 10000) (l3 : D.cs.length ≤ 10000) (l4 : D.gs.length ≤ 10000) (l5 : D.ds.length ≤ 10000)
    (rc fc : Option Nat) (cs gs ds ws : PV) (hcs : SL 2 (D.cs.map crp) cs) (hgs : SL 10 (D.gs.map rgt) gs) (hds : SL 4 (D.ds.map dty) ds) (e : Int) (H : Heap) (X : Option (CR × Heap))
    (hX : callF G Try.prog pol 45 [dist D.nm D.hours D.cap D.start (.vs 12 (D.rs.map rch) rc) (.vs 4 (D.fs.map frm) fc) cs gs ds ws, I e] H = X) :
    ∃ H' r, X = some (r, H') ∧ H'.rows = H.rows ∧ H.next ≤ H'.next ∧ ((D.K ∧ r = .ret (.tup [])) ∨ (¬ D.K ∧ r = .pan (.iface 106 (I e)))) := by
  subst hX
  obtain ⟨nm, hours, cap, start, rs, fs, cl, gl, dl⟩ := D
  simp only at *
  rw [callF_eq _ _ Try.func45 rfl Try.ntmps45 Try.results45 (by kernel_rfl) rfl (by exact Nat.le_of_ble_eq_true rfl)]
  by_cases a1 : 1 ≤ hours ∧ hours ≤ 4096
  rotate_left
  · simp (config := { maxSteps := 1000000 }) only [RUN, PATHS, BASE, FA, POL, start_tm, Heap.empty, reduceIte, Nat.reduceLT, Nat.reduceLeDiff, Nat.reduceEqDiff, Nat.reduceAdd, Nat.reduceSub, Nat.reduceMul, Nat.reduceBEq, Int.reduceLT, Int.reduceLE, Int.reduceEq, Int.reduceNeg, Int.reduceAdd, Int.reduceSub, Int.reduceMul, Bool.false_eq_true, Bool.not_true, Bool.not_false, decide_eq_true_eq, and_self, true_and, and_true, reduceCtorEq, ne_eq, not_false_eq_true, not_true_eq_false, decide_true, decide_false, or_false, false_or, NUM, c_ris3, a1, c_demand]
    exact ⟨_, _, rfl, rfl, by simp, .inr ⟨fun h => a1 h.1, rfl⟩⟩
  by_cases a2 : 0 ≤ start ∧ start ≤ cap ∧ cap ≤ 1099511627776
  rotate_left
  · simp (config := { maxSteps := 1000000 }) only [RUN, PATHS, BASE, FA, POL, start_tm, Heap.empty, reduceIte, Nat.reduceLT, Nat.reduceLeDiff, Nat.reduceEqDiff, Nat.reduceAdd, Nat.reduceSub, Nat.reduceMul, Nat.reduceBEq, Int.reduceLT, Int.reduceLE, Int.reduceEq, Int.reduceNeg, Int.reduceAdd, Int.reduceSub, Int.reduceMul, Bool.false_eq_true, Bool.not_true, Bool.not_false, decide_eq_true_eq, and_self, true_and, and_true, reduceCtorEq, ne_eq, not_false_eq_true, not_true_eq_false, decide_true, decide_false, or_false, false_or, NUM, c_ris3, c_ris4, a1, a2, c_demand]
    exact ⟨_, _, rfl, rfl, by simp, .inr ⟨fun h => a2 h.2.1, rfl⟩⟩
  by_cases a3 : 0 < rs.length
  rotate_left
  · simp (config := { maxSteps := 1000000 }) only [RUN, PATHS, BASE, FA, POL, start_tm, Heap.empty, reduceIte, Nat.reduceLT, Nat.reduceLeDiff, Nat.reduceEqDiff, Nat.reduceAdd, Nat.reduceSub, Nat.reduceMul, Nat.reduceBEq, Int.reduceLT, Int.reduceLE, Int.reduceEq, Int.reduceNeg, Int.reduceAdd, Int.reduceSub, Int.reduceMul, Bool.false_eq_true, Bool.not_true, Bool.not_false, decide_eq_true_eq, and_self, true_and, and_true, reduceCtorEq, ne_eq, not_false_eq_true, not_true_eq_false, decide_true, decide_false, or_false, false_or, NUM, c_ris3, c_ris4, a1, a2, c_demand, List.length_map, (show ¬ 0 < (rs.length : Int) by omega)]
    exact ⟨_, _, rfl, rfl, by simp, .inr ⟨fun h => a3 h.2.2.1, rfl⟩⟩
  simp (config := { maxSteps := 1000000 }) only [RUN, PATHS, BASE, FA, POL, start_tm, Heap.empty, reduceIte, Nat.reduceLT, Nat.reduceLeDiff, Nat.reduceEqDiff, Nat.reduceAdd, Nat.reduceSub, Nat.reduceMul, Nat.reduceBEq, Int.reduceLT, Int.reduceLE, Int.reduceEq, Int.reduceNeg, Int.reduceAdd, Int.reduceSub, Int.reduceMul, Bool.false_eq_true, Bool.not_true, Bool.not_false, decide_eq_true_eq, and_self, true_and, and_true, reduceCtorEq, ne_eq, not_false_eq_true, not_true_eq_false, decide_true, decide_false, or_false, false_or, NUM, c_ris3, c_ris4, a1, a2, c_demand, List.length_map, (show 0 < (rs.length : Int) by omega)]
  generalize hL : W _ (.loop _) _ = L
  obtain ⟨ex, s, rfl, hex⟩ := loop_at hL (α := Nat) (fun j => rs.length - j)
    (fun s0 j s => j ≤ rs.length ∧ ALLI (fun i x => RUP i x ∧ RIN x) (rs.take j) ∧ s.tmps 40 = I j ∧ s.tmps 39 = I rs.length ∧ s.tmps 38 = (.vs 12 (rs.map rch) rc) ∧ EX [.str nm, I hours, I cap, I start, .vs 12 (rs.map rch) rc, .vs 4 (fs.map frm) fc, cs, gs, ds, ws] e H s)
    (fun s0 ex s => (ex = .exit 0 ∧ ALLI (fun i x => RUP i x ∧ RIN x) rs ∧ EX [.str nm, I hours, I cap, I start, .vs 12 (rs.map rch) rc, .vs 4 (fs.map frm) fc, cs, gs, ds, ws] e H s) ∨ (PEX e H ex s ∧ ¬ ALLI (fun i x => RUP i x ∧ RIN x) rs)) 0
    (by simp (config := { maxSteps := 1000000 }) only [RUN, PATHS, BASE, FA, POL, start_tm, Heap.empty, reduceIte, Nat.reduceLT, Nat.reduceLeDiff, Nat.reduceEqDiff, Nat.reduceAdd, Nat.reduceSub, Nat.reduceMul, Nat.reduceBEq, Int.reduceLT, Int.reduceLE, Int.reduceEq, Int.reduceNeg, Int.reduceAdd, Int.reduceSub, Int.reduceMul, Bool.false_eq_true, Bool.not_true, Bool.not_false, decide_eq_true_eq, and_self, true_and, and_true, reduceCtorEq, ne_eq, not_false_eq_true, not_true_eq_false, decide_true, decide_false, or_false, false_or, EX, start_tm, List.take_zero]
        refine ⟨Nat.zero_le _, fun i x h => by simp at h, ?_⟩
        simp) (by
      rintro j s r hW ⟨hj, ht, h40, h39, h38, x2, x1, xb, xd, xf, xh, xn⟩
      by_cases hp : j < rs.length
      · have e0 : rs[j]? = some rs[j] := List.getElem?_eq_getElem hp
        have e1 : (rs.map rch)[j]? = some (rch rs[j]) := by simp [e0]
        generalize rs[j] = x at e0 e1
        by_cases hx : (RUP j x ∧ RIN x)
        · simp (config := { maxSteps := 1000000 }) only [RUN, PATHS, BASE, FA, POL, start_tm, Heap.empty, reduceIte, Nat.reduceLT, Nat.reduceLeDiff, Nat.reduceEqDiff, Nat.reduceAdd, Nat.reduceSub, Nat.reduceMul, Nat.reduceBEq, Int.reduceLT, Int.reduceLE, Int.reduceEq, Int.reduceNeg, Int.reduceAdd, Int.reduceSub, Int.reduceMul, Bool.false_eq_true, Bool.not_true, Bool.not_false, decide_eq_true_eq, and_self, true_and, and_true, reduceCtorEq, ne_eq, not_false_eq_true, not_true_eq_false, decide_true, decide_false, or_false, false_or, NUM, h40, h39, h38, x2, x1, xb, xd, xf, e1, c_demand, List.length_map, hcs.len, hgs.len, hds.len, c_reach j x (hr x (List.mem_of_getElem? e0)), hx, Int.toNat_natCast, (show (j : Int) < rs.length by omega), (show (0 : Int) ≤ j by omega), (i64_in (x := (j : Int) + 1) (by unfold I64; omega))] at hW
          subst hW
          refine rd_next (j + 1) ?_ (show rs.length - (j + 1) < rs.length - j by omega)
          refine ⟨by omega, ALLI_take ht e0 hx, ?_⟩
          simp (config := { maxSteps := 1000000 }) only [RUN, PATHS, BASE, FA, POL, start_tm, Heap.empty, reduceIte, Nat.reduceLT, Nat.reduceLeDiff, Nat.reduceEqDiff, Nat.reduceAdd, Nat.reduceSub, Nat.reduceMul, Nat.reduceBEq, Int.reduceLT, Int.reduceLE, Int.reduceEq, Int.reduceNeg, Int.reduceAdd, Int.reduceSub, Int.reduceMul, Bool.false_eq_true, Bool.not_true, Bool.not_false, decide_eq_true_eq, and_self, true_and, and_true, reduceCtorEq, ne_eq, not_false_eq_true, not_true_eq_false, decide_true, decide_false, or_false, false_or, EX, h39, h38, x2, x1, xb, xh]
          exact ⟨by congr 1, by omega⟩
        · simp (config := { maxSteps := 1000000 }) only [RUN, PATHS, BASE, FA, POL, start_tm, Heap.empty, reduceIte, Nat.reduceLT, Nat.reduceLeDiff, Nat.reduceEqDiff, Nat.reduceAdd, Nat.reduceSub, Nat.reduceMul, Nat.reduceBEq, Int.reduceLT, Int.reduceLE, Int.reduceEq, Int.reduceNeg, Int.reduceAdd, Int.reduceSub, Int.reduceMul, Bool.false_eq_true, Bool.not_true, Bool.not_false, decide_eq_true_eq, and_self, true_and, and_true, reduceCtorEq, ne_eq, not_false_eq_true, not_true_eq_false, decide_true, decide_false, or_false, false_or, NUM, h40, h39, h38, x2, x1, xb, xd, xf, e1, c_demand, List.length_map, hcs.len, hgs.len, hds.len, c_reach j x (hr x (List.mem_of_getElem? e0)), hx, Int.toNat_natCast, (show (j : Int) < rs.length by omega), (show (0 : Int) ≤ j by omega), (i64_in (x := (j : Int) + 1) (by unfold I64; omega))] at hW
          subst hW
          refine rd_pan (.inr ⟨⟨rfl, ?_⟩, fun h => hx (h j x e0)⟩)
          simp (config := { maxSteps := 1000000 }) only [RUN, PATHS, BASE, FA, POL, start_tm, Heap.empty, reduceIte, Nat.reduceLT, Nat.reduceLeDiff, Nat.reduceEqDiff, Nat.reduceAdd, Nat.reduceSub, Nat.reduceMul, Nat.reduceBEq, Int.reduceLT, Int.reduceLE, Int.reduceEq, Int.reduceNeg, Int.reduceAdd, Int.reduceSub, Int.reduceMul, Bool.false_eq_true, Bool.not_true, Bool.not_false, decide_eq_true_eq, and_self, true_and, and_true, reduceCtorEq, ne_eq, not_false_eq_true, not_true_eq_false, decide_true, decide_false, or_false, false_or, xh]
          omega
      · simp (config := { maxSteps := 1000000 }) only [RUN, PATHS, BASE, FA, POL, start_tm, Heap.empty, reduceIte, Nat.reduceLT, Nat.reduceLeDiff, Nat.reduceEqDiff, Nat.reduceAdd, Nat.reduceSub, Nat.reduceMul, Nat.reduceBEq, Int.reduceLT, Int.reduceLE, Int.reduceEq, Int.reduceNeg, Int.reduceAdd, Int.reduceSub, Int.reduceMul, Bool.false_eq_true, Bool.not_true, Bool.not_false, decide_eq_true_eq, and_self, true_and, and_true, reduceCtorEq, ne_eq, not_false_eq_true, not_true_eq_false, decide_true, decide_false, or_false, false_or, h40, h39, h38, x2, x1, xb, xd, xf, (show ¬ (j : Int) < rs.length by omega)] at hW
        subst hW
        rw [List.take_of_length_le (by omega)] at ht
        refine rd_exit (.inl ⟨rfl, ht, ?_⟩)
        simp (config := { maxSteps := 1000000 }) only [RUN, PATHS, BASE, FA, POL, start_tm, Heap.empty, reduceIte, Nat.reduceLT, Nat.reduceLeDiff, Nat.reduceEqDiff, Nat.reduceAdd, Nat.reduceSub, Nat.reduceMul, Nat.reduceBEq, Int.reduceLT, Int.reduceLE, Int.reduceEq, Int.reduceNeg, Int.reduceAdd, Int.reduceSub, Int.reduceMul, Bool.false_eq_true, Bool.not_true, Bool.not_false, decide_eq_true_eq, and_self, true_and, and_true, reduceCtorEq, ne_eq, not_false_eq_true, not_true_eq_false, decide_true, decide_false, or_false, false_or, EX, x2, x1, xb, xh]
        exact xn)
  rcases hex with ⟨rfl, b0, x2, x1, xb, xd, xf, xh, xn⟩ | ⟨⟨rfl, xd, xh, xn⟩, hbad⟩
  rotate_left
  · simp (config := { maxSteps := 1000000 }) only [RUN, PATHS, BASE, FA, POL, start_tm, Heap.empty, reduceIte, Nat.reduceLT, Nat.reduceLeDiff, Nat.reduceEqDiff, Nat.reduceAdd, Nat.reduceSub, Nat.reduceMul, Nat.reduceBEq, Int.reduceLT, Int.reduceLE, Int.reduceEq, Int.reduceNeg, Int.reduceAdd, Int.reduceSub, Int.reduceMul, Bool.false_eq_true, Bool.not_true, Bool.not_false, decide_eq_true_eq, and_self, true_and, and_true, reduceCtorEq, ne_eq, not_false_eq_true, not_true_eq_false, decide_true, decide_false, or_false, false_or, xd, endK_p xd]
    exact ⟨_, _, rfl, xh, xn, .inr ⟨fun h => hbad h.2.2.2.1, rfl⟩⟩
  simp (config := { maxSteps := 1000000 }) only [RUN, PATHS, BASE, FA, POL, start_tm, Heap.empty, reduceIte, Nat.reduceLT, Nat.reduceLeDiff, Nat.reduceEqDiff, Nat.reduceAdd, Nat.reduceSub, Nat.reduceMul, Nat.reduceBEq, Int.reduceLT, Int.reduceLE, Int.reduceEq, Int.reduceNeg, Int.reduceAdd, Int.reduceSub, Int.reduceMul, Bool.false_eq_true, Bool.not_true, Bool.not_false, decide_eq_true_eq, and_self, true_and, and_true, reduceCtorEq, ne_eq, not_false_eq_true, not_true_eq_false, decide_true, decide_false, or_false, false_or, x2, x1, xb, xd, xf, List.length_map, hcs.len, hgs.len, hds.len]
  clear hL
  generalize hL : W _ (.loop _) _ = L
  obtain ⟨ex, s, rfl, hex⟩ := loop_at hL (α := Nat) (fun j => cl.length - j)
    (fun s0 j s => j ≤ cl.length ∧ ALLI (fun _ x => CRPK x) (cl.take j) ∧ s.tmps 54 = I j ∧ s.tmps 53 = I cl.length ∧ s.tmps 52 = cs ∧ EX [.str nm, I hours, I cap, I start, .vs 12 (rs.map rch) rc, .vs 4 (fs.map frm) fc, cs, gs, ds, ws] e H s)
    (fun s0 ex s => (ex = .exit 2 ∧ ALLI (fun _ x => CRPK x) cl ∧ EX [.str nm, I hours, I cap, I start, .vs 12 (rs.map rch) rc, .vs 4 (fs.map frm) fc, cs, gs, ds, ws] e H s) ∨ (PEX e H ex s ∧ ¬ ALLI (fun _ x => CRPK x) cl)) 0
    (by simp (config := { maxSteps := 1000000 }) only [RUN, PATHS, BASE, FA, POL, start_tm, Heap.empty, reduceIte, Nat.reduceLT, Nat.reduceLeDiff, Nat.reduceEqDiff, Nat.reduceAdd, Nat.reduceSub, Nat.reduceMul, Nat.reduceBEq, Int.reduceLT, Int.reduceLE, Int.reduceEq, Int.reduceNeg, Int.reduceAdd, Int.reduceSub, Int.reduceMul, Bool.false_eq_true, Bool.not_true, Bool.not_false, decide_eq_true_eq, and_self, true_and, and_true, reduceCtorEq, ne_eq, not_false_eq_true, not_true_eq_false, decide_true, decide_false, or_false, false_or, EX, x2, x1, xb, xd, xf, xh, List.take_zero]
        refine ⟨Nat.zero_le _, fun i x h => by simp at h, ?_⟩
        simp [xn]) (by
      rintro j s r hW ⟨hj, ht, h54, h53, h52, x2, x1, xb, xd, xf, xh, xn⟩
      by_cases hp : j < cl.length
      · have e0 : cl[j]? = some cl[j] := List.getElem?_eq_getElem hp
        have e1 : (cl.map crp)[j]? = some (crp cl[j]) := by simp [e0]
        generalize cl[j] = x at e0 e1
        simp (config := { maxSteps := 1000000 }) only [RUN, PATHS, BASE, FA, POL, start_tm, Heap.empty, reduceIte, Nat.reduceLT, Nat.reduceLeDiff, Nat.reduceEqDiff, Nat.reduceAdd, Nat.reduceSub, Nat.reduceMul, Nat.reduceBEq, Int.reduceLT, Int.reduceLE, Int.reduceEq, Int.reduceNeg, Int.reduceAdd, Int.reduceSub, Int.reduceMul, Bool.false_eq_true, Bool.not_true, Bool.not_false, decide_eq_true_eq, and_self, true_and, and_true, reduceCtorEq, ne_eq, not_false_eq_true, not_true_eq_false, decide_true, decide_false, or_false, false_or, NUM, h54, h53, h52, x2, x1, xb, xd, xf, e1, c_demand, List.length_map, hcs.len, hgs.len, hds.len, c_ris3, hcs.at_, Int.toNat_natCast, (show (j : Int) < cl.length by omega), (show (0 : Int) ≤ j by omega), (i64_in (x := (j : Int) + 1) (by unfold I64; omega))] at hW
        subst hW
        refine rd_ite (fun y1 => ?_) (fun y1 => ?_)
        · refine rd_next (j + 1) ?_ (show cl.length - (j + 1) < cl.length - j by omega)
          refine ⟨by omega, ALLI_take ht e0 y1, ?_⟩
          simp (config := { maxSteps := 1000000 }) only [RUN, PATHS, BASE, FA, POL, start_tm, Heap.empty, reduceIte, Nat.reduceLT, Nat.reduceLeDiff, Nat.reduceEqDiff, Nat.reduceAdd, Nat.reduceSub, Nat.reduceMul, Nat.reduceBEq, Int.reduceLT, Int.reduceLE, Int.reduceEq, Int.reduceNeg, Int.reduceAdd, Int.reduceSub, Int.reduceMul, Bool.false_eq_true, Bool.not_true, Bool.not_false, decide_eq_true_eq, and_self, true_and, and_true, reduceCtorEq, ne_eq, not_false_eq_true, not_true_eq_false, decide_true, decide_false, or_false, false_or, EX, h53, h52, x2, x1, xb, xh]
          exact ⟨by congr 1, by omega⟩
        · refine rd_pan (.inr ⟨⟨rfl, ?_⟩, fun h => y1 (h j x e0)⟩)
          simp (config := { maxSteps := 1000000 }) only [RUN, PATHS, BASE, FA, POL, start_tm, Heap.empty, reduceIte, Nat.reduceLT, Nat.reduceLeDiff, Nat.reduceEqDiff, Nat.reduceAdd, Nat.reduceSub, Nat.reduceMul, Nat.reduceBEq, Int.reduceLT, Int.reduceLE, Int.reduceEq, Int.reduceNeg, Int.reduceAdd, Int.reduceSub, Int.reduceMul, Bool.false_eq_true, Bool.not_true, Bool.not_false, decide_eq_true_eq, and_self, true_and, and_true, reduceCtorEq, ne_eq, not_false_eq_true, not_true_eq_false, decide_true, decide_false, or_false, false_or, xh]
          omega
      · simp (config := { maxSteps := 1000000 }) only [RUN, PATHS, BASE, FA, POL, start_tm, Heap.empty, reduceIte, Nat.reduceLT, Nat.reduceLeDiff, Nat.reduceEqDiff, Nat.reduceAdd, Nat.reduceSub, Nat.reduceMul, Nat.reduceBEq, Int.reduceLT, Int.reduceLE, Int.reduceEq, Int.reduceNeg, Int.reduceAdd, Int.reduceSub, Int.reduceMul, Bool.false_eq_true, Bool.not_true, Bool.not_false, decide_eq_true_eq, and_self, true_and, and_true, reduceCtorEq, ne_eq, not_false_eq_true, not_true_eq_false, decide_true, decide_false, or_false, false_or, h54, h53, h52, x2, x1, xb, xd, xf, (show ¬ (j : Int) < cl.length by omega)] at hW
        subst hW
        rw [List.take_of_length_le (by omega)] at ht
        refine rd_exit (.inl ⟨rfl, ht, ?_⟩)
        simp (config := { maxSteps := 1000000 }) only [RUN, PATHS, BASE, FA, POL, start_tm, Heap.empty, reduceIte, Nat.reduceLT, Nat.reduceLeDiff, Nat.reduceEqDiff, Nat.reduceAdd, Nat.reduceSub, Nat.reduceMul, Nat.reduceBEq, Int.reduceLT, Int.reduceLE, Int.reduceEq, Int.reduceNeg, Int.reduceAdd, Int.reduceSub, Int.reduceMul, Bool.false_eq_true, Bool.not_true, Bool.not_false, decide_eq_true_eq, and_self, true_and, and_true, reduceCtorEq, ne_eq, not_false_eq_true, not_true_eq_false, decide_true, decide_false, or_false, false_or, EX, x2, x1, xb, xh]
        exact xn)
  rcases hex with ⟨rfl, b1, x2, x1, xb, xd, xf, xh, xn⟩ | ⟨⟨rfl, xd, xh, xn⟩, hbad⟩
  rotate_left
  · simp (config := { maxSteps := 1000000 }) only [RUN, PATHS, BASE, FA, POL, start_tm, Heap.empty, reduceIte, Nat.reduceLT, Nat.reduceLeDiff, Nat.reduceEqDiff, Nat.reduceAdd, Nat.reduceSub, Nat.reduceMul, Nat.reduceBEq, Int.reduceLT, Int.reduceLE, Int.reduceEq, Int.reduceNeg, Int.reduceAdd, Int.reduceSub, Int.reduceMul, Bool.false_eq_true, Bool.not_true, Bool.not_false, decide_eq_true_eq, and_self, true_and, and_true, reduceCtorEq, ne_eq, not_false_eq_true, not_true_eq_false, decide_true, decide_false, or_false, false_or, xd, endK_p xd]
    exact ⟨_, _, rfl, xh, xn, .inr ⟨fun h => hbad h.2.2.2.2.1, rfl⟩⟩
  simp (config := { maxSteps := 1000000 }) only [RUN, PATHS, BASE, FA, POL, start_tm, Heap.empty, reduceIte, Nat.reduceLT, Nat.reduceLeDiff, Nat.reduceEqDiff, Nat.reduceAdd, Nat.reduceSub, Nat.reduceMul, Nat.reduceBEq, Int.reduceLT, Int.reduceLE, Int.reduceEq, Int.reduceNeg, Int.reduceAdd, Int.reduceSub, Int.reduceMul, Bool.false_eq_true, Bool.not_true, Bool.not_false, decide_eq_true_eq, and_self, true_and, and_true, reduceCtorEq, ne_eq, not_false_eq_true, not_true_eq_false, decide_true, decide_false, or_false, false_or, x2, x1, xb, xd, xf, List.length_map, hcs.len, hgs.len, hds.len]
  clear hL
  generalize hL : W _ (.loop _) _ = L
  obtain ⟨ex, s, rfl, hex⟩ := loop_at hL (α := Nat) (fun j => fs.length - j)
    (fun s0 j s => j ≤ fs.length ∧ ALLI (fun _ x => FRMK rs.length cl.length x) (fs.take j) ∧ s.tmps 68 = I j ∧ s.tmps 67 = I fs.length ∧ s.tmps 66 = (.vs 4 (fs.map frm) fc) ∧ EX [.str nm, I hours, I cap, I start, .vs 12 (rs.map rch) rc, .vs 4 (fs.map frm) fc, cs, gs, ds, ws] e H s)
    (fun s0 ex s => (ex = .exit 4 ∧ ALLI (fun _ x => FRMK rs.length cl.length x) fs ∧ EX [.str nm, I hours, I cap, I start, .vs 12 (rs.map rch) rc, .vs 4 (fs.map frm) fc, cs, gs, ds, ws] e H s) ∨ (PEX e H ex s ∧ ¬ ALLI (fun _ x => FRMK rs.length cl.length x) fs)) 0
    (by simp (config := { maxSteps := 1000000 }) only [RUN, PATHS, BASE, FA, POL, start_tm, Heap.empty, reduceIte, Nat.reduceLT, Nat.reduceLeDiff, Nat.reduceEqDiff, Nat.reduceAdd, Nat.reduceSub, Nat.reduceMul, Nat.reduceBEq, Int.reduceLT, Int.reduceLE, Int.reduceEq, Int.reduceNeg, Int.reduceAdd, Int.reduceSub, Int.reduceMul, Bool.false_eq_true, Bool.not_true, Bool.not_false, decide_eq_true_eq, and_self, true_and, and_true, reduceCtorEq, ne_eq, not_false_eq_true, not_true_eq_false, decide_true, decide_false, or_false, false_or, EX, x2, x1, xb, xd, xf, xh, List.take_zero]
        refine ⟨Nat.zero_le _, fun i x h => by simp at h, ?_⟩
        simp [xn]) (by
      rintro j s r hW ⟨hj, ht, h68, h67, h66, x2, x1, xb, xd, xf, xh, xn⟩
      by_cases hp : j < fs.length
      · have e0 : fs[j]? = some fs[j] := List.getElem?_eq_getElem hp
        have e1 : (fs.map frm)[j]? = some (frm fs[j]) := by simp [e0]
        generalize fs[j] = x at e0 e1
        by_cases hx0 : 0 < x.ar
        · have ek : FRMK rs.length cl.length x ↔ ((0 ≤ x.at_ ∧ x.at_ < rs.length) ∧ (0 ≤ x.ar ∧ x.ar ≤ 1048576) ∧ (0 ≤ x.cr ∧ x.cr < cl.length)) := by unfold FRMK; simp only [hx0, if_true, if_false]
          simp (config := { maxSteps := 1000000 }) only [RUN, PATHS, BASE, FA, POL, start_tm, Heap.empty, reduceIte, Nat.reduceLT, Nat.reduceLeDiff, Nat.reduceEqDiff, Nat.reduceAdd, Nat.reduceSub, Nat.reduceMul, Nat.reduceBEq, Int.reduceLT, Int.reduceLE, Int.reduceEq, Int.reduceNeg, Int.reduceAdd, Int.reduceSub, Int.reduceMul, Bool.false_eq_true, Bool.not_true, Bool.not_false, decide_eq_true_eq, and_self, true_and, and_true, reduceCtorEq, ne_eq, not_false_eq_true, not_true_eq_false, decide_true, decide_false, or_false, false_or, NUM, h68, h67, h66, x2, x1, xb, xd, xf, e1, c_demand, List.length_map, hcs.len, hgs.len, hds.len, c_ris3, c_index, hcs.len, hx0, Int.toNat_natCast, (show (j : Int) < fs.length by omega), (show (0 : Int) ≤ j by omega), (i64_in (x := (j : Int) + 1) (by unfold I64; omega))] at hW
          subst hW
          refine rd_ite (fun y1 => ?_) (fun y1 => ?_)
          · refine rd_ite (fun y2 => ?_) (fun y2 => ?_)
            · refine rd_ite (fun y3 => ?_) (fun y3 => ?_)
              · refine rd_next (j + 1) ?_ (show fs.length - (j + 1) < fs.length - j by omega)
                refine ⟨by omega, ALLI_take ht e0 (ek.2 ⟨y2, y3, y1⟩), ?_⟩
                simp (config := { maxSteps := 1000000 }) only [RUN, PATHS, BASE, FA, POL, start_tm, Heap.empty, reduceIte, Nat.reduceLT, Nat.reduceLeDiff, Nat.reduceEqDiff, Nat.reduceAdd, Nat.reduceSub, Nat.reduceMul, Nat.reduceBEq, Int.reduceLT, Int.reduceLE, Int.reduceEq, Int.reduceNeg, Int.reduceAdd, Int.reduceSub, Int.reduceMul, Bool.false_eq_true, Bool.not_true, Bool.not_false, decide_eq_true_eq, and_self, true_and, and_true, reduceCtorEq, ne_eq, not_false_eq_true, not_true_eq_false, decide_true, decide_false, or_false, false_or, EX, h67, h66, x2, x1, xb, xh]
                exact ⟨by congr 1, by omega⟩
              · refine rd_pan (.inr ⟨⟨rfl, ?_⟩, fun h => y3 (ek.1 (h j x e0)).2.1⟩)
                simp (config := { maxSteps := 1000000 }) only [RUN, PATHS, BASE, FA, POL, start_tm, Heap.empty, reduceIte, Nat.reduceLT, Nat.reduceLeDiff, Nat.reduceEqDiff, Nat.reduceAdd, Nat.reduceSub, Nat.reduceMul, Nat.reduceBEq, Int.reduceLT, Int.reduceLE, Int.reduceEq, Int.reduceNeg, Int.reduceAdd, Int.reduceSub, Int.reduceMul, Bool.false_eq_true, Bool.not_true, Bool.not_false, decide_eq_true_eq, and_self, true_and, and_true, reduceCtorEq, ne_eq, not_false_eq_true, not_true_eq_false, decide_true, decide_false, or_false, false_or, xh]
                omega
            · refine rd_pan (.inr ⟨⟨rfl, ?_⟩, fun h => y2 (ek.1 (h j x e0)).1⟩)
              simp (config := { maxSteps := 1000000 }) only [RUN, PATHS, BASE, FA, POL, start_tm, Heap.empty, reduceIte, Nat.reduceLT, Nat.reduceLeDiff, Nat.reduceEqDiff, Nat.reduceAdd, Nat.reduceSub, Nat.reduceMul, Nat.reduceBEq, Int.reduceLT, Int.reduceLE, Int.reduceEq, Int.reduceNeg, Int.reduceAdd, Int.reduceSub, Int.reduceMul, Bool.false_eq_true, Bool.not_true, Bool.not_false, decide_eq_true_eq, and_self, true_and, and_true, reduceCtorEq, ne_eq, not_false_eq_true, not_true_eq_false, decide_true, decide_false, or_false, false_or, xh]
              omega
          · refine rd_pan (.inr ⟨⟨rfl, ?_⟩, fun h => y1 (ek.1 (h j x e0)).2.2⟩)
            simp (config := { maxSteps := 1000000 }) only [RUN, PATHS, BASE, FA, POL, start_tm, Heap.empty, reduceIte, Nat.reduceLT, Nat.reduceLeDiff, Nat.reduceEqDiff, Nat.reduceAdd, Nat.reduceSub, Nat.reduceMul, Nat.reduceBEq, Int.reduceLT, Int.reduceLE, Int.reduceEq, Int.reduceNeg, Int.reduceAdd, Int.reduceSub, Int.reduceMul, Bool.false_eq_true, Bool.not_true, Bool.not_false, decide_eq_true_eq, and_self, true_and, and_true, reduceCtorEq, ne_eq, not_false_eq_true, not_true_eq_false, decide_true, decide_false, or_false, false_or, xh]
            omega
        · have ek : FRMK rs.length cl.length x ↔ ((0 ≤ x.at_ ∧ x.at_ < rs.length) ∧ (0 ≤ x.ar ∧ x.ar ≤ 1048576) ∧ (x.cr = -1)) := by unfold FRMK; simp only [hx0, if_true, if_false]
          simp (config := { maxSteps := 1000000 }) only [RUN, PATHS, BASE, FA, POL, start_tm, Heap.empty, reduceIte, Nat.reduceLT, Nat.reduceLeDiff, Nat.reduceEqDiff, Nat.reduceAdd, Nat.reduceSub, Nat.reduceMul, Nat.reduceBEq, Int.reduceLT, Int.reduceLE, Int.reduceEq, Int.reduceNeg, Int.reduceAdd, Int.reduceSub, Int.reduceMul, Bool.false_eq_true, Bool.not_true, Bool.not_false, decide_eq_true_eq, and_self, true_and, and_true, reduceCtorEq, ne_eq, not_false_eq_true, not_true_eq_false, decide_true, decide_false, or_false, false_or, NUM, h68, h67, h66, x2, x1, xb, xd, xf, e1, c_demand, List.length_map, hcs.len, hgs.len, hds.len, c_ris3, c_index, hcs.len, hx0, Int.toNat_natCast, (show (j : Int) < fs.length by omega), (show (0 : Int) ≤ j by omega), (i64_in (x := (j : Int) + 1) (by unfold I64; omega))] at hW
          subst hW
          refine rd_ite (fun y1 => ?_) (fun y1 => ?_)
          · refine rd_ite (fun y2 => ?_) (fun y2 => ?_)
            · refine rd_ite (fun y3 => ?_) (fun y3 => ?_)
              · refine rd_next (j + 1) ?_ (show fs.length - (j + 1) < fs.length - j by omega)
                refine ⟨by omega, ALLI_take ht e0 (ek.2 ⟨y2, y3, y1⟩), ?_⟩
                simp (config := { maxSteps := 1000000 }) only [RUN, PATHS, BASE, FA, POL, start_tm, Heap.empty, reduceIte, Nat.reduceLT, Nat.reduceLeDiff, Nat.reduceEqDiff, Nat.reduceAdd, Nat.reduceSub, Nat.reduceMul, Nat.reduceBEq, Int.reduceLT, Int.reduceLE, Int.reduceEq, Int.reduceNeg, Int.reduceAdd, Int.reduceSub, Int.reduceMul, Bool.false_eq_true, Bool.not_true, Bool.not_false, decide_eq_true_eq, and_self, true_and, and_true, reduceCtorEq, ne_eq, not_false_eq_true, not_true_eq_false, decide_true, decide_false, or_false, false_or, EX, h67, h66, x2, x1, xb, xh]
                exact ⟨by congr 1, by omega⟩
              · refine rd_pan (.inr ⟨⟨rfl, ?_⟩, fun h => y3 (ek.1 (h j x e0)).2.1⟩)
                simp (config := { maxSteps := 1000000 }) only [RUN, PATHS, BASE, FA, POL, start_tm, Heap.empty, reduceIte, Nat.reduceLT, Nat.reduceLeDiff, Nat.reduceEqDiff, Nat.reduceAdd, Nat.reduceSub, Nat.reduceMul, Nat.reduceBEq, Int.reduceLT, Int.reduceLE, Int.reduceEq, Int.reduceNeg, Int.reduceAdd, Int.reduceSub, Int.reduceMul, Bool.false_eq_true, Bool.not_true, Bool.not_false, decide_eq_true_eq, and_self, true_and, and_true, reduceCtorEq, ne_eq, not_false_eq_true, not_true_eq_false, decide_true, decide_false, or_false, false_or, xh]
                omega
            · refine rd_pan (.inr ⟨⟨rfl, ?_⟩, fun h => y2 (ek.1 (h j x e0)).1⟩)
              simp (config := { maxSteps := 1000000 }) only [RUN, PATHS, BASE, FA, POL, start_tm, Heap.empty, reduceIte, Nat.reduceLT, Nat.reduceLeDiff, Nat.reduceEqDiff, Nat.reduceAdd, Nat.reduceSub, Nat.reduceMul, Nat.reduceBEq, Int.reduceLT, Int.reduceLE, Int.reduceEq, Int.reduceNeg, Int.reduceAdd, Int.reduceSub, Int.reduceMul, Bool.false_eq_true, Bool.not_true, Bool.not_false, decide_eq_true_eq, and_self, true_and, and_true, reduceCtorEq, ne_eq, not_false_eq_true, not_true_eq_false, decide_true, decide_false, or_false, false_or, xh]
              omega
          · refine rd_pan (.inr ⟨⟨rfl, ?_⟩, fun h => y1 (ek.1 (h j x e0)).2.2⟩)
            simp (config := { maxSteps := 1000000 }) only [RUN, PATHS, BASE, FA, POL, start_tm, Heap.empty, reduceIte, Nat.reduceLT, Nat.reduceLeDiff, Nat.reduceEqDiff, Nat.reduceAdd, Nat.reduceSub, Nat.reduceMul, Nat.reduceBEq, Int.reduceLT, Int.reduceLE, Int.reduceEq, Int.reduceNeg, Int.reduceAdd, Int.reduceSub, Int.reduceMul, Bool.false_eq_true, Bool.not_true, Bool.not_false, decide_eq_true_eq, and_self, true_and, and_true, reduceCtorEq, ne_eq, not_false_eq_true, not_true_eq_false, decide_true, decide_false, or_false, false_or, xh]
            omega
      · simp (config := { maxSteps := 1000000 }) only [RUN, PATHS, BASE, FA, POL, start_tm, Heap.empty, reduceIte, Nat.reduceLT, Nat.reduceLeDiff, Nat.reduceEqDiff, Nat.reduceAdd, Nat.reduceSub, Nat.reduceMul, Nat.reduceBEq, Int.reduceLT, Int.reduceLE, Int.reduceEq, Int.reduceNeg, Int.reduceAdd, Int.reduceSub, Int.reduceMul, Bool.false_eq_true, Bool.not_true, Bool.not_false, decide_eq_true_eq, and_self, true_and, and_true, reduceCtorEq, ne_eq, not_false_eq_true, not_true_eq_false, decide_true, decide_false, or_false, false_or, h68, h67, h66, x2, x1, xb, xd, xf, (show ¬ (j : Int) < fs.length by omega)] at hW
        subst hW
        rw [List.take_of_length_le (by omega)] at ht
        refine rd_exit (.inl ⟨rfl, ht, ?_⟩)
        simp (config := { maxSteps := 1000000 }) only [RUN, PATHS, BASE, FA, POL, start_tm, Heap.empty, reduceIte, Nat.reduceLT, Nat.reduceLeDiff, Nat.reduceEqDiff, Nat.reduceAdd, Nat.reduceSub, Nat.reduceMul, Nat.reduceBEq, Int.reduceLT, Int.reduceLE, Int.reduceEq, Int.reduceNeg, Int.reduceAdd, Int.reduceSub, Int.reduceMul, Bool.false_eq_true, Bool.not_true, Bool.not_false, decide_eq_true_eq, and_self, true_and, and_true, reduceCtorEq, ne_eq, not_false_eq_true, not_true_eq_false, decide_true, decide_false, or_false, false_or, EX, x2, x1, xb, xh]
        exact xn)
  rcases hex with ⟨rfl, b2, x2, x1, xb, xd, xf, xh, xn⟩ | ⟨⟨rfl, xd, xh, xn⟩, hbad⟩
  rotate_left
  · simp (config := { maxSteps := 1000000 }) only [RUN, PATHS, BASE, FA, POL, start_tm, Heap.empty, reduceIte, Nat.reduceLT, Nat.reduceLeDiff, Nat.reduceEqDiff, Nat.reduceAdd, Nat.reduceSub, Nat.reduceMul, Nat.reduceBEq, Int.reduceLT, Int.reduceLE, Int.reduceEq, Int.reduceNeg, Int.reduceAdd, Int.reduceSub, Int.reduceMul, Bool.false_eq_true, Bool.not_true, Bool.not_false, decide_eq_true_eq, and_self, true_and, and_true, reduceCtorEq, ne_eq, not_false_eq_true, not_true_eq_false, decide_true, decide_false, or_false, false_or, xd, endK_p xd]
    exact ⟨_, _, rfl, xh, xn, .inr ⟨fun h => hbad h.2.2.2.2.2.1, rfl⟩⟩
  simp (config := { maxSteps := 1000000 }) only [RUN, PATHS, BASE, FA, POL, start_tm, Heap.empty, reduceIte, Nat.reduceLT, Nat.reduceLeDiff, Nat.reduceEqDiff, Nat.reduceAdd, Nat.reduceSub, Nat.reduceMul, Nat.reduceBEq, Int.reduceLT, Int.reduceLE, Int.reduceEq, Int.reduceNeg, Int.reduceAdd, Int.reduceSub, Int.reduceMul, Bool.false_eq_true, Bool.not_true, Bool.not_false, decide_eq_true_eq, and_self, true_and, and_true, reduceCtorEq, ne_eq, not_false_eq_true, not_true_eq_false, decide_true, decide_false, or_false, false_or, x2, x1, xb, xd, xf, List.length_map, hcs.len, hgs.len, hds.len]
  clear hL
  generalize hL : W _ (.loop _) _ = L
  obtain ⟨ex, s, rfl, hex⟩ := loop_at hL (α := Nat) (fun j => gl.length - j)
    (fun s0 j s => j ≤ gl.length ∧ ALLI (fun _ x => RGT hours fs.length rs.length x) (gl.take j) ∧ s.tmps 105 = I j ∧ s.tmps 104 = I gl.length ∧ s.tmps 103 = gs ∧ EX [.str nm, I hours, I cap, I start, .vs 12 (rs.map rch) rc, .vs 4 (fs.map frm) fc, cs, gs, ds, ws] e H s)
    (fun s0 ex s => (ex = .exit 6 ∧ ALLI (fun _ x => RGT hours fs.length rs.length x) gl ∧ EX [.str nm, I hours, I cap, I start, .vs 12 (rs.map rch) rc, .vs 4 (fs.map frm) fc, cs, gs, ds, ws] e H s) ∨ (PEX e H ex s ∧ ¬ ALLI (fun _ x => RGT hours fs.length rs.length x) gl)) 0
    (by simp (config := { maxSteps := 1000000 }) only [RUN, PATHS, BASE, FA, POL, start_tm, Heap.empty, reduceIte, Nat.reduceLT, Nat.reduceLeDiff, Nat.reduceEqDiff, Nat.reduceAdd, Nat.reduceSub, Nat.reduceMul, Nat.reduceBEq, Int.reduceLT, Int.reduceLE, Int.reduceEq, Int.reduceNeg, Int.reduceAdd, Int.reduceSub, Int.reduceMul, Bool.false_eq_true, Bool.not_true, Bool.not_false, decide_eq_true_eq, and_self, true_and, and_true, reduceCtorEq, ne_eq, not_false_eq_true, not_true_eq_false, decide_true, decide_false, or_false, false_or, EX, x2, x1, xb, xd, xf, xh, List.take_zero]
        refine ⟨Nat.zero_le _, fun i x h => by simp at h, ?_⟩
        simp [xn]) (by
      rintro j s r hW ⟨hj, ht, h105, h104, h103, x2, x1, xb, xd, xf, xh, xn⟩
      by_cases hp : j < gl.length
      · have e0 : gl[j]? = some gl[j] := List.getElem?_eq_getElem hp
        have e1 : (gl.map rgt)[j]? = some (rgt gl[j]) := by simp [e0]
        generalize gl[j] = x at e0 e1
        by_cases hx : RGT hours fs.length rs.length x
        · simp (config := { maxSteps := 1000000 }) only [RUN, PATHS, BASE, FA, POL, start_tm, Heap.empty, reduceIte, Nat.reduceLT, Nat.reduceLeDiff, Nat.reduceEqDiff, Nat.reduceAdd, Nat.reduceSub, Nat.reduceMul, Nat.reduceBEq, Int.reduceLT, Int.reduceLE, Int.reduceEq, Int.reduceNeg, Int.reduceAdd, Int.reduceSub, Int.reduceMul, Bool.false_eq_true, Bool.not_true, Bool.not_false, decide_eq_true_eq, and_self, true_and, and_true, reduceCtorEq, ne_eq, not_false_eq_true, not_true_eq_false, decide_true, decide_false, or_false, false_or, NUM, h105, h104, h103, x2, x1, xb, xd, xf, e1, c_demand, List.length_map, hcs.len, hgs.len, hds.len, c_right nm hours cap start _ _ rc fc cs gs ds ws x a1.1 a1.2, hgs.at_, hx, Int.toNat_natCast, (show (j : Int) < gl.length by omega), (show (0 : Int) ≤ j by omega), (i64_in (x := (j : Int) + 1) (by unfold I64; omega))] at hW
          subst hW
          refine rd_next (j + 1) ?_ (show gl.length - (j + 1) < gl.length - j by omega)
          refine ⟨by omega, ALLI_take ht e0 hx, ?_⟩
          simp (config := { maxSteps := 1000000 }) only [RUN, PATHS, BASE, FA, POL, start_tm, Heap.empty, reduceIte, Nat.reduceLT, Nat.reduceLeDiff, Nat.reduceEqDiff, Nat.reduceAdd, Nat.reduceSub, Nat.reduceMul, Nat.reduceBEq, Int.reduceLT, Int.reduceLE, Int.reduceEq, Int.reduceNeg, Int.reduceAdd, Int.reduceSub, Int.reduceMul, Bool.false_eq_true, Bool.not_true, Bool.not_false, decide_eq_true_eq, and_self, true_and, and_true, reduceCtorEq, ne_eq, not_false_eq_true, not_true_eq_false, decide_true, decide_false, or_false, false_or, EX, h104, h103, x2, x1, xb, xh]
          exact ⟨by congr 1, by omega⟩
        · simp (config := { maxSteps := 1000000 }) only [RUN, PATHS, BASE, FA, POL, start_tm, Heap.empty, reduceIte, Nat.reduceLT, Nat.reduceLeDiff, Nat.reduceEqDiff, Nat.reduceAdd, Nat.reduceSub, Nat.reduceMul, Nat.reduceBEq, Int.reduceLT, Int.reduceLE, Int.reduceEq, Int.reduceNeg, Int.reduceAdd, Int.reduceSub, Int.reduceMul, Bool.false_eq_true, Bool.not_true, Bool.not_false, decide_eq_true_eq, and_self, true_and, and_true, reduceCtorEq, ne_eq, not_false_eq_true, not_true_eq_false, decide_true, decide_false, or_false, false_or, NUM, h105, h104, h103, x2, x1, xb, xd, xf, e1, c_demand, List.length_map, hcs.len, hgs.len, hds.len, c_right nm hours cap start _ _ rc fc cs gs ds ws x a1.1 a1.2, hgs.at_, hx, Int.toNat_natCast, (show (j : Int) < gl.length by omega), (show (0 : Int) ≤ j by omega), (i64_in (x := (j : Int) + 1) (by unfold I64; omega))] at hW
          subst hW
          refine rd_pan (.inr ⟨⟨rfl, ?_⟩, fun h => hx (h j x e0)⟩)
          simp (config := { maxSteps := 1000000 }) only [RUN, PATHS, BASE, FA, POL, start_tm, Heap.empty, reduceIte, Nat.reduceLT, Nat.reduceLeDiff, Nat.reduceEqDiff, Nat.reduceAdd, Nat.reduceSub, Nat.reduceMul, Nat.reduceBEq, Int.reduceLT, Int.reduceLE, Int.reduceEq, Int.reduceNeg, Int.reduceAdd, Int.reduceSub, Int.reduceMul, Bool.false_eq_true, Bool.not_true, Bool.not_false, decide_eq_true_eq, and_self, true_and, and_true, reduceCtorEq, ne_eq, not_false_eq_true, not_true_eq_false, decide_true, decide_false, or_false, false_or, xh]
          omega
      · simp (config := { maxSteps := 1000000 }) only [RUN, PATHS, BASE, FA, POL, start_tm, Heap.empty, reduceIte, Nat.reduceLT, Nat.reduceLeDiff, Nat.reduceEqDiff, Nat.reduceAdd, Nat.reduceSub, Nat.reduceMul, Nat.reduceBEq, Int.reduceLT, Int.reduceLE, Int.reduceEq, Int.reduceNeg, Int.reduceAdd, Int.reduceSub, Int.reduceMul, Bool.false_eq_true, Bool.not_true, Bool.not_false, decide_eq_true_eq, and_self, true_and, and_true, reduceCtorEq, ne_eq, not_false_eq_true, not_true_eq_false, decide_true, decide_false, or_false, false_or, h105, h104, h103, x2, x1, xb, xd, xf, (show ¬ (j : Int) < gl.length by omega)] at hW
        subst hW
        rw [List.take_of_length_le (by omega)] at ht
        refine rd_exit (.inl ⟨rfl, ht, ?_⟩)
        simp (config := { maxSteps := 1000000 }) only [RUN, PATHS, BASE, FA, POL, start_tm, Heap.empty, reduceIte, Nat.reduceLT, Nat.reduceLeDiff, Nat.reduceEqDiff, Nat.reduceAdd, Nat.reduceSub, Nat.reduceMul, Nat.reduceBEq, Int.reduceLT, Int.reduceLE, Int.reduceEq, Int.reduceNeg, Int.reduceAdd, Int.reduceSub, Int.reduceMul, Bool.false_eq_true, Bool.not_true, Bool.not_false, decide_eq_true_eq, and_self, true_and, and_true, reduceCtorEq, ne_eq, not_false_eq_true, not_true_eq_false, decide_true, decide_false, or_false, false_or, EX, x2, x1, xb, xh]
        exact xn)
  rcases hex with ⟨rfl, b3, x2, x1, xb, xd, xf, xh, xn⟩ | ⟨⟨rfl, xd, xh, xn⟩, hbad⟩
  rotate_left
  · simp (config := { maxSteps := 1000000 }) only [RUN, PATHS, BASE, FA, POL, start_tm, Heap.empty, reduceIte, Nat.reduceLT, Nat.reduceLeDiff, Nat.reduceEqDiff, Nat.reduceAdd, Nat.reduceSub, Nat.reduceMul, Nat.reduceBEq, Int.reduceLT, Int.reduceLE, Int.reduceEq, Int.reduceNeg, Int.reduceAdd, Int.reduceSub, Int.reduceMul, Bool.false_eq_true, Bool.not_true, Bool.not_false, decide_eq_true_eq, and_self, true_and, and_true, reduceCtorEq, ne_eq, not_false_eq_true, not_true_eq_false, decide_true, decide_false, or_false, false_or, xd, endK_p xd]
    exact ⟨_, _, rfl, xh, xn, .inr ⟨fun h => hbad h.2.2.2.2.2.2.1, rfl⟩⟩
  simp (config := { maxSteps := 1000000 }) only [RUN, PATHS, BASE, FA, POL, start_tm, Heap.empty, reduceIte, Nat.reduceLT, Nat.reduceLeDiff, Nat.reduceEqDiff, Nat.reduceAdd, Nat.reduceSub, Nat.reduceMul, Nat.reduceBEq, Int.reduceLT, Int.reduceLE, Int.reduceEq, Int.reduceNeg, Int.reduceAdd, Int.reduceSub, Int.reduceMul, Bool.false_eq_true, Bool.not_true, Bool.not_false, decide_eq_true_eq, and_self, true_and, and_true, reduceCtorEq, ne_eq, not_false_eq_true, not_true_eq_false, decide_true, decide_false, or_false, false_or, x2, x1, xb, xd, xf, List.length_map, hcs.len, hgs.len, hds.len]
  clear hL
  generalize hL : W _ (.loop _) _ = L
  obtain ⟨ex, s, rfl, hex⟩ := loop_at hL (α := Nat) (fun j => dl.length - j)
    (fun s0 j s => j ≤ dl.length ∧ ALLI (fun _ x => DTYK hours fs.length rs.length x) (dl.take j) ∧ s.tmps 118 = I j ∧ s.tmps 117 = I dl.length ∧ s.tmps 116 = ds ∧ EX [.str nm, I hours, I cap, I start, .vs 12 (rs.map rch) rc, .vs 4 (fs.map frm) fc, cs, gs, ds, ws] e H s)
    (fun s0 ex s => (ex = .exit 8 ∧ ALLI (fun _ x => DTYK hours fs.length rs.length x) dl ∧ EX [.str nm, I hours, I cap, I start, .vs 12 (rs.map rch) rc, .vs 4 (fs.map frm) fc, cs, gs, ds, ws] e H s) ∨ (PEX e H ex s ∧ ¬ ALLI (fun _ x => DTYK hours fs.length rs.length x) dl)) 0
    (by simp (config := { maxSteps := 1000000 }) only [RUN, PATHS, BASE, FA, POL, start_tm, Heap.empty, reduceIte, Nat.reduceLT, Nat.reduceLeDiff, Nat.reduceEqDiff, Nat.reduceAdd, Nat.reduceSub, Nat.reduceMul, Nat.reduceBEq, Int.reduceLT, Int.reduceLE, Int.reduceEq, Int.reduceNeg, Int.reduceAdd, Int.reduceSub, Int.reduceMul, Bool.false_eq_true, Bool.not_true, Bool.not_false, decide_eq_true_eq, and_self, true_and, and_true, reduceCtorEq, ne_eq, not_false_eq_true, not_true_eq_false, decide_true, decide_false, or_false, false_or, EX, x2, x1, xb, xd, xf, xh, List.take_zero]
        refine ⟨Nat.zero_le _, fun i x h => by simp at h, ?_⟩
        simp [xn]) (by
      rintro j s r hW ⟨hj, ht, h118, h117, h116, x2, x1, xb, xd, xf, xh, xn⟩
      by_cases hp : j < dl.length
      · have e0 : dl[j]? = some dl[j] := List.getElem?_eq_getElem hp
        have e1 : (dl.map dty)[j]? = some (dty dl[j]) := by simp [e0]
        generalize dl[j] = x at e0 e1
        simp (config := { maxSteps := 1000000 }) only [RUN, PATHS, BASE, FA, POL, start_tm, Heap.empty, reduceIte, Nat.reduceLT, Nat.reduceLeDiff, Nat.reduceEqDiff, Nat.reduceAdd, Nat.reduceSub, Nat.reduceMul, Nat.reduceBEq, Int.reduceLT, Int.reduceLE, Int.reduceEq, Int.reduceNeg, Int.reduceAdd, Int.reduceSub, Int.reduceMul, Bool.false_eq_true, Bool.not_true, Bool.not_false, decide_eq_true_eq, and_self, true_and, and_true, reduceCtorEq, ne_eq, not_false_eq_true, not_true_eq_false, decide_true, decide_false, or_false, false_or, NUM, h118, h117, h116, x2, x1, xb, xd, xf, e1, c_demand, List.length_map, hcs.len, hgs.len, hds.len, c_ris3, c_index, hds.at_, Int.toNat_natCast, (show (j : Int) < dl.length by omega), (show (0 : Int) ≤ j by omega), (i64_in (x := (j : Int) + 1) (by unfold I64; omega))] at hW
        subst hW
        refine rd_ite (fun y1 => ?_) (fun y1 => ?_)
        · refine rd_ite (fun y2 => ?_) (fun y2 => ?_)
          · refine rd_ite (fun y3 => ?_) (fun y3 => ?_)
            · refine rd_next (j + 1) ?_ (show dl.length - (j + 1) < dl.length - j by omega)
              refine ⟨by omega, ALLI_take ht e0 ⟨y1, y2, y3⟩, ?_⟩
              simp (config := { maxSteps := 1000000 }) only [RUN, PATHS, BASE, FA, POL, start_tm, Heap.empty, reduceIte, Nat.reduceLT, Nat.reduceLeDiff, Nat.reduceEqDiff, Nat.reduceAdd, Nat.reduceSub, Nat.reduceMul, Nat.reduceBEq, Int.reduceLT, Int.reduceLE, Int.reduceEq, Int.reduceNeg, Int.reduceAdd, Int.reduceSub, Int.reduceMul, Bool.false_eq_true, Bool.not_true, Bool.not_false, decide_eq_true_eq, and_self, true_and, and_true, reduceCtorEq, ne_eq, not_false_eq_true, not_true_eq_false, decide_true, decide_false, or_false, false_or, EX, h117, h116, x2, x1, xb, xh]
              exact ⟨by congr 1, by omega⟩
            · refine rd_pan (.inr ⟨⟨rfl, ?_⟩, fun h => y3 (h j x e0).2.2⟩)
              simp (config := { maxSteps := 1000000 }) only [RUN, PATHS, BASE, FA, POL, start_tm, Heap.empty, reduceIte, Nat.reduceLT, Nat.reduceLeDiff, Nat.reduceEqDiff, Nat.reduceAdd, Nat.reduceSub, Nat.reduceMul, Nat.reduceBEq, Int.reduceLT, Int.reduceLE, Int.reduceEq, Int.reduceNeg, Int.reduceAdd, Int.reduceSub, Int.reduceMul, Bool.false_eq_true, Bool.not_true, Bool.not_false, decide_eq_true_eq, and_self, true_and, and_true, reduceCtorEq, ne_eq, not_false_eq_true, not_true_eq_false, decide_true, decide_false, or_false, false_or, xh]
              omega
          · refine rd_pan (.inr ⟨⟨rfl, ?_⟩, fun h => y2 (h j x e0).2.1⟩)
            simp (config := { maxSteps := 1000000 }) only [RUN, PATHS, BASE, FA, POL, start_tm, Heap.empty, reduceIte, Nat.reduceLT, Nat.reduceLeDiff, Nat.reduceEqDiff, Nat.reduceAdd, Nat.reduceSub, Nat.reduceMul, Nat.reduceBEq, Int.reduceLT, Int.reduceLE, Int.reduceEq, Int.reduceNeg, Int.reduceAdd, Int.reduceSub, Int.reduceMul, Bool.false_eq_true, Bool.not_true, Bool.not_false, decide_eq_true_eq, and_self, true_and, and_true, reduceCtorEq, ne_eq, not_false_eq_true, not_true_eq_false, decide_true, decide_false, or_false, false_or, xh]
            omega
        · refine rd_pan (.inr ⟨⟨rfl, ?_⟩, fun h => y1 (h j x e0).1⟩)
          simp (config := { maxSteps := 1000000 }) only [RUN, PATHS, BASE, FA, POL, start_tm, Heap.empty, reduceIte, Nat.reduceLT, Nat.reduceLeDiff, Nat.reduceEqDiff, Nat.reduceAdd, Nat.reduceSub, Nat.reduceMul, Nat.reduceBEq, Int.reduceLT, Int.reduceLE, Int.reduceEq, Int.reduceNeg, Int.reduceAdd, Int.reduceSub, Int.reduceMul, Bool.false_eq_true, Bool.not_true, Bool.not_false, decide_eq_true_eq, and_self, true_and, and_true, reduceCtorEq, ne_eq, not_false_eq_true, not_true_eq_false, decide_true, decide_false, or_false, false_or, xh]
          omega
      · simp (config := { maxSteps := 1000000 }) only [RUN, PATHS, BASE, FA, POL, start_tm, Heap.empty, reduceIte, Nat.reduceLT, Nat.reduceLeDiff, Nat.reduceEqDiff, Nat.reduceAdd, Nat.reduceSub, Nat.reduceMul, Nat.reduceBEq, Int.reduceLT, Int.reduceLE, Int.reduceEq, Int.reduceNeg, Int.reduceAdd, Int.reduceSub, Int.reduceMul, Bool.false_eq_true, Bool.not_true, Bool.not_false, decide_eq_true_eq, and_self, true_and, and_true, reduceCtorEq, ne_eq, not_false_eq_true, not_true_eq_false, decide_true, decide_false, or_false, false_or, h118, h117, h116, x2, x1, xb, xd, xf, (show ¬ (j : Int) < dl.length by omega)] at hW
        subst hW
        rw [List.take_of_length_le (by omega)] at ht
        refine rd_exit (.inl ⟨rfl, ht, ?_⟩)
        simp (config := { maxSteps := 1000000 }) only [RUN, PATHS, BASE, FA, POL, start_tm, Heap.empty, reduceIte, Nat.reduceLT, Nat.reduceLeDiff, Nat.reduceEqDiff, Nat.reduceAdd, Nat.reduceSub, Nat.reduceMul, Nat.reduceBEq, Int.reduceLT, Int.reduceLE, Int.reduceEq, Int.reduceNeg, Int.reduceAdd, Int.reduceSub, Int.reduceMul, Bool.false_eq_true, Bool.not_true, Bool.not_false, decide_eq_true_eq, and_self, true_and, and_true, reduceCtorEq, ne_eq, not_false_eq_true, not_true_eq_false, decide_true, decide_false, or_false, false_or, EX, x2, x1, xb, xh]
        exact xn)
  rcases hex with ⟨rfl, b4, x2, x1, xb, xd, xf, xh, xn⟩ | ⟨⟨rfl, xd, xh, xn⟩, hbad⟩
  rotate_left
  · simp (config := { maxSteps := 1000000 }) only [RUN, PATHS, BASE, FA, POL, start_tm, Heap.empty, reduceIte, Nat.reduceLT, Nat.reduceLeDiff, Nat.reduceEqDiff, Nat.reduceAdd, Nat.reduceSub, Nat.reduceMul, Nat.reduceBEq, Int.reduceLT, Int.reduceLE, Int.reduceEq, Int.reduceNeg, Int.reduceAdd, Int.reduceSub, Int.reduceMul, Bool.false_eq_true, Bool.not_true, Bool.not_false, decide_eq_true_eq, and_self, true_and, and_true, reduceCtorEq, ne_eq, not_false_eq_true, not_true_eq_false, decide_true, decide_false, or_false, false_or, xd, endK_p xd]
    exact ⟨_, _, rfl, xh, xn, .inr ⟨fun h => hbad h.2.2.2.2.2.2.2, rfl⟩⟩
  simp (config := { maxSteps := 1000000 }) only [RUN, PATHS, BASE, FA, POL, start_tm, Heap.empty, reduceIte, Nat.reduceLT, Nat.reduceLeDiff, Nat.reduceEqDiff, Nat.reduceAdd, Nat.reduceSub, Nat.reduceMul, Nat.reduceBEq, Int.reduceLT, Int.reduceLE, Int.reduceEq, Int.reduceNeg, Int.reduceAdd, Int.reduceSub, Int.reduceMul, Bool.false_eq_true, Bool.not_true, Bool.not_false, decide_eq_true_eq, and_self, true_and, and_true, reduceCtorEq, ne_eq, not_false_eq_true, not_true_eq_false, decide_true, decide_false, or_false, false_or, x2, x1, xb, xd, xf, List.length_map, hcs.len, hgs.len, hds.len]
  clear hL
  exact ⟨_, _, rfl, xh, xn, .inl ⟨⟨a1, a2, a3, b0, b1, b2, b3, b4⟩, rfl⟩⟩
end Go.Proofs.Ytaggpjlkapnonaa
