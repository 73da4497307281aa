/-
  What the table of soils holds when a law begins.
-/
import Derived.Test.YthhhahkiflkemaaDoorC12
import Derived.Test.YthhhahkiflkemaaDoorRows
import Derived.ProofKit
import Derived.LaidMore
import Derived.OpenShut
set_option linter.unusedSimpArgs false
set_option linter.unusedVariables false
set_option linter.unusedSectionVars false
namespace Go.Proofs.YthhhahkiflkemaaDoor
open Go GoV Go.ChangeShapes Go.WideShapes Go.ChangeAt Go.WideMaps Go.WideElems Go.RowKit
set_option maxRecDepth 100000

abbrev laidS : List (String × DataW Unit) := [("acequia/losses.soils", Rows.laid_acequia_losses_soils)]
theorem trod_pair {W : World} {m : Nat} {cs : List Value} {x : DataW Unit × List MemPlace} {a b : Int} (h : DataW.trod (fun _ => ()) Tryd.prog W 0 (fun _ => true) false m 66 cs = some x) (hx : x.1 = .agg [.lit (.int .i64 a), .lit (.int .i64 b)]) : cs = [.int .i64 a, .int .i64 b] := by
  obtain ⟨xs, m1, rfl, rfl, hlen, hn, hel⟩ := DataW.trod_array Tryd.underlying66 h
  have c3 : Tryd.prog.cellsOf 3 = 1 := by kernel_rfl
  have c66 : Tryd.prog.cellsOf 66 = 2 := by kernel_rfl
  have h0 := hel 0 (by decide)
  have h1 := hel 1 (by decide)
  rw [c66] at hlen
  match xs, hn, hx, h0, h1 with
  | [x0, x1], _, hx, h0, h1 =>
    simp only [List.map_cons, List.map_nil, DataW.agg.injEq, List.cons.injEq, and_true] at hx
    obtain ⟨k0, e1, e2, _⟩ := DataW.trod_int Tryd.underlying3 (show DataW.trod _ Tryd.prog W 0 _ false m1 3 _ = some x0 from h0)
    obtain ⟨k1, e3, e4, _⟩ := DataW.trod_int Tryd.underlying3 (show DataW.trod _ Tryd.prog W 0 _ false m1 3 _ = some x1 from h1)
    have hk0 : k0 = a := by rw [e2] at hx; simpa using hx.1
    have hk1 : k1 = b := by rw [e4] at hx; simpa using hx.2
    subst hk0; subst hk1
    rw [c3] at e1 e3
    match cs, hlen, e1, e3 with
    | [u, v], _, e1, e3 =>
      simp at e1 e3
      rw [e1, e3]
theorem laid_of {W : World} (h : laidMetH Tryd.prog laidS W) : Laid W := by
  rw [MakeChecks.laidMetH_plain _ _ _ (by kernel_rfl)] at h
  obtain ⟨ps, ⟨g0, t0, cs0, f0, p0, q0, hg0, ht0, hv0, hd0, _, _⟩, _, _⟩ := h
  obtain rfl := Option.some.inj ((show Tryd.prog.globalNamed "acequia/losses.soils" = some 0 by kernel_rfl).symm.trans hg0)
  obtain rfl := Option.some.inj ((show (Tryd.prog.globals[0]?).map (·.type) = some 67 by kernel_rfl).symm.trans ht0)
  obtain ⟨xs, m1, rfl, hx1, hlen, hn, hel⟩ := DataW.trod_array Tryd.underlying67 hd0
  have c67 : Tryd.prog.cellsOf 67 = 12 := by kernel_rfl
  have c66 : Tryd.prog.cellsOf 66 = 2 := by kernel_rfl
  rw [c67] at hlen
  have h0 := hel 0 (by decide)
  have h1 := hel 1 (by decide)
  have h2 := hel 2 (by decide)
  have h3 := hel 3 (by decide)
  have h4 := hel 4 (by decide)
  have h5 := hel 5 (by decide)
  simp only [Prod.mk.injEq, Rows.laid_acequia_losses_soils, DataW.agg.injEq] at hx1
  match xs, hn, hx1, h0, h1, h2, h3, h4, h5 with
  | [x0, x1, x2, x3, x4, x5], _, hx1, h0, h1, h2, h3, h4, h5 =>
    simp only [List.map_cons, List.map_nil, List.cons.injEq, and_true] at hx1
    obtain ⟨⟨y0, y1, y2, y3, y4, y5⟩, _⟩ := hx1
    have e0 := trod_pair (x := x0) h0 y0.symm
    have e1 := trod_pair (x := x1) h1 y1.symm
    have e2 := trod_pair (x := x2) h2 y2.symm
    have e3 := trod_pair (x := x3) h3 y3.symm
    have e4 := trod_pair (x := x4) h4 y4.symm
    have e5 := trod_pair (x := x5) h5 y5.symm
    rw [c66] at e0 e1 e2 e3 e4 e5
    have hcells := fun i => World.var?_cell hg0 hv0 i
    obtain ⟨l⟩ := cs0
    match l, hlen, e0, e1, e2, e3, e4, e5, hcells with
    | [a0, a1, a2, a3, a4, a5, a6, a7, a8, a9, a10, a11], _, e0, e1, e2, e3, e4, e5, hcells =>
      simp at e0 e1 e2 e3 e4 e5
      obtain ⟨rfl, rfl⟩ := e0
      obtain ⟨rfl, rfl⟩ := e1
      obtain ⟨rfl, rfl⟩ := e2
      obtain ⟨rfl, rfl⟩ := e3
      obtain ⟨rfl, rfl⟩ := e4
      obtain ⟨rfl, rfl⟩ := e5
      refine ⟨fun g i v hg => ?_⟩
      unfold globs at hg
      split at hg
      · next hz =>
        subst hz
        rw [hcells i]
        match i, hg with
        | 0, hg | 1, hg | 2, hg | 3, hg | 4, hg | 5, hg | 6, hg | 7, hg | 8, hg | 9, hg | 10, hg | 11, hg =>
          simp at hg
          subst hg
          exact ⟨rfl, rfl⟩
        | n + 12, hg => simp at hg
      · simp at hg
theorem door_met (os : Os) (args : Array Value) : laidMetH Tryd.prog laidS ((World.doorLaid Tryd.prog 400 os).forCall (fun _ _ => 0) ⟨#[], args, []⟩).memory :=
  laidMetH_of_parts3 (fuel := 8) (laidMet_of_run' 8 (by kernel_rfl) (by kernel_rfl)) (by kernel_rfl) (by kernel_rfl)
end Go.Proofs.YthhhahkiflkemaaDoor
