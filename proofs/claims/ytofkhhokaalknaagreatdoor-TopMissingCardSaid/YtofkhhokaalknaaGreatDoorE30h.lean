/-
  What the tables of lowest bits hold when the law begins.
-/
import Derived.Test.YtofkhhokaalknaaGreatDoorGc
import Derived.Test.YtofkhhokaalknaaGreatDoorRows
import Derived.ProofKit
import Derived.LaidMore
import Derived.OpenShut
set_option linter.unusedSimpArgs false
set_option linter.unusedVariables false
set_option linter.unusedSectionVars false
namespace Go.Proofs.YtofkhhokaalknaaGreatDoor
open Go GoV Go.ChangeShapes Go.WideShapes Go.ChangeAt Go.WideMaps Go.WideElems Go.RowKit
set_option maxRecDepth 100000
abbrev laidS : List (String × DataW Unit):=[("math/bits.deBruijn32tab",Rows.laid_math_bits_deBruijn32tab),("math/bits.deBruijn64tab",Rows.laid_math_bits_deBruijn64tab)]
theorem globs_1 : globs 1 = GLN.map fun (n : Nat) => Value.int .u8 n:=by kernel_rfl
theorem laid_64 : (Rows.laid_math_bits_deBruijn64tab : DataW Unit) = .agg (GLN.map fun (n : Nat) => .lit (.int .u8 n)):=by kernel_rfl
theorem trod_one {W : World} {m : Nat} {cs : List Value} {x : DataW Unit × List MemPlace} {n : Int} (h : DataW.trod (fun _ => ()) Tryz.prog W 0 (fun _ => true) false m 5 cs = some x) (hx : x.1 = .lit (.int .u8 n)) : cs = [.int .u8 n]:=by
  obtain ⟨k,e1,e2,_⟩:=DataW.trod_int Tryz.underlying5 h
  have : k = n:=by rw [e2] at hx; simpa using hx
  rw [e1,this]
theorem laid_of {W : World} (h : laidMetH Tryz.prog laidS W) : Laid W:=by
  rw [MakeChecks.laidMetH_plain _ _ _ (by kernel_rfl)] at h
  obtain ⟨ps,⟨g0,t0,cs0,f0,p0,q0,hg0,ht0,hv0,hd0,⟨g1,t1,cs1,f1,p1,q1,hg1,ht1,hv1,hd1,_,_⟩,_⟩,_,_⟩:=h
  obtain rfl:=Option.some.inj ((show Tryz.prog.globalNamed "math/bits.deBruijn64tab" = some 1 by kernel_rfl).symm.trans hg1)
  obtain rfl:=Option.some.inj ((show (Tryz.prog.globals[1]?).map (·.type) = some 208 by kernel_rfl).symm.trans ht1)
  obtain ⟨xs,m1,rfl,hx1,hlen,hn,hel⟩:=DataW.trod_array Tryz.underlying208 hd1
  have c1 : Tryz.prog.cellsOf 5 = 1:=by kernel_rfl
  have hx:=(Prod.mk.inj hx1).1
  rw [laid_64] at hx
  have hx2 : GLN.map (fun (n : Nat) => (DataW.lit (.int .u8 n) : DataW Unit)) = xs.map (·.1):=DataW.agg.inj hx
  have hcells:=fun i => World.var?_cell hg1 hv1 i
  refine ⟨fun g i v hg => ?_⟩
  by_cases hz : g = 1
  rotate_left
  · unfold globs at hg
    rw [if_neg hz] at hg
    simp at hg
  subst hz
  rw [globs_1,List.getElem?_map] at hg
  cases hgn : GLN[i]? with
  | none => rw [hgn] at hg; cases hg
  | some n =>
    rw [hgn] at hg
    obtain rfl:=Option.some.inj hg
    have hxi : (xs.map (·.1))[i]? = some (.lit (.int .u8 (n : Int))):=by rw [← hx2,List.getElem?_map,hgn]; rfl
    rw [List.getElem?_map] at hxi
    cases hxs : xs[i]? with
    | none => rw [hxs] at hxi; cases hxi
    | some x =>
      rw [hxs] at hxi
      have hxe:=Option.some.inj hxi
      have hi : i < 64:=by rw [← hn]; exact (List.getElem?_eq_some_iff.1 hxs).1
      have he:=hel i hi
      rw [hxs,c1,Nat.mul_one] at he
      have hc:=trod_one he hxe
      rw [hcells i]
      refine ⟨?_,rfl⟩
      have : (cs1.toList.drop i)[0]? = some (.int .u8 (n : Int)):=by
        have h2 : ((cs1.toList.drop i).take 1)[0]? = some (.int .u8 (n : Int)):=by rw [hc]; rfl
        rw [List.getElem?_take_of_lt (by decide)] at h2
        exact h2
      rw [List.getElem?_drop,Nat.add_zero] at this
      rw [← Array.getElem?_toList]
      exact this
theorem door_met (os : Os) (args : Array Value) : laidMetH Tryz.prog laidS ((World.doorLaid Tryz.prog 400 os).forCall (fun _ _ => 0) ⟨#[],args,[]⟩).memory:=
  laidMetH_of_parts3 (fuel:=8) (laidMet_of_run' 8 (by kernel_rfl) (by kernel_rfl)) (by kernel_rfl) (by kernel_rfl)
end Go.Proofs.YtofkhhokaalknaaGreatDoor
