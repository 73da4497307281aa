/-
  NARROWER THAN 'FOR EVERY INPUT', by the rows' own cells (each row's printed sentence says how): LossesSurveySpec: laid · LossesSpec: laid · LossesNeed: laid · LossesWays: laid · LossesMonotone: laid · LossesTogether: laid · LossesMeasured: laid · LossesSurveyed: laid.
  DERIVED. THE GIVEN ROWS OF THIS SEAT. 8 by the template 'for every input the law returns true; each argument reads behind the call as it read before'; 0 by the template 'total and deterministic' (their statements: YthhhahkiflkemaaDoorTotals.lean).
  GIVEN WITH THE SEED: the statements are not yours to turn. If you find one false, say at which input.
  Laid BY PROGRAM, IN A SANDBOX (cutbox-rows.mjs): the forced cells as the released guide's own fill.sh prints them over the translation 6858347b84a8f9ba… (all of the seat's roots in one cut). By AI agents, Wed Nov 11 2026. No macro, syntax, notation, axiom, sorry.
-/
import Derived.Test.YthhhahkiflkemaaDoorChecked
import GoSem.Claim
import GoSem.ClaimJoined
import GoSem.ClaimMapViews
import Derived.JoinedTies
import Derived.KernelRfl
namespace Go.Proofs.YthhhahkiflkemaaDoor
/- THE CELL 'sum', in the pinned program and in every row, IS THE sha256 OF THE DUMP (.gsa) THAT YthhhahkiflkemaaDoorProg.lean LOADS. Nothing in Lean hashes anything: it is a label: what it is worth is what the hold of that sum in a sandbox is worth. -/
noncomputable def Tryd.pinned : Pinned := { name := "ythhhahkiflkemaadoor", sum := "6858347b84a8f9ba6e8c7f5258f0227c8547b1207e116b9ad00cc514b574c4d6", checked := Tryd.checked }
namespace Rows
def none {H : Type} : Left H := { results := [], args := [] }

/- WHAT THE LISTED PACKAGE-LEVEL VARIABLES READ AS WHEN THE CALL BEGINS. Each datum BY PROGRAM (the guide's laid-datum.mjs) off the statement by which the dump's own 'gosem.cut.vars' lays the variable. In a bare row this is a premise. The card (YthhhahkiflkemaaDoorCards.lean) ties it to the program's text. -/
def laid_acequia_losses_soils {H : Type} : DataW H := .agg [.agg [.lit (.int .i64 0), .lit (.int .i64 64)], .agg [.lit (.int .i64 64), .lit (.int .i64 512)], .agg [.lit (.int .i64 256), .lit (.int .i64 1024)], .agg [.lit (.int .i64 512), .lit (.int .i64 2048)], .agg [.lit (.int .i64 1024), .lit (.int .i64 4096)], .agg [.lit (.int .i64 2048), .lit (.int .i64 16384)]]

/-- 'acequialaw21.LossesSurveySpec': WHATEVER THE INPUT: true; the input reads as it did. -/
def lossesSurveySpecSpec : ChangeSpec := { name := "lossesSurveySpec", fn := fun _ => fun
  | [d1, d2] => { results := [.lit (.bool true)], args := [d1, d2] }
  | _ => none }
def lossesSurveySpecRow : OpenClaim := { program := "ythhhahkiflkemaadoor", sum := "6858347b84a8f9ba6e8c7f5258f0227c8547b1207e116b9ad00cc514b574c4d6", func := "acequia/acequialaw21.LossesSurveySpec", spec := "lossesSurveySpec", unfollowed := true, recurses := true, named := ["acequia/losses.soils"], apart := false, laid := [("acequia/losses.soils", laid_acequia_losses_soils)] }
def LossesSurveySpecSaid : Prop := lossesSurveySpecRow.holds Tryd.pinned (OpenSpec.ofChange lossesSurveySpecSpec)

/-- ITS FALSE NEIGHBOUR: 'it returns false'. Refute it at one input. -/
def lossesSurveySpecWrong : ChangeSpec := { name := "lossesSurveySpec", fn := fun _ => fun
  | [d1, d2] => { results := [.lit (.bool false)], args := [d1, d2] }
  | _ => none }
def LossesSurveySpecWrongFalsely : Prop := lossesSurveySpecRow.holds Tryd.pinned (OpenSpec.ofChange lossesSurveySpecWrong)

/-- 'acequialaw21.LossesSpec': WHATEVER THE INPUT: true; the input reads as it did. -/
def lossesSpecSpec : ChangeSpec := { name := "lossesSpec", fn := fun _ => fun
  | [d1, d2, d3] => { results := [.lit (.bool true)], args := [d1, d2, d3] }
  | _ => none }
def lossesSpecRow : OpenClaim := { program := "ythhhahkiflkemaadoor", sum := "6858347b84a8f9ba6e8c7f5258f0227c8547b1207e116b9ad00cc514b574c4d6", func := "acequia/acequialaw21.LossesSpec", spec := "lossesSpec", unfollowed := true, recurses := true, named := ["acequia/losses.soils"], apart := false, laid := [("acequia/losses.soils", laid_acequia_losses_soils)] }
def LossesSpecSaid : Prop := lossesSpecRow.holds Tryd.pinned (OpenSpec.ofChange lossesSpecSpec)

/-- ITS FALSE NEIGHBOUR: 'it returns false'. Refute it at one input. -/
def lossesSpecWrong : ChangeSpec := { name := "lossesSpec", fn := fun _ => fun
  | [d1, d2, d3] => { results := [.lit (.bool false)], args := [d1, d2, d3] }
  | _ => none }
def LossesSpecWrongFalsely : Prop := lossesSpecRow.holds Tryd.pinned (OpenSpec.ofChange lossesSpecWrong)

/-- 'acequialaw21.LossesNeed': WHATEVER THE INPUT: true; the input reads as it did. -/
def lossesNeedSpec : ChangeSpec := { name := "lossesNeed", fn := fun _ => fun
  | [d1, d2, d3] => { results := [.lit (.bool true)], args := [d1, d2, d3] }
  | _ => none }
def lossesNeedRow : OpenClaim := { program := "ythhhahkiflkemaadoor", sum := "6858347b84a8f9ba6e8c7f5258f0227c8547b1207e116b9ad00cc514b574c4d6", func := "acequia/acequialaw21.LossesNeed", spec := "lossesNeed", unfollowed := true, recurses := true, named := ["acequia/losses.soils"], apart := false, laid := [("acequia/losses.soils", laid_acequia_losses_soils)] }
def LossesNeedSaid : Prop := lossesNeedRow.holds Tryd.pinned (OpenSpec.ofChange lossesNeedSpec)

/-- ITS FALSE NEIGHBOUR: 'it returns false'. Refute it at one input. -/
def lossesNeedWrong : ChangeSpec := { name := "lossesNeed", fn := fun _ => fun
  | [d1, d2, d3] => { results := [.lit (.bool false)], args := [d1, d2, d3] }
  | _ => none }
def LossesNeedWrongFalsely : Prop := lossesNeedRow.holds Tryd.pinned (OpenSpec.ofChange lossesNeedWrong)

/-- 'acequialaw21.LossesWays': WHATEVER THE INPUT: true; the input reads as it did. -/
def lossesWaysSpec : ChangeSpec := { name := "lossesWays", fn := fun _ => fun
  | [d1, d2, d3] => { results := [.lit (.bool true)], args := [d1, d2, d3] }
  | _ => none }
def lossesWaysRow : OpenClaim := { program := "ythhhahkiflkemaadoor", sum := "6858347b84a8f9ba6e8c7f5258f0227c8547b1207e116b9ad00cc514b574c4d6", func := "acequia/acequialaw21.LossesWays", spec := "lossesWays", unfollowed := true, recurses := true, named := ["acequia/losses.soils"], apart := false, laid := [("acequia/losses.soils", laid_acequia_losses_soils)] }
def LossesWaysSaid : Prop := lossesWaysRow.holds Tryd.pinned (OpenSpec.ofChange lossesWaysSpec)

/-- ITS FALSE NEIGHBOUR: 'it returns false'. Refute it at one input. -/
def lossesWaysWrong : ChangeSpec := { name := "lossesWays", fn := fun _ => fun
  | [d1, d2, d3] => { results := [.lit (.bool false)], args := [d1, d2, d3] }
  | _ => none }
def LossesWaysWrongFalsely : Prop := lossesWaysRow.holds Tryd.pinned (OpenSpec.ofChange lossesWaysWrong)

/-- 'acequialaw21.LossesMonotone': WHATEVER THE INPUT: true; the input reads as it did. -/
def lossesMonotoneSpec : ChangeSpec := { name := "lossesMonotone", fn := fun _ => fun
  | [d1, d2, d3] => { results := [.lit (.bool true)], args := [d1, d2, d3] }
  | _ => none }
def lossesMonotoneRow : OpenClaim := { program := "ythhhahkiflkemaadoor", sum := "6858347b84a8f9ba6e8c7f5258f0227c8547b1207e116b9ad00cc514b574c4d6", func := "acequia/acequialaw21.LossesMonotone", spec := "lossesMonotone", unfollowed := true, recurses := true, named := ["acequia/losses.soils"], apart := false, laid := [("acequia/losses.soils", laid_acequia_losses_soils)] }
def LossesMonotoneSaid : Prop := lossesMonotoneRow.holds Tryd.pinned (OpenSpec.ofChange lossesMonotoneSpec)

/-- ITS FALSE NEIGHBOUR: 'it returns false'. Refute it at one input. -/
def lossesMonotoneWrong : ChangeSpec := { name := "lossesMonotone", fn := fun _ => fun
  | [d1, d2, d3] => { results := [.lit (.bool false)], args := [d1, d2, d3] }
  | _ => none }
def LossesMonotoneWrongFalsely : Prop := lossesMonotoneRow.holds Tryd.pinned (OpenSpec.ofChange lossesMonotoneWrong)

/-- 'acequialaw21.LossesTogether': WHATEVER THE INPUT: true; the input reads as it did. -/
def lossesTogetherSpec : ChangeSpec := { name := "lossesTogether", fn := fun _ => fun
  | [d1, d2, d3] => { results := [.lit (.bool true)], args := [d1, d2, d3] }
  | _ => none }
def lossesTogetherRow : OpenClaim := { program := "ythhhahkiflkemaadoor", sum := "6858347b84a8f9ba6e8c7f5258f0227c8547b1207e116b9ad00cc514b574c4d6", func := "acequia/acequialaw21.LossesTogether", spec := "lossesTogether", unfollowed := true, recurses := true, named := ["acequia/losses.soils"], apart := false, laid := [("acequia/losses.soils", laid_acequia_losses_soils)] }
def LossesTogetherSaid : Prop := lossesTogetherRow.holds Tryd.pinned (OpenSpec.ofChange lossesTogetherSpec)

/-- ITS FALSE NEIGHBOUR: 'it returns false'. Refute it at one input. -/
def lossesTogetherWrong : ChangeSpec := { name := "lossesTogether", fn := fun _ => fun
  | [d1, d2, d3] => { results := [.lit (.bool false)], args := [d1, d2, d3] }
  | _ => none }
def LossesTogetherWrongFalsely : Prop := lossesTogetherRow.holds Tryd.pinned (OpenSpec.ofChange lossesTogetherWrong)

/-- 'acequialaw21.LossesMeasured': WHATEVER THE INPUT: true; the input reads as it did. -/
def lossesMeasuredSpec : ChangeSpec := { name := "lossesMeasured", fn := fun _ => fun
  | [d1, d2, d3, d4] => { results := [.lit (.bool true)], args := [d1, d2, d3, d4] }
  | _ => none }
def lossesMeasuredRow : OpenClaim := { program := "ythhhahkiflkemaadoor", sum := "6858347b84a8f9ba6e8c7f5258f0227c8547b1207e116b9ad00cc514b574c4d6", func := "acequia/acequialaw21.LossesMeasured", spec := "lossesMeasured", unfollowed := true, recurses := true, named := ["acequia/losses.soils"], apart := false, laid := [("acequia/losses.soils", laid_acequia_losses_soils)] }
def LossesMeasuredSaid : Prop := lossesMeasuredRow.holds Tryd.pinned (OpenSpec.ofChange lossesMeasuredSpec)

/-- ITS FALSE NEIGHBOUR: 'it returns false'. Refute it at one input. -/
def lossesMeasuredWrong : ChangeSpec := { name := "lossesMeasured", fn := fun _ => fun
  | [d1, d2, d3, d4] => { results := [.lit (.bool false)], args := [d1, d2, d3, d4] }
  | _ => none }
def LossesMeasuredWrongFalsely : Prop := lossesMeasuredRow.holds Tryd.pinned (OpenSpec.ofChange lossesMeasuredWrong)

/-- 'acequialaw21.LossesSurveyed': WHATEVER THE INPUT: true; the input reads as it did. -/
def lossesSurveyedSpec : ChangeSpec := { name := "lossesSurveyed", fn := fun _ => fun
  | [d1, d2, d3] => { results := [.lit (.bool true)], args := [d1, d2, d3] }
  | _ => none }
def lossesSurveyedRow : OpenClaim := { program := "ythhhahkiflkemaadoor", sum := "6858347b84a8f9ba6e8c7f5258f0227c8547b1207e116b9ad00cc514b574c4d6", func := "acequia/acequialaw21.LossesSurveyed", spec := "lossesSurveyed", unfollowed := true, recurses := true, named := ["acequia/losses.soils"], apart := false, laid := [("acequia/losses.soils", laid_acequia_losses_soils)] }
def LossesSurveyedSaid : Prop := lossesSurveyedRow.holds Tryd.pinned (OpenSpec.ofChange lossesSurveyedSpec)

/-- ITS FALSE NEIGHBOUR: 'it returns false'. Refute it at one input. -/
def lossesSurveyedWrong : ChangeSpec := { name := "lossesSurveyed", fn := fun _ => fun
  | [d1, d2, d3] => { results := [.lit (.bool false)], args := [d1, d2, d3] }
  | _ => none }
def LossesSurveyedWrongFalsely : Prop := lossesSurveyedRow.holds Tryd.pinned (OpenSpec.ofChange lossesSurveyedWrong)

/- THE SECOND FORM. 'bulk': how many values and letters a reading holds, each counted each time it is reached (what is shared counts as often as it is met; a slice's spare places count too). A statement '..UptoSaid' is the law's where the arguments, and the package variables that the reading takes, are together of bulk at most 1048576: NARROWER than '..Said'. Prove '..Said' where nothing that the law and all that it calls make is longer than what came in: it says more and counts as full. Else prove '..UptoSaid'. A law counts once. -/
mutual
def uptoBulk {H : Type} : DataW H → Nat
  | .lit (.string bytes) => bytes.length + 1
  | .lit _ => 1
  | .nil => 1
  | .ptr d => uptoBulk d + 1
  | .slice elems spare => uptoBulkAll elems + uptoBulkAll spare + 1
  | .agg parts => uptoBulkAll parts + 1
  | .iface _ d => uptoBulk d + 1
  | .map entries => uptoBulkEntries entries + 1
  | .held _ => 1
def uptoBulkAll {H : Type} : List (DataW H) → Nat
  | [] => 0
  | d :: r => uptoBulk d + uptoBulkAll r
def uptoBulkEntries {H : Type} : List (Lit × DataW H) → Nat
  | [] => 0
  | x :: r => uptoBulkEntry x + uptoBulkEntries r
def uptoBulkEntry {H : Type} : Lit × DataW H → Nat
  | (.string bytes, d) => bytes.length + uptoBulk d + 1
  | (_, d) => uptoBulk d + 1
 end
def uptoSmall : (H : Type) → List (DataW H) → Bool := fun _ ds => decide (uptoBulkAll ds ≤ 1048576)
def OpenSpec.upto (s : _root_.Go.ChangeSpec) : _root_.Go.OpenSpec := { _root_.Go.OpenSpec.ofChange s with cond := some uptoSmall }

/-- 'acequialaw21.LossesSurveySpec', WHERE WHAT IT READS IS OF BULK AT MOST 1048576: true; the input reads as it did. -/
def lossesSurveySpecUptoRow : OpenClaim := { program := "ythhhahkiflkemaadoor", sum := "6858347b84a8f9ba6e8c7f5258f0227c8547b1207e116b9ad00cc514b574c4d6", func := "acequia/acequialaw21.LossesSurveySpec", spec := "lossesSurveySpec", unfollowed := true, recurses := true, named := ["acequia/losses.soils"], apart := false, laid := [("acequia/losses.soils", laid_acequia_losses_soils)], narrowed := true }
def LossesSurveySpecUptoSaid : Prop := lossesSurveySpecUptoRow.holds Tryd.pinned (OpenSpec.upto lossesSurveySpecSpec)

/-- 'acequialaw21.LossesSpec', WHERE WHAT IT READS IS OF BULK AT MOST 1048576: true; the input reads as it did. -/
def lossesSpecUptoRow : OpenClaim := { program := "ythhhahkiflkemaadoor", sum := "6858347b84a8f9ba6e8c7f5258f0227c8547b1207e116b9ad00cc514b574c4d6", func := "acequia/acequialaw21.LossesSpec", spec := "lossesSpec", unfollowed := true, recurses := true, named := ["acequia/losses.soils"], apart := false, laid := [("acequia/losses.soils", laid_acequia_losses_soils)], narrowed := true }
def LossesSpecUptoSaid : Prop := lossesSpecUptoRow.holds Tryd.pinned (OpenSpec.upto lossesSpecSpec)

/-- 'acequialaw21.LossesNeed', WHERE WHAT IT READS IS OF BULK AT MOST 1048576: true; the input reads as it did. -/
def lossesNeedUptoRow : OpenClaim := { program := "ythhhahkiflkemaadoor", sum := "6858347b84a8f9ba6e8c7f5258f0227c8547b1207e116b9ad00cc514b574c4d6", func := "acequia/acequialaw21.LossesNeed", spec := "lossesNeed", unfollowed := true, recurses := true, named := ["acequia/losses.soils"], apart := false, laid := [("acequia/losses.soils", laid_acequia_losses_soils)], narrowed := true }
def LossesNeedUptoSaid : Prop := lossesNeedUptoRow.holds Tryd.pinned (OpenSpec.upto lossesNeedSpec)

/-- 'acequialaw21.LossesWays', WHERE WHAT IT READS IS OF BULK AT MOST 1048576: true; the input reads as it did. -/
def lossesWaysUptoRow : OpenClaim := { program := "ythhhahkiflkemaadoor", sum := "6858347b84a8f9ba6e8c7f5258f0227c8547b1207e116b9ad00cc514b574c4d6", func := "acequia/acequialaw21.LossesWays", spec := "lossesWays", unfollowed := true, recurses := true, named := ["acequia/losses.soils"], apart := false, laid := [("acequia/losses.soils", laid_acequia_losses_soils)], narrowed := true }
def LossesWaysUptoSaid : Prop := lossesWaysUptoRow.holds Tryd.pinned (OpenSpec.upto lossesWaysSpec)

/-- 'acequialaw21.LossesMonotone', WHERE WHAT IT READS IS OF BULK AT MOST 1048576: true; the input reads as it did. -/
def lossesMonotoneUptoRow : OpenClaim := { program := "ythhhahkiflkemaadoor", sum := "6858347b84a8f9ba6e8c7f5258f0227c8547b1207e116b9ad00cc514b574c4d6", func := "acequia/acequialaw21.LossesMonotone", spec := "lossesMonotone", unfollowed := true, recurses := true, named := ["acequia/losses.soils"], apart := false, laid := [("acequia/losses.soils", laid_acequia_losses_soils)], narrowed := true }
def LossesMonotoneUptoSaid : Prop := lossesMonotoneUptoRow.holds Tryd.pinned (OpenSpec.upto lossesMonotoneSpec)

/-- 'acequialaw21.LossesTogether', WHERE WHAT IT READS IS OF BULK AT MOST 1048576: true; the input reads as it did. -/
def lossesTogetherUptoRow : OpenClaim := { program := "ythhhahkiflkemaadoor", sum := "6858347b84a8f9ba6e8c7f5258f0227c8547b1207e116b9ad00cc514b574c4d6", func := "acequia/acequialaw21.LossesTogether", spec := "lossesTogether", unfollowed := true, recurses := true, named := ["acequia/losses.soils"], apart := false, laid := [("acequia/losses.soils", laid_acequia_losses_soils)], narrowed := true }
def LossesTogetherUptoSaid : Prop := lossesTogetherUptoRow.holds Tryd.pinned (OpenSpec.upto lossesTogetherSpec)

/-- 'acequialaw21.LossesMeasured', WHERE WHAT IT READS IS OF BULK AT MOST 1048576: true; the input reads as it did. -/
def lossesMeasuredUptoRow : OpenClaim := { program := "ythhhahkiflkemaadoor", sum := "6858347b84a8f9ba6e8c7f5258f0227c8547b1207e116b9ad00cc514b574c4d6", func := "acequia/acequialaw21.LossesMeasured", spec := "lossesMeasured", unfollowed := true, recurses := true, named := ["acequia/losses.soils"], apart := false, laid := [("acequia/losses.soils", laid_acequia_losses_soils)], narrowed := true }
def LossesMeasuredUptoSaid : Prop := lossesMeasuredUptoRow.holds Tryd.pinned (OpenSpec.upto lossesMeasuredSpec)

/-- 'acequialaw21.LossesSurveyed', WHERE WHAT IT READS IS OF BULK AT MOST 1048576: true; the input reads as it did. -/
def lossesSurveyedUptoRow : OpenClaim := { program := "ythhhahkiflkemaadoor", sum := "6858347b84a8f9ba6e8c7f5258f0227c8547b1207e116b9ad00cc514b574c4d6", func := "acequia/acequialaw21.LossesSurveyed", spec := "lossesSurveyed", unfollowed := true, recurses := true, named := ["acequia/losses.soils"], apart := false, laid := [("acequia/losses.soils", laid_acequia_losses_soils)], narrowed := true }
def LossesSurveyedUptoSaid : Prop := lossesSurveyedUptoRow.holds Tryd.pinned (OpenSpec.upto lossesSurveyedSpec)

end Rows
end Go.Proofs.YthhhahkiflkemaaDoor
