/-
  No cell of these rows narrows 'for every input' (looked for: loops, veiled, ifaces, maps, wideKeys, modest, calm, conditions, laid).
  DERIVED. THE GIVEN ROWS OF THIS SEAT. 7 by the template 'for every input the law returns true; each argument reads behind the call as it read before'; 0 by the template 'total and deterministic' (their statements: YtcdmoilcpkapiaaTotals.lean).
  GIVEN WITH THE SEED: the statements are not yours to turn. If you find one false, say at which input.
  Laid BY PROGRAM, IN A SANDBOX (cutbox-rows.mjs): the forced cells as the released guide's own fill.sh prints them over the translation 7d269e802ce2c2f8… (all of the seat's roots in one cut). By AI agents, Wed Nov 11 2026. No macro, syntax, notation, axiom, sorry.
-/
import Derived.Test.YtcdmoilcpkapiaaChecked
import GoSem.Claim
import GoSem.ClaimJoined
import GoSem.ClaimMapViews
import Derived.JoinedTies
import Derived.KernelRfl
namespace Go.Proofs.Ytcdmoilcpkapiaa
/- THE CELL 'sum', in the pinned program and in every row, IS THE sha256 OF THE DUMP (.gsa) THAT YtcdmoilcpkapiaaProg.lean LOADS. Nothing in Lean hashes anything: it is a label: what it is worth is what the hold of that sum in a sandbox is worth. -/
noncomputable def Try.pinned : Pinned := { name := "ytcdmoilcpkapiaa", sum := "7d269e802ce2c2f878f75c3079afe8ff4bd25bda7a06d7cbe49e6168d7c5aa8c", checked := Try.checked }
namespace Rows
def none {H : Type} : Left H := { results := [], args := [] }

/-- 'acequialaw12.RatioSpec': WHATEVER THE INPUT: true; the input reads as it did. -/
def ratioSpecSpec : ChangeSpec := { name := "ratioSpec", fn := fun _ => fun
  | [d1, d2, d3] => { results := [.lit (.bool true)], args := [d1, d2, d3] }
  | _ => none }
def ratioSpecRow : OpenClaim := { program := "ytcdmoilcpkapiaa", sum := "7d269e802ce2c2f878f75c3079afe8ff4bd25bda7a06d7cbe49e6168d7c5aa8c", func := "acequia/acequialaw12.RatioSpec", spec := "ratioSpec", unfollowed := true, recurses := true, apart := false }
def RatioSpecSaid : Prop := ratioSpecRow.holds Try.pinned (OpenSpec.ofChange ratioSpecSpec)

/-- ITS FALSE NEIGHBOUR: 'it returns false'. Refute it at one input. -/
def ratioSpecWrong : ChangeSpec := { name := "ratioSpec", fn := fun _ => fun
  | [d1, d2, d3] => { results := [.lit (.bool false)], args := [d1, d2, d3] }
  | _ => none }
def RatioSpecWrongFalsely : Prop := ratioSpecRow.holds Try.pinned (OpenSpec.ofChange ratioSpecWrong)

/-- 'acequialaw12.RatioTimesSpec': WHATEVER THE INPUT: true; the input reads as it did. -/
def ratioTimesSpecSpec : ChangeSpec := { name := "ratioTimesSpec", fn := fun _ => fun
  | [d1, d2, d3] => { results := [.lit (.bool true)], args := [d1, d2, d3] }
  | _ => none }
def ratioTimesSpecRow : OpenClaim := { program := "ytcdmoilcpkapiaa", sum := "7d269e802ce2c2f878f75c3079afe8ff4bd25bda7a06d7cbe49e6168d7c5aa8c", func := "acequia/acequialaw12.RatioTimesSpec", spec := "ratioTimesSpec", unfollowed := true, recurses := true, apart := false }
def RatioTimesSpecSaid : Prop := ratioTimesSpecRow.holds Try.pinned (OpenSpec.ofChange ratioTimesSpecSpec)

/-- ITS FALSE NEIGHBOUR: 'it returns false'. Refute it at one input. -/
def ratioTimesSpecWrong : ChangeSpec := { name := "ratioTimesSpec", fn := fun _ => fun
  | [d1, d2, d3] => { results := [.lit (.bool false)], args := [d1, d2, d3] }
  | _ => none }
def RatioTimesSpecWrongFalsely : Prop := ratioTimesSpecRow.holds Try.pinned (OpenSpec.ofChange ratioTimesSpecWrong)

/-- 'acequialaw12.RatioSimplest': WHATEVER THE INPUT: true; the input reads as it did. -/
def ratioSimplestSpec : ChangeSpec := { name := "ratioSimplest", fn := fun _ => fun
  | [d1, d2, d3] => { results := [.lit (.bool true)], args := [d1, d2, d3] }
  | _ => none }
def ratioSimplestRow : OpenClaim := { program := "ytcdmoilcpkapiaa", sum := "7d269e802ce2c2f878f75c3079afe8ff4bd25bda7a06d7cbe49e6168d7c5aa8c", func := "acequia/acequialaw12.RatioSimplest", spec := "ratioSimplest", unfollowed := true, recurses := true, apart := false }
def RatioSimplestSaid : Prop := ratioSimplestRow.holds Try.pinned (OpenSpec.ofChange ratioSimplestSpec)

/-- ITS FALSE NEIGHBOUR: 'it returns false'. Refute it at one input. -/
def ratioSimplestWrong : ChangeSpec := { name := "ratioSimplest", fn := fun _ => fun
  | [d1, d2, d3] => { results := [.lit (.bool false)], args := [d1, d2, d3] }
  | _ => none }
def RatioSimplestWrongFalsely : Prop := ratioSimplestRow.holds Try.pinned (OpenSpec.ofChange ratioSimplestWrong)

/-- 'acequialaw12.RatioMake': WHATEVER THE INPUT: true; the input reads as it did. -/
def ratioMakeSpec : ChangeSpec := { name := "ratioMake", fn := fun _ => fun
  | [d1, d2, d3, d4] => { results := [.lit (.bool true)], args := [d1, d2, d3, d4] }
  | _ => none }
def ratioMakeRow : OpenClaim := { program := "ytcdmoilcpkapiaa", sum := "7d269e802ce2c2f878f75c3079afe8ff4bd25bda7a06d7cbe49e6168d7c5aa8c", func := "acequia/acequialaw12.RatioMake", spec := "ratioMake", unfollowed := true, recurses := true, apart := false }
def RatioMakeSaid : Prop := ratioMakeRow.holds Try.pinned (OpenSpec.ofChange ratioMakeSpec)

/-- ITS FALSE NEIGHBOUR: 'it returns false'. Refute it at one input. -/
def ratioMakeWrong : ChangeSpec := { name := "ratioMake", fn := fun _ => fun
  | [d1, d2, d3, d4] => { results := [.lit (.bool false)], args := [d1, d2, d3, d4] }
  | _ => none }
def RatioMakeWrongFalsely : Prop := ratioMakeRow.holds Try.pinned (OpenSpec.ofChange ratioMakeWrong)

/-- 'acequialaw12.RatioOrder': WHATEVER THE INPUT: true; the input reads as it did. -/
def ratioOrderSpec : ChangeSpec := { name := "ratioOrder", fn := fun _ => fun
  | [d1, d2, d3, d4, d5, d6] => { results := [.lit (.bool true)], args := [d1, d2, d3, d4, d5, d6] }
  | _ => none }
def ratioOrderRow : OpenClaim := { program := "ytcdmoilcpkapiaa", sum := "7d269e802ce2c2f878f75c3079afe8ff4bd25bda7a06d7cbe49e6168d7c5aa8c", func := "acequia/acequialaw12.RatioOrder", spec := "ratioOrder", unfollowed := true, recurses := true, apart := false }
def RatioOrderSaid : Prop := ratioOrderRow.holds Try.pinned (OpenSpec.ofChange ratioOrderSpec)

/-- ITS FALSE NEIGHBOUR: 'it returns false'. Refute it at one input. -/
def ratioOrderWrong : ChangeSpec := { name := "ratioOrder", fn := fun _ => fun
  | [d1, d2, d3, d4, d5, d6] => { results := [.lit (.bool false)], args := [d1, d2, d3, d4, d5, d6] }
  | _ => none }
def RatioOrderWrongFalsely : Prop := ratioOrderRow.holds Try.pinned (OpenSpec.ofChange ratioOrderWrong)

/-- 'acequialaw12.RatioSumSpec': WHATEVER THE INPUT: true; the input reads as it did. -/
def ratioSumSpecSpec : ChangeSpec := { name := "ratioSumSpec", fn := fun _ => fun
  | [d1, d2] => { results := [.lit (.bool true)], args := [d1, d2] }
  | _ => none }
def ratioSumSpecRow : OpenClaim := { program := "ytcdmoilcpkapiaa", sum := "7d269e802ce2c2f878f75c3079afe8ff4bd25bda7a06d7cbe49e6168d7c5aa8c", func := "acequia/acequialaw12.RatioSumSpec", spec := "ratioSumSpec", unfollowed := true, recurses := true, apart := false }
def RatioSumSpecSaid : Prop := ratioSumSpecRow.holds Try.pinned (OpenSpec.ofChange ratioSumSpecSpec)

/-- ITS FALSE NEIGHBOUR: 'it returns false'. Refute it at one input. -/
def ratioSumSpecWrong : ChangeSpec := { name := "ratioSumSpec", fn := fun _ => fun
  | [d1, d2] => { results := [.lit (.bool false)], args := [d1, d2] }
  | _ => none }
def RatioSumSpecWrongFalsely : Prop := ratioSumSpecRow.holds Try.pinned (OpenSpec.ofChange ratioSumSpecWrong)

/-- 'acequialaw12.RatioField': WHATEVER THE INPUT: true; the input reads as it did. -/
def ratioFieldSpec : ChangeSpec := { name := "ratioField", fn := fun _ => fun
  | [d1, d2, d3, d4, d5, d6] => { results := [.lit (.bool true)], args := [d1, d2, d3, d4, d5, d6] }
  | _ => none }
def ratioFieldRow : OpenClaim := { program := "ytcdmoilcpkapiaa", sum := "7d269e802ce2c2f878f75c3079afe8ff4bd25bda7a06d7cbe49e6168d7c5aa8c", func := "acequia/acequialaw12.RatioField", spec := "ratioField", unfollowed := true, recurses := true, apart := false }
def RatioFieldSaid : Prop := ratioFieldRow.holds Try.pinned (OpenSpec.ofChange ratioFieldSpec)

/-- ITS FALSE NEIGHBOUR: 'it returns false'. Refute it at one input. -/
def ratioFieldWrong : ChangeSpec := { name := "ratioField", fn := fun _ => fun
  | [d1, d2, d3, d4, d5, d6] => { results := [.lit (.bool false)], args := [d1, d2, d3, d4, d5, d6] }
  | _ => none }
def RatioFieldWrongFalsely : Prop := ratioFieldRow.holds Try.pinned (OpenSpec.ofChange ratioFieldWrong)

/- THE SECOND FORM. 'bulk': how many values and letters a reading holds, each counted each time it is reached (what is shared counts as often as it is met; a slice's spare places count too). A statement '..UptoSaid' is the law's where the arguments, and the package variables that the reading takes, are together of bulk at most 1048576: NARROWER than '..Said'. Prove '..Said' where nothing that the law and all that it calls make is longer than what came in: it says more and counts as full. Else prove '..UptoSaid'. A law counts once. -/
mutual
def uptoBulk {H : Type} : DataW H → Nat
  | .lit (.string bytes) => bytes.length + 1
  | .lit _ => 1
  | .nil => 1
  | .ptr d => uptoBulk d + 1
  | .slice elems spare => uptoBulkAll elems + uptoBulkAll spare + 1
  | .agg parts => uptoBulkAll parts + 1
  | .iface _ d => uptoBulk d + 1
  | .map entries => uptoBulkEntries entries + 1
  | .held _ => 1
def uptoBulkAll {H : Type} : List (DataW H) → Nat
  | [] => 0
  | d :: r => uptoBulk d + uptoBulkAll r
def uptoBulkEntries {H : Type} : List (Lit × DataW H) → Nat
  | [] => 0
  | x :: r => uptoBulkEntry x + uptoBulkEntries r
def uptoBulkEntry {H : Type} : Lit × DataW H → Nat
  | (.string bytes, d) => bytes.length + uptoBulk d + 1
  | (_, d) => uptoBulk d + 1
 end
def uptoSmall : (H : Type) → List (DataW H) → Bool := fun _ ds => decide (uptoBulkAll ds ≤ 1048576)
def OpenSpec.upto (s : _root_.Go.ChangeSpec) : _root_.Go.OpenSpec := { _root_.Go.OpenSpec.ofChange s with cond := some uptoSmall }

/-- 'acequialaw12.RatioSpec', WHERE WHAT IT READS IS OF BULK AT MOST 1048576: true; the input reads as it did. -/
def ratioSpecUptoRow : OpenClaim := { program := "ytcdmoilcpkapiaa", sum := "7d269e802ce2c2f878f75c3079afe8ff4bd25bda7a06d7cbe49e6168d7c5aa8c", func := "acequia/acequialaw12.RatioSpec", spec := "ratioSpec", unfollowed := true, recurses := true, apart := false, narrowed := true }
def RatioSpecUptoSaid : Prop := ratioSpecUptoRow.holds Try.pinned (OpenSpec.upto ratioSpecSpec)

/-- 'acequialaw12.RatioTimesSpec', WHERE WHAT IT READS IS OF BULK AT MOST 1048576: true; the input reads as it did. -/
def ratioTimesSpecUptoRow : OpenClaim := { program := "ytcdmoilcpkapiaa", sum := "7d269e802ce2c2f878f75c3079afe8ff4bd25bda7a06d7cbe49e6168d7c5aa8c", func := "acequia/acequialaw12.RatioTimesSpec", spec := "ratioTimesSpec", unfollowed := true, recurses := true, apart := false, narrowed := true }
def RatioTimesSpecUptoSaid : Prop := ratioTimesSpecUptoRow.holds Try.pinned (OpenSpec.upto ratioTimesSpecSpec)

/-- 'acequialaw12.RatioSimplest', WHERE WHAT IT READS IS OF BULK AT MOST 1048576: true; the input reads as it did. -/
def ratioSimplestUptoRow : OpenClaim := { program := "ytcdmoilcpkapiaa", sum := "7d269e802ce2c2f878f75c3079afe8ff4bd25bda7a06d7cbe49e6168d7c5aa8c", func := "acequia/acequialaw12.RatioSimplest", spec := "ratioSimplest", unfollowed := true, recurses := true, apart := false, narrowed := true }
def RatioSimplestUptoSaid : Prop := ratioSimplestUptoRow.holds Try.pinned (OpenSpec.upto ratioSimplestSpec)

/-- 'acequialaw12.RatioMake', WHERE WHAT IT READS IS OF BULK AT MOST 1048576: true; the input reads as it did. -/
def ratioMakeUptoRow : OpenClaim := { program := "ytcdmoilcpkapiaa", sum := "7d269e802ce2c2f878f75c3079afe8ff4bd25bda7a06d7cbe49e6168d7c5aa8c", func := "acequia/acequialaw12.RatioMake", spec := "ratioMake", unfollowed := true, recurses := true, apart := false, narrowed := true }
def RatioMakeUptoSaid : Prop := ratioMakeUptoRow.holds Try.pinned (OpenSpec.upto ratioMakeSpec)

/-- 'acequialaw12.RatioOrder', WHERE WHAT IT READS IS OF BULK AT MOST 1048576: true; the input reads as it did. -/
def ratioOrderUptoRow : OpenClaim := { program := "ytcdmoilcpkapiaa", sum := "7d269e802ce2c2f878f75c3079afe8ff4bd25bda7a06d7cbe49e6168d7c5aa8c", func := "acequia/acequialaw12.RatioOrder", spec := "ratioOrder", unfollowed := true, recurses := true, apart := false, narrowed := true }
def RatioOrderUptoSaid : Prop := ratioOrderUptoRow.holds Try.pinned (OpenSpec.upto ratioOrderSpec)

/-- 'acequialaw12.RatioSumSpec', WHERE WHAT IT READS IS OF BULK AT MOST 1048576: true; the input reads as it did. -/
def ratioSumSpecUptoRow : OpenClaim := { program := "ytcdmoilcpkapiaa", sum := "7d269e802ce2c2f878f75c3079afe8ff4bd25bda7a06d7cbe49e6168d7c5aa8c", func := "acequia/acequialaw12.RatioSumSpec", spec := "ratioSumSpec", unfollowed := true, recurses := true, apart := false, narrowed := true }
def RatioSumSpecUptoSaid : Prop := ratioSumSpecUptoRow.holds Try.pinned (OpenSpec.upto ratioSumSpecSpec)

/-- 'acequialaw12.RatioField', WHERE WHAT IT READS IS OF BULK AT MOST 1048576: true; the input reads as it did. -/
def ratioFieldUptoRow : OpenClaim := { program := "ytcdmoilcpkapiaa", sum := "7d269e802ce2c2f878f75c3079afe8ff4bd25bda7a06d7cbe49e6168d7c5aa8c", func := "acequia/acequialaw12.RatioField", spec := "ratioField", unfollowed := true, recurses := true, apart := false, narrowed := true }
def RatioFieldUptoSaid : Prop := ratioFieldUptoRow.holds Try.pinned (OpenSpec.upto ratioFieldSpec)

end Rows
end Go.Proofs.Ytcdmoilcpkapiaa
