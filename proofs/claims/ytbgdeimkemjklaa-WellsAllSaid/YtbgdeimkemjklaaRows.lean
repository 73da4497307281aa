/-
  No cell of these rows narrows 'for every input' (looked for: loops, veiled, ifaces, maps, wideKeys, modest, calm, conditions, laid).
  DERIVED. THE GIVEN ROWS OF THIS SEAT. 7 by the template 'for every input the law returns true; each argument reads behind the call as it read before'; 0 by the template 'total and deterministic' (their statements: YtbgdeimkemjklaaTotals.lean).
  GIVEN WITH THE SEED: the statements are not yours to turn. If you find one false, say at which input.
  Laid BY PROGRAM, IN A SANDBOX (cutbox-rows.mjs): the forced cells as the released guide's own fill.sh prints them over the translation 187bc71cd9ddfe8a… (all of the seat's roots in one cut). By AI agents, Wed Nov 11 2026. No macro, syntax, notation, axiom, sorry.
-/
import Derived.Test.YtbgdeimkemjklaaChecked
import GoSem.Claim
import GoSem.ClaimJoined
import GoSem.ClaimMapViews
import Derived.JoinedTies
import Derived.KernelRfl
namespace Go.Proofs.Ytbgdeimkemjklaa
/- THE CELL 'sum', in the pinned program and in every row, IS THE sha256 OF THE DUMP (.gsa) THAT YtbgdeimkemjklaaProg.lean LOADS. Nothing in Lean hashes anything: it is a label: what it is worth is what the hold of that sum in a sandbox is worth. -/
noncomputable def Try.pinned : Pinned := { name := "ytbgdeimkemjklaa", sum := "187bc71cd9ddfe8a4a0052e58abc5d2aeec6a87172ac1434850948b2967664b5", checked := Try.checked }
namespace Rows
def none {H : Type} : Left H := { results := [], args := [] }

/-- 'acequialaw42.WellsSpec': WHATEVER THE INPUT: true; the input reads as it did. -/
def wellsSpecSpec : ChangeSpec := { name := "wellsSpec", fn := fun _ => fun
  | [d] => { results := [.lit (.bool true)], args := [d] }
  | _ => none }
def wellsSpecRow : OpenClaim := { program := "ytbgdeimkemjklaa", sum := "187bc71cd9ddfe8a4a0052e58abc5d2aeec6a87172ac1434850948b2967664b5", func := "acequia/acequialaw42.WellsSpec", spec := "wellsSpec", unfollowed := true, recurses := true, apart := false }
def WellsSpecSaid : Prop := wellsSpecRow.holds Try.pinned (OpenSpec.ofChange wellsSpecSpec)

/-- ITS FALSE NEIGHBOUR: 'it returns false'. Refute it at one input. -/
def wellsSpecWrong : ChangeSpec := { name := "wellsSpec", fn := fun _ => fun
  | [d] => { results := [.lit (.bool false)], args := [d] }
  | _ => none }
def WellsSpecWrongFalsely : Prop := wellsSpecRow.holds Try.pinned (OpenSpec.ofChange wellsSpecWrong)

/-- 'acequialaw42.WellsOwedSpec': WHATEVER THE INPUT: true; the input reads as it did. -/
def wellsOwedSpecSpec : ChangeSpec := { name := "wellsOwedSpec", fn := fun _ => fun
  | [d1, d2, d3] => { results := [.lit (.bool true)], args := [d1, d2, d3] }
  | _ => none }
def wellsOwedSpecRow : OpenClaim := { program := "ytbgdeimkemjklaa", sum := "187bc71cd9ddfe8a4a0052e58abc5d2aeec6a87172ac1434850948b2967664b5", func := "acequia/acequialaw42.WellsOwedSpec", spec := "wellsOwedSpec", unfollowed := true, recurses := true, apart := false }
def WellsOwedSpecSaid : Prop := wellsOwedSpecRow.holds Try.pinned (OpenSpec.ofChange wellsOwedSpecSpec)

/-- ITS FALSE NEIGHBOUR: 'it returns false'. Refute it at one input. -/
def wellsOwedSpecWrong : ChangeSpec := { name := "wellsOwedSpec", fn := fun _ => fun
  | [d1, d2, d3] => { results := [.lit (.bool false)], args := [d1, d2, d3] }
  | _ => none }
def WellsOwedSpecWrongFalsely : Prop := wellsOwedSpecRow.holds Try.pinned (OpenSpec.ofChange wellsOwedSpecWrong)

/-- 'acequialaw42.WellsExact': WHATEVER THE INPUT: true; the input reads as it did. -/
def wellsExactSpec : ChangeSpec := { name := "wellsExact", fn := fun _ => fun
  | [d1, d2] => { results := [.lit (.bool true)], args := [d1, d2] }
  | _ => none }
def wellsExactRow : OpenClaim := { program := "ytbgdeimkemjklaa", sum := "187bc71cd9ddfe8a4a0052e58abc5d2aeec6a87172ac1434850948b2967664b5", func := "acequia/acequialaw42.WellsExact", spec := "wellsExact", unfollowed := true, recurses := true, apart := false }
def WellsExactSaid : Prop := wellsExactRow.holds Try.pinned (OpenSpec.ofChange wellsExactSpec)

/-- ITS FALSE NEIGHBOUR: 'it returns false'. Refute it at one input. -/
def wellsExactWrong : ChangeSpec := { name := "wellsExact", fn := fun _ => fun
  | [d1, d2] => { results := [.lit (.bool false)], args := [d1, d2] }
  | _ => none }
def WellsExactWrongFalsely : Prop := wellsExactRow.holds Try.pinned (OpenSpec.ofChange wellsExactWrong)

/-- 'acequialaw42.WellsCausal': WHATEVER THE INPUT: true; the input reads as it did. -/
def wellsCausalSpec : ChangeSpec := { name := "wellsCausal", fn := fun _ => fun
  | [d1, d2, d3] => { results := [.lit (.bool true)], args := [d1, d2, d3] }
  | _ => none }
def wellsCausalRow : OpenClaim := { program := "ytbgdeimkemjklaa", sum := "187bc71cd9ddfe8a4a0052e58abc5d2aeec6a87172ac1434850948b2967664b5", func := "acequia/acequialaw42.WellsCausal", spec := "wellsCausal", unfollowed := true, recurses := true, apart := false }
def WellsCausalSaid : Prop := wellsCausalRow.holds Try.pinned (OpenSpec.ofChange wellsCausalSpec)

/-- ITS FALSE NEIGHBOUR: 'it returns false'. Refute it at one input. -/
def wellsCausalWrong : ChangeSpec := { name := "wellsCausal", fn := fun _ => fun
  | [d1, d2, d3] => { results := [.lit (.bool false)], args := [d1, d2, d3] }
  | _ => none }
def WellsCausalWrongFalsely : Prop := wellsCausalRow.holds Try.pinned (OpenSpec.ofChange wellsCausalWrong)

/-- 'acequialaw42.WellsTogether': WHATEVER THE INPUT: true; the input reads as it did. -/
def wellsTogetherSpec : ChangeSpec := { name := "wellsTogether", fn := fun _ => fun
  | [d1, d2, d3] => { results := [.lit (.bool true)], args := [d1, d2, d3] }
  | _ => none }
def wellsTogetherRow : OpenClaim := { program := "ytbgdeimkemjklaa", sum := "187bc71cd9ddfe8a4a0052e58abc5d2aeec6a87172ac1434850948b2967664b5", func := "acequia/acequialaw42.WellsTogether", spec := "wellsTogether", unfollowed := true, recurses := true, apart := false }
def WellsTogetherSaid : Prop := wellsTogetherRow.holds Try.pinned (OpenSpec.ofChange wellsTogetherSpec)

/-- ITS FALSE NEIGHBOUR: 'it returns false'. Refute it at one input. -/
def wellsTogetherWrong : ChangeSpec := { name := "wellsTogether", fn := fun _ => fun
  | [d1, d2, d3] => { results := [.lit (.bool false)], args := [d1, d2, d3] }
  | _ => none }
def WellsTogetherWrongFalsely : Prop := wellsTogetherRow.holds Try.pinned (OpenSpec.ofChange wellsTogetherWrong)

/-- 'acequialaw42.WellsPaid': WHATEVER THE INPUT: true; the input reads as it did. -/
def wellsPaidSpec : ChangeSpec := { name := "wellsPaid", fn := fun _ => fun
  | [d1, d2, d3, d4, d5] => { results := [.lit (.bool true)], args := [d1, d2, d3, d4, d5] }
  | _ => none }
def wellsPaidRow : OpenClaim := { program := "ytbgdeimkemjklaa", sum := "187bc71cd9ddfe8a4a0052e58abc5d2aeec6a87172ac1434850948b2967664b5", func := "acequia/acequialaw42.WellsPaid", spec := "wellsPaid", unfollowed := true, recurses := true, apart := false }
def WellsPaidSaid : Prop := wellsPaidRow.holds Try.pinned (OpenSpec.ofChange wellsPaidSpec)

/-- ITS FALSE NEIGHBOUR: 'it returns false'. Refute it at one input. -/
def wellsPaidWrong : ChangeSpec := { name := "wellsPaid", fn := fun _ => fun
  | [d1, d2, d3, d4, d5] => { results := [.lit (.bool false)], args := [d1, d2, d3, d4, d5] }
  | _ => none }
def WellsPaidWrongFalsely : Prop := wellsPaidRow.holds Try.pinned (OpenSpec.ofChange wellsPaidWrong)

/-- 'acequialaw42.WellsAll': WHATEVER THE INPUT: true; the input reads as it did. -/
def wellsAllSpec : ChangeSpec := { name := "wellsAll", fn := fun _ => fun
  | [d1, d2] => { results := [.lit (.bool true)], args := [d1, d2] }
  | _ => none }
def wellsAllRow : OpenClaim := { program := "ytbgdeimkemjklaa", sum := "187bc71cd9ddfe8a4a0052e58abc5d2aeec6a87172ac1434850948b2967664b5", func := "acequia/acequialaw42.WellsAll", spec := "wellsAll", unfollowed := true, recurses := true, apart := false }
def WellsAllSaid : Prop := wellsAllRow.holds Try.pinned (OpenSpec.ofChange wellsAllSpec)

/-- ITS FALSE NEIGHBOUR: 'it returns false'. Refute it at one input. -/
def wellsAllWrong : ChangeSpec := { name := "wellsAll", fn := fun _ => fun
  | [d1, d2] => { results := [.lit (.bool false)], args := [d1, d2] }
  | _ => none }
def WellsAllWrongFalsely : Prop := wellsAllRow.holds Try.pinned (OpenSpec.ofChange wellsAllWrong)

/- THE SECOND FORM. 'bulk': how many values and letters a reading holds, each counted each time it is reached (what is shared counts as often as it is met; a slice's spare places count too). A statement '..UptoSaid' is the law's where the arguments, and the package variables that the reading takes, are together of bulk at most 1048576: NARROWER than '..Said'. Prove '..Said' where nothing that the law and all that it calls make is longer than what came in: it says more and counts as full. Else prove '..UptoSaid'. A law counts once. -/
mutual
def uptoBulk {H : Type} : DataW H → Nat
  | .lit (.string bytes) => bytes.length + 1
  | .lit _ => 1
  | .nil => 1
  | .ptr d => uptoBulk d + 1
  | .slice elems spare => uptoBulkAll elems + uptoBulkAll spare + 1
  | .agg parts => uptoBulkAll parts + 1
  | .iface _ d => uptoBulk d + 1
  | .map entries => uptoBulkEntries entries + 1
  | .held _ => 1
def uptoBulkAll {H : Type} : List (DataW H) → Nat
  | [] => 0
  | d :: r => uptoBulk d + uptoBulkAll r
def uptoBulkEntries {H : Type} : List (Lit × DataW H) → Nat
  | [] => 0
  | x :: r => uptoBulkEntry x + uptoBulkEntries r
def uptoBulkEntry {H : Type} : Lit × DataW H → Nat
  | (.string bytes, d) => bytes.length + uptoBulk d + 1
  | (_, d) => uptoBulk d + 1
 end
def uptoSmall : (H : Type) → List (DataW H) → Bool := fun _ ds => decide (uptoBulkAll ds ≤ 1048576)
def OpenSpec.upto (s : _root_.Go.ChangeSpec) : _root_.Go.OpenSpec := { _root_.Go.OpenSpec.ofChange s with cond := some uptoSmall }

/-- 'acequialaw42.WellsSpec', WHERE WHAT IT READS IS OF BULK AT MOST 1048576: true; the input reads as it did. -/
def wellsSpecUptoRow : OpenClaim := { program := "ytbgdeimkemjklaa", sum := "187bc71cd9ddfe8a4a0052e58abc5d2aeec6a87172ac1434850948b2967664b5", func := "acequia/acequialaw42.WellsSpec", spec := "wellsSpec", unfollowed := true, recurses := true, apart := false, narrowed := true }
def WellsSpecUptoSaid : Prop := wellsSpecUptoRow.holds Try.pinned (OpenSpec.upto wellsSpecSpec)

/-- 'acequialaw42.WellsOwedSpec', WHERE WHAT IT READS IS OF BULK AT MOST 1048576: true; the input reads as it did. -/
def wellsOwedSpecUptoRow : OpenClaim := { program := "ytbgdeimkemjklaa", sum := "187bc71cd9ddfe8a4a0052e58abc5d2aeec6a87172ac1434850948b2967664b5", func := "acequia/acequialaw42.WellsOwedSpec", spec := "wellsOwedSpec", unfollowed := true, recurses := true, apart := false, narrowed := true }
def WellsOwedSpecUptoSaid : Prop := wellsOwedSpecUptoRow.holds Try.pinned (OpenSpec.upto wellsOwedSpecSpec)

/-- 'acequialaw42.WellsExact', WHERE WHAT IT READS IS OF BULK AT MOST 1048576: true; the input reads as it did. -/
def wellsExactUptoRow : OpenClaim := { program := "ytbgdeimkemjklaa", sum := "187bc71cd9ddfe8a4a0052e58abc5d2aeec6a87172ac1434850948b2967664b5", func := "acequia/acequialaw42.WellsExact", spec := "wellsExact", unfollowed := true, recurses := true, apart := false, narrowed := true }
def WellsExactUptoSaid : Prop := wellsExactUptoRow.holds Try.pinned (OpenSpec.upto wellsExactSpec)

/-- 'acequialaw42.WellsCausal', WHERE WHAT IT READS IS OF BULK AT MOST 1048576: true; the input reads as it did. -/
def wellsCausalUptoRow : OpenClaim := { program := "ytbgdeimkemjklaa", sum := "187bc71cd9ddfe8a4a0052e58abc5d2aeec6a87172ac1434850948b2967664b5", func := "acequia/acequialaw42.WellsCausal", spec := "wellsCausal", unfollowed := true, recurses := true, apart := false, narrowed := true }
def WellsCausalUptoSaid : Prop := wellsCausalUptoRow.holds Try.pinned (OpenSpec.upto wellsCausalSpec)

/-- 'acequialaw42.WellsTogether', WHERE WHAT IT READS IS OF BULK AT MOST 1048576: true; the input reads as it did. -/
def wellsTogetherUptoRow : OpenClaim := { program := "ytbgdeimkemjklaa", sum := "187bc71cd9ddfe8a4a0052e58abc5d2aeec6a87172ac1434850948b2967664b5", func := "acequia/acequialaw42.WellsTogether", spec := "wellsTogether", unfollowed := true, recurses := true, apart := false, narrowed := true }
def WellsTogetherUptoSaid : Prop := wellsTogetherUptoRow.holds Try.pinned (OpenSpec.upto wellsTogetherSpec)

/-- 'acequialaw42.WellsPaid', WHERE WHAT IT READS IS OF BULK AT MOST 1048576: true; the input reads as it did. -/
def wellsPaidUptoRow : OpenClaim := { program := "ytbgdeimkemjklaa", sum := "187bc71cd9ddfe8a4a0052e58abc5d2aeec6a87172ac1434850948b2967664b5", func := "acequia/acequialaw42.WellsPaid", spec := "wellsPaid", unfollowed := true, recurses := true, apart := false, narrowed := true }
def WellsPaidUptoSaid : Prop := wellsPaidUptoRow.holds Try.pinned (OpenSpec.upto wellsPaidSpec)

/-- 'acequialaw42.WellsAll', WHERE WHAT IT READS IS OF BULK AT MOST 1048576: true; the input reads as it did. -/
def wellsAllUptoRow : OpenClaim := { program := "ytbgdeimkemjklaa", sum := "187bc71cd9ddfe8a4a0052e58abc5d2aeec6a87172ac1434850948b2967664b5", func := "acequia/acequialaw42.WellsAll", spec := "wellsAll", unfollowed := true, recurses := true, apart := false, narrowed := true }
def WellsAllUptoSaid : Prop := wellsAllUptoRow.holds Try.pinned (OpenSpec.upto wellsAllSpec)

end Rows
end Go.Proofs.Ytbgdeimkemjklaa
