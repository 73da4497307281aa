/-
  No cell of these rows narrows 'for every input' (looked for: loops, veiled, ifaces, maps, wideKeys, modest, calm, conditions, laid).
  DERIVED. THE GIVEN ROWS OF THIS SEAT. 7 by the template 'for every input the law returns true; each argument reads behind the call as it read before'; 0 by the template 'total and deterministic' (their statements: YtnabgahkdomeoaaTotals.lean).
  GIVEN WITH THE SEED: the statements are not yours to turn. If you find one false, say at which input.
  Laid BY PROGRAM, IN A SANDBOX (cutbox-rows.mjs): the forced cells as the released guide's own fill.sh prints them over the translation 42083ae8ac4419f4… (all of the seat's roots in one cut). By AI agents, Wed Nov 11 2026. No macro, syntax, notation, axiom, sorry.
-/
import Derived.Test.YtnabgahkdomeoaaChecked
import GoSem.Claim
import GoSem.ClaimJoined
import GoSem.ClaimMapViews
import Derived.JoinedTies
import Derived.KernelRfl
namespace Go.Proofs.Ytnabgahkdomeoaa
/- THE CELL 'sum', in the pinned program and in every row, IS THE sha256 OF THE DUMP (.gsa) THAT YtnabgahkdomeoaaProg.lean LOADS. Nothing in Lean hashes anything: it is a label: what it is worth is what the hold of that sum in a sandbox is worth. -/
noncomputable def Try.pinned : Pinned := { name := "ytnabgahkdomeoaa", sum := "42083ae8ac4419f433b13dae3c61b450bcdd61abe3a7755945905df26d5154a0", checked := Try.checked }
namespace Rows
def none {H : Type} : Left H := { results := [], args := [] }

/-- 'acequialaw38.StakesSpec': WHATEVER THE INPUT: true; the input reads as it did. -/
def stakesSpecSpec : ChangeSpec := { name := "stakesSpec", fn := fun _ => fun
  | [d1, d2, d3] => { results := [.lit (.bool true)], args := [d1, d2, d3] }
  | _ => none }
def stakesSpecRow : OpenClaim := { program := "ytnabgahkdomeoaa", sum := "42083ae8ac4419f433b13dae3c61b450bcdd61abe3a7755945905df26d5154a0", func := "acequia/acequialaw38.StakesSpec", spec := "stakesSpec", unfollowed := true, recurses := true, named := ["math/bits.divideError", "math/bits.overflowError"], apart := false }
def StakesSpecSaid : Prop := stakesSpecRow.holds Try.pinned (OpenSpec.ofChange stakesSpecSpec)

/-- ITS FALSE NEIGHBOUR: 'it returns false'. Refute it at one input. -/
def stakesSpecWrong : ChangeSpec := { name := "stakesSpec", fn := fun _ => fun
  | [d1, d2, d3] => { results := [.lit (.bool false)], args := [d1, d2, d3] }
  | _ => none }
def StakesSpecWrongFalsely : Prop := stakesSpecRow.holds Try.pinned (OpenSpec.ofChange stakesSpecWrong)

/-- 'acequialaw38.StakesShareSpec': WHATEVER THE INPUT: true; the input reads as it did. -/
def stakesShareSpecSpec : ChangeSpec := { name := "stakesShareSpec", fn := fun _ => fun
  | [d1, d2] => { results := [.lit (.bool true)], args := [d1, d2] }
  | _ => none }
def stakesShareSpecRow : OpenClaim := { program := "ytnabgahkdomeoaa", sum := "42083ae8ac4419f433b13dae3c61b450bcdd61abe3a7755945905df26d5154a0", func := "acequia/acequialaw38.StakesShareSpec", spec := "stakesShareSpec", unfollowed := true, recurses := true, named := ["math/bits.divideError", "math/bits.overflowError"], apart := false }
def StakesShareSpecSaid : Prop := stakesShareSpecRow.holds Try.pinned (OpenSpec.ofChange stakesShareSpecSpec)

/-- ITS FALSE NEIGHBOUR: 'it returns false'. Refute it at one input. -/
def stakesShareSpecWrong : ChangeSpec := { name := "stakesShareSpec", fn := fun _ => fun
  | [d1, d2] => { results := [.lit (.bool false)], args := [d1, d2] }
  | _ => none }
def StakesShareSpecWrongFalsely : Prop := stakesShareSpecRow.holds Try.pinned (OpenSpec.ofChange stakesShareSpecWrong)

/-- 'acequialaw38.StakesSettleSpec': WHATEVER THE INPUT: true; the input reads as it did. -/
def stakesSettleSpecSpec : ChangeSpec := { name := "stakesSettleSpec", fn := fun _ => fun
  | [d1, d2, d3] => { results := [.lit (.bool true)], args := [d1, d2, d3] }
  | _ => none }
def stakesSettleSpecRow : OpenClaim := { program := "ytnabgahkdomeoaa", sum := "42083ae8ac4419f433b13dae3c61b450bcdd61abe3a7755945905df26d5154a0", func := "acequia/acequialaw38.StakesSettleSpec", spec := "stakesSettleSpec", unfollowed := true, recurses := true, named := ["math/bits.divideError", "math/bits.overflowError"], apart := false }
def StakesSettleSpecSaid : Prop := stakesSettleSpecRow.holds Try.pinned (OpenSpec.ofChange stakesSettleSpecSpec)

/-- ITS FALSE NEIGHBOUR: 'it returns false'. Refute it at one input. -/
def stakesSettleSpecWrong : ChangeSpec := { name := "stakesSettleSpec", fn := fun _ => fun
  | [d1, d2, d3] => { results := [.lit (.bool false)], args := [d1, d2, d3] }
  | _ => none }
def StakesSettleSpecWrongFalsely : Prop := stakesSettleSpecRow.holds Try.pinned (OpenSpec.ofChange stakesSettleSpecWrong)

/-- 'acequialaw38.StakesConserved': WHATEVER THE INPUT: true; the input reads as it did. -/
def stakesConservedSpec : ChangeSpec := { name := "stakesConserved", fn := fun _ => fun
  | [d1, d2, d3] => { results := [.lit (.bool true)], args := [d1, d2, d3] }
  | _ => none }
def stakesConservedRow : OpenClaim := { program := "ytnabgahkdomeoaa", sum := "42083ae8ac4419f433b13dae3c61b450bcdd61abe3a7755945905df26d5154a0", func := "acequia/acequialaw38.StakesConserved", spec := "stakesConserved", unfollowed := true, recurses := true, named := ["math/bits.divideError", "math/bits.overflowError"], apart := false }
def StakesConservedSaid : Prop := stakesConservedRow.holds Try.pinned (OpenSpec.ofChange stakesConservedSpec)

/-- ITS FALSE NEIGHBOUR: 'it returns false'. Refute it at one input. -/
def stakesConservedWrong : ChangeSpec := { name := "stakesConserved", fn := fun _ => fun
  | [d1, d2, d3] => { results := [.lit (.bool false)], args := [d1, d2, d3] }
  | _ => none }
def StakesConservedWrongFalsely : Prop := stakesConservedRow.holds Try.pinned (OpenSpec.ofChange stakesConservedWrong)

/-- 'acequialaw38.StakesQuota': WHATEVER THE INPUT: true; the input reads as it did. -/
def stakesQuotaSpec : ChangeSpec := { name := "stakesQuota", fn := fun _ => fun
  | [d1, d2] => { results := [.lit (.bool true)], args := [d1, d2] }
  | _ => none }
def stakesQuotaRow : OpenClaim := { program := "ytnabgahkdomeoaa", sum := "42083ae8ac4419f433b13dae3c61b450bcdd61abe3a7755945905df26d5154a0", func := "acequia/acequialaw38.StakesQuota", spec := "stakesQuota", unfollowed := true, recurses := true, named := ["math/bits.divideError", "math/bits.overflowError"], apart := false }
def StakesQuotaSaid : Prop := stakesQuotaRow.holds Try.pinned (OpenSpec.ofChange stakesQuotaSpec)

/-- ITS FALSE NEIGHBOUR: 'it returns false'. Refute it at one input. -/
def stakesQuotaWrong : ChangeSpec := { name := "stakesQuota", fn := fun _ => fun
  | [d1, d2] => { results := [.lit (.bool false)], args := [d1, d2] }
  | _ => none }
def StakesQuotaWrongFalsely : Prop := stakesQuotaRow.holds Try.pinned (OpenSpec.ofChange stakesQuotaWrong)

/-- 'acequialaw38.StakesWider': WHATEVER THE INPUT: true; the input reads as it did. -/
def stakesWiderSpec : ChangeSpec := { name := "stakesWider", fn := fun _ => fun
  | [d1, d2, d3, d4, d5, d6] => { results := [.lit (.bool true)], args := [d1, d2, d3, d4, d5, d6] }
  | _ => none }
def stakesWiderRow : OpenClaim := { program := "ytnabgahkdomeoaa", sum := "42083ae8ac4419f433b13dae3c61b450bcdd61abe3a7755945905df26d5154a0", func := "acequia/acequialaw38.StakesWider", spec := "stakesWider", unfollowed := true, recurses := true, named := ["math/bits.divideError", "math/bits.overflowError"], apart := false }
def StakesWiderSaid : Prop := stakesWiderRow.holds Try.pinned (OpenSpec.ofChange stakesWiderSpec)

/-- ITS FALSE NEIGHBOUR: 'it returns false'. Refute it at one input. -/
def stakesWiderWrong : ChangeSpec := { name := "stakesWider", fn := fun _ => fun
  | [d1, d2, d3, d4, d5, d6] => { results := [.lit (.bool false)], args := [d1, d2, d3, d4, d5, d6] }
  | _ => none }
def StakesWiderWrongFalsely : Prop := stakesWiderRow.holds Try.pinned (OpenSpec.ofChange stakesWiderWrong)

/-- 'acequialaw38.StakesKept': WHATEVER THE INPUT: true; the input reads as it did. -/
def stakesKeptSpec : ChangeSpec := { name := "stakesKept", fn := fun _ => fun
  | [d1, d2] => { results := [.lit (.bool true)], args := [d1, d2] }
  | _ => none }
def stakesKeptRow : OpenClaim := { program := "ytnabgahkdomeoaa", sum := "42083ae8ac4419f433b13dae3c61b450bcdd61abe3a7755945905df26d5154a0", func := "acequia/acequialaw38.StakesKept", spec := "stakesKept", unfollowed := true, recurses := true, named := ["math/bits.divideError", "math/bits.overflowError"], apart := false }
def StakesKeptSaid : Prop := stakesKeptRow.holds Try.pinned (OpenSpec.ofChange stakesKeptSpec)

/-- ITS FALSE NEIGHBOUR: 'it returns false'. Refute it at one input. -/
def stakesKeptWrong : ChangeSpec := { name := "stakesKept", fn := fun _ => fun
  | [d1, d2] => { results := [.lit (.bool false)], args := [d1, d2] }
  | _ => none }
def StakesKeptWrongFalsely : Prop := stakesKeptRow.holds Try.pinned (OpenSpec.ofChange stakesKeptWrong)

/- THE SECOND FORM. 'bulk': how many values and letters a reading holds, each counted each time it is reached (what is shared counts as often as it is met; a slice's spare places count too). A statement '..UptoSaid' is the law's where the arguments, and the package variables that the reading takes, are together of bulk at most 1048576: NARROWER than '..Said'. Prove '..Said' where nothing that the law and all that it calls make is longer than what came in: it says more and counts as full. Else prove '..UptoSaid'. A law counts once. -/
mutual
def uptoBulk {H : Type} : DataW H → Nat
  | .lit (.string bytes) => bytes.length + 1
  | .lit _ => 1
  | .nil => 1
  | .ptr d => uptoBulk d + 1
  | .slice elems spare => uptoBulkAll elems + uptoBulkAll spare + 1
  | .agg parts => uptoBulkAll parts + 1
  | .iface _ d => uptoBulk d + 1
  | .map entries => uptoBulkEntries entries + 1
  | .held _ => 1
def uptoBulkAll {H : Type} : List (DataW H) → Nat
  | [] => 0
  | d :: r => uptoBulk d + uptoBulkAll r
def uptoBulkEntries {H : Type} : List (Lit × DataW H) → Nat
  | [] => 0
  | x :: r => uptoBulkEntry x + uptoBulkEntries r
def uptoBulkEntry {H : Type} : Lit × DataW H → Nat
  | (.string bytes, d) => bytes.length + uptoBulk d + 1
  | (_, d) => uptoBulk d + 1
 end
def uptoSmall : (H : Type) → List (DataW H) → Bool := fun _ ds => decide (uptoBulkAll ds ≤ 1048576)
def OpenSpec.upto (s : _root_.Go.ChangeSpec) : _root_.Go.OpenSpec := { _root_.Go.OpenSpec.ofChange s with cond := some uptoSmall }

/-- 'acequialaw38.StakesSpec', WHERE WHAT IT READS IS OF BULK AT MOST 1048576: true; the input reads as it did. -/
def stakesSpecUptoRow : OpenClaim := { program := "ytnabgahkdomeoaa", sum := "42083ae8ac4419f433b13dae3c61b450bcdd61abe3a7755945905df26d5154a0", func := "acequia/acequialaw38.StakesSpec", spec := "stakesSpec", unfollowed := true, recurses := true, named := ["math/bits.divideError", "math/bits.overflowError"], apart := false, narrowed := true }
def StakesSpecUptoSaid : Prop := stakesSpecUptoRow.holds Try.pinned (OpenSpec.upto stakesSpecSpec)

/-- 'acequialaw38.StakesShareSpec', WHERE WHAT IT READS IS OF BULK AT MOST 1048576: true; the input reads as it did. -/
def stakesShareSpecUptoRow : OpenClaim := { program := "ytnabgahkdomeoaa", sum := "42083ae8ac4419f433b13dae3c61b450bcdd61abe3a7755945905df26d5154a0", func := "acequia/acequialaw38.StakesShareSpec", spec := "stakesShareSpec", unfollowed := true, recurses := true, named := ["math/bits.divideError", "math/bits.overflowError"], apart := false, narrowed := true }
def StakesShareSpecUptoSaid : Prop := stakesShareSpecUptoRow.holds Try.pinned (OpenSpec.upto stakesShareSpecSpec)

/-- 'acequialaw38.StakesSettleSpec', WHERE WHAT IT READS IS OF BULK AT MOST 1048576: true; the input reads as it did. -/
def stakesSettleSpecUptoRow : OpenClaim := { program := "ytnabgahkdomeoaa", sum := "42083ae8ac4419f433b13dae3c61b450bcdd61abe3a7755945905df26d5154a0", func := "acequia/acequialaw38.StakesSettleSpec", spec := "stakesSettleSpec", unfollowed := true, recurses := true, named := ["math/bits.divideError", "math/bits.overflowError"], apart := false, narrowed := true }
def StakesSettleSpecUptoSaid : Prop := stakesSettleSpecUptoRow.holds Try.pinned (OpenSpec.upto stakesSettleSpecSpec)

/-- 'acequialaw38.StakesConserved', WHERE WHAT IT READS IS OF BULK AT MOST 1048576: true; the input reads as it did. -/
def stakesConservedUptoRow : OpenClaim := { program := "ytnabgahkdomeoaa", sum := "42083ae8ac4419f433b13dae3c61b450bcdd61abe3a7755945905df26d5154a0", func := "acequia/acequialaw38.StakesConserved", spec := "stakesConserved", unfollowed := true, recurses := true, named := ["math/bits.divideError", "math/bits.overflowError"], apart := false, narrowed := true }
def StakesConservedUptoSaid : Prop := stakesConservedUptoRow.holds Try.pinned (OpenSpec.upto stakesConservedSpec)

/-- 'acequialaw38.StakesQuota', WHERE WHAT IT READS IS OF BULK AT MOST 1048576: true; the input reads as it did. -/
def stakesQuotaUptoRow : OpenClaim := { program := "ytnabgahkdomeoaa", sum := "42083ae8ac4419f433b13dae3c61b450bcdd61abe3a7755945905df26d5154a0", func := "acequia/acequialaw38.StakesQuota", spec := "stakesQuota", unfollowed := true, recurses := true, named := ["math/bits.divideError", "math/bits.overflowError"], apart := false, narrowed := true }
def StakesQuotaUptoSaid : Prop := stakesQuotaUptoRow.holds Try.pinned (OpenSpec.upto stakesQuotaSpec)

/-- 'acequialaw38.StakesWider', WHERE WHAT IT READS IS OF BULK AT MOST 1048576: true; the input reads as it did. -/
def stakesWiderUptoRow : OpenClaim := { program := "ytnabgahkdomeoaa", sum := "42083ae8ac4419f433b13dae3c61b450bcdd61abe3a7755945905df26d5154a0", func := "acequia/acequialaw38.StakesWider", spec := "stakesWider", unfollowed := true, recurses := true, named := ["math/bits.divideError", "math/bits.overflowError"], apart := false, narrowed := true }
def StakesWiderUptoSaid : Prop := stakesWiderUptoRow.holds Try.pinned (OpenSpec.upto stakesWiderSpec)

/-- 'acequialaw38.StakesKept', WHERE WHAT IT READS IS OF BULK AT MOST 1048576: true; the input reads as it did. -/
def stakesKeptUptoRow : OpenClaim := { program := "ytnabgahkdomeoaa", sum := "42083ae8ac4419f433b13dae3c61b450bcdd61abe3a7755945905df26d5154a0", func := "acequia/acequialaw38.StakesKept", spec := "stakesKept", unfollowed := true, recurses := true, named := ["math/bits.divideError", "math/bits.overflowError"], apart := false, narrowed := true }
def StakesKeptUptoSaid : Prop := stakesKeptUptoRow.holds Try.pinned (OpenSpec.upto stakesKeptSpec)

end Rows
end Go.Proofs.Ytnabgahkdomeoaa
