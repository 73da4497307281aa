/-
  No cell of these rows narrows 'for every input' (looked for: loops, veiled, ifaces, maps, wideKeys, modest, calm, conditions, laid).
  DERIVED. THE GIVEN ROWS OF THIS SEAT. 3 by the template 'for every input the law returns true; each argument reads behind the call as it read before'; 0 by the template 'total and deterministic' (their statements: YtbmmbefgmhhciaaTotals.lean).
  GIVEN WITH THE SEED: the statements are not yours to turn. If you find one false, say at which input.
  Laid BY PROGRAM, IN A SANDBOX (cutbox-rows.mjs): the forced cells as the released guide's own fill.sh prints them over the translation 7b80159b0170b130… (all of the seat's roots in one cut). By AI agents, Wed Nov 11 2026. No macro, syntax, notation, axiom, sorry.
-/
import Derived.Test.YtbmmbefgmhhciaaChecked
import GoSem.Claim
import GoSem.ClaimJoined
import GoSem.ClaimMapViews
import Derived.JoinedTies
import Derived.KernelRfl
namespace Go.Proofs.Ytbmmbefgmhhciaa
/- THE CELL 'sum', in the pinned program and in every row, IS THE sha256 OF THE DUMP (.gsa) THAT YtbmmbefgmhhciaaProg.lean LOADS. Nothing in Lean hashes anything: it is a label: what it is worth is what the hold of that sum in a sandbox is worth. -/
noncomputable def Try.pinned : Pinned := { name := "ytbmmbefgmhhciaa", sum := "7b80159b0170b1304291f3f97a1eaaa1bbb9d4fce5878ed75dd10af71c2ddd58", checked := Try.checked }
namespace Rows
def none {H : Type} : Left H := { results := [], args := [] }

/-- 'acequialaw47.SettleBalance': WHATEVER THE INPUT: true; the input reads as it did. -/
def settleBalanceSpec : ChangeSpec := { name := "settleBalance", fn := fun _ => fun
  | [d1, d2] => { results := [.lit (.bool true)], args := [d1, d2] }
  | _ => none }
def settleBalanceRow : OpenClaim := { program := "ytbmmbefgmhhciaa", sum := "7b80159b0170b1304291f3f97a1eaaa1bbb9d4fce5878ed75dd10af71c2ddd58", func := "acequia/acequialaw47.SettleBalance", spec := "settleBalance", unfollowed := true, recurses := true, named := ["math/bits.divideError", "math/bits.overflowError"], apart := false }
def SettleBalanceSaid : Prop := settleBalanceRow.holds Try.pinned (OpenSpec.ofChange settleBalanceSpec)

/-- ITS FALSE NEIGHBOUR: 'it returns false'. Refute it at one input. -/
def settleBalanceWrong : ChangeSpec := { name := "settleBalance", fn := fun _ => fun
  | [d1, d2] => { results := [.lit (.bool false)], args := [d1, d2] }
  | _ => none }
def SettleBalanceWrongFalsely : Prop := settleBalanceRow.holds Try.pinned (OpenSpec.ofChange settleBalanceWrong)

/-- 'acequialaw47.SettleShares': WHATEVER THE INPUT: true; the input reads as it did. -/
def settleSharesSpec : ChangeSpec := { name := "settleShares", fn := fun _ => fun
  | [d1, d2] => { results := [.lit (.bool true)], args := [d1, d2] }
  | _ => none }
def settleSharesRow : OpenClaim := { program := "ytbmmbefgmhhciaa", sum := "7b80159b0170b1304291f3f97a1eaaa1bbb9d4fce5878ed75dd10af71c2ddd58", func := "acequia/acequialaw47.SettleShares", spec := "settleShares", unfollowed := true, recurses := true, named := ["math/bits.divideError", "math/bits.overflowError"], apart := false }
def SettleSharesSaid : Prop := settleSharesRow.holds Try.pinned (OpenSpec.ofChange settleSharesSpec)

/-- ITS FALSE NEIGHBOUR: 'it returns false'. Refute it at one input. -/
def settleSharesWrong : ChangeSpec := { name := "settleShares", fn := fun _ => fun
  | [d1, d2] => { results := [.lit (.bool false)], args := [d1, d2] }
  | _ => none }
def SettleSharesWrongFalsely : Prop := settleSharesRow.holds Try.pinned (OpenSpec.ofChange settleSharesWrong)

/-- 'acequialaw47.SettleOthers': WHATEVER THE INPUT: true; the input reads as it did. -/
def settleOthersSpec : ChangeSpec := { name := "settleOthers", fn := fun _ => fun
  | [d1, d2, d3] => { results := [.lit (.bool true)], args := [d1, d2, d3] }
  | _ => none }
def settleOthersRow : OpenClaim := { program := "ytbmmbefgmhhciaa", sum := "7b80159b0170b1304291f3f97a1eaaa1bbb9d4fce5878ed75dd10af71c2ddd58", func := "acequia/acequialaw47.SettleOthers", spec := "settleOthers", unfollowed := true, recurses := true, named := ["math/bits.divideError", "math/bits.overflowError"], apart := false }
def SettleOthersSaid : Prop := settleOthersRow.holds Try.pinned (OpenSpec.ofChange settleOthersSpec)

/-- ITS FALSE NEIGHBOUR: 'it returns false'. Refute it at one input. -/
def settleOthersWrong : ChangeSpec := { name := "settleOthers", fn := fun _ => fun
  | [d1, d2, d3] => { results := [.lit (.bool false)], args := [d1, d2, d3] }
  | _ => none }
def SettleOthersWrongFalsely : Prop := settleOthersRow.holds Try.pinned (OpenSpec.ofChange settleOthersWrong)

/- THE SECOND FORM. 'bulk': how many values and letters a reading holds, each counted each time it is reached (what is shared counts as often as it is met; a slice's spare places count too). A statement '..UptoSaid' is the law's where the arguments, and the package variables that the reading takes, are together of bulk at most 1048576: NARROWER than '..Said'. Prove '..Said' where nothing that the law and all that it calls make is longer than what came in: it says more and counts as full. Else prove '..UptoSaid'. A law counts once. -/
mutual
def uptoBulk {H : Type} : DataW H → Nat
  | .lit (.string bytes) => bytes.length + 1
  | .lit _ => 1
  | .nil => 1
  | .ptr d => uptoBulk d + 1
  | .slice elems spare => uptoBulkAll elems + uptoBulkAll spare + 1
  | .agg parts => uptoBulkAll parts + 1
  | .iface _ d => uptoBulk d + 1
  | .map entries => uptoBulkEntries entries + 1
  | .held _ => 1
def uptoBulkAll {H : Type} : List (DataW H) → Nat
  | [] => 0
  | d :: r => uptoBulk d + uptoBulkAll r
def uptoBulkEntries {H : Type} : List (Lit × DataW H) → Nat
  | [] => 0
  | x :: r => uptoBulkEntry x + uptoBulkEntries r
def uptoBulkEntry {H : Type} : Lit × DataW H → Nat
  | (.string bytes, d) => bytes.length + uptoBulk d + 1
  | (_, d) => uptoBulk d + 1
 end
def uptoSmall : (H : Type) → List (DataW H) → Bool := fun _ ds => decide (uptoBulkAll ds ≤ 1048576)
def OpenSpec.upto (s : _root_.Go.ChangeSpec) : _root_.Go.OpenSpec := { _root_.Go.OpenSpec.ofChange s with cond := some uptoSmall }

/-- 'acequialaw47.SettleBalance', WHERE WHAT IT READS IS OF BULK AT MOST 1048576: true; the input reads as it did. -/
def settleBalanceUptoRow : OpenClaim := { program := "ytbmmbefgmhhciaa", sum := "7b80159b0170b1304291f3f97a1eaaa1bbb9d4fce5878ed75dd10af71c2ddd58", func := "acequia/acequialaw47.SettleBalance", spec := "settleBalance", unfollowed := true, recurses := true, named := ["math/bits.divideError", "math/bits.overflowError"], apart := false, narrowed := true }
def SettleBalanceUptoSaid : Prop := settleBalanceUptoRow.holds Try.pinned (OpenSpec.upto settleBalanceSpec)

/-- 'acequialaw47.SettleShares', WHERE WHAT IT READS IS OF BULK AT MOST 1048576: true; the input reads as it did. -/
def settleSharesUptoRow : OpenClaim := { program := "ytbmmbefgmhhciaa", sum := "7b80159b0170b1304291f3f97a1eaaa1bbb9d4fce5878ed75dd10af71c2ddd58", func := "acequia/acequialaw47.SettleShares", spec := "settleShares", unfollowed := true, recurses := true, named := ["math/bits.divideError", "math/bits.overflowError"], apart := false, narrowed := true }
def SettleSharesUptoSaid : Prop := settleSharesUptoRow.holds Try.pinned (OpenSpec.upto settleSharesSpec)

/-- 'acequialaw47.SettleOthers', WHERE WHAT IT READS IS OF BULK AT MOST 1048576: true; the input reads as it did. -/
def settleOthersUptoRow : OpenClaim := { program := "ytbmmbefgmhhciaa", sum := "7b80159b0170b1304291f3f97a1eaaa1bbb9d4fce5878ed75dd10af71c2ddd58", func := "acequia/acequialaw47.SettleOthers", spec := "settleOthers", unfollowed := true, recurses := true, named := ["math/bits.divideError", "math/bits.overflowError"], apart := false, narrowed := true }
def SettleOthersUptoSaid : Prop := settleOthersUptoRow.holds Try.pinned (OpenSpec.upto settleOthersSpec)

end Rows
end Go.Proofs.Ytbmmbefgmhhciaa
