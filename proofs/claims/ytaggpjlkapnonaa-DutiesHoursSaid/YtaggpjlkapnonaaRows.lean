/-
  No cell of these rows narrows 'for every input' (looked for: loops, veiled, ifaces, maps, wideKeys, modest, calm, conditions, laid).
  DERIVED. THE GIVEN ROWS OF THIS SEAT. 7 by the template 'for every input the law returns true; each argument reads behind the call as it read before'; 0 by the template 'total and deterministic' (their statements: YtaggpjlkapnonaaTotals.lean).
  GIVEN WITH THE SEED: the statements are not yours to turn. If you find one false, say at which input.
  Laid BY PROGRAM, IN A SANDBOX (cutbox-rows.mjs): the forced cells as the released guide's own fill.sh prints them over the translation 6782a036378ef1f7… (all of the seat's roots in one cut). By AI agents, Wed Nov 11 2026. No macro, syntax, notation, axiom, sorry.
-/
import Derived.Test.YtaggpjlkapnonaaChecked
import GoSem.Claim
import GoSem.ClaimJoined
import GoSem.ClaimMapViews
import Derived.JoinedTies
import Derived.KernelRfl
namespace Go.Proofs.Ytaggpjlkapnonaa
/- THE CELL 'sum', in the pinned program and in every row, IS THE sha256 OF THE DUMP (.gsa) THAT YtaggpjlkapnonaaProg.lean LOADS. Nothing in Lean hashes anything: it is a label: what it is worth is what the hold of that sum in a sandbox is worth. -/
noncomputable def Try.pinned : Pinned := { name := "ytaggpjlkapnonaa", sum := "6782a036378ef1f7402ea340341061e2c7b16638257abd076cce30bf122f699a", checked := Try.checked }
namespace Rows
def none {H : Type} : Left H := { results := [], args := [] }

/-- 'acequialaw30.DutiesSpec': WHATEVER THE INPUT: true; the input reads as it did. -/
def dutiesSpecSpec : ChangeSpec := { name := "dutiesSpec", fn := fun _ => fun
  | [d1, d2, d3, d4] => { results := [.lit (.bool true)], args := [d1, d2, d3, d4] }
  | _ => none }
def dutiesSpecRow : OpenClaim := { program := "ytaggpjlkapnonaa", sum := "6782a036378ef1f7402ea340341061e2c7b16638257abd076cce30bf122f699a", func := "acequia/acequialaw30.DutiesSpec", spec := "dutiesSpec", unfollowed := true, recurses := true, plainKeys := false, apart := false }
def DutiesSpecSaid : Prop := dutiesSpecRow.holds Try.pinned (OpenSpec.ofChange dutiesSpecSpec)

/-- ITS FALSE NEIGHBOUR: 'it returns false'. Refute it at one input. -/
def dutiesSpecWrong : ChangeSpec := { name := "dutiesSpec", fn := fun _ => fun
  | [d1, d2, d3, d4] => { results := [.lit (.bool false)], args := [d1, d2, d3, d4] }
  | _ => none }
def DutiesSpecWrongFalsely : Prop := dutiesSpecRow.holds Try.pinned (OpenSpec.ofChange dutiesSpecWrong)

/-- 'acequialaw30.DutiesActiveSpec': WHATEVER THE INPUT: true; the input reads as it did. -/
def dutiesActiveSpecSpec : ChangeSpec := { name := "dutiesActiveSpec", fn := fun _ => fun
  | [d1, d2, d3, d4, d5, d6] => { results := [.lit (.bool true)], args := [d1, d2, d3, d4, d5, d6] }
  | _ => none }
def dutiesActiveSpecRow : OpenClaim := { program := "ytaggpjlkapnonaa", sum := "6782a036378ef1f7402ea340341061e2c7b16638257abd076cce30bf122f699a", func := "acequia/acequialaw30.DutiesActiveSpec", spec := "dutiesActiveSpec", unfollowed := true, recurses := true, plainKeys := false, apart := false }
def DutiesActiveSpecSaid : Prop := dutiesActiveSpecRow.holds Try.pinned (OpenSpec.ofChange dutiesActiveSpecSpec)

/-- ITS FALSE NEIGHBOUR: 'it returns false'. Refute it at one input. -/
def dutiesActiveSpecWrong : ChangeSpec := { name := "dutiesActiveSpec", fn := fun _ => fun
  | [d1, d2, d3, d4, d5, d6] => { results := [.lit (.bool false)], args := [d1, d2, d3, d4, d5, d6] }
  | _ => none }
def DutiesActiveSpecWrongFalsely : Prop := dutiesActiveSpecRow.holds Try.pinned (OpenSpec.ofChange dutiesActiveSpecWrong)

/-- 'acequialaw30.DutiesSuspend': WHATEVER THE INPUT: true; the input reads as it did. -/
def dutiesSuspendSpec : ChangeSpec := { name := "dutiesSuspend", fn := fun _ => fun
  | [d1, d2, d3, d4] => { results := [.lit (.bool true)], args := [d1, d2, d3, d4] }
  | _ => none }
def dutiesSuspendRow : OpenClaim := { program := "ytaggpjlkapnonaa", sum := "6782a036378ef1f7402ea340341061e2c7b16638257abd076cce30bf122f699a", func := "acequia/acequialaw30.DutiesSuspend", spec := "dutiesSuspend", unfollowed := true, recurses := true, plainKeys := false, apart := false }
def DutiesSuspendSaid : Prop := dutiesSuspendRow.holds Try.pinned (OpenSpec.ofChange dutiesSuspendSpec)

/-- ITS FALSE NEIGHBOUR: 'it returns false'. Refute it at one input. -/
def dutiesSuspendWrong : ChangeSpec := { name := "dutiesSuspend", fn := fun _ => fun
  | [d1, d2, d3, d4] => { results := [.lit (.bool false)], args := [d1, d2, d3, d4] }
  | _ => none }
def DutiesSuspendWrongFalsely : Prop := dutiesSuspendRow.holds Try.pinned (OpenSpec.ofChange dutiesSuspendWrong)

/-- 'acequialaw30.DutiesInTime': WHATEVER THE INPUT: true; the input reads as it did. -/
def dutiesInTimeSpec : ChangeSpec := { name := "dutiesInTime", fn := fun _ => fun
  | [d1, d2, d3, d4, d5, d6] => { results := [.lit (.bool true)], args := [d1, d2, d3, d4, d5, d6] }
  | _ => none }
def dutiesInTimeRow : OpenClaim := { program := "ytaggpjlkapnonaa", sum := "6782a036378ef1f7402ea340341061e2c7b16638257abd076cce30bf122f699a", func := "acequia/acequialaw30.DutiesInTime", spec := "dutiesInTime", unfollowed := true, recurses := true, plainKeys := false, apart := false }
def DutiesInTimeSaid : Prop := dutiesInTimeRow.holds Try.pinned (OpenSpec.ofChange dutiesInTimeSpec)

/-- ITS FALSE NEIGHBOUR: 'it returns false'. Refute it at one input. -/
def dutiesInTimeWrong : ChangeSpec := { name := "dutiesInTime", fn := fun _ => fun
  | [d1, d2, d3, d4, d5, d6] => { results := [.lit (.bool false)], args := [d1, d2, d3, d4, d5, d6] }
  | _ => none }
def DutiesInTimeWrongFalsely : Prop := dutiesInTimeRow.holds Try.pinned (OpenSpec.ofChange dutiesInTimeWrong)

/-- 'acequialaw30.DutiesKnown': WHATEVER THE INPUT: true; the input reads as it did. -/
def dutiesKnownSpec : ChangeSpec := { name := "dutiesKnown", fn := fun _ => fun
  | [d1, d2, d3, d4, d5, d6, d7] => { results := [.lit (.bool true)], args := [d1, d2, d3, d4, d5, d6, d7] }
  | _ => none }
def dutiesKnownRow : OpenClaim := { program := "ytaggpjlkapnonaa", sum := "6782a036378ef1f7402ea340341061e2c7b16638257abd076cce30bf122f699a", func := "acequia/acequialaw30.DutiesKnown", spec := "dutiesKnown", unfollowed := true, recurses := true, plainKeys := false, apart := false }
def DutiesKnownSaid : Prop := dutiesKnownRow.holds Try.pinned (OpenSpec.ofChange dutiesKnownSpec)

/-- ITS FALSE NEIGHBOUR: 'it returns false'. Refute it at one input. -/
def dutiesKnownWrong : ChangeSpec := { name := "dutiesKnown", fn := fun _ => fun
  | [d1, d2, d3, d4, d5, d6, d7] => { results := [.lit (.bool false)], args := [d1, d2, d3, d4, d5, d6, d7] }
  | _ => none }
def DutiesKnownWrongFalsely : Prop := dutiesKnownRow.holds Try.pinned (OpenSpec.ofChange dutiesKnownWrong)

/-- 'acequialaw30.DutiesMore': WHATEVER THE INPUT: true; the input reads as it did. -/
def dutiesMoreSpec : ChangeSpec := { name := "dutiesMore", fn := fun _ => fun
  | [d1, d2, d3, d4, d5, d6, d7, d8] => { results := [.lit (.bool true)], args := [d1, d2, d3, d4, d5, d6, d7, d8] }
  | _ => none }
def dutiesMoreRow : OpenClaim := { program := "ytaggpjlkapnonaa", sum := "6782a036378ef1f7402ea340341061e2c7b16638257abd076cce30bf122f699a", func := "acequia/acequialaw30.DutiesMore", spec := "dutiesMore", unfollowed := true, recurses := true, plainKeys := false, apart := false }
def DutiesMoreSaid : Prop := dutiesMoreRow.holds Try.pinned (OpenSpec.ofChange dutiesMoreSpec)

/-- ITS FALSE NEIGHBOUR: 'it returns false'. Refute it at one input. -/
def dutiesMoreWrong : ChangeSpec := { name := "dutiesMore", fn := fun _ => fun
  | [d1, d2, d3, d4, d5, d6, d7, d8] => { results := [.lit (.bool false)], args := [d1, d2, d3, d4, d5, d6, d7, d8] }
  | _ => none }
def DutiesMoreWrongFalsely : Prop := dutiesMoreRow.holds Try.pinned (OpenSpec.ofChange dutiesMoreWrong)

/-- 'acequialaw30.DutiesHours': WHATEVER THE INPUT: true; the input reads as it did. -/
def dutiesHoursSpec : ChangeSpec := { name := "dutiesHours", fn := fun _ => fun
  | [d1, d2, d3, d4, d5] => { results := [.lit (.bool true)], args := [d1, d2, d3, d4, d5] }
  | _ => none }
def dutiesHoursRow : OpenClaim := { program := "ytaggpjlkapnonaa", sum := "6782a036378ef1f7402ea340341061e2c7b16638257abd076cce30bf122f699a", func := "acequia/acequialaw30.DutiesHours", spec := "dutiesHours", unfollowed := true, recurses := true, plainKeys := false, apart := false }
def DutiesHoursSaid : Prop := dutiesHoursRow.holds Try.pinned (OpenSpec.ofChange dutiesHoursSpec)

/-- ITS FALSE NEIGHBOUR: 'it returns false'. Refute it at one input. -/
def dutiesHoursWrong : ChangeSpec := { name := "dutiesHours", fn := fun _ => fun
  | [d1, d2, d3, d4, d5] => { results := [.lit (.bool false)], args := [d1, d2, d3, d4, d5] }
  | _ => none }
def DutiesHoursWrongFalsely : Prop := dutiesHoursRow.holds Try.pinned (OpenSpec.ofChange dutiesHoursWrong)

/- THE SECOND FORM. 'bulk': how many values and letters a reading holds, each counted each time it is reached (what is shared counts as often as it is met; a slice's spare places count too). A statement '..UptoSaid' is the law's where the arguments, and the package variables that the reading takes, are together of bulk at most 1048576: NARROWER than '..Said'. Prove '..Said' where nothing that the law and all that it calls make is longer than what came in: it says more and counts as full. Else prove '..UptoSaid'. A law counts once. -/
mutual
def uptoBulk {H : Type} : DataW H → Nat
  | .lit (.string bytes) => bytes.length + 1
  | .lit _ => 1
  | .nil => 1
  | .ptr d => uptoBulk d + 1
  | .slice elems spare => uptoBulkAll elems + uptoBulkAll spare + 1
  | .agg parts => uptoBulkAll parts + 1
  | .iface _ d => uptoBulk d + 1
  | .map entries => uptoBulkEntries entries + 1
  | .held _ => 1
def uptoBulkAll {H : Type} : List (DataW H) → Nat
  | [] => 0
  | d :: r => uptoBulk d + uptoBulkAll r
def uptoBulkEntries {H : Type} : List (Lit × DataW H) → Nat
  | [] => 0
  | x :: r => uptoBulkEntry x + uptoBulkEntries r
def uptoBulkEntry {H : Type} : Lit × DataW H → Nat
  | (.string bytes, d) => bytes.length + uptoBulk d + 1
  | (_, d) => uptoBulk d + 1
 end
def uptoSmall : (H : Type) → List (DataW H) → Bool := fun _ ds => decide (uptoBulkAll ds ≤ 1048576)
def OpenSpec.upto (s : _root_.Go.ChangeSpec) : _root_.Go.OpenSpec := { _root_.Go.OpenSpec.ofChange s with cond := some uptoSmall }

/-- 'acequialaw30.DutiesSpec', WHERE WHAT IT READS IS OF BULK AT MOST 1048576: true; the input reads as it did. -/
def dutiesSpecUptoRow : OpenClaim := { program := "ytaggpjlkapnonaa", sum := "6782a036378ef1f7402ea340341061e2c7b16638257abd076cce30bf122f699a", func := "acequia/acequialaw30.DutiesSpec", spec := "dutiesSpec", unfollowed := true, recurses := true, plainKeys := false, apart := false, narrowed := true }
def DutiesSpecUptoSaid : Prop := dutiesSpecUptoRow.holds Try.pinned (OpenSpec.upto dutiesSpecSpec)

/-- 'acequialaw30.DutiesActiveSpec', WHERE WHAT IT READS IS OF BULK AT MOST 1048576: true; the input reads as it did. -/
def dutiesActiveSpecUptoRow : OpenClaim := { program := "ytaggpjlkapnonaa", sum := "6782a036378ef1f7402ea340341061e2c7b16638257abd076cce30bf122f699a", func := "acequia/acequialaw30.DutiesActiveSpec", spec := "dutiesActiveSpec", unfollowed := true, recurses := true, plainKeys := false, apart := false, narrowed := true }
def DutiesActiveSpecUptoSaid : Prop := dutiesActiveSpecUptoRow.holds Try.pinned (OpenSpec.upto dutiesActiveSpecSpec)

/-- 'acequialaw30.DutiesSuspend', WHERE WHAT IT READS IS OF BULK AT MOST 1048576: true; the input reads as it did. -/
def dutiesSuspendUptoRow : OpenClaim := { program := "ytaggpjlkapnonaa", sum := "6782a036378ef1f7402ea340341061e2c7b16638257abd076cce30bf122f699a", func := "acequia/acequialaw30.DutiesSuspend", spec := "dutiesSuspend", unfollowed := true, recurses := true, plainKeys := false, apart := false, narrowed := true }
def DutiesSuspendUptoSaid : Prop := dutiesSuspendUptoRow.holds Try.pinned (OpenSpec.upto dutiesSuspendSpec)

/-- 'acequialaw30.DutiesInTime', WHERE WHAT IT READS IS OF BULK AT MOST 1048576: true; the input reads as it did. -/
def dutiesInTimeUptoRow : OpenClaim := { program := "ytaggpjlkapnonaa", sum := "6782a036378ef1f7402ea340341061e2c7b16638257abd076cce30bf122f699a", func := "acequia/acequialaw30.DutiesInTime", spec := "dutiesInTime", unfollowed := true, recurses := true, plainKeys := false, apart := false, narrowed := true }
def DutiesInTimeUptoSaid : Prop := dutiesInTimeUptoRow.holds Try.pinned (OpenSpec.upto dutiesInTimeSpec)

/-- 'acequialaw30.DutiesKnown', WHERE WHAT IT READS IS OF BULK AT MOST 1048576: true; the input reads as it did. -/
def dutiesKnownUptoRow : OpenClaim := { program := "ytaggpjlkapnonaa", sum := "6782a036378ef1f7402ea340341061e2c7b16638257abd076cce30bf122f699a", func := "acequia/acequialaw30.DutiesKnown", spec := "dutiesKnown", unfollowed := true, recurses := true, plainKeys := false, apart := false, narrowed := true }
def DutiesKnownUptoSaid : Prop := dutiesKnownUptoRow.holds Try.pinned (OpenSpec.upto dutiesKnownSpec)

/-- 'acequialaw30.DutiesMore', WHERE WHAT IT READS IS OF BULK AT MOST 1048576: true; the input reads as it did. -/
def dutiesMoreUptoRow : OpenClaim := { program := "ytaggpjlkapnonaa", sum := "6782a036378ef1f7402ea340341061e2c7b16638257abd076cce30bf122f699a", func := "acequia/acequialaw30.DutiesMore", spec := "dutiesMore", unfollowed := true, recurses := true, plainKeys := false, apart := false, narrowed := true }
def DutiesMoreUptoSaid : Prop := dutiesMoreUptoRow.holds Try.pinned (OpenSpec.upto dutiesMoreSpec)

/-- 'acequialaw30.DutiesHours', WHERE WHAT IT READS IS OF BULK AT MOST 1048576: true; the input reads as it did. -/
def dutiesHoursUptoRow : OpenClaim := { program := "ytaggpjlkapnonaa", sum := "6782a036378ef1f7402ea340341061e2c7b16638257abd076cce30bf122f699a", func := "acequia/acequialaw30.DutiesHours", spec := "dutiesHours", unfollowed := true, recurses := true, plainKeys := false, apart := false, narrowed := true }
def DutiesHoursUptoSaid : Prop := dutiesHoursUptoRow.holds Try.pinned (OpenSpec.upto dutiesHoursSpec)

end Rows
end Go.Proofs.Ytaggpjlkapnonaa
