/-
  DERIVED. GIVEN WITH THE SEED: THE CARDS: each row of YtofkhhokaalknaaGreatDoorRows.lean that lists a variable, with what it lists TIED to the program's text (the seventh form; the later family's looks); each row that meets fmt, with fmt's text TOLD by the authors' own Lean function (tested against real Go, not proved from fmt's source: count such statements apart). THE CARD IS WHAT COUNTS. Prove the row's statement (the work); the ties are given (YtofkhhokaalknaaGreatDoorTie.lean); close each card by the builder's one call (the guide's Derived/Test/ToyasCard.lean, 'card_holds'). Laid BY PROGRAM, IN A SANDBOX (cutbox-door.mjs). By AI agents, Wed Nov 11 2026. No macro, syntax, notation, axiom, sorry.
-/
import Derived.Test.YtofkhhokaalknaaGreatDoorRows
import GoSem.ClaimSeven
namespace Go.Proofs.YtofkhhokaalknaaGreatDoor
namespace Rows

/-- THE TIED CARD OF 'acequiatop.TopMissing'. -/
def topMissingCard : Claim7 := { stood := { row := topMissingRow, standIns := [], harness := (true, "d659652d63ae3cb754d9d3cfcb0c7af6298d7b574da78d24f75782dee91f2d77"), looks := true }, kinds := [], alts := [], laidByText := true, laidKinds := [.data, .data], laidTests := true, laidLooks := .later }
def TopMissingCardSaid : Prop := Claim7.holds Tryz.pinned (.plain (OpenSpec.ofChange topMissingSpec)) topMissingCard

/-- THE SECOND FORM's CARD OF 'acequiatop.TopMissing'. -/
def topMissingUptoCard : Claim7 := { stood := { row := topMissingUptoRow, standIns := [], harness := (true, "d659652d63ae3cb754d9d3cfcb0c7af6298d7b574da78d24f75782dee91f2d77"), looks := true }, kinds := [], alts := [], laidByText := true, laidKinds := [.data, .data], laidTests := true, laidLooks := .later }
def TopMissingUptoCardSaid : Prop := Claim7.holds Tryz.pinned (.plain (OpenSpec.upto topMissingSpec)) topMissingUptoCard
end Rows
end Go.Proofs.YtofkhhokaalknaaGreatDoor
