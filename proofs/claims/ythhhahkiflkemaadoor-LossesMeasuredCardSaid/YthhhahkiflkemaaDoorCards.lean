/-
  DERIVED. GIVEN WITH THE SEED: THE CARDS: each row of YthhhahkiflkemaaDoorRows.lean that lists a variable, with what it lists TIED to the program's text (the seventh form; the later family's looks); each row that meets fmt, with fmt's text TOLD by the authors' own Lean function (tested against real Go, not proved from fmt's source: count such statements apart). THE CARD IS WHAT COUNTS. Prove the row's statement (the work); the ties are given (YthhhahkiflkemaaDoorTie.lean); close each card by the builder's one call (the guide's Derived/Test/ToyasCard.lean, 'card_holds'). Laid BY PROGRAM, IN A SANDBOX (cutbox-door.mjs). By AI agents, Wed Nov 11 2026. No macro, syntax, notation, axiom, sorry.
-/
import Derived.Test.YthhhahkiflkemaaDoorRows
import GoSem.ClaimSeven
namespace Go.Proofs.YthhhahkiflkemaaDoor
namespace Rows

/-- THE TIED CARD OF 'acequialaw21.LossesSurveySpec'. -/
def lossesSurveySpecCard : Claim7 := { stood := { row := lossesSurveySpecRow, standIns := [], harness := (true, "3ddc695a5bd923f0a4d6fc1198a5efdf94241d873793a619a176ca4f3ad307ff"), looks := false }, kinds := [], alts := [], laidByText := true, laidKinds := [.data], laidTests := true, laidLooks := .later }
def LossesSurveySpecCardSaid : Prop := Claim7.holds Tryd.pinned (.plain (OpenSpec.ofChange lossesSurveySpecSpec)) lossesSurveySpecCard

/-- THE TIED CARD OF 'acequialaw21.LossesSpec'. -/
def lossesSpecCard : Claim7 := { stood := { row := lossesSpecRow, standIns := [], harness := (true, "3ddc695a5bd923f0a4d6fc1198a5efdf94241d873793a619a176ca4f3ad307ff"), looks := false }, kinds := [], alts := [], laidByText := true, laidKinds := [.data], laidTests := true, laidLooks := .later }
def LossesSpecCardSaid : Prop := Claim7.holds Tryd.pinned (.plain (OpenSpec.ofChange lossesSpecSpec)) lossesSpecCard

/-- THE TIED CARD OF 'acequialaw21.LossesNeed'. -/
def lossesNeedCard : Claim7 := { stood := { row := lossesNeedRow, standIns := [], harness := (true, "3ddc695a5bd923f0a4d6fc1198a5efdf94241d873793a619a176ca4f3ad307ff"), looks := false }, kinds := [], alts := [], laidByText := true, laidKinds := [.data], laidTests := true, laidLooks := .later }
def LossesNeedCardSaid : Prop := Claim7.holds Tryd.pinned (.plain (OpenSpec.ofChange lossesNeedSpec)) lossesNeedCard

/-- THE TIED CARD OF 'acequialaw21.LossesWays'. -/
def lossesWaysCard : Claim7 := { stood := { row := lossesWaysRow, standIns := [], harness := (true, "3ddc695a5bd923f0a4d6fc1198a5efdf94241d873793a619a176ca4f3ad307ff"), looks := false }, kinds := [], alts := [], laidByText := true, laidKinds := [.data], laidTests := true, laidLooks := .later }
def LossesWaysCardSaid : Prop := Claim7.holds Tryd.pinned (.plain (OpenSpec.ofChange lossesWaysSpec)) lossesWaysCard

/-- THE TIED CARD OF 'acequialaw21.LossesMonotone'. -/
def lossesMonotoneCard : Claim7 := { stood := { row := lossesMonotoneRow, standIns := [], harness := (true, "3ddc695a5bd923f0a4d6fc1198a5efdf94241d873793a619a176ca4f3ad307ff"), looks := false }, kinds := [], alts := [], laidByText := true, laidKinds := [.data], laidTests := true, laidLooks := .later }
def LossesMonotoneCardSaid : Prop := Claim7.holds Tryd.pinned (.plain (OpenSpec.ofChange lossesMonotoneSpec)) lossesMonotoneCard

/-- THE TIED CARD OF 'acequialaw21.LossesTogether'. -/
def lossesTogetherCard : Claim7 := { stood := { row := lossesTogetherRow, standIns := [], harness := (true, "3ddc695a5bd923f0a4d6fc1198a5efdf94241d873793a619a176ca4f3ad307ff"), looks := false }, kinds := [], alts := [], laidByText := true, laidKinds := [.data], laidTests := true, laidLooks := .later }
def LossesTogetherCardSaid : Prop := Claim7.holds Tryd.pinned (.plain (OpenSpec.ofChange lossesTogetherSpec)) lossesTogetherCard

/-- THE TIED CARD OF 'acequialaw21.LossesMeasured'. -/
def lossesMeasuredCard : Claim7 := { stood := { row := lossesMeasuredRow, standIns := [], harness := (true, "3ddc695a5bd923f0a4d6fc1198a5efdf94241d873793a619a176ca4f3ad307ff"), looks := false }, kinds := [], alts := [], laidByText := true, laidKinds := [.data], laidTests := true, laidLooks := .later }
def LossesMeasuredCardSaid : Prop := Claim7.holds Tryd.pinned (.plain (OpenSpec.ofChange lossesMeasuredSpec)) lossesMeasuredCard

/-- THE TIED CARD OF 'acequialaw21.LossesSurveyed'. -/
def lossesSurveyedCard : Claim7 := { stood := { row := lossesSurveyedRow, standIns := [], harness := (true, "3ddc695a5bd923f0a4d6fc1198a5efdf94241d873793a619a176ca4f3ad307ff"), looks := false }, kinds := [], alts := [], laidByText := true, laidKinds := [.data], laidTests := true, laidLooks := .later }
def LossesSurveyedCardSaid : Prop := Claim7.holds Tryd.pinned (.plain (OpenSpec.ofChange lossesSurveyedSpec)) lossesSurveyedCard

/-- THE SECOND FORM's CARD OF 'acequialaw21.LossesSurveySpec'. -/
def lossesSurveySpecUptoCard : Claim7 := { stood := { row := lossesSurveySpecUptoRow, standIns := [], harness := (true, "3ddc695a5bd923f0a4d6fc1198a5efdf94241d873793a619a176ca4f3ad307ff"), looks := false }, kinds := [], alts := [], laidByText := true, laidKinds := [.data], laidTests := true, laidLooks := .later }
def LossesSurveySpecUptoCardSaid : Prop := Claim7.holds Tryd.pinned (.plain (OpenSpec.upto lossesSurveySpecSpec)) lossesSurveySpecUptoCard

/-- THE SECOND FORM's CARD OF 'acequialaw21.LossesSpec'. -/
def lossesSpecUptoCard : Claim7 := { stood := { row := lossesSpecUptoRow, standIns := [], harness := (true, "3ddc695a5bd923f0a4d6fc1198a5efdf94241d873793a619a176ca4f3ad307ff"), looks := false }, kinds := [], alts := [], laidByText := true, laidKinds := [.data], laidTests := true, laidLooks := .later }
def LossesSpecUptoCardSaid : Prop := Claim7.holds Tryd.pinned (.plain (OpenSpec.upto lossesSpecSpec)) lossesSpecUptoCard

/-- THE SECOND FORM's CARD OF 'acequialaw21.LossesNeed'. -/
def lossesNeedUptoCard : Claim7 := { stood := { row := lossesNeedUptoRow, standIns := [], harness := (true, "3ddc695a5bd923f0a4d6fc1198a5efdf94241d873793a619a176ca4f3ad307ff"), looks := false }, kinds := [], alts := [], laidByText := true, laidKinds := [.data], laidTests := true, laidLooks := .later }
def LossesNeedUptoCardSaid : Prop := Claim7.holds Tryd.pinned (.plain (OpenSpec.upto lossesNeedSpec)) lossesNeedUptoCard

/-- THE SECOND FORM's CARD OF 'acequialaw21.LossesWays'. -/
def lossesWaysUptoCard : Claim7 := { stood := { row := lossesWaysUptoRow, standIns := [], harness := (true, "3ddc695a5bd923f0a4d6fc1198a5efdf94241d873793a619a176ca4f3ad307ff"), looks := false }, kinds := [], alts := [], laidByText := true, laidKinds := [.data], laidTests := true, laidLooks := .later }
def LossesWaysUptoCardSaid : Prop := Claim7.holds Tryd.pinned (.plain (OpenSpec.upto lossesWaysSpec)) lossesWaysUptoCard

/-- THE SECOND FORM's CARD OF 'acequialaw21.LossesMonotone'. -/
def lossesMonotoneUptoCard : Claim7 := { stood := { row := lossesMonotoneUptoRow, standIns := [], harness := (true, "3ddc695a5bd923f0a4d6fc1198a5efdf94241d873793a619a176ca4f3ad307ff"), looks := false }, kinds := [], alts := [], laidByText := true, laidKinds := [.data], laidTests := true, laidLooks := .later }
def LossesMonotoneUptoCardSaid : Prop := Claim7.holds Tryd.pinned (.plain (OpenSpec.upto lossesMonotoneSpec)) lossesMonotoneUptoCard

/-- THE SECOND FORM's CARD OF 'acequialaw21.LossesTogether'. -/
def lossesTogetherUptoCard : Claim7 := { stood := { row := lossesTogetherUptoRow, standIns := [], harness := (true, "3ddc695a5bd923f0a4d6fc1198a5efdf94241d873793a619a176ca4f3ad307ff"), looks := false }, kinds := [], alts := [], laidByText := true, laidKinds := [.data], laidTests := true, laidLooks := .later }
def LossesTogetherUptoCardSaid : Prop := Claim7.holds Tryd.pinned (.plain (OpenSpec.upto lossesTogetherSpec)) lossesTogetherUptoCard

/-- THE SECOND FORM's CARD OF 'acequialaw21.LossesMeasured'. -/
def lossesMeasuredUptoCard : Claim7 := { stood := { row := lossesMeasuredUptoRow, standIns := [], harness := (true, "3ddc695a5bd923f0a4d6fc1198a5efdf94241d873793a619a176ca4f3ad307ff"), looks := false }, kinds := [], alts := [], laidByText := true, laidKinds := [.data], laidTests := true, laidLooks := .later }
def LossesMeasuredUptoCardSaid : Prop := Claim7.holds Tryd.pinned (.plain (OpenSpec.upto lossesMeasuredSpec)) lossesMeasuredUptoCard

/-- THE SECOND FORM's CARD OF 'acequialaw21.LossesSurveyed'. -/
def lossesSurveyedUptoCard : Claim7 := { stood := { row := lossesSurveyedUptoRow, standIns := [], harness := (true, "3ddc695a5bd923f0a4d6fc1198a5efdf94241d873793a619a176ca4f3ad307ff"), looks := false }, kinds := [], alts := [], laidByText := true, laidKinds := [.data], laidTests := true, laidLooks := .later }
def LossesSurveyedUptoCardSaid : Prop := Claim7.holds Tryd.pinned (.plain (OpenSpec.upto lossesSurveyedSpec)) lossesSurveyedUptoCard
end Rows
end Go.Proofs.YthhhahkiflkemaaDoor
