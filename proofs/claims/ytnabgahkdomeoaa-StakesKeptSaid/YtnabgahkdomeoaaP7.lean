/-
  Bounds that held cost nothing, broken ones are paid for: the statement StakesKept, with no condition.
-/
import Derived.Test.YtnabgahkdomeoaaRows
import Derived.Test.YtnabgahkdomeoaaC34
set_option linter.unusedSimpArgs false
set_option linter.unusedVariables false
set_option linter.unusedSectionVars false
namespace Go.Proofs.Ytnabgahkdomeoaa
open Go GoV Go.ChangeShapes Go.WideShapes Go.ChangeAt Go.RowKit
set_option maxRecDepth 100000

theorem Try.own : ownKnob Try.prog.godebug = none := by kernel_rfl
theorem Try.laidOut : laidOutB Try.prog = true := by kernel_rfl

theorem law_lifted (os : Os) (started : os.Started) (H : Type) (enc : TypeId × Value → H) :
    ReturnsInHanded {} Try.checked os 9 .any (Rows.stakesKeptSpec.pre6 enc Try.prog Try.f9 Rows.stakesKeptRow.domain false) (Rows.stakesKeptSpec.post enc Try.prog Try.f9 false true false false) := by
  refine returnsInHanded_of_change (C := Try.checked) Try.own started (by kernel_rfl) Try.func9
    (ChangeSpec.witness6 (enc := enc) (C := Try.checked) false ⟨#[], #[.slice none 0 0, .slice none 0 0], []⟩ 8 (by kernel_rfl) (by kernel_rfl) (by kernel_rfl) (by kernel_rfl)) ?_
  intro W base args ds gs before hval0 hW hcnd _
  haveI : Laid W := ⟨fun g i v h => by simp [globs] at h⟩
  refine law_calls (g := 6) (pol := pol) (tb := 4) rfl Try.laidOut (of_decide_eq_true (by kernel_rfl)) rfl Try.underlying4 ?_ ?_ hval0 hW
  · intro ds hds
    match ds, hds with
    | [d1, d2], _ => exact ⟨rfl, rfl, rfl⟩
  · rintro pvs h
    obtain ⟨_, _, rfl, h1, _, _, rfl, h2, rfl⟩ := h
    obtain ⟨l, rfl⟩ := sh_stakes h1
    obtain ⟨p, rfl⟩ := sh_pasts h2
    rw [agg_stakes, agg_pasts]
    exact w_kept l p

theorem law_holds : Rows.StakesKeptSaid :=
  OpenClaim.holds_of_wide 9 Try.f9 rfl rfl rfl rfl rfl rfl rfl ⟨rfl, rfl, rfl, rfl, rfl⟩ rfl rfl rfl rfl rfl (by kernel_rfl) Try.func9 (by kernel_rfl)
    (of_decide_eq_true (by kernel_rfl)) (by unfold Func.isWrapper; first | (rw [if_pos (by decide +kernel)]; kernel_rfl) | (rw [if_neg (by decide +kernel)]; exact ⟨rfl, rfl⟩))
    (fun os started H enc _ => law_lifted os started H enc)
#print axioms law_holds
end Go.Proofs.Ytnabgahkdomeoaa
