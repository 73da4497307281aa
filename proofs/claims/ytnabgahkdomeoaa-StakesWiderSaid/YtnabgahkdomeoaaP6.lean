/-
  Wider bounds, greater rates and deposits, other forecasts: the statement StakesWider, with no condition.
-/
import Derived.Test.YtnabgahkdomeoaaRows
import Derived.Test.YtnabgahkdomeoaaC33
set_option linter.unusedSimpArgs false
set_option linter.unusedVariables false
set_option linter.unusedSectionVars false
namespace Go.Proofs.Ytnabgahkdomeoaa
open Go GoV Go.ChangeShapes Go.WideShapes Go.ChangeAt Go.RowKit
set_option maxRecDepth 100000

theorem Try.own : ownKnob Try.prog.godebug = none := by kernel_rfl
theorem Try.laidOut : laidOutB Try.prog = true := by kernel_rfl

theorem law_lifted (os : Os) (started : os.Started) (H : Type) (enc : TypeId × Value → H) :
    ReturnsInHanded {} Try.checked os 8 .any (Rows.stakesWiderSpec.pre6 enc Try.prog Try.f8 Rows.stakesWiderRow.domain false) (Rows.stakesWiderSpec.post enc Try.prog Try.f8 false true false false) := by
  refine returnsInHanded_of_change (C := Try.checked) Try.own started (by kernel_rfl) Try.func8
    (ChangeSpec.witness6 (enc := enc) (C := Try.checked) false ⟨#[], #[.slice none 0 0, .slice none 0 0, .int .i64 0, .int .i64 0, .int .i64 0, .int .i64 0], []⟩ 8 (by kernel_rfl) (by kernel_rfl) (by kernel_rfl) (by kernel_rfl)) ?_
  intro W base args ds gs before hval0 hW hcnd _
  haveI : Laid W := ⟨fun g i v h => by simp [globs] at h⟩
  refine law_calls (g := 6) (pol := pol) (tb := 4) rfl Try.laidOut (of_decide_eq_true (by kernel_rfl)) rfl Try.underlying4 ?_ ?_ hval0 hW
  · intro ds hds
    match ds, hds with
    | [d1, d2, d3, d4, d5, d6], _ => exact ⟨rfl, rfl, rfl⟩
  · rintro pvs h
    obtain ⟨_, _, rfl, h1, _, _, rfl, h2, _, _, rfl, h3, _, _, rfl, h4, _, _, rfl, h5, _, _, rfl, h6, rfl⟩ := h
    obtain ⟨l, rfl⟩ := sh_stakes h1
    obtain ⟨p, rfl⟩ := sh_pasts h2
    obtain ⟨i, rfl, _⟩ := sh_int h3
    obtain ⟨m, rfl, _⟩ := sh_int h4
    obtain ⟨rate, rfl, hr⟩ := sh_int h5
    obtain ⟨dep, rfl, hdp⟩ := sh_int h6
    rw [agg_stakes, agg_pasts, agg_int]
    exact w_wider l p i m rate dep hr hdp

theorem law_holds : Rows.StakesWiderSaid :=
  OpenClaim.holds_of_wide 8 Try.f8 rfl rfl rfl rfl rfl rfl rfl ⟨rfl, rfl, rfl, rfl, rfl⟩ rfl rfl rfl rfl rfl (by kernel_rfl) Try.func8 (by kernel_rfl)
    (of_decide_eq_true (by kernel_rfl)) (by unfold Func.isWrapper; first | (rw [if_pos (by decide +kernel)]; kernel_rfl) | (rw [if_neg (by decide +kernel)]; exact ⟨rfl, rfl⟩))
    (fun os started H enc _ => law_lifted os started H enc)
#print axioms law_holds
end Go.Proofs.Ytnabgahkdomeoaa
