/-
  The fine of a farm is the rate for each of its overdue duties in each hour: the statement DutiesHours, with no condition.
-/
import Derived.Test.YtaggpjlkapnonaaRows
import Derived.Test.YtaggpjlkapnonaaC29
import Derived.Test.YtaggpjlkapnonaaR1
set_option linter.unusedSimpArgs false
set_option linter.unusedVariables false
set_option linter.unusedSectionVars false
namespace Go.Proofs.Ytaggpjlkapnonaa
open Go GoV Go.ChangeShapes Go.WideShapes Go.ChangeAt Go.RowKit
set_option maxRecDepth 100000

theorem Try.own : ownKnob Try.prog.godebug = none := by kernel_rfl
theorem Try.laidOut : laidOutB Try.prog = true := by kernel_rfl

theorem law_lifted (os : Os) (started : os.Started) (H : Type) (enc : TypeId × Value → H) :
    ReturnsInHanded {} Try.checked os 9 .any (Rows.dutiesHoursSpec.pre6 enc Try.prog Try.f9 Rows.dutiesHoursRow.domain false) (Rows.dutiesHoursSpec.post enc Try.prog Try.f9 false true false false) := by
  refine returnsInHanded_of_change (C := Try.checked) Try.own started (by kernel_rfl) Try.func9
    (ChangeSpec.witness6 (enc := enc) (C := Try.checked) false ⟨#[], #[.agg #[.string .empty, .int .i64 0, .int .i64 0, .int .i64 0, .slice none 0 0, .slice none 0 0, .slice none 0 0, .slice none 0 0, .slice none 0 0, .slice none 0 0], .slice none 0 0, .int .i64 0, .int .i64 0, .int .i64 0], []⟩ 8 (by kernel_rfl) (by kernel_rfl) (by kernel_rfl) (by kernel_rfl)) ?_
  intro W base args ds gs before hval0 hW hcnd _
  haveI : Laid W := ⟨fun g i v h => by simp [globs] at h⟩
  refine law_calls (g := 6) (pol := pol) (tb := 4) rfl Try.laidOut (of_decide_eq_true (by kernel_rfl)) rfl Try.underlying4 ?_ ?_ hval0 hW
  · intro ds hds
    match ds, hds with
    | [d1, d2, d3, d4, d5], _ => exact ⟨rfl, rfl, rfl⟩
  · rintro pvs h
    obtain ⟨_, _, rfl, h1, _, _, rfl, h2, _, _, rfl, h3, _, _, rfl, h4, _, _, rfl, h5, rfl⟩ := h
    obtain ⟨D, ws, e, hr⟩ := sh_dist h1
    obtain ⟨l, rfl⟩ := sh_dons h2
    obtain ⟨f, rfl, _⟩ := sh_int h3
    obtain ⟨kn, rfl, _⟩ := sh_int h4
    obtain ⟨rate, rfl, _⟩ := sh_int h5
    rw [agg_dist, agg_dons, agg_int]
    exact (congrArg (fun v => ap Try.prog pol 9 [v, .vs 4 (l.map don) none, I f, I kn, I rate]) e).trans (w_hours D ws hr l f kn rate)

theorem law_holds : Rows.DutiesHoursSaid :=
  OpenClaim.holds_of_wide 9 Try.f9 rfl rfl rfl rfl rfl rfl rfl ⟨rfl, rfl, rfl, rfl, rfl⟩ rfl rfl rfl rfl rfl (by kernel_rfl) Try.func9 (by kernel_rfl)
    (of_decide_eq_true (by kernel_rfl)) (by unfold Func.isWrapper; first | (rw [if_pos (by decide +kernel)]; kernel_rfl) | (rw [if_neg (by decide +kernel)]; exact ⟨rfl, rfl⟩))
    (fun os started H enc _ => law_lifted os started H enc)
#print axioms law_holds
end Go.Proofs.Ytaggpjlkapnonaa
