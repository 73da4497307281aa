/-
  A further entry makes no duty overdue, suspends no claim, and increases no fine: the statement DutiesMore, with no condition.
-/
import Derived.Test.YtaggpjlkapnonaaRows
import Derived.Test.YtaggpjlkapnonaaC28
import Derived.Test.YtaggpjlkapnonaaR1
set_option linter.unusedSimpArgs false
set_option linter.unusedVariables false
set_option linter.unusedSectionVars false
namespace Go.Proofs.Ytaggpjlkapnonaa
open Go GoV Go.ChangeShapes Go.WideShapes Go.ChangeAt Go.RowKit
set_option maxRecDepth 100000

theorem Try.own : ownKnob Try.prog.godebug = none := by kernel_rfl
theorem Try.laidOut : laidOutB Try.prog = true := by kernel_rfl

theorem law_lifted (os : Os) (started : os.Started) (H : Type) (enc : TypeId × Value → H) :
    ReturnsInHanded {} Try.checked os 8 .any (Rows.dutiesMoreSpec.pre6 enc Try.prog Try.f8 Rows.dutiesMoreRow.domain false) (Rows.dutiesMoreSpec.post enc Try.prog Try.f8 false true false false) := by
  refine returnsInHanded_of_change (C := Try.checked) Try.own started (by kernel_rfl) Try.func8
    (ChangeSpec.witness6 (enc := enc) (C := Try.checked) false ⟨#[], #[.agg #[.string .empty, .int .i64 0, .int .i64 0, .int .i64 0, .slice none 0 0, .slice none 0 0, .slice none 0 0, .slice none 0 0, .slice none 0 0, .slice none 0 0], .slice none 0 0, .agg #[.int .i64 0, .int .i64 0, .int .i64 0, .int .i64 0], .slice none 0 0, .int .i64 0, .int .i64 0, .int .i64 0, .int .i64 0], []⟩ 8 (by kernel_rfl) (by kernel_rfl) (by kernel_rfl) (by kernel_rfl)) ?_
  intro W base args ds gs before hval0 hW hcnd _
  haveI : Laid W := ⟨fun g i v h => by simp [globs] at h⟩
  refine law_calls (g := 6) (pol := pol) (tb := 4) rfl Try.laidOut (of_decide_eq_true (by kernel_rfl)) rfl Try.underlying4 ?_ ?_ hval0 hW
  · intro ds hds
    match ds, hds with
    | [d1, d2, d3, d4, d5, d6, d7, d8], _ => exact ⟨rfl, rfl, rfl⟩
  · rintro pvs h
    obtain ⟨_, _, rfl, h1, _, _, rfl, h2, _, _, rfl, h3, _, _, rfl, h4, _, _, rfl, h5, _, _, rfl, h6, _, _, rfl, h7, _, _, rfl, h8, rfl⟩ := h
    obtain ⟨D, ws, e, hr⟩ := sh_dist h1
    obtain ⟨l, rfl⟩ := sh_dons h2
    obtain ⟨x, ex⟩ := sh_don h3
    obtain ⟨cl, rfl⟩ := sh_clms h4
    obtain ⟨f, rfl, _⟩ := sh_int h5
    obtain ⟨h, rfl, _⟩ := sh_int h6
    obtain ⟨kn, rfl, _⟩ := sh_int h7
    obtain ⟨rate, rfl, _⟩ := sh_int h8
    rw [agg_dist, agg_dons, agg_don, agg_clms, agg_int]
    exact (congr (congrArg (fun v u => ap Try.prog pol 8 [v, .vs 4 (l.map don) none, u, .vs 5 (cl.map clm) none, I f, I h, I kn, I rate]) e) ex).trans (w_more D ws hr l x cl f h kn rate)

theorem law_holds : Rows.DutiesMoreSaid :=
  OpenClaim.holds_of_wide 8 Try.f8 rfl rfl rfl rfl rfl rfl rfl ⟨rfl, rfl, rfl, rfl, rfl⟩ rfl rfl rfl rfl rfl (by kernel_rfl) Try.func8 (by kernel_rfl)
    (of_decide_eq_true (by kernel_rfl)) (by unfold Func.isWrapper; first | (rw [if_pos (by decide +kernel)]; kernel_rfl) | (rw [if_neg (by decide +kernel)]; exact ⟨rfl, rfl⟩))
    (fun os started H enc _ => law_lifted os started H enc)
#print axioms law_holds
end Go.Proofs.Ytaggpjlkapnonaa
