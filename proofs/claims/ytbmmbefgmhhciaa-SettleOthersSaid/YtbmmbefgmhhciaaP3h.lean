/-
  A farm without an offer in the set keeps its money and its litres, and if an offer that is not in the set is taken back, all others pay the same: the statement SettleOthers, with no condition.
-/
import Derived.Test.YtbmmbefgmhhciaaRows
import Derived.Test.YtbmmbefgmhhciaaB18h
import Derived.Test.YtbmmbefgmhhciaaR2h
set_option linter.unusedSimpArgs false
set_option linter.unusedVariables false
set_option linter.unusedSectionVars false
namespace Go.Proofs.Ytbmmbefgmhhciaa
open Go GoV Go.ChangeShapes Go.WideShapes Go.ChangeAt Go.RowKit
set_option maxRecDepth 100000

theorem Try.own : ownKnob Try.prog.godebug = none := by kernel_rfl
theorem Try.laidOut : laidOutB Try.prog = true := by kernel_rfl

theorem law_lifted (os : Os) (started : os.Started) (H : Type) (enc : TypeId × Value → H) :
    ReturnsInHanded {} Try.checked os 5 .any (Rows.settleOthersSpec.pre6 enc Try.prog Try.f5 Rows.settleOthersRow.domain false) (Rows.settleOthersSpec.post enc Try.prog Try.f5 false true false false) := by
  refine returnsInHanded_of_change (C := Try.checked) Try.own started (by kernel_rfl) Try.func5
    (ChangeSpec.witness6 (enc := enc) (C := Try.checked) false ⟨#[], #[.agg #[.string .empty, .int .i64 0, .int .i64 0, .int .i64 0, .slice none 0 0, .slice none 0 0, .slice none 0 0, .slice none 0 0, .slice none 0 0, .slice none 0 0, .slice none 0 0, .int .i64 0, .int .i64 0, .slice none 0 0], .int .i64 0, .int .u8 0], []⟩ 8 (by kernel_rfl) (by kernel_rfl) (by kernel_rfl) (by kernel_rfl)) ?_
  intro W base args ds gs before hval0 hW hcnd _
  haveI : Laid W := ⟨fun g i v h => by simp [globs] at h⟩
  refine law_calls (N := NN) (g := 7) (pol := pol) (tb := 4) rfl Try.laidOut (of_decide_eq_true (by kernel_rfl)) rfl Try.underlying4 ?_ ?_ hval0 hW
  · intro ds hds
    match ds, hds with
    | [d1, d2, d3], _ => exact ⟨rfl, rfl, rfl⟩
  · rintro pvs h
    obtain ⟨_, _, rfl, h1, _, _, rfl, h2, _, _, rfl, h3, rfl⟩ := h
    obtain ⟨M, Ws, av, e, hr, hw, hA⟩ := sh_mkt h1
    have hv := opened_dv M.D hw av
    obtain ⟨set, rfl, hset⟩ := sh_int h2
    obtain ⟨k, rfl, hk⟩ := sh_u8 h3
    rw [agg_mkt, agg_int, agg_u8]
    exact (congrArg (fun v => ap Try.prog pol 5 [v, I set, .int .u8 k]) e).trans (w_others hr hv hA set k hk)

theorem law_holds : Rows.SettleOthersSaid :=
  OpenClaim.holds_of_wide 5 Try.f5 rfl rfl rfl rfl rfl rfl rfl ⟨rfl, rfl, rfl, rfl, rfl⟩ rfl rfl rfl rfl rfl (by kernel_rfl) Try.func5 (by kernel_rfl)
    (of_decide_eq_true (by kernel_rfl)) (by unfold Func.isWrapper; first | (rw [if_pos (by decide +kernel)]; kernel_rfl) | (rw [if_neg (by decide +kernel)]; exact ⟨rfl, rfl⟩))
    (fun os started H enc _ => law_lifted os started H enc)
#print axioms law_holds
end Go.Proofs.Ytbmmbefgmhhciaa
