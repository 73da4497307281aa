/-
  For all markets and sets, Pay and Books of package settle match the specification: the statement SettleSpec, with no condition.
-/
import Derived.Test.YtbmmbefgmhhciaaGreatRows
import Derived.Test.YtbmmbefgmhhciaaGreatY14h
import Derived.Test.YtbmmbefgmhhciaaGreatGd
set_option linter.unusedSimpArgs false
set_option linter.unusedVariables false
set_option linter.unusedSectionVars false
namespace Go.Proofs.YtbmmbefgmhhciaaGreat
open Go GoV Go.ChangeShapes Go.WideShapes Go.ChangeAt Go.RowKit
set_option maxRecDepth 100000
theorem Tryz.own : ownKnob Tryz.prog.godebug = none:=by kernel_rfl
theorem Tryz.laidOut : laidOutB Tryz.prog = true:=by kernel_rfl
theorem law_lifted (os : Os) (started : os.Started) (H : Type) (enc : TypeId × Value → H) :
    ReturnsInHanded {} Tryz.checked os 3 .any (Rows.settleSpecSpec.pre6 enc Tryz.prog Tryz.f3 Rows.settleSpecRow.domain false) (Rows.settleSpecSpec.post enc Tryz.prog Tryz.f3 false true false false):=by
  refine returnsInHanded_of_change (C:=Tryz.checked) Tryz.own started (by kernel_rfl) Tryz.func3
    (ChangeSpec.witness6 (enc:=enc) (C:=Tryz.checked) false ⟨#[],#[.agg #[.string .empty,.int .i64 0,.int .i64 0,.int .i64 0,.slice none 0 0,.slice none 0 0,.slice none 0 0,.slice none 0 0,.slice none 0 0,.slice none 0 0,.slice none 0 0,.int .i64 0,.int .i64 0,.slice none 0 0],.int .i64 0],[]⟩ 8 (by kernel_rfl) (by kernel_rfl) (by kernel_rfl) (by kernel_rfl)) ?_
  intro W base args ds gs before hval0 hW hcnd _
  haveI : Laid W:=⟨fun g i v h => by simp [globs] at h⟩
  refine law_calls (N:=NN) (g:=7) (pol:=pol) (tb:=4) rfl Tryz.laidOut (of_decide_eq_true (by kernel_rfl)) rfl Tryz.underlying4 ?_ ?_ hval0 hW
  · intro ds hds
    match ds,hds with
    | [d1,d2],_ => exact ⟨rfl,rfl,rfl⟩
  · rintro pvs h
    obtain ⟨_,_,rfl,h1,_,_,rfl,h2,rfl⟩:=h
    obtain ⟨M,Ws,av,e,hr,hw,hA⟩:=sh_mkt h1
    have hv:=opened_dv M.D hw av
    obtain ⟨set,rfl,hset⟩:=sh_int h2
    rw [agg_mkt,agg_int]
    exact (congrArg (fun v => ap Tryz.prog pol 3 [v,I set]) e).trans (w_spec hr hA hv (opened_sws hw) set)
theorem law_holds : Rows.SettleSpecSaid:=
  OpenClaim.holds_of_wide 3 Tryz.f3 rfl rfl rfl rfl rfl rfl rfl ⟨rfl,rfl,rfl,rfl,rfl⟩ rfl rfl rfl rfl rfl (by kernel_rfl) Tryz.func3 (by kernel_rfl)
    (of_decide_eq_true (by kernel_rfl)) (by unfold Func.isWrapper; first | (rw [if_pos (by decide +kernel)]; kernel_rfl) | (rw [if_neg (by decide +kernel)]; exact ⟨rfl,rfl⟩))
    (fun os started H enc _ => law_lifted os started H enc)
#print axioms law_holds
end Go.Proofs.YtbmmbefgmhhciaaGreat
