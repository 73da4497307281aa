/-
  Who is needed for what really happened is named, and the cheapest measurements lead to it: the statement TopMissing, as a tied card, with no condition.
-/
import Derived.Test.YtofkhhokaalknaaGreatDoorRows
import Derived.Test.YtofkhhokaalknaaGreatDoorTie
import Derived.Test.YtofkhhokaalknaaGreatDoorCards
import Derived.Test.YtofkhhokaalknaaGreatDoorGd
import Derived.Test.YtofkhhokaalknaaGreatDoorE30h
import Derived.ProofKit
import Derived.LaidMore
import Derived.OpenShut
import Derived.Stop.Joined
import Derived.SevenTiedAt
set_option linter.unusedSimpArgs false
set_option linter.unusedVariables false
set_option linter.unusedSectionVars false
namespace Go.Proofs.YtofkhhokaalknaaGreatDoor
open Go GoV Go.ChangeShapes Go.WideShapes Go.ChangeAt Go.RowKit
set_option maxRecDepth 100000
theorem Tryz.own : ownKnob Tryz.prog.godebug = Option.none:=by kernel_rfl
theorem Tryz.laidOut : laidOutB Tryz.prog = true:=by kernel_rfl
theorem law_lifted (os : Os) (started : os.Started) (H : Type) (enc : TypeId × Value → H) :
    ReturnsInHanded {} Tryz.checked os 3 .any (fun w args => (Rows.topMissingSpec.pre enc Tryz.prog Tryz.f3 [] false w args ∧ laidMetH Tryz.prog laidS w) ∧ sizedMet enc Tryz.prog Tryz.f3 (OpenSpec.ofChange Rows.topMissingSpec) false w args)
      (Rows.topMissingSpec.post enc Tryz.prog Tryz.f3 false true false false):=by
  refine returnsInHanded_of_change_and (C:=Tryz.checked) (X:=fun w _ => laidMetH Tryz.prog laidS w) (fun _ _ _ hh h => h.of_heap hh) Tryz.own started (by kernel_rfl) Tryz.func3
    (ChangeSpec.witness_shaped (enc:=enc) (C:=Tryz.checked) (os:=os) (X:=fun w _ => laidMetH Tryz.prog laidS w) false (World.doorLaid Tryz.prog 400 os) #[.agg #[.string .empty,.int .i64 0,.int .i64 0,.int .i64 0,.slice none 0 0,.slice none 0 0,.slice none 0 0,.slice none 0 0,.slice none 0 0,.slice none 0 0],.agg #[.slice none 0 0,.slice none 0 0],.slice none 0 0,.slice none 0 0,.slice none 0 0] 8 rfl (World.shaped_of_RefB (by kernel_rfl) (by kernel_rfl)) (by kernel_rfl) (by kernel_rfl) (by kernel_rfl) (door_met os _)) ?_
  intro W base args ds gs before hval0 hW hcnd _ hL _
  haveI : Laid W:=laid_of hL
  refine law_calls (N:=NN) (g:=7) (pol:=pol) (tb:=4) rfl Tryz.laidOut (of_decide_eq_true (by kernel_rfl)) rfl Tryz.underlying4 ?_ ?_ hval0 hW
  · intro ds hds
    match ds,hds with
    | [d1,d2,d3,d4,d5],_ => exact ⟨rfl,rfl,rfl⟩
  · rintro pvs h
    obtain ⟨_,_,rfl,h1,_,_,rfl,h2,_,_,rfl,h3,_,_,rfl,h4,_,_,rfl,h5,rfl⟩:=h
    obtain ⟨D,ws,e,hr⟩:=sh_dis h1
    obtain ⟨X,ex⟩:=sh_evd h2
    obtain ⟨set,rfl,_⟩:=sh_ints h3
    obtain ⟨l,rfl⟩:=sh_trus h4
    obtain ⟨ps,rfl,hpl,hrv⟩:=sh_prbs h5
    rw [agg_dis,agg_evd,agg_sl.1,agg_sl.2.1,agg_sl.2.2]
    exact (congrArg (fun v => ap Tryz.prog pol 3 [v,_,_,_,_]) e).trans ((congrArg (fun v => ap Tryz.prog pol 3 [dv D ws,v,_,_,_]) ex).trans (w_missing hr ws X set l ps (by unfold maxLen at hpl; omega) fun p hp => ⟨(hrv p hp).1,by have:=(hrv p hp).2; unfold maxLen at this; omega⟩))
theorem law_said : Rows.TopMissingSaid:=
  OpenClaim.holds_of_wide 3 Tryz.f3 rfl rfl rfl rfl rfl rfl rfl ⟨rfl,rfl,rfl,rfl,rfl⟩ rfl rfl rfl rfl rfl (by kernel_rfl) Tryz.func3 (by kernel_rfl)
    (of_decide_eq_true (by kernel_rfl)) (by unfold Func.isWrapper; first | (rw [if_pos (by decide +kernel)]; kernel_rfl) | (rw [if_neg (by decide +kernel)]; exact ⟨rfl,rfl⟩))
    (fun os started H enc _ => law_lifted os started H enc)
theorem law_holds : Rows.TopMissingCardSaid:=
  Claim7.holds_tied_plain_at .later [] [.data,.data] true (true,"d659652d63ae3cb754d9d3cfcb0c7af6298d7b574da78d24f75782dee91f2d77") true
    law_said (fun _ h => by cases h) (by kernel_rfl) (fun _ h => by cases h) topMissing_row_tie rfl ⟨rfl,rfl⟩ (by kernel_rfl) rfl
    (fun f fn hf hfn => by
      obtain rfl : f = 3:=Option.some.inj ((show Tryz.prog.funcNamed "acequia/acequiatop.TopMissing" = some 3 by kernel_rfl).symm.trans hf) |>.symm
      obtain rfl : fn = Tryz.f3:=(Option.some.inj (Tryz.func3.symm.trans hfn)).symm
      exact ⟨by kernel_rfl,fun j t ht => by
        have hm : t ∈ ([31,35,36,37,38] : List Nat):=by
          have:=Array.mem_of_getElem? ht
          simpa [Tryz.params3] using this
        have hall : (([31,35,36,37,38] : List Nat).all fun u => !Tryz.prog.wantsStandIn u) = true:=by kernel_rfl
        exact (show Tryz.prog.wantsStandIn t = false by simpa using List.all_eq_true.1 hall t hm)⟩)
    (by kernel_rfl)
#print axioms law_holds
end Go.Proofs.YtofkhhokaalknaaGreatDoor
