/-
  A further measurement of a pan and of a pond never widens what package losses surveys: the statement LossesMeasured, as a tied card, with no condition.
-/
import Derived.Test.YthhhahkiflkemaaDoorRows
import Derived.Test.YthhhahkiflkemaaDoorTie
import Derived.Test.YthhhahkiflkemaaDoorCards
import Derived.Test.YthhhahkiflkemaaDoorC13
import Derived.Test.YthhhahkiflkemaaDoorC14
import Derived.Test.YthhhahkiflkemaaDoorC18
import Derived.ProofKit
import Derived.LaidMore
import Derived.OpenShut
import Derived.Stop.Joined
import Derived.SevenTiedAt
set_option linter.unusedSimpArgs false
set_option linter.unusedVariables false
set_option linter.unusedSectionVars false
namespace Go.Proofs.YthhhahkiflkemaaDoor
open Go GoV Go.ChangeShapes Go.WideShapes Go.ChangeAt Go.RowKit
set_option maxRecDepth 100000

theorem Tryd.own : ownKnob Tryd.prog.godebug = Option.none := by kernel_rfl
theorem Tryd.laidOut : laidOutB Tryd.prog = true := by kernel_rfl

theorem law_lifted (os : Os) (started : os.Started) (H : Type) (enc : TypeId × Value → H) :
    ReturnsInHanded {} Tryd.checked os 9 .any (fun w args => (Rows.lossesMeasuredSpec.pre enc Tryd.prog Tryd.f9 [] false w args ∧ laidMetH Tryd.prog laidS w) ∧ sizedMet enc Tryd.prog Tryd.f9 (OpenSpec.ofChange Rows.lossesMeasuredSpec) false w args)
      (Rows.lossesMeasuredSpec.post enc Tryd.prog Tryd.f9 false true false false) := by
  refine returnsInHanded_of_change_and (C := Tryd.checked) (X := fun w _ => laidMetH Tryd.prog laidS w) (fun _ _ _ hh h => h.of_heap hh) Tryd.own started (by kernel_rfl) Tryd.func9
    (ChangeSpec.witness_shaped (enc := enc) (C := Tryd.checked) (os := os) (X := fun w _ => laidMetH Tryd.prog laidS w) false (World.doorLaid Tryd.prog 400 os) #[.agg #[.int .i64 0, .int .i64 0, .int .i64 0, .int .i64 0, .int .i64 0, .int .i64 0, .slice none 0 0, .slice none 0 0], .agg #[.int .i64 0, .int .i64 0], .agg #[.int .i64 0, .int .i64 0, .int .i64 0, .int .i64 0], .int .i64 0] 8 rfl (World.shaped_of_RefB (by kernel_rfl) (by kernel_rfl)) (by kernel_rfl) (by kernel_rfl) (by kernel_rfl) (door_met os _)) ?_
  intro W base args ds gs before hval0 hW hcnd _ hL _
  haveI : Laid W := laid_of hL
  refine law_calls (g := 6) (pol := pol) (tb := 4) rfl Tryd.laidOut (of_decide_eq_true (by kernel_rfl)) rfl Tryd.underlying4 ?_ ?_ hval0 hW
  · intro ds hds
    match ds, hds with
    | [d1, d2, d3, d4], _ => exact ⟨rfl, rfl, rfl⟩
  · rintro pvs h
    obtain ⟨_, _, rfl, h1, _, _, rfl, h2, _, _, rfl, h3, _, _, rfl, h4, rfl⟩ := h
    obtain ⟨S, e, hS⟩ := sh_srv h1
    obtain ⟨x, ex⟩ := sh_rg h2
    obtain ⟨y, ey⟩ := sh_pnd h3
    obtain ⟨a, rfl, ha⟩ := sh_int h4
    rw [agg_srv, agg_pan, agg_pond, agg_int]
    exact (congrArg (fun v => ap Tryd.prog pol 9 [v, _, _, I a]) e).trans ((congrArg (fun v => ap Tryd.prog pol 9 [srv S none none, v, _, I a]) ex).trans ((congrArg (fun v => ap Tryd.prog pol 9 [srv S none none, rg x, v, I a]) ey).trans (w_measured S hS x y a)))

theorem law_said : Rows.LossesMeasuredSaid :=
  OpenClaim.holds_of_wide 9 Tryd.f9 rfl rfl rfl rfl rfl rfl rfl ⟨rfl, rfl, rfl, rfl, rfl⟩ rfl rfl rfl rfl rfl (by kernel_rfl) Tryd.func9 (by kernel_rfl)
    (of_decide_eq_true (by kernel_rfl)) (by unfold Func.isWrapper; first | (rw [if_pos (by decide +kernel)]; kernel_rfl) | (rw [if_neg (by decide +kernel)]; exact ⟨rfl, rfl⟩))
    (fun os started H enc _ => law_lifted os started H enc)

theorem law_holds : Rows.LossesMeasuredCardSaid :=
  Claim7.holds_tied_plain_at .later [] [.data] true (true, "3ddc695a5bd923f0a4d6fc1198a5efdf94241d873793a619a176ca4f3ad307ff") false
    law_said (fun _ h => by cases h) (by kernel_rfl) (fun _ h => by cases h) lossesMeasured_row_tie rfl ⟨rfl, rfl⟩ (by kernel_rfl) rfl
    (fun f fn hf hfn => by
      obtain rfl : f = 9 := Option.some.inj ((show Tryd.prog.funcNamed "acequia/acequialaw21.LossesMeasured" = some 9 by kernel_rfl).symm.trans hf) |>.symm
      obtain rfl : fn = Tryd.f9 := (Option.some.inj (Tryd.func9.symm.trans hfn)).symm
      exact ⟨by kernel_rfl, fun j t ht => by
        have hm : t ∈ ([28, 48, 50, 3] : List Nat) := by
          have := Array.mem_of_getElem? ht
          simpa [Tryd.params9] using this
        have hall : (([28, 48, 50, 3] : List Nat).all fun u => !Tryd.prog.wantsStandIn u) = true := by kernel_rfl
        exact (show Tryd.prog.wantsStandIn t = false by simpa using List.all_eq_true.1 hall t hm)⟩)
    (by kernel_rfl)
#print axioms law_holds
end Go.Proofs.YthhhahkiflkemaaDoor
