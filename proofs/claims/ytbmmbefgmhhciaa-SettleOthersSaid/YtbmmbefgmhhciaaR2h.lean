/-
  Readings of small numbers.
-/
import Derived.Test.YtbmmbefgmhhciaaGd
set_option linter.unusedSimpArgs false
set_option linter.unusedVariables false
set_option linter.unusedSectionVars false
namespace Go.Proofs.Ytbmmbefgmhhciaa
open Go GoV
set_option maxRecDepth 100000

theorem sh_u8 {g : Nat} {cs : List PV} (h : Sh NN Try.prog (g + 1) 5 cs) : ∃ n, cs = [.int .u8 n] ∧ 0 ≤ n ∧ n ≤ 255 := by
  simp only [Sh, Try.underlying5] at h
  obtain ⟨n, rfl, w⟩ := h
  have := wf_bd w
  simp [IntKind.min, IntKind.max, IntKind.bits, IntKind.signed] at this
  exact ⟨n, rfl, this⟩
theorem agg_u8 : aggB Try.prog 5 = false := by kernel_rfl
end Go.Proofs.Ytbmmbefgmhhciaa
