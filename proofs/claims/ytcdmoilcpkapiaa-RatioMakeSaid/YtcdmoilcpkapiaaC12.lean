/-
  Arguments of other widths.
-/
import Derived.Test.YtcdmoilcpkapiaaC11
set_option linter.unusedSimpArgs false
set_option linter.unusedVariables false
set_option linter.unusedSectionVars false
namespace Go.Proofs.Ytcdmoilcpkapiaa
open Go GoV
set_option maxRecDepth 100000
theorem sh_i16 {g : Nat} {cs : List PV} (h : Sh Try.prog (g + 1) 40 cs) : ∃ n, cs = [.int .i16 n] ∧ (-32768 ≤ n ∧ n ≤ 32767) := by
  simp only [Sh, Try.underlying40] at h
  obtain ⟨n, rfl, w⟩ := h
  have := wf_bd w
  simp [IntKind.min, IntKind.max, IntKind.bits, IntKind.signed] at this
  exact ⟨n, rfl, this⟩
theorem sh_u16 {g : Nat} {cs : List PV} (h : Sh Try.prog (g + 1) 42 cs) : ∃ n, cs = [.int .u16 n] ∧ (0 ≤ n ∧ n ≤ 65535) := by
  simp only [Sh, Try.underlying42] at h
  obtain ⟨n, rfl, w⟩ := h
  have := wf_bd w
  simp [IntKind.min, IntKind.max, IntKind.bits, IntKind.signed] at this
  exact ⟨n, rfl, this⟩
theorem sh_i32 {g : Nat} {cs : List PV} (h : Sh Try.prog (g + 1) 21 cs) : ∃ n, cs = [.int .i32 n] ∧ (-2147483648 ≤ n ∧ n ≤ 2147483647) := by
  simp only [Sh, Try.underlying21] at h
  obtain ⟨n, rfl, w⟩ := h
  have := wf_bd w
  simp [IntKind.min, IntKind.max, IntKind.bits, IntKind.signed] at this
  exact ⟨n, rfl, this⟩
theorem agg_i16 : aggB Try.prog 40 = false := by kernel_rfl
theorem agg_u16 : aggB Try.prog 42 = false := by kernel_rfl
theorem agg_i32 : aggB Try.prog 21 = false := by kernel_rfl
end Go.Proofs.Ytcdmoilcpkapiaa
