/-
  Readings of entries and claims.
-/
import Derived.Test.YtaggpjlkapnonaaC24
import Derived.Test.YtaggpjlkapnonaaC9
set_option linter.unusedSimpArgs false
set_option linter.unusedVariables false
set_option linter.unusedSectionVars false
namespace Go.Proofs.Ytaggpjlkapnonaa
open Go GoV
set_option maxRecDepth 100000

theorem sh_don {g : Nat} {cs : List PV} (h : Sh Try.prog (g + 2) 59 cs) : ∃ x : Don, PV.agg cs = don x := by
  unfold Sh at h
  simp only [Try.underlying59, ShF] at h
  obtain ⟨_, _, rfl, h1, _, _, rfl, h2, _, _, rfl, h3, _, _, rfl, h4, rfl⟩ := h
  obtain ⟨a, rfl, _⟩ := sh_int h1
  obtain ⟨b, rfl, _⟩ := sh_int h2
  obtain ⟨c, rfl, _⟩ := sh_int h3
  obtain ⟨d, rfl, _⟩ := sh_int h4
  exact ⟨⟨a, b, c, d⟩, rfl⟩
theorem sh_clm {g : Nat} {cs : List PV} (h : Sh Try.prog (g + 2) 52 cs) : ∃ x : Clm, PV.agg cs = clm x := by
  unfold Sh at h
  simp only [Try.underlying52, ShF] at h
  obtain ⟨_, _, rfl, h1, _, _, rfl, h2, _, _, rfl, h3, _, _, rfl, h4, _, _, rfl, h5, rfl⟩ := h
  obtain ⟨a, rfl, _⟩ := sh_int h1
  obtain ⟨b, rfl, _⟩ := sh_int h2
  obtain ⟨c, rfl, _⟩ := sh_int h3
  obtain ⟨d, rfl, _⟩ := sh_int h4
  obtain ⟨e, rfl, _⟩ := sh_int h5
  exact ⟨⟨a, b, c, d, e⟩, rfl⟩
theorem agg_don : aggB Try.prog 59 = true := by kernel_rfl
theorem agg_clm : aggB Try.prog 52 = true := by kernel_rfl
theorem agg_dons : aggB Try.prog 32 = false := by kernel_rfl
theorem agg_clms : aggB Try.prog 42 = false := by kernel_rfl
theorem sh_dons {g : Nat} {cs : List PV} (h : Sh Try.prog (g + 3) 32 cs) : ∃ l : List Don, cs = [.vs 4 (l.map don) none] := by
  obtain ⟨l, rfl, _⟩ := sh_list don (fun _ => True) Try.underlying32 agg_don (fun cs h => by obtain ⟨x, e⟩ := sh_don h; exact ⟨x, e, trivial⟩) h
  exact ⟨l, rfl⟩
theorem sh_clms {g : Nat} {cs : List PV} (h : Sh Try.prog (g + 3) 42 cs) : ∃ l : List Clm, cs = [.vs 5 (l.map clm) none] := by
  obtain ⟨l, rfl, _⟩ := sh_list clm (fun _ => True) Try.underlying42 agg_clm (fun cs h => by obtain ⟨x, e⟩ := sh_clm h; exact ⟨x, e, trivial⟩) h
  exact ⟨l, rfl⟩
end Go.Proofs.Ytaggpjlkapnonaa
