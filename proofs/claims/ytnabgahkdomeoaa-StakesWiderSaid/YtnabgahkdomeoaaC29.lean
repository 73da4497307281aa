/-
  The arguments as data.
-/
import Derived.Test.YtnabgahkdomeoaaC28
import Derived.Test.YtnabgahkdomeoaaEz
set_option linter.unusedSimpArgs false
set_option linter.unusedVariables false
set_option linter.unusedSectionVars false
namespace Go.Proofs.Ytnabgahkdomeoaa
open Go GoV
set_option maxRecDepth 100000

theorem wf_bd {k : IntKind} {n : Int} (h : (Lit.int k n).wf = true) : k.min ≤ n ∧ n ≤ k.max := by
  simpa only [Lit.wf, Bool.and_eq_true, decide_eq_true_eq] using h
theorem wf_i64 {n : Int} (h : (Lit.int .i64 n).wf = true) : I64 n := by
  have := wf_bd h
  simp [IntKind.min, IntKind.max, IntKind.bits, IntKind.signed] at this
  exact this
theorem sh_int {g : Nat} {cs : List PV} (h : Sh Try.prog (g + 1) 3 cs) : ∃ n, cs = [I n] ∧ I64 n := by
  simp only [Sh, Try.underlying3] at h
  obtain ⟨n, rfl, w⟩ := h
  exact ⟨n, rfl, wf_i64 w⟩
theorem agg_int : aggB Try.prog 3 = false := by kernel_rfl
theorem agg_ints : aggB Try.prog 31 = false := by kernel_rfl
theorem els_map {α : Type} {P : PV → Prop} (f : α → PV) (Q : α → Prop) (hP : ∀ x, P x → ∃ a, x = f a ∧ Q a) : ∀ (es : List PV), (∀ x ∈ es, P x) → ∃ l : List α, es = l.map f ∧ ∀ a ∈ l, Q a
  | [], _ => ⟨[], rfl, by simp⟩
  | e :: r, h => by
    obtain ⟨a, rfl, ha⟩ := hP e (h e (by simp))
    obtain ⟨l, rfl, hl⟩ := els_map f Q hP r fun x hx => h x (by simp [hx])
    refine ⟨a :: l, rfl, ?_⟩
    intro b hb
    rcases List.mem_cons.1 hb with rfl | hb
    · exact ha
    · exact hl b hb
theorem sh_ints {g : Nat} {cs : List PV} (h : Sh Try.prog (g + 2) 31 cs) : ∃ l : List Int, cs = [.vs 1 (l.map I) none] ∧ ∀ x ∈ l, I64 x := by
  unfold Sh at h
  simp only [Try.underlying31] at h
  obtain ⟨es, rfl, _, hx⟩ := h
  obtain ⟨l, rfl, hl⟩ := els_map I I64 (P := fun x => ∃ ps, x = elOf (aggB Try.prog 3) ps ∧ Sh Try.prog (g + 1) 3 ps) (by
    rintro x ⟨ps, rfl, hs⟩
    obtain ⟨n, rfl, hn⟩ := sh_int hs
    exact ⟨n, by rw [agg_int]; rfl, hn⟩) es hx
  exact ⟨l, rfl, hl⟩
theorem sh_list {α : Type} {g : Nat} {t e : Nat} (f : α → PV) (Q : α → Prop) (he : Try.prog.underlying t = some (.slice e)) (ha : aggB Try.prog e = true) (hP : ∀ cs, Sh Try.prog g e cs → ∃ a, PV.agg cs = f a ∧ Q a) {cs : List PV} (h : Sh Try.prog (g + 1) t cs) :
    ∃ l : List α, cs = [.vs (Try.prog.cellsOf e) (l.map f) none] ∧ ∀ a ∈ l, Q a := by
  unfold Sh at h
  simp only [he] at h
  obtain ⟨es, rfl, _, hx⟩ := h
  obtain ⟨l, rfl, hl⟩ := els_map f Q (P := fun x => ∃ ps, x = elOf (aggB Try.prog e) ps ∧ Sh Try.prog g e ps) (by
    rintro x ⟨ps, rfl, hs⟩
    obtain ⟨a, ea, qa⟩ := hP ps hs
    exact ⟨a, by rw [ha]; exact ea, qa⟩) es hx
  exact ⟨l, rfl, hl⟩
theorem sh_range {g : Nat} {cs : List PV} (h : Sh Try.prog (g + 2) 56 cs) : ∃ a b, cs = [I a, I b] ∧ I64 a ∧ I64 b := by
  unfold Sh at h
  simp only [Try.underlying56, ShF] at h
  obtain ⟨_, _, rfl, h1, _, _, rfl, h2, rfl⟩ := h
  obtain ⟨a, rfl, ha⟩ := sh_int h1
  obtain ⟨b, rfl, hb⟩ := sh_int h2
  exact ⟨a, b, rfl, ha, hb⟩
theorem agg_range : aggB Try.prog 56 = true := by kernel_rfl
theorem agg_stake : aggB Try.prog 39 = true := by kernel_rfl
theorem agg_past : aggB Try.prog 46 = true := by kernel_rfl
theorem agg_stakes : aggB Try.prog 22 = false := by kernel_rfl
theorem agg_pasts : aggB Try.prog 23 = false := by kernel_rfl
theorem cel_range : Try.prog.cellsOf 56 = 2 := by kernel_rfl
theorem cel_stake : Try.prog.cellsOf 39 = 4 := by kernel_rfl
theorem cel_past : Try.prog.cellsOf 46 = 3 := by kernel_rfl
theorem sh_stake {g : Nat} {cs : List PV} (h : Sh Try.prog (g + 2) 39 cs) : ∃ x : Stk, PV.agg cs = stk x ∧ True := by
  unfold Sh at h
  simp only [Try.underlying39, ShF] at h
  obtain ⟨_, _, rfl, h1, _, _, rfl, h2, _, _, rfl, h3, _, _, rfl, h4, rfl⟩ := h
  obtain ⟨a, rfl, _⟩ := sh_int h1
  obtain ⟨b, rfl, _⟩ := sh_int h2
  obtain ⟨c, rfl, _⟩ := sh_int h3
  obtain ⟨d, rfl, _⟩ := sh_int h4
  exact ⟨⟨a, b, c, d⟩, rfl, trivial⟩
theorem sh_rg {g : Nat} {cs : List PV} (h : Sh Try.prog (g + 2) 56 cs) : ∃ x : Rg, PV.agg cs = rg x ∧ True := by
  obtain ⟨a, b, rfl, _, _⟩ := sh_range h
  exact ⟨⟨a, b⟩, rfl, trivial⟩
theorem sh_past {g : Nat} {cs : List PV} (h : Sh Try.prog (g + 4) 46 cs) : ∃ x : Pst, PV.agg cs = pst x ∧ True := by
  unfold Sh at h
  simp only [Try.underlying46, ShF] at h
  obtain ⟨_, _, rfl, h1, _, _, rfl, h2, _, _, rfl, h3, rfl⟩ := h
  obtain ⟨a, rfl, _⟩ := sh_int h1
  obtain ⟨b, rfl, _⟩ := sh_list rg (fun _ => True) Try.underlying44 agg_range (fun cs h => sh_rg h) h2
  obtain ⟨c, rfl, _⟩ := sh_ints h3
  exact ⟨⟨a, b, none, c, none⟩, by rw [cel_range]; rfl, trivial⟩
theorem sh_stakes {g : Nat} {cs : List PV} (h : Sh Try.prog (g + 3) 22 cs) : ∃ l : List Stk, cs = [.vs 4 (l.map stk) none] := by
  obtain ⟨l, rfl, _⟩ := sh_list stk (fun _ => True) Try.underlying22 agg_stake (fun cs h => sh_stake h) h
  exact ⟨l, by rw [cel_stake]⟩
theorem sh_pasts {g : Nat} {cs : List PV} (h : Sh Try.prog (g + 5) 23 cs) : ∃ l : List Pst, cs = [.vs 3 (l.map pst) none] := by
  obtain ⟨l, rfl, _⟩ := sh_list pst (fun _ => True) Try.underlying23 agg_past (fun cs h => sh_past h) h
  exact ⟨l, by rw [cel_past]⟩
end Go.Proofs.Ytnabgahkdomeoaa
