/-
  Readings of what the laws are handed.
-/
import Derived.Test.YthhhahkiflkemaaDoorC12
import Derived.Test.YthhhahkiflkemaaDoorEz
set_option linter.unusedSimpArgs false
set_option linter.unusedVariables false
set_option linter.unusedSectionVars false
namespace Go.Proofs.YthhhahkiflkemaaDoor
open Go GoV
set_option maxRecDepth 100000

theorem wf_bd {k : IntKind} {n : Int} (h : (Lit.int k n).wf = true) : k.min ≤ n ∧ n ≤ k.max := by
  simpa only [Lit.wf, Bool.and_eq_true, decide_eq_true_eq] using h
theorem wf_i64 {n : Int} (h : (Lit.int .i64 n).wf = true) : I64 n := by
  have := wf_bd h
  simp [IntKind.min, IntKind.max, IntKind.bits, IntKind.signed] at this
  exact this
theorem sh_int {g : Nat} {cs : List PV} (h : Sh Tryd.prog (g + 1) 3 cs) : ∃ n, cs = [I n] ∧ I64 n := by
  simp only [Sh, Tryd.underlying3] at h
  obtain ⟨n, rfl, w⟩ := h
  exact ⟨n, rfl, wf_i64 w⟩
theorem agg_int : aggB Tryd.prog 3 = false := by kernel_rfl
theorem els_map {α : Type} {P : PV → Prop} (f : α → PV) (Q : α → Prop) (hP : ∀ x, P x → ∃ a, x = f a ∧ Q a) : ∀ (es : List PV), (∀ x ∈ es, P x) → ∃ l : List α, es = l.map f ∧ ∀ a ∈ l, Q a
  | [], _ => ⟨[], rfl, by simp⟩
  | e :: r, h => by
    obtain ⟨a, rfl, ha⟩ := hP e (h e (by simp))
    obtain ⟨l, rfl, hl⟩ := els_map f Q hP r fun x hx => h x (by simp [hx])
    refine ⟨a :: l, rfl, ?_⟩
    intro b hb
    rcases List.mem_cons.1 hb with rfl | hb
    · exact ha
    · exact hl b hb
theorem sh_str {g : Nat} {cs : List PV} (h : Sh Tryd.prog (g + 1) 9 cs) : ∃ s, cs = [.str s] := by
  simp only [Sh, Tryd.underlying9] at h
  obtain ⟨s, rfl, _⟩ := h
  exact ⟨s, rfl⟩
theorem sh_rat {g : Nat} {cs : List PV} (h : Sh Tryd.prog (g + 2) 23 cs) : ∃ a b, cs = [I a, I b] ∧ I64 a ∧ I64 b := by
  unfold Sh at h
  simp only [Tryd.underlying23, ShF] at h
  obtain ⟨_, _, rfl, h1, _, _, rfl, h2, rfl⟩ := h
  obtain ⟨a, rfl, ha⟩ := sh_int h1
  obtain ⟨b, rfl, hb⟩ := sh_int h2
  exact ⟨a, b, rfl, ha, hb⟩
theorem sh_range {g : Nat} {cs : List PV} (h : Sh Tryd.prog (g + 2) 32 cs) : ∃ a b, cs = [I a, I b] ∧ I64 a ∧ I64 b := by
  unfold Sh at h
  simp only [Tryd.underlying32, ShF] at h
  obtain ⟨_, _, rfl, h1, _, _, rfl, h2, rfl⟩ := h
  obtain ⟨a, rfl, ha⟩ := sh_int h1
  obtain ⟨b, rfl, hb⟩ := sh_int h2
  exact ⟨a, b, rfl, ha, hb⟩
theorem sh_seep {g : Nat} {cs : List PV} (h : Sh Tryd.prog (g + 3) 24 cs) : ∃ a b c d, cs = [I a, I b, I c, I d] ∧ I64 a ∧ I64 b ∧ I64 c ∧ I64 d := by
  unfold Sh at h
  simp only [Tryd.underlying24, ShA] at h
  obtain ⟨_, _, rfl, h1, _, _, rfl, h2, rfl⟩ := h
  obtain ⟨a, b, rfl, ha, hb⟩ := sh_rat h1
  obtain ⟨c, d, rfl, hc, hd⟩ := sh_rat h2
  exact ⟨a, b, c, d, rfl, ha, hb, hc, hd⟩
theorem sh_rch {g : Nat} {cs : List PV} (h : Sh Tryd.prog (g + 4) 40 cs) : ∃ x : Rch, PV.agg cs = rch x ∧ x.OK := by
  unfold Sh at h
  simp only [Tryd.underlying40, ShF] at h
  obtain ⟨_, _, rfl, h1, _, _, rfl, h2, _, _, rfl, h3, _, _, rfl, h4, _, _, rfl, h5, _, _, rfl, h6, _, _, rfl, h7, _, _, rfl, h8, rfl⟩ := h
  obtain ⟨nm, rfl⟩ := sh_str h1
  obtain ⟨up, rfl, _⟩ := sh_int h2
  obtain ⟨dl, rfl, _⟩ := sh_int h3
  obtain ⟨cp, rfl, _⟩ := sh_int h4
  obtain ⟨bk, rfl, _⟩ := sh_int h5
  obtain ⟨si, rfl, _⟩ := sh_int h6
  obtain ⟨e0, e1, rfl, _⟩ := sh_range h7
  obtain ⟨s0, s1, s2, s3, rfl, a, b, c, d⟩ := sh_seep h8
  exact ⟨⟨nm, up, dl, cp, bk, si, e0, e1, s0, s1, s2, s3⟩, rfl, a, b, c, d⟩
theorem agg_rch : aggB Tryd.prog 40 = true := by kernel_rfl
theorem sh_rg {g : Nat} {cs : List PV} (h : Sh Tryd.prog (g + 3) 48 cs) : ∃ x : Rg, PV.agg cs = rg x := by
  unfold Sh at h
  simp only [Tryd.underlying48, ShF] at h
  obtain ⟨_, _, rfl, h1, rfl⟩ := h
  obtain ⟨a, b, rfl, _, _⟩ := sh_range h1
  exact ⟨⟨a, b⟩, rfl⟩
theorem sh_pnd {g : Nat} {cs : List PV} (h : Sh Tryd.prog (g + 3) 50 cs) : ∃ x : Pnd, PV.agg cs = pnd x := by
  unfold Sh at h
  simp only [Tryd.underlying50, ShF] at h
  obtain ⟨_, _, rfl, h1, _, _, rfl, h2, _, _, rfl, h3, rfl⟩ := h
  obtain ⟨v, rfl, _⟩ := sh_int h1
  obtain ⟨hh, rfl, _⟩ := sh_int h2
  obtain ⟨a, b, rfl, _, _⟩ := sh_range h3
  exact ⟨⟨v, hh, a, b⟩, rfl⟩
theorem agg_pan : aggB Tryd.prog 48 = true := by kernel_rfl
theorem agg_pond : aggB Tryd.prog 50 = true := by kernel_rfl
theorem agg_srv : aggB Tryd.prog 28 = true := by kernel_rfl
theorem sh_list {α : Type} {g : Nat} {t e : Nat} (f : α → PV) (Q : α → Prop) (he : Tryd.prog.underlying t = some (.slice e)) (ha : aggB Tryd.prog e = true) (hP : ∀ cs, Sh Tryd.prog g e cs → ∃ a, PV.agg cs = f a ∧ Q a) {cs : List PV} (h : Sh Tryd.prog (g + 1) t cs) :
    ∃ l : List α, cs = [.vs (Tryd.prog.cellsOf e) (l.map f) none] ∧ ∀ a ∈ l, Q a := by
  unfold Sh at h
  simp only [he] at h
  obtain ⟨es, rfl, _, hx⟩ := h
  obtain ⟨l, rfl, hl⟩ := els_map f Q (P := fun x => ∃ ps, x = elOf (aggB Tryd.prog e) ps ∧ Sh Tryd.prog g e ps) (by
    rintro x ⟨ps, rfl, hs⟩
    obtain ⟨a, ea, qa⟩ := hP ps hs
    exact ⟨a, by rw [ha]; exact ea, qa⟩) es hx
  exact ⟨l, rfl, hl⟩
theorem sh_srv {g : Nat} {cs : List PV} (h : Sh Tryd.prog (g + 6) 28 cs) : ∃ S : Srv, PV.agg cs = srv S none none ∧ S.OK := by
  unfold Sh at h
  simp only [Tryd.underlying28, ShF] at h
  obtain ⟨_, _, rfl, h1, _, _, rfl, h2, _, _, rfl, h3, _, _, rfl, h4, _, _, rfl, h5, rfl⟩ := h
  obtain ⟨su, rfl, _⟩ := sh_int h1
  obtain ⟨so, rfl, _⟩ := sh_int h2
  obtain ⟨a, b, c, d, rfl, i1, i2, i3, i4⟩ := sh_seep h3
  obtain ⟨pans, rfl, _⟩ := sh_list rg (fun _ => True) Tryd.underlying25 agg_pan (fun cs h => by obtain ⟨x, e⟩ := sh_rg h; exact ⟨x, e, trivial⟩) h4
  obtain ⟨ponds, rfl, _⟩ := sh_list pnd (fun _ => True) Tryd.underlying26 agg_pond (fun cs h => by obtain ⟨x, e⟩ := sh_pnd h; exact ⟨x, e, trivial⟩) h5
  exact ⟨⟨su, so, a, b, c, d, pans, ponds⟩, rfl, i1, i2, i3, i4⟩
end Go.Proofs.YthhhahkiflkemaaDoor
