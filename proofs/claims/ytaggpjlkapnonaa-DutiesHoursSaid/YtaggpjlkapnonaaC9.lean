/-
  Readings of a district.
-/
import Derived.Test.YtaggpjlkapnonaaC8
import Derived.Test.YtaggpjlkapnonaaEz
set_option linter.unusedSimpArgs false
set_option linter.unusedVariables false
set_option linter.unusedSectionVars false
namespace Go.Proofs.Ytaggpjlkapnonaa
open Go GoV
set_option maxRecDepth 100000

theorem wf_bd {k : IntKind} {n : Int} (h : (Lit.int k n).wf = true) : k.min ≤ n ∧ n ≤ k.max := by
  simpa only [Lit.wf, Bool.and_eq_true, decide_eq_true_eq] using h
theorem wf_i64 {n : Int} (h : (Lit.int .i64 n).wf = true) : I64 n := by
  have := wf_bd h
  simp [IntKind.min, IntKind.max, IntKind.bits, IntKind.signed] at this
  exact this
theorem sh_int {g : Nat} {cs : List PV} (h : Sh Try.prog (g + 1) 3 cs) : ∃ n, cs = [I n] ∧ I64 n := by
  simp only [Sh, Try.underlying3] at h
  obtain ⟨n, rfl, w⟩ := h
  exact ⟨n, rfl, wf_i64 w⟩
theorem agg_int : aggB Try.prog 3 = false := by kernel_rfl
theorem agg_ints : aggB Try.prog 35 = false := by kernel_rfl
theorem agg_well : aggB Try.prog 144 = true := by kernel_rfl
theorem els_map {α : Type} {P : PV → Prop} (f : α → PV) (Q : α → Prop) (hP : ∀ x, P x → ∃ a, x = f a ∧ Q a) : ∀ (es : List PV), (∀ x ∈ es, P x) → ∃ l : List α, es = l.map f ∧ ∀ a ∈ l, Q a
  | [], _ => ⟨[], rfl, by simp⟩
  | e :: r, h => by
    obtain ⟨a, rfl, ha⟩ := hP e (h e (by simp))
    obtain ⟨l, rfl, hl⟩ := els_map f Q hP r fun x hx => h x (by simp [hx])
    refine ⟨a :: l, rfl, ?_⟩
    intro b hb
    rcases List.mem_cons.1 hb with rfl | hb
    · exact ha
    · exact hl b hb
theorem sh_ints {g : Nat} {cs : List PV} (h : Sh Try.prog (g + 2) 35 cs) : ∃ l, cs = [ints l none] ∧ ∀ x ∈ l, I64 x := by
  unfold Sh at h
  simp only [Try.underlying35] at h
  obtain ⟨es, rfl, _, hx⟩ := h
  obtain ⟨l, rfl, hl⟩ := els_map I I64 (P := fun x => ∃ ps, x = elOf (aggB Try.prog 3) ps ∧ Sh Try.prog (g + 1) 3 ps) (by
    rintro x ⟨ps, rfl, hs⟩
    obtain ⟨n, rfl, hn⟩ := sh_int hs
    exact ⟨n, by rw [agg_int]; rfl, hn⟩) es hx
  exact ⟨l, rfl, hl⟩
theorem sh_well {g : Nat} {cs : List PV} (h : Sh Try.prog (g + 3) 144 cs) : ∃ f r d k, cs = [I f, I r, I d, ints k none] ∧ I64 f ∧ I64 r ∧ I64 d ∧ ∀ x ∈ k, I64 x := by
  unfold Sh at h
  simp only [Try.underlying144, ShF] at h
  obtain ⟨_, _, rfl, h1, _, _, rfl, h2, _, _, rfl, h3, _, _, rfl, h4, rfl⟩ := h
  obtain ⟨f, rfl, hf⟩ := sh_int h1
  obtain ⟨r, rfl, hr⟩ := sh_int h2
  obtain ⟨d, rfl, hd⟩ := sh_int h3
  obtain ⟨k, rfl, hk⟩ := sh_ints h4
  exact ⟨f, r, d, k, rfl, hf, hr, hd, hk⟩
theorem c_ref19few (D : Dis) (ws : List Wel) : ∃ b, ap Try.prog pol 26 [dv D ws] = some (.ret (.bool b)) ∧ (b = true → ws.length ≤ 100) := by
  rw [ap_eq _ Try.func26 rfl Try.ntmps26 Try.results26 (by kernel_rfl) rfl (by exact Nat.le_of_ble_eq_true rfl)]
  simp (config := { maxSteps := 1000000 }) only [RUN, PATHS, BASE, FA, POL, start_tm, Heap.empty, reduceIte, Nat.reduceLT, Nat.reduceLeDiff, Nat.reduceEqDiff, Nat.reduceAdd, Nat.reduceSub, Nat.reduceMul, Nat.reduceBEq, Int.reduceLT, Int.reduceLE, Int.reduceEq, Int.reduceNeg, Int.reduceAdd, Int.reduceSub, Int.reduceMul, Bool.false_eq_true, Bool.not_true, Bool.not_false, decide_eq_true_eq, and_self, true_and, and_true, reduceCtorEq, ne_eq, not_false_eq_true, not_true_eq_false, decide_true, decide_false, or_false, false_or, NUM, List.length_map, b_and]
  exact ⟨_, rfl, fun h => by have := of_decide_eq_true h; omega⟩
theorem sh_str {g : Nat} {cs : List PV} (h : Sh Try.prog (g + 1) 9 cs) : ∃ s, cs = [.str s] := by
  simp only [Sh, Try.underlying9] at h
  obtain ⟨s, rfl, _⟩ := h
  exact ⟨s, rfl⟩
theorem sh_rat {g : Nat} {cs : List PV} (h : Sh Try.prog (g + 2) 84 cs) : ∃ a b, cs = [I a, I b] ∧ I64 a ∧ I64 b := by
  unfold Sh at h
  simp only [Try.underlying84, ShF] at h
  obtain ⟨_, _, rfl, h1, _, _, rfl, h2, rfl⟩ := h
  obtain ⟨a, rfl, ha⟩ := sh_int h1
  obtain ⟨b, rfl, hb⟩ := sh_int h2
  exact ⟨a, b, rfl, ha, hb⟩
theorem sh_range {g : Nat} {cs : List PV} (h : Sh Try.prog (g + 2) 87 cs) : ∃ a b, cs = [I a, I b] ∧ I64 a ∧ I64 b := by
  unfold Sh at h
  simp only [Try.underlying87, ShF] at h
  obtain ⟨_, _, rfl, h1, _, _, rfl, h2, rfl⟩ := h
  obtain ⟨a, rfl, ha⟩ := sh_int h1
  obtain ⟨b, rfl, hb⟩ := sh_int h2
  exact ⟨a, b, rfl, ha, hb⟩
theorem sh_tank {g : Nat} {cs : List PV} (h : Sh Try.prog (g + 2) 23 cs) : ∃ a b, cs = [I a, I b] ∧ I64 a ∧ I64 b := by
  unfold Sh at h
  simp only [Try.underlying23, ShF] at h
  obtain ⟨_, _, rfl, h1, _, _, rfl, h2, rfl⟩ := h
  obtain ⟨a, rfl, ha⟩ := sh_int h1
  obtain ⟨b, rfl, hb⟩ := sh_int h2
  exact ⟨a, b, rfl, ha, hb⟩
theorem sh_seep {g : Nat} {cs : List PV} (h : Sh Try.prog (g + 3) 85 cs) : ∃ a b c d, cs = [I a, I b, I c, I d] ∧ I64 a ∧ I64 b ∧ I64 c ∧ I64 d := by
  unfold Sh at h
  simp only [Try.underlying85, ShA] at h
  obtain ⟨_, _, rfl, h1, _, _, rfl, h2, rfl⟩ := h
  obtain ⟨a, b, rfl, ha, hb⟩ := sh_rat h1
  obtain ⟨c, d, rfl, hc, hd⟩ := sh_rat h2
  exact ⟨a, b, c, d, rfl, ha, hb, hc, hd⟩
theorem sh_rch {g : Nat} {cs : List PV} (h : Sh Try.prog (g + 4) 89 cs) : ∃ x : Rch, PV.agg cs = rch x ∧ x.OK := by
  unfold Sh at h
  simp only [Try.underlying89, ShF] at h
  obtain ⟨_, _, rfl, h1, _, _, rfl, h2, _, _, rfl, h3, _, _, rfl, h4, _, _, rfl, h5, _, _, rfl, h6, _, _, rfl, h7, _, _, rfl, h8, rfl⟩ := h
  obtain ⟨nm, rfl⟩ := sh_str h1
  obtain ⟨up, rfl, _⟩ := sh_int h2
  obtain ⟨dl, rfl, _⟩ := sh_int h3
  obtain ⟨cp, rfl, _⟩ := sh_int h4
  obtain ⟨bk, rfl, _⟩ := sh_int h5
  obtain ⟨si, rfl, _⟩ := sh_int h6
  obtain ⟨e0, e1, rfl, _⟩ := sh_range h7
  obtain ⟨s0, s1, s2, s3, rfl, a, b, c, d⟩ := sh_seep h8
  exact ⟨⟨nm, up, dl, cp, bk, si, e0, e1, s0, s1, s2, s3⟩, rfl, a, b, c, d⟩
theorem sh_frm {g : Nat} {cs : List PV} (h : Sh Try.prog (g + 2) 91 cs) : ∃ x : Frm, PV.agg cs = frm x := by
  unfold Sh at h
  simp only [Try.underlying91, ShF] at h
  obtain ⟨_, _, rfl, h1, _, _, rfl, h2, _, _, rfl, h3, _, _, rfl, h4, rfl⟩ := h
  obtain ⟨nm, rfl⟩ := sh_str h1
  obtain ⟨a, rfl, _⟩ := sh_int h2
  obtain ⟨b, rfl, _⟩ := sh_int h3
  obtain ⟨c, rfl, _⟩ := sh_int h4
  exact ⟨⟨nm, a, b, c⟩, rfl⟩
theorem sh_crp {g : Nat} {cs : List PV} (h : Sh Try.prog (g + 2) 93 cs) : ∃ x : Crp, PV.agg cs = crp x := by
  unfold Sh at h
  simp only [Try.underlying93, ShF] at h
  obtain ⟨_, _, rfl, h1, _, _, rfl, h2, rfl⟩ := h
  obtain ⟨nm, rfl⟩ := sh_str h1
  obtain ⟨a, rfl, _⟩ := sh_int h2
  exact ⟨⟨nm, a⟩, rfl⟩
theorem sh_rgt {g : Nat} {cs : List PV} (h : Sh Try.prog (g + 2) 81 cs) : ∃ x : Rgt, PV.agg cs = rgt x := by
  unfold Sh at h
  simp only [Try.underlying81, ShF] at h
  obtain ⟨_, _, rfl, h1, _, _, rfl, h2, _, _, rfl, h3, _, _, rfl, h4, _, _, rfl, h5, _, _, rfl, h6, _, _, rfl, h7, _, _, rfl, h8, _, _, rfl, h9, _, _, rfl, h10, rfl⟩ := h
  obtain ⟨nm, rfl⟩ := sh_str h1
  obtain ⟨a2, rfl, _⟩ := sh_int h2
  obtain ⟨a3, rfl, _⟩ := sh_int h3
  obtain ⟨a4, rfl, _⟩ := sh_int h4
  obtain ⟨a5, rfl, _⟩ := sh_int h5
  obtain ⟨a6, rfl, _⟩ := sh_int h6
  obtain ⟨a7, rfl, _⟩ := sh_int h7
  obtain ⟨a8, rfl, _⟩ := sh_int h8
  obtain ⟨a9, rfl, _⟩ := sh_int h9
  obtain ⟨a10, rfl, _⟩ := sh_int h10
  exact ⟨⟨nm, a2, a3, a4, a5, a6, a7, a8, a9, a10⟩, rfl⟩
theorem sh_dty {g : Nat} {cs : List PV} (h : Sh Try.prog (g + 2) 57 cs) : ∃ x : Dty, PV.agg cs = dty x := by
  unfold Sh at h
  simp only [Try.underlying57, ShF] at h
  obtain ⟨_, _, rfl, h1, _, _, rfl, h2, _, _, rfl, h3, _, _, rfl, h4, rfl⟩ := h
  obtain ⟨nm, rfl⟩ := sh_str h1
  obtain ⟨a, rfl, _⟩ := sh_int h2
  obtain ⟨b, rfl, _⟩ := sh_int h3
  obtain ⟨c, rfl, _⟩ := sh_int h4
  exact ⟨⟨nm, a, b, c⟩, rfl⟩
theorem sh_wel {g : Nat} {cs : List PV} (h : Sh Try.prog (g + 3) 144 cs) : ∃ x : Wel, PV.agg cs = wel x := by
  obtain ⟨f, r, d, k, rfl, _⟩ := sh_well h
  exact ⟨⟨f, r, d, k⟩, rfl⟩
theorem agg_rch : aggB Try.prog 89 = true := by kernel_rfl
theorem agg_frm : aggB Try.prog 91 = true := by kernel_rfl
theorem agg_crp : aggB Try.prog 93 = true := by kernel_rfl
theorem agg_rgt : aggB Try.prog 81 = true := by kernel_rfl
theorem agg_dty : aggB Try.prog 57 = true := by kernel_rfl
theorem sh_list {α : Type} {g : Nat} {t e : Nat} (f : α → PV) (Q : α → Prop) (he : Try.prog.underlying t = some (.slice e)) (ha : aggB Try.prog e = true) (hP : ∀ cs, Sh Try.prog g e cs → ∃ a, PV.agg cs = f a ∧ Q a) {cs : List PV} (h : Sh Try.prog (g + 1) t cs) :
    ∃ l : List α, cs = [.vs (Try.prog.cellsOf e) (l.map f) none] ∧ ∀ a ∈ l, Q a := by
  unfold Sh at h
  simp only [he] at h
  obtain ⟨es, rfl, _, hx⟩ := h
  obtain ⟨l, rfl, hl⟩ := els_map f Q (P := fun x => ∃ ps, x = elOf (aggB Try.prog e) ps ∧ Sh Try.prog g e ps) (by
    rintro x ⟨ps, rfl, hs⟩
    obtain ⟨a, ea, qa⟩ := hP ps hs
    exact ⟨a, by rw [ha]; exact ea, qa⟩) es hx
  exact ⟨l, rfl, hl⟩
theorem sh_dist {g : Nat} {cs : List PV} (h : Sh Try.prog (g + 6) 31 cs) : ∃ (D : Dis) (ws : List Wel), PV.agg cs = dv D ws ∧ ∀ x ∈ D.rs, x.OK := by
  unfold Sh at h
  simp only [Try.underlying31, ShF] at h
  obtain ⟨_, _, rfl, h1, _, _, rfl, h2, _, _, rfl, h3, _, _, rfl, h4, _, _, rfl, h5, _, _, rfl, h6, _, _, rfl, h7, _, _, rfl, h8, _, _, rfl, h9, rfl⟩ := h
  obtain ⟨nm, rfl⟩ := sh_str h1
  obtain ⟨hours, rfl, _⟩ := sh_int h2
  obtain ⟨cap, start, rfl, _⟩ := sh_tank h3
  obtain ⟨rs, rfl, hr⟩ := sh_list rch Rch.OK Try.underlying24 agg_rch (fun cs h => sh_rch h) h4
  obtain ⟨fs, rfl, _⟩ := sh_list frm (fun _ => True) Try.underlying25 agg_frm (fun cs h => by obtain ⟨x, e⟩ := sh_frm h; exact ⟨x, e, trivial⟩) h5
  obtain ⟨cs, rfl, _⟩ := sh_list crp (fun _ => True) Try.underlying26 agg_crp (fun cs h => by obtain ⟨x, e⟩ := sh_crp h; exact ⟨x, e, trivial⟩) h6
  obtain ⟨gs, rfl, _⟩ := sh_list rgt (fun _ => True) Try.underlying27 agg_rgt (fun cs h => by obtain ⟨x, e⟩ := sh_rgt h; exact ⟨x, e, trivial⟩) h7
  obtain ⟨ds, rfl, _⟩ := sh_list dty (fun _ => True) Try.underlying28 agg_dty (fun cs h => by obtain ⟨x, e⟩ := sh_dty h; exact ⟨x, e, trivial⟩) h8
  obtain ⟨ws, rfl, _⟩ := sh_list wel (fun _ => True) Try.underlying29 agg_well (fun cs h => by obtain ⟨x, e⟩ := sh_wel h; exact ⟨x, e, trivial⟩) h9
  exact ⟨⟨nm, hours, cap, start, rs, fs, cs, gs, ds⟩, ws, rfl, hr⟩
theorem agg_dist : aggB Try.prog 31 = true := by kernel_rfl
end Go.Proofs.Ytaggpjlkapnonaa
