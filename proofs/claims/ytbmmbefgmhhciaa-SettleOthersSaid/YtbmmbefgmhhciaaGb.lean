/-
  Markets and their settling (part 2).
-/
import Derived.Test.YtbmmbefgmhhciaaGa
set_option linter.unusedSimpArgs false
set_option linter.unusedVariables false
set_option linter.unusedSectionVars false
/-
  Markets: what package winners calls right.
-/
namespace Go.Proofs.Ytbmmbefgmhhciaa
open Go GoV
set_option maxRecDepth 100000

structure Mkt where
  (D : Dis) (aw : List (List Int)) (room rain : Int) (os : List Ofr)
/-- Capacities, and the values of the district's other lists. -/
structure Cps where
  (r f : Option Nat) (cs gs ds ws : PV) (av : List PV) (cw cl co : Option Nat)
abbrev mcl (M : Mkt) (q : Cps) : List PV := [.str M.D.nm, I M.D.hours, I M.D.cap, I M.D.start, .vs 12 (M.D.rs.map rch) q.r, .vs 4 (M.D.fs.map frm) q.f, q.cs, q.gs, q.ds, q.ws, .vs 1 q.av q.cw, I M.room, I M.rain, .vs 6 (M.os.map (ofr q.cl)) q.co]
/-- A value of a row: whether it is nil is known. -/
def RVN (l : List Int) (v : PV) : Prop := (l ≠ [] ∧ ∃ c, v = .vs 1 (l.map I) c) ∨ (l = [] ∧ (v = .nils ∨ ∃ c, v = .vs 1 [] (some c)))
theorem RVN.rv {l : List Int} {v : PV} (h : RVN l v) : RV l v := by
  rcases h with ⟨_, h⟩ | ⟨rfl, h | ⟨c, h⟩⟩
  · exact .inl h
  · exact .inr ⟨rfl, h⟩
  · exact .inl ⟨_, h⟩
/-- The values of a table's rows. -/
structure AWV (aw : List (List Int)) (av : List PV) : Prop where
  len : av.length = aw.length
  get : ∀ (i : Nat) (l : List Int), aw[i]? = some l → ∃ v, av[i]? = some v ∧ RVN l v
theorem AWV.mem {aw : List (List Int)} {av : List PV} (h : AWV aw av) : ∀ v ∈ av, ∃ l, RV l v := by
  intro v hv
  obtain ⟨i, ei⟩ := List.mem_iff_getElem?.1 hv
  have hi := (List.getElem?_eq_some_iff.1 ei).1
  obtain ⟨w, ew, hw⟩ := h.get i _ (List.getElem?_eq_getElem (by rw [← h.len]; exact hi))
  rw [ei] at ew
  cases ew
  exact ⟨_, hw.rv⟩
theorem map_id_of {f : PV → PV} : ∀ {l : List PV}, (∀ v ∈ l, f v = v) → l.map f = l
  | [], _ => rfl
  | v :: l, h => by rw [List.map_cons, h v (by simp), map_id_of fun w hw => h w (by simp [hw])]
theorem SAV {aw : List (List Int)} {av : List PV} (h : AWV aw av) : (strip0L av = av ∧ av.map strip0 = av ∧ (∀ H, av.map (strip1 H) = av) ∧ (∀ H, av.map (strip2 H) = av) ∧ (∀ H, strip1L H av = av) ∧ (∀ H, strip2L H av = av)) ∧ av.length = aw.length := by
  have h0 : av.map strip0 = av := map_id_of fun v hv => by obtain ⟨l, hl⟩ := h.mem v hv; exact (RVS hl).1.1
  have h1 : ∀ H, av.map (strip1 H) = av := fun H => map_id_of fun v hv => by obtain ⟨l, hl⟩ := h.mem v hv; exact (RVS hl).1.2.1 H
  have h2 : ∀ H, av.map (strip2 H) = av := fun H => map_id_of fun v hv => by obtain ⟨l, hl⟩ := h.mem v hv; exact (RVS hl).1.2.2 H
  exact ⟨⟨by rw [strip0L_map, h0], h0, h1, h2, fun H => by rw [strip1L_map, h1], fun H => by rw [strip2L_map, h2]⟩, h.len⟩
theorem SOFR (c : Option Nat) : (∀ l : List Ofr, strip0L (l.map (ofr c)) = l.map (ofr c)) ∧ (∀ l : List Ofr, (l.map (ofr c)).map strip0 = l.map (ofr c)) ∧ (∀ H (l : List Ofr), (l.map (ofr c)).map (strip1 H) = l.map (ofr c)) ∧ (∀ H (l : List Ofr), (l.map (ofr c)).map (strip2 H) = l.map (ofr c)) ∧ (∀ H (l : List Ofr), strip1L H (l.map (ofr c)) = l.map (ofr c)) ∧ (∀ H (l : List Ofr), strip2L H (l.map (ofr c)) = l.map (ofr c)) := STR (ofr c)
  (fun x => by show PV.agg [I x.no, I x.fm, I x.pr, I x.lo, I x.hi, .vs 2 (strip0L (x.lots.map lot)) c] = _; rw [SLOT.1]) (fun H x => by show PV.agg [I x.no, I x.fm, I x.pr, I x.lo, I x.hi, .vs 2 (strip1L H (x.lots.map lot)) c] = _; rw [SLOT.2.2.2.2.1]) (fun H x => by show PV.agg [I x.no, I x.fm, I x.pr, I x.lo, I x.hi, .vs 2 (strip2L H (x.lots.map lot)) c] = _; rw [SLOT.2.2.2.2.2])
section
variable {M : Mkt} (hr : ∀ x ∈ M.D.rs, x.OK) {q : Cps} (hv : DV M.D q.cs q.gs q.ds q.ws) (hA : AWV M.aw q.av)
include hr hv hA
theorem c_week (y : Lot) (la : M.aw.length ≤ 1000000) : ap Try.prog pol 58 [lot y, .rop (mcl M q)] = some (.ret (.bool (decide ((M.aw.length : Int) ≤ y.w)))) := by
  rw [ap_eq _ Try.func58 rfl Try.ntmps58 Try.results58 (by kernel_rfl) rfl (by exact Nat.le_of_ble_eq_true rfl)]
  simp (maxSteps := 999999) only [E0, seval, -Int.reduceNatCast', NUM, SAV hA, List.length_map]
theorem c_ixw (l : List Lot) (c : Option Nat) (hl : l.length ≤ 1000000) (la : M.aw.length ≤ 1000000) : ∃ k : Int, ap Try.prog pol 71 [.vs 2 (l.map lot) c, .fn 58 [.rop (mcl M q)]] = some (.ret (I k)) ∧ (0 ≤ k ↔ ∃ x ∈ l, (M.aw.length : Int) ≤ x.w) := by
  rw [ap_eq _ Try.func71 rfl Try.ntmps71 Try.results71 (by kernel_rfl) rfl (by exact Nat.le_of_ble_eq_true rfl)]
  simp (maxSteps := 999999) only [E0, seval, -Int.reduceNatCast', List.length_map]
  generalize hL : W _ (.loop _) _ = L
  obtain ⟨ex, s, rfl, hex, hd⟩ := loop_at hL (α := Nat) (fun j => l.length - j)
    (fun s0 j s => j ≤ l.length ∧ (∀ x ∈ l.take j, ¬ (M.aw.length : Int) ≤ x.w) ∧ s.tmps 8 = I j ∧ s.tmps 7 = I l.length ∧ s.tmps 0 = .vs 2 (l.map lot) c ∧ s.tmps 1 = .fn 58 [.rop (mcl M q)] ∧ s.defers = [] ∧ s.fid = 0)
    (fun s0 ex s => ((ex = .exit 0 ∧ ∀ x ∈ l, ¬ (M.aw.length : Int) ≤ x.w) ∨ (ex = .ret ∧ (∃ x ∈ l, (M.aw.length : Int) ≤ x.w) ∧ ∃ k : Int, 0 ≤ k ∧ s.tmps 4 = I k)) ∧ s.defers = []) 0
    (by simp (maxSteps := 999999) only [E0, seval, -Int.reduceNatCast']; exact ⟨by omega, by simp, by simp⟩) (by
      rintro j s r hW ⟨hj, hg, h8, h7, h0, h1, hd, hf⟩
      by_cases hp : j < l.length
      rotate_left
      · simp (maxSteps := 999999) only [E0, seval, -Int.reduceNatCast', h8, h7, hd, hf, (show ¬ (j : Int) < l.length by omega)] at hW
        subst hW
        have : j = l.length := by omega
        subst this
        rw [List.take_length] at hg
        exact rd_exit ⟨.inl ⟨rfl, hg⟩, by simp (maxSteps := 999999) only [E0, seval, -Int.reduceNatCast', hd]⟩
      have e0 : l[j]? = some l[j] := List.getElem?_eq_getElem hp
      have e1 := map_get (f := lot) e0
      have hm := List.getElem_mem hp
      generalize l[j] = x at *
      have cf := c_week (M := M) hr hv hA x la
      by_cases hx : (M.aw.length : Int) ≤ x.w
      · rw [decide_eq_true hx] at cf
        simp (maxSteps := 999999) only [E0, seval, -Int.reduceNatCast', NUM, SRCH, SFRM, SCRP, SRGT, SDTY, hv.s0, hv.s1, hv.s2, hv.fz, SAV hA, SOFR, SLOT, INTS, cf, h8, h7, h0, h1, hd, hf, e1, List.length_map, Int.toNat_natCast, (show (j : Int) < l.length by omega), (show (0 : Int) ≤ j by omega)] at hW
        subst hW
        refine rd_ret ⟨.inr ⟨rfl, ⟨_, hm, hx⟩, j, by omega, by simp (maxSteps := 999999) only [E0, seval, -Int.reduceNatCast']⟩, by simp (maxSteps := 999999) only [E0, seval, -Int.reduceNatCast', hd]⟩
      · rw [decide_eq_false hx] at cf
        have hn := none_more e0 hg hx
        simp (maxSteps := 999999) only [E0, seval, -Int.reduceNatCast', NUM, SRCH, SFRM, SCRP, SRGT, SDTY, hv.s0, hv.s1, hv.s2, hv.fz, SAV hA, SOFR, SLOT, INTS, cf, h8, h7, h0, h1, hd, hf, e1, List.length_map, Int.toNat_natCast, (show (j : Int) < l.length by omega), (show (0 : Int) ≤ j by omega), (i64_in (x := (j : Int) + 1) (by unfold I64; omega))] at hW
        subst hW
        refine rd_next (j + 1) ?_ (show l.length - (j + 1) < l.length - j by omega)
        simp (maxSteps := 999999) only [E0, seval, -Int.reduceNatCast', h7, h0, h1, hd]
        exact ⟨by omega, hn, by simp⟩)
  rcases hex with ⟨rfl, hg⟩ | ⟨rfl, hg, k, hk, h4⟩
  · refine ⟨-1, by simp (maxSteps := 999999) only [E0, seval, -Int.reduceNatCast', hd], fun h => absurd h (by decide), fun ⟨x, hx, hp⟩ => absurd hp (hg x hx)⟩
  · refine ⟨k, by simp (maxSteps := 999999) only [E0, seval, -Int.reduceNatCast', hd, h4], fun _ => hg, fun _ => hk⟩
/-- Each lot is in a week that there is. -/
def WKS (M : Mkt) (l : List Lot) : Prop := ∀ x ∈ l, x.w < M.aw.length
omit hr hv hA in
theorem WKS_iff (l : List Lot) : WKS M l ↔ ¬ ∃ x ∈ l, (M.aw.length : Int) ≤ x.w := by
  unfold WKS
  constructor
  · rintro h ⟨x, hx, g⟩; have := h x hx; omega
  · intro h x hx
    by_cases g : (M.aw.length : Int) ≤ x.w
    · exact absurd ⟨x, hx, g⟩ h
    · omega
noncomputable instance (M : Mkt) (l : List Lot) : Decidable (WKS M l) := Classical.propDecidable _
theorem c_hasw (l : List Lot) (c : Option Nat) (hl : l.length ≤ 1000000) (la : M.aw.length ≤ 1000000) : ap Try.prog pol 57 [.vs 2 (l.map lot) c, .fn 58 [.rop (mcl M q)]] = some (.ret (.bool (decide (¬ WKS M l)))) := by
  obtain ⟨k, ck, hk⟩ := c_ixw hr hv hA l c hl la
  have hi := WKS_iff (M := M) l
  rw [ap_eq _ Try.func57 rfl Try.ntmps57 Try.results57 (by kernel_rfl) rfl (by exact Nat.le_of_ble_eq_true rfl)]
  by_cases h : WKS M l
  · have hk' : ¬ 0 ≤ k := fun g => (hi.1 h) (hk.1 g)
    rw [decide_eq_false (fun g => g h)]
    simp (maxSteps := 999999) only [E0, seval, -Int.reduceNatCast', NUM, SRCH, SFRM, SCRP, SRGT, SDTY, hv.s0, hv.s1, hv.s2, hv.fz, SAV hA, SOFR, SLOT, INTS, ck, hk']
  · have hk' : 0 ≤ k := hk.2 (Classical.not_not.1 (fun g => h (hi.2 g)))
    rw [decide_eq_true h]
    simp (maxSteps := 999999) only [E0, seval, -Int.reduceNatCast', NUM, SRCH, SFRM, SCRP, SRGT, SDTY, hv.s0, hv.s1, hv.s2, hv.fz, SAV hA, SOFR, SLOT, INTS, ck, hk']
/-- Claims that a district can meet. -/
def NDO (D : Dis) (l : List Int) : Prop := DVC D l = 0 ∧ ∃ hs, NDS D l D.rs.length = some hs
noncomputable instance (D : Dis) (l : List Int) : Decidable (NDO D l) := Classical.propDecidable _
def PO (l : List Ofr) (j : Nat) : Int := if j = 0 then -1 else ((l[j - 1]?).map Ofr.no).getD (-1)
omit hr hv hA in
theorem PO_succ {l : List Ofr} {j : Nat} {x : Ofr} (e : l[j]? = some x) : PO l (j + 1) = x.no := by simp [PO, e]
def MOF (M : Mkt) (p : Int) (x : Ofr) : Prop := OC x = 0 ∧ p < x.no ∧ x.fm < M.D.fs.length ∧ WKS M x.lots
def MKO (M : Mkt) : Prop := (∀ l ∈ M.aw, NDO M.D l) ∧ ALLI (fun i x => MOF M (PO M.os i) x) M.os
noncomputable instance (M : Mkt) : Decidable (MKO M) := Classical.propDecidable _
/-- What winners.Check answers. -/
noncomputable def MC (M : Mkt) : Int := if XC M.D = 0 then (if 8 < M.aw.length ∨ 12 < M.os.length then 2 else if M.aw.length = 0 ∨ ¬ (0 ≤ M.room ∧ M.room ≤ 1099511627776) ∨ ¬ (0 ≤ M.rain ∧ M.rain ≤ 10000) then 450 else if MKO M then 0 else 450) else XC M.D
set_option maxHeartbeats 8000000 in
theorem c_mcheck : ap Try.prog pol 38 [.agg (mcl M q)] = some (.ret (I (MC M))) := by
  have cr := c_wins M.room 0 1099511627776
  have cn := c_wins M.rain 0 10000
  rw [ap_eq _ Try.func38 rfl Try.ntmps38 Try.results38 (by kernel_rfl) rfl (by exact Nat.le_of_ble_eq_true rfl)]
  simp (maxSteps := 999999) only [E0, seval, -Int.reduceNatCast', NUM, SRCH, SFRM, SCRP, SRGT, SDTY, hv.s0, hv.s1, hv.s2, hv.fz, SAV hA, SOFR, SLOT, INTS]
  generalize hE : callF _ _ _ _ _ _ = E
  obtain ⟨H', e, rfl, fr, hn, he⟩ := c_xcheck M.D hr q.r q.f _ _ _ q.ws hv.hcs hv.hgs hv.hds _ _ hE
  have he := XC_cases M.D e he
  subst he
  by_cases hX : XC M.D = 0
  rotate_left
  · have ed : MC M = XC M.D := by unfold MC; rw [if_neg hX]
    rw [ed]
    simp (maxSteps := 999999) only [E0, seval, -Int.reduceNatCast', NUM, hX]
  by_cases h1 : (8 : Int) < M.aw.length
  · have ed : MC M = 2 := by unfold MC; rw [if_pos hX, if_pos (.inl (by omega))]
    rw [ed]
    simp (maxSteps := 999999) only [E0, seval, -Int.reduceNatCast', NUM, SAV hA, hX, List.length_map, h1]
  by_cases h2 : (12 : Int) < M.os.length
  · have ed : MC M = 2 := by unfold MC; rw [if_pos hX, if_pos (.inr (by omega))]
    rw [ed]
    simp (maxSteps := 999999) only [E0, seval, -Int.reduceNatCast', NUM, SAV hA, hX, List.length_map, h1, h2]
  by_cases h3 : (M.aw.length : Int) = 0
  · have ed : MC M = 450 := by unfold MC; rw [if_pos hX, if_neg (by omega), if_pos (.inl (by omega))]
    rw [ed]
    simp (maxSteps := 999999) only [E0, seval, -Int.reduceNatCast', NUM, SAV hA, hX, List.length_map, h1, h2, h3]
  by_cases h4 : 0 ≤ M.room ∧ M.room ≤ 1099511627776
  rotate_left
  · have ed : MC M = 450 := by unfold MC; rw [if_pos hX, if_neg (by omega), if_pos (.inr (.inl h4))]
    rw [ed]
    rw [decide_eq_false h4] at cr
    simp (maxSteps := 999999) only [E0, seval, -Int.reduceNatCast', NUM, SAV hA, hX, List.length_map, h1, h2, h3, cr]
  rw [decide_eq_true h4] at cr
  by_cases h5 : 0 ≤ M.rain ∧ M.rain ≤ 10000
  rotate_left
  · have ed : MC M = 450 := by unfold MC; rw [if_pos hX, if_neg (by omega), if_pos (.inr (.inr h5))]
    rw [ed]
    rw [decide_eq_false h5] at cn
    simp (maxSteps := 999999) only [E0, seval, -Int.reduceNatCast', NUM, SAV hA, hX, List.length_map, h1, h2, h3, cr, cn]
  rw [decide_eq_true h5] at cn
  have ed : MC M = if MKO M then 0 else 450 := by unfold MC; rw [if_pos hX, if_neg (by omega), if_neg (by omega)]
  rw [ed]
  simp (maxSteps := 999999) only [E0, seval, -Int.reduceNatCast', NUM, SAV hA, hX, List.length_map, h1, h2, h3, cr, cn]
  generalize hL : W _ (.loop _) _ = L
  obtain ⟨ex, s, rfl, hex, g1, hd, hf⟩ := loop_at hL (α := Nat) (fun j => M.aw.length - j)
    (fun s0 j s => j ≤ M.aw.length ∧ (∀ l ∈ M.aw.take j, NDO M.D l) ∧ s.tmps 46 = I j ∧ s.tmps 45 = I M.aw.length ∧ s.tmps 44 = .vs 1 q.av q.cw ∧ s.tmps 1 = .rop (mcl M q) ∧ s.defers = [] ∧ s.fid = 0)
    (fun s0 ex s => ((ex = .exit 0 ∧ ∀ l ∈ M.aw, NDO M.D l) ∨ (ex = .ret ∧ ¬ (∀ l ∈ M.aw, NDO M.D l) ∧ s.tmps 2 = I 450)) ∧ s.tmps 1 = .rop (mcl M q) ∧ s.defers = [] ∧ s.fid = 0) 0
    (by simp (maxSteps := 999999) only [E0, seval, -Int.reduceNatCast']; exact ⟨by omega, by simp, by simp⟩) (by
      rintro j s r hW ⟨hj, ht, h46, h45, h44, g1, hd, hf⟩
      by_cases hp : j < M.aw.length
      rotate_left
      · simp (maxSteps := 999999) only [E0, seval, -Int.reduceNatCast', h46, h45, hd, hf, List.length_map, (show ¬ (j : Int) < M.aw.length by omega)] at hW
        subst hW
        rw [List.take_of_length_le (by omega)] at ht
        exact rd_exit ⟨.inl ⟨rfl, ht⟩, by simp (maxSteps := 999999) only [E0, seval, -Int.reduceNatCast', g1, hd]⟩
      have e0 : M.aw[j]? = some M.aw[j] := List.getElem?_eq_getElem hp
      obtain ⟨v, e1, hrv⟩ := hA.get j _ e0
      have rv := RVS hrv.rv
      have hm := List.getElem_mem hp
      have htk : ∀ P : List Int → Prop, (∀ y ∈ M.aw.take j, P y) → P M.aw[j] → ∀ y ∈ M.aw.take (j + 1), P y := by
        intro P a b y hy
        rw [List.take_add_one, e0] at hy
        rcases List.mem_append.1 hy with hy | hy
        · exact a y hy
        · simp only [Option.toList_some, List.mem_singleton] at hy; rw [hy]; exact b
      generalize M.aw[j] = l at *
      have cN := c_Needs hr q.r q.f hv l v hrv.rv
      by_cases h0 : DVC M.D l = 0
      · cases hN : NDS M.D l M.D.rs.length with
        | none =>
          have e : NDV M.D l = .tup [.nils, .bool false, I 0] := by unfold NDV; rw [if_pos h0, hN]
          rw [e] at cN
          simp (maxSteps := 999999) only [E0, seval, -Int.reduceNatCast', NUM, SRCH, SFRM, SCRP, SRGT, SDTY, hv.s0, hv.s1, hv.s2, hv.fz, SAV hA, SOFR, SLOT, INTS, rv, cN, h46, h45, h44, g1, hd, hf, e1, List.length_map, Int.toNat_natCast, (show (j : Int) < M.aw.length by omega), (show (0 : Int) ≤ j by omega)] at hW
          subst hW
          exact rd_ret ⟨.inr ⟨rfl, fun g => (by obtain ⟨_, hs, e⟩ := g l hm; rw [hN] at e; cases e), by simp (maxSteps := 999999) only [E0, seval, -Int.reduceNatCast']⟩, by simp (maxSteps := 999999) only [E0, seval, -Int.reduceNatCast', g1, hd]⟩
        | some hs =>
          have e : NDV M.D l = .tup [.vs 1 (hs.map I) none, .bool true, I 0] := by unfold NDV; rw [if_pos h0, hN]
          rw [e] at cN
          simp (maxSteps := 999999) only [E0, seval, -Int.reduceNatCast', NUM, SRCH, SFRM, SCRP, SRGT, SDTY, hv.s0, hv.s1, hv.s2, hv.fz, SAV hA, SOFR, SLOT, INTS, rv, cN, h46, h45, h44, g1, hd, hf, e1, List.length_map, Int.toNat_natCast, (show (j : Int) < M.aw.length by omega), (show (0 : Int) ≤ j by omega), (i64_in (x := (j : Int) + 1) (by unfold I64; omega))] at hW
          subst hW
          refine rd_next (j + 1) ?_ (show M.aw.length - (j + 1) < M.aw.length - j by omega)
          simp (maxSteps := 999999) only [E0, seval, -Int.reduceNatCast', h45, h44, g1, hd]
          exact ⟨by omega, htk _ ht ⟨h0, hs, hN⟩, by simp⟩
      · have e : NDV M.D l = .tup [.nils, .bool false, I (DVC M.D l)] := by unfold NDV; rw [if_neg h0]
        rw [e] at cN
        simp (maxSteps := 999999) only [E0, seval, -Int.reduceNatCast', NUM, SRCH, SFRM, SCRP, SRGT, SDTY, hv.s0, hv.s1, hv.s2, hv.fz, SAV hA, SOFR, SLOT, INTS, rv, cN, h0, h46, h45, h44, g1, hd, hf, e1, List.length_map, Int.toNat_natCast, (show (j : Int) < M.aw.length by omega), (show (0 : Int) ≤ j by omega)] at hW
        subst hW
        exact rd_ret ⟨.inr ⟨rfl, fun g => h0 (g l hm).1, by simp (maxSteps := 999999) only [E0, seval, -Int.reduceNatCast']⟩, by simp (maxSteps := 999999) only [E0, seval, -Int.reduceNatCast', g1, hd]⟩)
  rcases hex with ⟨rfl, hAw⟩ | ⟨rfl, hAw, h2⟩
  rotate_left
  · rw [if_neg (fun g => hAw g.1)]
    simp (maxSteps := 999999) only [E0, seval, -Int.reduceNatCast', hd, h2]
  simp (maxSteps := 999999) only [E0, seval, -Int.reduceNatCast', NUM, SRCH, SFRM, SCRP, SRGT, SDTY, hv.s0, hv.s1, hv.s2, hv.fz, SAV hA, SOFR, SLOT, INTS, g1, hd, hf, List.length_map]
  generalize hL : W _ (.loop _) _ = L
  obtain ⟨ex, s2, rfl, hex, hd⟩ := loop_at hL (α := Nat) (fun j => M.os.length - j)
    (fun s0 j s => j ≤ M.os.length ∧ ALLI (fun i x => MOF M (PO M.os i) x) (M.os.take j) ∧ s.tmps 68 = I j ∧ s.tmps 67 = I M.os.length ∧ s.tmps 66 = .vs 6 (M.os.map (ofr q.cl)) q.co ∧ s.tmps 8 = I (PO M.os j) ∧ s.tmps 1 = .rop (mcl M q) ∧ s.defers = [] ∧ s.fid = 0)
    (fun s0 ex s => ((ex = .exit 2 ∧ ALLI (fun i x => MOF M (PO M.os i) x) M.os) ∨ (ex = .ret ∧ ¬ ALLI (fun i x => MOF M (PO M.os i) x) M.os ∧ s.tmps 2 = I 450)) ∧ s.defers = []) 0
    (by simp (maxSteps := 999999) only [E0, seval, -Int.reduceNatCast', g1]; exact ⟨by omega, fun i x h => by simp at h, by simp, by simp [PO]⟩) (by
      rintro j s r hW ⟨hj, ht, h68, h67, h66, h8, g1, hd, hf⟩
      by_cases hp : j < M.os.length
      rotate_left
      · simp (maxSteps := 999999) only [E0, seval, -Int.reduceNatCast', h68, h67, hd, hf, List.length_map, (show ¬ (j : Int) < M.os.length by omega)] at hW
        subst hW
        have ht := ALLI_full ht (by omega)
        exact rd_exit ⟨.inl ⟨rfl, ht⟩, by simp (maxSteps := 999999) only [E0, seval, -Int.reduceNatCast', hd]⟩
      have e0 : M.os[j]? = some M.os[j] := List.getElem?_eq_getElem hp
      have e1 := map_get (f := ofr q.cl) e0
      generalize M.os[j] = x at *
      have co := c_ocheck x q.cl
      rcases hb10 : s.boxes 10 with _ | ⟨v10, c10⟩
      all_goals
        by_cases a1 : OC x = 0
        rotate_left
        · simp (maxSteps := 999999) only [E0, seval, -Int.reduceNatCast', NUM, SRCH, SFRM, SCRP, SRGT, SDTY, hv.s0, hv.s1, hv.s2, hv.fz, SAV hA, SOFR, SLOT, INTS, co, a1, h68, h67, h66, h8, g1, hd, hf, hb10, e1, List.length_map, Int.toNat_natCast, (show (j : Int) < M.os.length by omega), (show (0 : Int) ≤ j by omega)] at hW
          subst hW
          exact rd_ret ⟨.inr ⟨rfl, fun g => a1 (g j x e0).1, by simp (maxSteps := 999999) only [E0, seval, -Int.reduceNatCast']⟩, by simp (maxSteps := 999999) only [E0, seval, -Int.reduceNatCast', hd]⟩
        by_cases a2 : x.no ≤ PO M.os j
        · simp (maxSteps := 999999) only [E0, seval, -Int.reduceNatCast', NUM, SRCH, SFRM, SCRP, SRGT, SDTY, hv.s0, hv.s1, hv.s2, hv.fz, SAV hA, SOFR, SLOT, INTS, co, a1, a2, h68, h67, h66, h8, g1, hd, hf, hb10, e1, List.length_map, Int.toNat_natCast, (show (j : Int) < M.os.length by omega), (show (0 : Int) ≤ j by omega)] at hW
          subst hW
          exact rd_ret ⟨.inr ⟨rfl, fun g => by have := (g j x e0).2.1; omega, by simp (maxSteps := 999999) only [E0, seval, -Int.reduceNatCast']⟩, by simp (maxSteps := 999999) only [E0, seval, -Int.reduceNatCast', hd]⟩
        by_cases a3 : (M.D.fs.length : Int) ≤ x.fm
        · simp (maxSteps := 999999) only [E0, seval, -Int.reduceNatCast', NUM, SRCH, SFRM, SCRP, SRGT, SDTY, hv.s0, hv.s1, hv.s2, hv.fz, SAV hA, SOFR, SLOT, INTS, co, a1, a2, a3, h68, h67, h66, h8, g1, hd, hf, hb10, e1, List.length_map, Int.toNat_natCast, (show (j : Int) < M.os.length by omega), (show (0 : Int) ≤ j by omega)] at hW
          subst hW
          exact rd_ret ⟨.inr ⟨rfl, fun g => by have := (g j x e0).2.2.1; omega, by simp (maxSteps := 999999) only [E0, seval, -Int.reduceNatCast']⟩, by simp (maxSteps := 999999) only [E0, seval, -Int.reduceNatCast', hd]⟩
        have l8 : x.lots.length ≤ 8 := by
          unfold OC at a1
          split at a1
          · omega
          · omega
        have cw := c_hasw hr hv hA x.lots q.cl (by omega) (by omega)
        by_cases a4 : WKS M x.lots
        · rw [decide_eq_false (fun g => g a4)] at cw
          simp (maxSteps := 999999) only [E0, seval, -Int.reduceNatCast', NUM, SRCH, SFRM, SCRP, SRGT, SDTY, hv.s0, hv.s1, hv.s2, hv.fz, SAV hA, SOFR, SLOT, INTS, co, a1, a2, a3, cw, h68, h67, h66, h8, g1, hd, hf, hb10, e1, List.length_map, Int.toNat_natCast, (show (j : Int) < M.os.length by omega), (show (0 : Int) ≤ j by omega), (i64_in (x := (j : Int) + 1) (by unfold I64; omega))] at hW
          subst hW
          refine rd_next (j + 1) ?_ (show M.os.length - (j + 1) < M.os.length - j by omega)
          simp (maxSteps := 999999) only [E0, seval, -Int.reduceNatCast', h67, h66, g1, hd]
          exact ⟨by omega, ALLI_take ht e0 ⟨a1, by omega, by omega, a4⟩, by simp, by rw [PO_succ e0]⟩
        · rw [decide_eq_true a4] at cw
          simp (maxSteps := 999999) only [E0, seval, -Int.reduceNatCast', NUM, SRCH, SFRM, SCRP, SRGT, SDTY, hv.s0, hv.s1, hv.s2, hv.fz, SAV hA, SOFR, SLOT, INTS, co, a1, a2, a3, cw, h68, h67, h66, h8, g1, hd, hf, hb10, e1, List.length_map, Int.toNat_natCast, (show (j : Int) < M.os.length by omega), (show (0 : Int) ≤ j by omega)] at hW
          subst hW
          exact rd_ret ⟨.inr ⟨rfl, fun g => a4 (g j x e0).2.2.2, by simp (maxSteps := 999999) only [E0, seval, -Int.reduceNatCast']⟩, by simp (maxSteps := 999999) only [E0, seval, -Int.reduceNatCast', hd]⟩)
  rcases hex with ⟨rfl, hg⟩ | ⟨rfl, hg, h2⟩
  · rw [if_pos ⟨hAw, hg⟩]; simp (maxSteps := 999999) only [E0, seval, -Int.reduceNatCast', hd]
  · rw [if_neg (fun g => hg g.2)]; simp (maxSteps := 999999) only [E0, seval, -Int.reduceNatCast', hd, h2]
end
end Go.Proofs.Ytbmmbefgmhhciaa

/-
  Sets of offers: which are chosen, what they cost together.
-/
namespace Go.Proofs.Ytbmmbefgmhhciaa
open Go GoV
set_option maxRecDepth 100000

/-- Whether an offer is in a set: its bit. -/
def BIT (set : Int) (i : Nat) : Int := set / 2 ^ (min i 64) % 2
theorem and_one (a : Int) : IntKind.i64.wrap ((BitVec.ofInt IntKind.i64.bits a &&& BitVec.ofInt IntKind.i64.bits 1).toNat : Int) = a % 2 := by
  have e : (BitVec.ofInt IntKind.i64.bits a &&& BitVec.ofInt IntKind.i64.bits 1).toNat = (a % 2).toNat := by
    show (BitVec.ofInt 64 a &&& BitVec.ofInt 64 1).toNat = _
    rw [BitVec.toNat_and, BitVec.toNat_ofInt, BitVec.toNat_ofInt]
    rw [show ((1 : Int) % ((2 ^ 64 : Nat) : Int)).toNat = 1 by decide, Nat.and_one_is_mod]
    omega
  rw [e]
  have := Int.emod_nonneg a (b := 2) (by decide)
  have := Int.emod_lt_of_pos a (b := 2) (by decide)
  rw [i64_in (by unfold I64; omega)]
  omega
theorem INB (set : Int) (i : Nat) : IntKind.i64.wrap ((BitVec.ofInt IntKind.i64.bits (set.fdiv (2 ^ min i IntKind.i64.bits)) &&& BitVec.ofInt IntKind.i64.bits 1).toNat : Int) = BIT set i := by
  rw [and_one]
  unfold BIT
  rw [Int.fdiv_eq_ediv_of_nonneg _ (Int.le_of_lt (Int.pow_pos (by decide)))]
  rfl
/-- What the first offers of a set cost. -/
def PRC (os : List Ofr) (set : Int) : Nat → Int
  | 0 => 0
  | k + 1 => PRC os set k + match os[k]? with
    | some x => if BIT set k = 1 then x.pr else 0
    | none => 0
theorem PRC_succ {os : List Ofr} {set : Int} {k : Nat} {x : Ofr} (e : os[k]? = some x) : PRC os set (k + 1) = PRC os set k + if BIT set k = 1 then x.pr else 0 := by
  show PRC os set k + _ = _
  rw [e]
def PRB (os : List Ofr) : Prop := ∀ x ∈ os, -1073741824 ≤ x.pr ∧ x.pr ≤ 1073741824
theorem PRC_bd {os : List Ofr} (h : PRB os) (set : Int) : ∀ k : Nat, -(1073741824 * k) ≤ PRC os set k ∧ PRC os set k ≤ 1073741824 * k
  | 0 => by simp [PRC]
  | k + 1 => by
    have ih := PRC_bd h set k
    cases e : os[k]? with
    | none =>
      have : PRC os set (k + 1) = PRC os set k := by
        show PRC os set k + _ = _
        rw [e]; simp
      rw [this]; omega
    | some x =>
      have := h x (List.mem_of_getElem? e)
      rw [PRC_succ e]
      split <;> omega
section
variable {M : Mkt} {q : Cps} (hv : DV M.D q.cs q.gs q.ds q.ws) (hA : AWV M.aw q.av)
include hv hA
theorem c_chosen (set : Int) : ap Try.prog pol 41 [.agg (mcl M q), I set] = some (.ret (.fn 59 [.rop (mcl M q), .rop [I set]])) := by
  rw [ap_eq _ Try.func41 rfl Try.ntmps41 Try.results41 (by kernel_rfl) rfl (by exact Nat.le_of_ble_eq_true rfl)]
  simp (maxSteps := 999999) only [E0, seval, -Int.reduceNatCast', NUM, SRCH, SFRM, SCRP, SRGT, SDTY, hv.s0, hv.s1, hv.s2, hv.fz, SAV hA, SOFR, SLOT, INTS]
set_option maxHeartbeats 4000000 in
theorem c_price (set : Int) (hp : PRB M.os) (lo : M.os.length ≤ 12) : ap Try.prog pol 28 [.agg (mcl M q), I set] = some (.ret (I (PRC M.os set M.os.length))) := by
  have cc := c_chosen hv hA set
  rw [ap_eq _ Try.func28 rfl Try.ntmps28 Try.results28 (by kernel_rfl) rfl (by exact Nat.le_of_ble_eq_true rfl)]
  simp (maxSteps := 999999) only [E0, seval, -Int.reduceNatCast', NUM, SRCH, SFRM, SCRP, SRGT, SDTY, hv.s0, hv.s1, hv.s2, hv.fz, SAV hA, SOFR, SLOT, INTS, cc]
  rw [callF_eq _ _ Try.func59 rfl Try.ntmps59 Try.results59 (by kernel_rfl) rfl (by exact Nat.le_of_ble_eq_true rfl)]
  simp (maxSteps := 999999) only [E0, seval, -Int.reduceNatCast', NUM, SRCH, SFRM, SCRP, SRGT, SDTY, hv.s0, hv.s1, hv.s2, hv.fz, SAV hA, SOFR, SLOT, INTS, List.length_map]
  generalize hL : W _ (.loop _) _ = L
  obtain ⟨ex, s, rfl, rfl, g1, g2, g3, gd, gf⟩ := loop_at hL (α := Nat) (fun k => M.os.length - k)
    (fun s0 k s => k ≤ M.os.length ∧ s.tmps 9 = I k ∧ s.tmps 8 = I M.os.length ∧ s.tmps 7 = .vs 6 (M.os.map (ofr q.cl)) q.co ∧ s.tmps 0 = .yield 3 ∧ s.tmps 2 = .rop [I set] ∧ s.H.rows 1 = some (.gro 1 [I (PRC M.os set k)] 0) ∧ s.H.rows 2 = some .dfr ∧ s.H.rows 3 = s0.H.rows 3 ∧ 4 < s.H.next ∧ s.defers = [] ∧ s.fid = 4)
    (fun s0 ex s => ex = .exit 0 ∧ s.H.rows 1 = some (.gro 1 [I (PRC M.os set M.os.length)] 0) ∧ s.H.rows 2 = some .dfr ∧ s.H.rows 3 = s0.H.rows 3 ∧ s.defers = [] ∧ s.fid = 4) 0
    (by simp (maxSteps := 999999) only [E0, seval, -Int.reduceNatCast', PRC]; exact ⟨Nat.zero_le _, by simp⟩) (by
      rintro k s r hW ⟨hk, h9, h8, h7, h0, h2, g1, g2, g3, gn, gd, gf⟩
      simp (maxSteps := 999999) only [E0, seval, -Int.reduceNatCast'] at g3
      by_cases hp' : k < M.os.length
      rotate_left
      · simp (maxSteps := 999999) only [E0, seval, -Int.reduceNatCast', NUM, h9, h8, gd, gf, (show ¬ (k : Int) < M.os.length by omega)] at hW
        subst hW
        have : k = M.os.length := by omega
        subst this
        refine rd_exit ⟨rfl, ?_⟩
        simp (maxSteps := 999999) only [E0, seval, -Int.reduceNatCast', g1, g2, g3, gd]
      have e0 : M.os[k]? = some M.os[k] := List.getElem?_eq_getElem hp'
      have e1 := map_get (f := ofr q.cl) e0
      have ps := PRC_succ (set := set) e0
      have pb := PRC_bd hp set k
      have xb := hp _ (List.getElem_mem hp')
      generalize M.os[k] = x at *
      generalize PRC M.os set k = P at *
      rcases hb5 : s.boxes 5 with _ | ⟨v5, c5⟩
      all_goals
        by_cases hb : BIT set k = 1
        · rw [if_pos hb] at ps
          simp (maxSteps := 999999) only [E0, seval, -Int.reduceNatCast', NUM, Try.func28, SRCH, SFRM, SCRP, SRGT, SDTY, hv.s0, hv.s1, hv.s2, hv.fz, SAV hA, SOFR, SLOT, INTS, INB, hb, h9, h8, h7, h0, h2, g1, g2, g3, gd, gf, hb5, e1, List.length_map, Int.toNat_natCast, (show (k : Int) < M.os.length by omega), (show (0 : Int) ≤ k by omega), (show ¬ (k : Int) < 0 by omega), (i64_in (x := (k : Int) + 1) (by unfold I64; omega)), (i64_in (x := P + x.pr) (by unfold I64; omega))] at hW
          subst hW
          refine rd_next (k + 1) ?_ (show M.os.length - (k + 1) < M.os.length - k by omega)
          simp (maxSteps := 999999) only [E0, seval, -Int.reduceNatCast', h8, h7, h0, h2, g2, g3, gd, ps]
          exact ⟨by omega, by simp, by omega⟩
        · rw [if_neg hb, Int.add_zero] at ps
          simp (maxSteps := 999999) only [E0, seval, -Int.reduceNatCast', NUM, Try.func28, SRCH, SFRM, SCRP, SRGT, SDTY, hv.s0, hv.s1, hv.s2, hv.fz, SAV hA, SOFR, SLOT, INTS, INB, hb, h9, h8, h7, h0, h2, g1, g2, g3, gd, gf, hb5, e1, List.length_map, Int.toNat_natCast, (show (k : Int) < M.os.length by omega), (show (0 : Int) ≤ k by omega), (show ¬ (k : Int) < 0 by omega), (i64_in (x := (k : Int) + 1) (by unfold I64; omega))] at hW
          subst hW
          refine rd_next (k + 1) ?_ (show M.os.length - (k + 1) < M.os.length - k by omega)
          simp (maxSteps := 999999) only [E0, seval, -Int.reduceNatCast', h8, h7, h0, h2, g1, g2, g3, gd, ps]
          exact ⟨by omega, by simp, gn⟩)
  simp (maxSteps := 999999) only [E0, seval, -Int.reduceNatCast'] at g3
  simp (maxSteps := 999999) only [E0, seval, -Int.reduceNatCast', NUM, g1, g2, g3, gd, gf]
end
/-- What ask answers. -/
noncomputable def ASK (M : Mkt) (set : Int) : Int := if MC M = 0 then (if 0 ≤ set ∧ set ≤ 2 ^ M.os.length - 1 then 0 else 1) else MC M
theorem MC_0 {M : Mkt} (h : MC M = 0) : XC M.D = 0 ∧ M.aw.length ≤ 8 ∧ M.os.length ≤ 12 ∧ 0 < M.aw.length ∧ (0 ≤ M.room ∧ M.room ≤ 1099511627776) ∧ (0 ≤ M.rain ∧ M.rain ≤ 10000) ∧ MKO M := by
  unfold MC at h
  split at h
  · next h1 =>
    split at h
    · omega
    · split at h
      · omega
      · split at h
        · exact ⟨h1, by omega, by omega, by omega, by omega, by omega, by assumption⟩
        · omega
  · next h1 => exact absurd h h1
theorem MC_prb {M : Mkt} (h : MC M = 0) : PRB M.os := by
  intro x hx
  obtain ⟨i, e⟩ := List.mem_iff_getElem?.1 hx
  have := (MC_0 h).2.2.2.2.2.2.2 i x e
  have h1 : OC x = 0 := this.1
  unfold OC at h1
  split at h1
  · omega
  · split at h1
    · next g => exact g.2.2.1
    · omega
section
variable {M : Mkt} (hr : ∀ x ∈ M.D.rs, x.OK) {q : Cps} (hv : DV M.D q.cs q.gs q.ds q.ws) (hA : AWV M.aw q.av)
include hr hv hA
theorem c_ask (set : Int) : ap Try.prog pol 23 [.agg (mcl M q), I set] = some (.ret (I (ASK M set))) := by
  have ck := c_mcheck (M := M) hr hv hA
  rw [ap_eq _ Try.func23 rfl Try.ntmps23 Try.results23 (by kernel_rfl) rfl (by exact Nat.le_of_ble_eq_true rfl)]
  by_cases h : MC M = 0
  rotate_left
  · have e : ASK M set = MC M := by unfold ASK; rw [if_neg h]
    rw [e]
    simp (maxSteps := 999999) only [E0, seval, -Int.reduceNatCast', NUM, SRCH, SFRM, SCRP, SRGT, SDTY, hv.s0, hv.s1, hv.s2, hv.fz, SAV hA, SOFR, SLOT, INTS, ck, h]
  have lo := (MC_0 h).2.2.1
  have pw : (2 : Int) ^ M.os.length ≤ 4096 ∧ 1 ≤ (2 : Int) ^ M.os.length := by
    have h1 : (2 : Nat) ^ M.os.length ≤ 2 ^ 12 := Nat.pow_le_pow_right (by decide) lo
    have h2 : 1 ≤ (2 : Nat) ^ M.os.length := Nat.one_le_two_pow
    have h3 : ((2 ^ M.os.length : Nat) : Int) = (2 : Int) ^ M.os.length := by simp
    omega
  have e1 : IntKind.i64.wrap (1 * 2 ^ min M.os.length IntKind.i64.bits) = 2 ^ M.os.length := by
    rw [show min M.os.length IntKind.i64.bits = M.os.length by show min M.os.length 64 = _; omega, Int.one_mul, i64_in (by unfold I64; omega)]
  have cw := c_wins set 0 (2 ^ M.os.length - 1)
  by_cases h2 : 0 ≤ set ∧ set ≤ 2 ^ M.os.length - 1
  · have e : ASK M set = 0 := by unfold ASK; rw [if_pos h, if_pos h2]
    rw [e]
    rw [decide_eq_true h2] at cw
    simp (maxSteps := 999999) only [E0, seval, -Int.reduceNatCast', NUM, SRCH, SFRM, SCRP, SRGT, SDTY, hv.s0, hv.s1, hv.s2, hv.fz, SAV hA, SOFR, SLOT, INTS, ck, h, cw, List.length_map, Int.toNat_natCast, e1, (show ¬ (M.os.length : Int) < 0 by omega), (i64_in (x := (2 : Int) ^ M.os.length - 1) (by unfold I64; omega))]
  · have e : ASK M set = 1 := by unfold ASK; rw [if_pos h, if_neg h2]
    rw [e]
    rw [decide_eq_false h2] at cw
    simp (maxSteps := 999999) only [E0, seval, -Int.reduceNatCast', NUM, SRCH, SFRM, SCRP, SRGT, SDTY, hv.s0, hv.s1, hv.s2, hv.fz, SAV hA, SOFR, SLOT, INTS, ck, h, cw, List.length_map, Int.toNat_natCast, e1, (show ¬ (M.os.length : Int) < 0 by omega), (i64_in (x := (2 : Int) ^ M.os.length - 1) (by unfold I64; omega))]
end
end Go.Proofs.Ytbmmbefgmhhciaa

/-
  Copies of rows; heads and capacities.
-/
namespace Go.Proofs.Ytbmmbefgmhhciaa
open Go GoV
set_option maxRecDepth 100000

theorem all_I (l : List Int) : ((l.map I).all fun e => e.fits 1) = true := List.all_eq_true.2 fun v hv => by
  obtain ⟨y, _, rfl⟩ := List.mem_map.1 hv
  rfl
/-- What Clone leaves. -/
structure CLN (l : List Int) (w : PV) (H H' : Heap) : Prop where
  fr : ∀ i < H.next + 1, H'.rows i = H.rows i
  nx : H.next < H'.next
  el : (l ≠ [] ∧ w = .gsl 1 (H.next + 1) l.length 0 l.length ∧ H'.rows (H.next + 1) = some (.gro 1 (l.map I) 0) ∧ H'.next = H.next + 2) ∨ (l = [] ∧ (w = .nils ∨ w = .vs 1 [] (some 0)))
theorem c_clone (l : List Int) (v : PV) (hl : l.length ≤ 1000) (hv : RVN l v) (H : Heap) (X : Option (CR × Heap)) (hX : callF G Try.prog pol 40 [v] H = X) :
    ∃ w H', X = some (.ret w, H') ∧ CLN l w H H' := by
  subst hX
  rw [callF_eq _ _ Try.func40 rfl Try.ntmps40 Try.results40 (by kernel_rfl) rfl (by exact Nat.le_of_ble_eq_true rfl)]
  rcases hv with ⟨hne, c, rfl⟩ | ⟨rfl, rfl | ⟨c, rfl⟩⟩
  · cases l with
    | nil => exact absurd rfl hne
    | cons a l =>
      have al := all_I (a :: l)
      simp only [List.map_cons, List.length_cons] at al hl ⊢
      simp (maxSteps := 999999) only [E0, seval, -Int.reduceNatCast', NUM, al, or_self, List.length_map, Nat.zero_add, Nat.zero_le, (show l.length + 1 ≤ 67108864 by omega), (show l.length ≤ 67108863 by omega)]
      refine ⟨_, _, rfl, fun i hi => ?_, ?_, .inl ⟨hne, rfl, ?_, ?_⟩⟩
      · simp (maxSteps := 999999) only [E0, seval, -Int.reduceNatCast', (show ¬ i = H.next + 1 by omega)]
      · simp (maxSteps := 999999) only [E0, seval, -Int.reduceNatCast']
        omega
      · simp (maxSteps := 999999) only [E0, seval, -Int.reduceNatCast', List.map_cons]
      · simp (maxSteps := 999999) only [E0, seval, -Int.reduceNatCast']
  · simp (maxSteps := 999999) only [E0, seval, -Int.reduceNatCast', NUM, or_self, Nat.zero_add, Nat.zero_le]
    refine ⟨_, _, rfl, fun i hi => rfl, ?_, .inr ⟨rfl, .inl rfl⟩⟩
    simp (maxSteps := 999999) only [E0, seval, -Int.reduceNatCast']
    omega
  · simp (maxSteps := 999999) only [E0, seval, -Int.reduceNatCast', NUM, or_self, Nat.zero_add, Nat.zero_le]
    refine ⟨_, _, rfl, fun i hi => rfl, ?_, .inr ⟨rfl, .inr rfl⟩⟩
    simp (maxSteps := 999999) only [E0, seval, -Int.reduceNatCast']
    omega
/-- Heads that do not grow, or that the reaches can carry. -/
def CAP1 (x y : Int) (z : Rch) : Prop := y ≤ x ∨ y ≤ z.cp
instance (x y : Int) (z : Rch) : Decidable (CAP1 x y z) := by unfold CAP1; infer_instance
def CAP (rs : List Rch) (a b : List Int) (n : Nat) : Prop := ∀ (i : Nat) (x y : Int) (z : Rch), i < n → a[i]? = some x → b[i]? = some y → rs[i]? = some z → CAP1 x y z
noncomputable instance (rs : List Rch) (a b : List Int) (n : Nat) : Decidable (CAP rs a b n) := Classical.propDecidable _
theorem CAP_succ {rs : List Rch} {a b : List Int} {n : Nat} {x y : Int} {z : Rch} (h : CAP rs a b n) (e1 : a[n]? = some x) (e2 : b[n]? = some y) (e3 : rs[n]? = some z) (g : CAP1 x y z) : CAP rs a b (n + 1) := by
  intro i x' y' z' hi h1 h2 h3
  by_cases hn : i = n
  · subst hn
    rw [e1] at h1; rw [e2] at h2; rw [e3] at h3
    cases h1; cases h2; cases h3
    exact g
  · exact h i x' y' z' (by omega) h1 h2 h3
section
variable {M : Mkt} {q : Cps} (hv : DV M.D q.cs q.gs q.ds q.ws) (hA : AWV M.aw q.av)
include hv hA
theorem c_cap1 (i : Nat) (x y : Int) (z : Rch) (e : M.D.rs[i]? = some z) : ap Try.prog pol 48 [I i, I x, I y, .rop (mcl M q)] = some (.ret (.bool (decide (CAP1 x y z)))) := by
  have hi := (List.getElem?_eq_some_iff.1 e).1
  have e1 := map_get (f := rch) e
  rw [ap_eq _ Try.func48 rfl Try.ntmps48 Try.results48 (by kernel_rfl) rfl (by exact Nat.le_of_ble_eq_true rfl)]
  by_cases h1 : y ≤ x
  · rw [decide_eq_true (show CAP1 x y z from .inl h1)]
    simp (maxSteps := 999999) only [E0, seval, -Int.reduceNatCast', NUM, h1]
  · by_cases h2 : y ≤ z.cp
    · rw [decide_eq_true (show CAP1 x y z from .inr h2)]
      simp (maxSteps := 999999) only [E0, seval, -Int.reduceNatCast', NUM, SAV hA, h1, h2, e1, List.length_map, Int.toNat_natCast, (show (0 : Int) ≤ i by omega), (show (i : Int) < M.D.rs.length by omega)]
    · rw [decide_eq_false (show ¬ CAP1 x y z from fun h => h.elim h1 h2)]
      simp (maxSteps := 999999) only [E0, seval, -Int.reduceNatCast', NUM, SAV hA, h1, h2, e1, List.length_map, Int.toNat_natCast, (show (0 : Int) ≤ i by omega), (show (i : Int) < M.D.rs.length by omega)]
theorem c_cap (a b : List Int) (c c' : Option Nat) (la : a.length = M.D.rs.length) (lb : b.length = M.D.rs.length) (lr : M.D.rs.length ≤ 64) : ap Try.prog pol 47 [.vs 1 (a.map I) c, .vs 1 (b.map I) c', .fn 48 [.rop (mcl M q)]] = some (.ret (.bool (decide (CAP M.D.rs a b M.D.rs.length)))) := by
  rw [ap_eq _ Try.func47 rfl Try.ntmps47 Try.results47 (by kernel_rfl) rfl (by exact Nat.le_of_ble_eq_true rfl)]
  simp (maxSteps := 999999) only [E0, seval, -Int.reduceNatCast', NUM, INTS]
  generalize hL : W _ (.loop _) _ = L
  obtain ⟨ex, s, rfl, hex, hd⟩ := loop_at hL (α := Nat) (fun j => a.length - j)
    (fun s0 j s => j ≤ a.length ∧ CAP M.D.rs a b j ∧ s.tmps 10 = I j ∧ s.tmps 9 = I a.length ∧ s.tmps 0 = .vs 1 (a.map I) c ∧ s.tmps 1 = .vs 1 (b.map I) c' ∧ s.tmps 2 = .fn 48 [.rop (mcl M q)] ∧ s.defers = [] ∧ s.fid = 0)
    (fun s0 ex s => ((ex = .exit 0 ∧ CAP M.D.rs a b M.D.rs.length) ∨ (ex = .ret ∧ ¬ CAP M.D.rs a b M.D.rs.length ∧ s.tmps 6 = .bool false)) ∧ s.defers = []) 0
    (by simp (maxSteps := 999999) only [E0, seval, -Int.reduceNatCast']; exact ⟨by omega, fun i x y z h => absurd h (by omega), by simp⟩) (by
      rintro j s r hW ⟨hj, hc, h10, h9, h0, h1, h2, hd, hf⟩
      by_cases hp : j < a.length
      rotate_left
      · simp (maxSteps := 999999) only [E0, seval, -Int.reduceNatCast', h10, h9, hd, hf, (show ¬ (j : Int) < a.length by omega)] at hW
        subst hW
        have : j = a.length := by omega
        subst this
        rw [la] at hc
        exact rd_exit ⟨.inl ⟨rfl, hc⟩, by simp (maxSteps := 999999) only [E0, seval, -Int.reduceNatCast', hd]⟩
      have e0 : a[j]? = some a[j] := List.getElem?_eq_getElem hp
      have f0 : b[j]? = some (b[j]'(by omega)) := List.getElem?_eq_getElem _
      have z0 : M.D.rs[j]? = some (M.D.rs[j]'(by omega)) := List.getElem?_eq_getElem _
      have e1 := ints_get e0
      have f1 := ints_get f0
      generalize a[j] = x at *
      generalize (b[j]'(by omega)) = y at *
      generalize (M.D.rs[j]'(by omega)) = z at *
      have cf := c_cap1 hv hA j x y z z0
      by_cases hx : CAP1 x y z
      · rw [decide_eq_true hx] at cf
        simp (maxSteps := 999999) only [E0, seval, -Int.reduceNatCast', NUM, SRCH, SFRM, SCRP, SRGT, SDTY, hv.s0, hv.s1, hv.s2, hv.fz, SAV hA, SOFR, SLOT, INTS, cf, h10, h9, h0, h1, h2, hd, hf, e1, f1, List.length_map, Int.toNat_natCast, (show (j : Int) < a.length by omega), (show (j : Int) < b.length by omega), (show (0 : Int) ≤ j by omega), (i64_in (x := (j : Int) + 1) (by unfold I64; omega))] at hW
        subst hW
        refine rd_next (j + 1) ?_ (show a.length - (j + 1) < a.length - j by omega)
        simp (maxSteps := 999999) only [E0, seval, -Int.reduceNatCast', h9, h0, h1, h2, hd]
        exact ⟨by omega, CAP_succ hc e0 f0 z0 hx, by simp⟩
      · rw [decide_eq_false hx] at cf
        simp (maxSteps := 999999) only [E0, seval, -Int.reduceNatCast', NUM, SRCH, SFRM, SCRP, SRGT, SDTY, hv.s0, hv.s1, hv.s2, hv.fz, SAV hA, SOFR, SLOT, INTS, cf, h10, h9, h0, h1, h2, hd, hf, e1, f1, List.length_map, Int.toNat_natCast, (show (j : Int) < a.length by omega), (show (j : Int) < b.length by omega), (show (0 : Int) ≤ j by omega)] at hW
        subst hW
        exact rd_ret ⟨.inr ⟨rfl, fun g => hx (g j x y z (by omega) e0 f0 z0), by simp (maxSteps := 999999) only [E0, seval, -Int.reduceNatCast']⟩, by simp (maxSteps := 999999) only [E0, seval, -Int.reduceNatCast', hd]⟩)
  rcases hex with ⟨rfl, hg⟩ | ⟨rfl, hg, h6⟩
  · rw [decide_eq_true hg]; simp (maxSteps := 999999) only [E0, seval, -Int.reduceNatCast', hd]
  · rw [decide_eq_false hg]; simp (maxSteps := 999999) only [E0, seval, -Int.reduceNatCast', hd, h6]
end
end Go.Proofs.Ytbmmbefgmhhciaa

/-
  A week after a set of offers: who can be met.
-/
namespace Go.Proofs.Ytbmmbefgmhhciaa
open Go GoV
set_option maxRecDepth 100000

/-- The litres kept so far, after a week; none if the week cannot be met. -/
noncomputable def STEPW (M : Mkt) (kept : Int) (old now : List Int) : Option Int :=
  if LIT now then (match NDS M.D old M.D.rs.length, NDS M.D now M.D.rs.length with
    | some a, some b => if CAP M.D.rs a b M.D.rs.length then (if 0 ≤ kept + (a.headD 0 - b.headD 0) ∧ kept + (a.headD 0 - b.headD 0) ≤ M.room then some (kept + (a.headD 0 - b.headD 0)) else none) else none
    | _, _ => none) else none
/-- The value of a row of a table. -/
def TEV (l : List Int) (v : PV) (H : Heap) : Prop := (l ≠ [] ∧ ∃ id fz, v = .gsl 1 id l.length 0 l.length ∧ H.rows id = some (.gro 1 (l.map I) fz) ∧ id < H.next) ∨ (l = [] ∧ (v = .nils ∨ v = .vs 1 [] (some 0)))
/-- What a week's check leaves. -/
structure AF1 (M : Mkt) (kept : Int) (old l : List Int) (v : PV) (R : Nat) (b : Bool) (H H' : Heap) : Prop where
  fr : ∀ i < H.next, i ≠ R → (∀ id n m k, v = .gsl n id m 0 k → i ≠ id) → H'.rows i = H.rows i
  ent : TEV l v H'
  nx : H.next ≤ H'.next
  res : (b = true ∧ ∃ k, STEPW M kept old l = some k ∧ H'.rows R = some (.gro 1 [I k] 0)) ∨ (b = false ∧ STEPW M kept old l = none ∧ ∃ k, H'.rows R = some (.gro 1 [I k] 0))
section
variable {M : Mkt} (hr : ∀ x ∈ M.D.rs, x.OK) {q : Cps} (hv : DV M.D q.cs q.gs q.ds q.ws) (hA : AWV M.aw q.av)
include hr hv hA
set_option maxHeartbeats 8000000 in
theorem c_after1 (hX0 : XC M.D = 0) (hroom : 0 ≤ M.room ∧ M.room ≤ 1099511627776) (w : Int) (old : List Int) (vo : PV) (ho : NDO M.D old) (hvo : RVN old vo) (l : List Int) (v : PV) (ll : l.length = M.D.fs.length) (kept : Int) (hk : 0 ≤ kept ∧ kept ≤ 1099511627776) (H : Heap) (hv2 : TEV l v H) (R : Nat) (hR : H.rows R = some (.gro 1 [I kept] 0)) (hRn : R < H.next) (hRv : ∀ id n m k, v = .gsl n id m 0 k → R ≠ id) (X : Option (CR × Heap))
    (hX : callF G Try.prog pol 43 [I w, vo, v, .rop (mcl M q), .ptr R 1 0 0] H = X) : ∃ b H', X = some (.ret (.bool b), H') ∧ AF1 M kept old l v R b H H' := by
  obtain ⟨hL0, hK⟩ := XC_0 hX0
  obtain ⟨hd0, a, ha⟩ := ho
  have lrs := hL0.1
  have lfs := hL0.2.1
  have hr0 := hK.2.2.1
  have noka := NDS_ok (RSI hX0) (Nat.le_refl _) ha
  have ro := RVS hvo.rv
  have co := c_Needs hr q.r q.f hv old vo hvo.rv
  rw [show NDV M.D old = .tup [.vs 1 (a.map I) none, .bool true, I 0] by unfold NDV; rw [if_pos hd0, ha]] at co
  have a0 : a[0]? = some (a.headD 0) := by
    cases a with
    | nil => have := noka.len; simp at this; omega
    | cons x a => rfl
  have a1 := ints_get a0
  have ab : 0 ≤ a.headD 0 ∧ a.headD 0 ≤ 1073741824 := noka.lit _ (List.mem_of_getElem? a0)
  generalize hah : a.headD 0 = ah at *
  have hu : ∃ u, RV l u ∧ ((l ≠ [] ∧ u = .vs 1 (l.map I) none ∧ ∃ id fz, v = .gsl 1 id l.length 0 l.length ∧ H.rows id = some (.gro 1 (l.map I) fz) ∧ id < H.next) ∨ (l = [] ∧ u = .nils ∧ v = .nils) ∨ (l = [] ∧ u = .vs 1 [] (some 0) ∧ v = .vs 1 [] (some 0))) := by
    rcases hv2 with ⟨hne, id, fz, e, hrow, hid⟩ | ⟨e, e2 | e2⟩
    · exact ⟨_, .inl ⟨none, rfl⟩, .inl ⟨hne, rfl, id, fz, e, hrow, hid⟩⟩
    · exact ⟨.nils, .inr ⟨e, rfl⟩, .inr (.inl ⟨e, rfl, e2⟩)⟩
    · exact ⟨.vs 1 [] (some 0), .inl ⟨some 0, by rw [e]; rfl⟩, .inr (.inr ⟨e, rfl, e2⟩)⟩
  obtain ⟨u, hu, hcase⟩ := hu
  have ru := RVS hu
  have cb := c_hasl 45 (.inr rfl) l u hu (by omega)
  have cn := c_Needs hr q.r q.f hv l u hu
  have tkl : (l.map I).take l.length = l.map I := List.take_of_length_le (by simp)
  rcases hcase with ⟨hne, rfl, id, fz, rfl, hcase, hid⟩ | ⟨he, rfl, rfl⟩ | ⟨he, rfl, rfl⟩
  case inl =>
    have hRi : ¬ R = id := hRv id _ _ _ rfl
    have hiR : ¬ id = R := fun e => hRi e.symm
    rw [callF_eq _ _ Try.func43 rfl Try.ntmps43 Try.results43 (by kernel_rfl) rfl (by exact Nat.le_of_ble_eq_true rfl)] at hX
    by_cases hl : LIT l
    rotate_left
    · rw [decide_eq_true hl] at cb
      have es : STEPW M kept old l = none := by unfold STEPW; rw [if_neg hl]
      simp (maxSteps := 999999) only [E0, seval, -Int.reduceNatCast', NUM, NADD, SRCH, SFRM, SCRP, SRGT, SDTY, hv.s0, hv.s1, hv.s2, hv.fz, SAV hA, SOFR, SLOT, INTS, ro, ru, hR, hcase, tkl, hRi, hiR, List.length_map, Nat.zero_add, Nat.le_refl, cb] at hX
      subst hX
      exact ⟨_, _, rfl, (fun i hi h1 h2 => by simp (maxSteps := 999999) only [E0, seval, -Int.reduceNatCast', (show ¬ i = id from h2 id _ _ _ rfl)]), (.inl ⟨hne, id, l.length, rfl, (by simp (maxSteps := 999999) only [E0, seval, -Int.reduceNatCast', hRi, hiR]), (by simp (maxSteps := 999999) only [E0, seval, -Int.reduceNatCast']; omega)⟩), (by simp (maxSteps := 999999) only [E0, seval, -Int.reduceNatCast']; omega), .inr ⟨rfl, es, kept, (by simp (maxSteps := 999999) only [E0, seval, -Int.reduceNatCast', hRi, hiR, hR])⟩⟩
    rw [decide_eq_false (fun g => g hl)] at cb
    have dl : DVC M.D l = 0 := by unfold DVC; rw [if_pos hX0, if_pos ⟨ll, hl⟩]
    cases hN : NDS M.D l M.D.rs.length with
    | none =>
      have es : STEPW M kept old l = none := by unfold STEPW; rw [if_pos hl, ha, hN]
      rw [show NDV M.D l = .tup [.nils, .bool false, I 0] by unfold NDV; rw [if_pos dl, hN]] at cn
      simp (maxSteps := 999999) only [E0, seval, -Int.reduceNatCast', NUM, NADD, SRCH, SFRM, SCRP, SRGT, SDTY, hv.s0, hv.s1, hv.s2, hv.fz, SAV hA, SOFR, SLOT, INTS, ro, ru, hR, hcase, tkl, hRi, hiR, List.length_map, Nat.zero_add, Nat.le_refl, cb, co, cn] at hX
      subst hX
      exact ⟨_, _, rfl, (fun i hi h1 h2 => by simp (maxSteps := 999999) only [E0, seval, -Int.reduceNatCast', (show ¬ i = id from h2 id _ _ _ rfl)]), (.inl ⟨hne, id, l.length, rfl, (by simp (maxSteps := 999999) only [E0, seval, -Int.reduceNatCast', hRi, hiR]), (by simp (maxSteps := 999999) only [E0, seval, -Int.reduceNatCast']; omega)⟩), (by simp (maxSteps := 999999) only [E0, seval, -Int.reduceNatCast']; omega), .inr ⟨rfl, es, kept, (by simp (maxSteps := 999999) only [E0, seval, -Int.reduceNatCast', hRi, hiR, hR])⟩⟩
    | some b =>
      rw [show NDV M.D l = .tup [.vs 1 (b.map I) none, .bool true, I 0] by unfold NDV; rw [if_pos dl, hN]] at cn
      have nokb := NDS_ok (RSI hX0) (Nat.le_refl _) hN
      have b0 : b[0]? = some (b.headD 0) := by
        cases b with
        | nil => have := nokb.len; simp at this; omega
        | cons x b => rfl
      have b1 := ints_get b0
      have bb : 0 ≤ b.headD 0 ∧ b.headD 0 ≤ 1073741824 := nokb.lit _ (List.mem_of_getElem? b0)
      have cc := c_cap hv hA a b none none noka.len nokb.len lrs
      have es : STEPW M kept old l = if CAP M.D.rs a b M.D.rs.length then (if 0 ≤ kept + (ah - b.headD 0) ∧ kept + (ah - b.headD 0) ≤ M.room then some (kept + (ah - b.headD 0)) else none) else none := by unfold STEPW; rw [if_pos hl, ha, hN]; simp only [hah]
      generalize b.headD 0 = bh at *
      by_cases hC : CAP M.D.rs a b M.D.rs.length
      rotate_left
      · rw [if_neg hC] at es
        rw [decide_eq_false hC] at cc
        simp (maxSteps := 999999) only [E0, seval, -Int.reduceNatCast', NUM, NADD, SRCH, SFRM, SCRP, SRGT, SDTY, hv.s0, hv.s1, hv.s2, hv.fz, SAV hA, SOFR, SLOT, INTS, ro, ru, hR, hcase, tkl, hRi, hiR, List.length_map, Nat.zero_add, Nat.le_refl, cb, co, cn, cc] at hX
        subst hX
        exact ⟨_, _, rfl, (fun i hi h1 h2 => by simp (maxSteps := 999999) only [E0, seval, -Int.reduceNatCast', (show ¬ i = id from h2 id _ _ _ rfl)]), (.inl ⟨hne, id, l.length, rfl, (by simp (maxSteps := 999999) only [E0, seval, -Int.reduceNatCast', hRi, hiR]), (by simp (maxSteps := 999999) only [E0, seval, -Int.reduceNatCast']; omega)⟩), (by simp (maxSteps := 999999) only [E0, seval, -Int.reduceNatCast']; omega), .inr ⟨rfl, es, kept, (by simp (maxSteps := 999999) only [E0, seval, -Int.reduceNatCast', hRi, hiR, hR])⟩⟩
      rw [if_pos hC] at es
      rw [decide_eq_true hC] at cc
      have cw := c_wins (kept + (ah - bh)) 0 M.room
      simp (maxSteps := 999999) only [E0, seval, -Int.reduceNatCast', NUM, NADD, SRCH, SFRM, SCRP, SRGT, SDTY, hv.s0, hv.s1, hv.s2, hv.fz, SAV hA, SOFR, SLOT, INTS, ro, ru, hR, hcase, tkl, hRi, hiR, List.length_map, Nat.zero_add, Nat.le_refl, cb, co, cn, cc, a1, b1, noka.len, nokb.len, hr0, cw, (show (0 : Int) < M.D.rs.length by omega), (i64_in (x := ah - bh) (by unfold I64; omega)), (i64_in (x := kept + (ah - bh)) (by unfold I64; omega))] at hX
      replace hX := ite_chk1 (fun a => [(9, [Vr.row a], [Vr.row a]), (0, [Vr.row a], [])]) R (by intro f h1; simp [renL, renM, renV, h1]) (by kernel_rfl) hX
      subst hX
      by_cases hk2 : 0 ≤ kept + (ah - bh) ∧ kept + (ah - bh) ≤ M.room
      · rw [if_pos hk2] at es
        rw [decide_eq_true hk2]
        exact ⟨_, _, rfl, (fun i hi h1 h2 => by simp (maxSteps := 999999) only [E0, seval, -Int.reduceNatCast', (show ¬ i = R from h1), (show ¬ i = id from h2 id _ _ _ rfl)]), (.inl ⟨hne, id, l.length, rfl, (by simp (maxSteps := 999999) only [E0, seval, -Int.reduceNatCast', hRi, hiR]), (by simp (maxSteps := 999999) only [E0, seval, -Int.reduceNatCast']; omega)⟩), (by simp (maxSteps := 999999) only [E0, seval, -Int.reduceNatCast']; omega), .inl ⟨rfl, _, es, (by simp (maxSteps := 999999) only [E0, seval, -Int.reduceNatCast', hRi, hiR])⟩⟩
      · rw [if_neg hk2] at es
        rw [decide_eq_false hk2]
        exact ⟨_, _, rfl, (fun i hi h1 h2 => by simp (maxSteps := 999999) only [E0, seval, -Int.reduceNatCast', (show ¬ i = R from h1), (show ¬ i = id from h2 id _ _ _ rfl)]), (.inl ⟨hne, id, l.length, rfl, (by simp (maxSteps := 999999) only [E0, seval, -Int.reduceNatCast', hRi, hiR]), (by simp (maxSteps := 999999) only [E0, seval, -Int.reduceNatCast']; omega)⟩), (by simp (maxSteps := 999999) only [E0, seval, -Int.reduceNatCast']; omega), .inr ⟨rfl, es, kept + (ah - bh), (by simp (maxSteps := 999999) only [E0, seval, -Int.reduceNatCast', hRi, hiR])⟩⟩
  case inr.inl =>
    rw [callF_eq _ _ Try.func43 rfl Try.ntmps43 Try.results43 (by kernel_rfl) rfl (by exact Nat.le_of_ble_eq_true rfl)] at hX
    by_cases hl : LIT l
    rotate_left
    · rw [decide_eq_true hl] at cb
      have es : STEPW M kept old l = none := by unfold STEPW; rw [if_neg hl]
      simp (maxSteps := 999999) only [E0, seval, -Int.reduceNatCast', NUM, NADD, SRCH, SFRM, SCRP, SRGT, SDTY, hv.s0, hv.s1, hv.s2, hv.fz, SAV hA, SOFR, SLOT, INTS, ro, ru, hR, List.length_map, Nat.zero_add, Nat.le_refl, cb] at hX
      subst hX
      exact ⟨_, _, rfl, (fun i hi h1 h2 => rfl), (.inr ⟨he, by simp⟩), (by simp (maxSteps := 999999) only [E0, seval, -Int.reduceNatCast']; omega), .inr ⟨rfl, es, kept, (by first | exact hR | (simp (maxSteps := 999999) only [E0, seval, -Int.reduceNatCast', hR]))⟩⟩
    rw [decide_eq_false (fun g => g hl)] at cb
    have dl : DVC M.D l = 0 := by unfold DVC; rw [if_pos hX0, if_pos ⟨ll, hl⟩]
    cases hN : NDS M.D l M.D.rs.length with
    | none =>
      have es : STEPW M kept old l = none := by unfold STEPW; rw [if_pos hl, ha, hN]
      rw [show NDV M.D l = .tup [.nils, .bool false, I 0] by unfold NDV; rw [if_pos dl, hN]] at cn
      simp (maxSteps := 999999) only [E0, seval, -Int.reduceNatCast', NUM, NADD, SRCH, SFRM, SCRP, SRGT, SDTY, hv.s0, hv.s1, hv.s2, hv.fz, SAV hA, SOFR, SLOT, INTS, ro, ru, hR, List.length_map, Nat.zero_add, Nat.le_refl, cb, co, cn] at hX
      subst hX
      exact ⟨_, _, rfl, (fun i hi h1 h2 => rfl), (.inr ⟨he, by simp⟩), (by simp (maxSteps := 999999) only [E0, seval, -Int.reduceNatCast']; omega), .inr ⟨rfl, es, kept, (by first | exact hR | (simp (maxSteps := 999999) only [E0, seval, -Int.reduceNatCast', hR]))⟩⟩
    | some b =>
      rw [show NDV M.D l = .tup [.vs 1 (b.map I) none, .bool true, I 0] by unfold NDV; rw [if_pos dl, hN]] at cn
      have nokb := NDS_ok (RSI hX0) (Nat.le_refl _) hN
      have b0 : b[0]? = some (b.headD 0) := by
        cases b with
        | nil => have := nokb.len; simp at this; omega
        | cons x b => rfl
      have b1 := ints_get b0
      have bb : 0 ≤ b.headD 0 ∧ b.headD 0 ≤ 1073741824 := nokb.lit _ (List.mem_of_getElem? b0)
      have cc := c_cap hv hA a b none none noka.len nokb.len lrs
      have es : STEPW M kept old l = if CAP M.D.rs a b M.D.rs.length then (if 0 ≤ kept + (ah - b.headD 0) ∧ kept + (ah - b.headD 0) ≤ M.room then some (kept + (ah - b.headD 0)) else none) else none := by unfold STEPW; rw [if_pos hl, ha, hN]; simp only [hah]
      generalize b.headD 0 = bh at *
      by_cases hC : CAP M.D.rs a b M.D.rs.length
      rotate_left
      · rw [if_neg hC] at es
        rw [decide_eq_false hC] at cc
        simp (maxSteps := 999999) only [E0, seval, -Int.reduceNatCast', NUM, NADD, SRCH, SFRM, SCRP, SRGT, SDTY, hv.s0, hv.s1, hv.s2, hv.fz, SAV hA, SOFR, SLOT, INTS, ro, ru, hR, List.length_map, Nat.zero_add, Nat.le_refl, cb, co, cn, cc] at hX
        subst hX
        exact ⟨_, _, rfl, (fun i hi h1 h2 => rfl), (.inr ⟨he, by simp⟩), (by simp (maxSteps := 999999) only [E0, seval, -Int.reduceNatCast']; omega), .inr ⟨rfl, es, kept, (by first | exact hR | (simp (maxSteps := 999999) only [E0, seval, -Int.reduceNatCast', hR]))⟩⟩
      rw [if_pos hC] at es
      rw [decide_eq_true hC] at cc
      have cw := c_wins (kept + (ah - bh)) 0 M.room
      simp (maxSteps := 999999) only [E0, seval, -Int.reduceNatCast', NUM, NADD, SRCH, SFRM, SCRP, SRGT, SDTY, hv.s0, hv.s1, hv.s2, hv.fz, SAV hA, SOFR, SLOT, INTS, ro, ru, hR, List.length_map, Nat.zero_add, Nat.le_refl, cb, co, cn, cc, a1, b1, noka.len, nokb.len, hr0, cw, (show (0 : Int) < M.D.rs.length by omega), (i64_in (x := ah - bh) (by unfold I64; omega)), (i64_in (x := kept + (ah - bh)) (by unfold I64; omega))] at hX
      replace hX := ite_chk1 (fun a => [(9, [Vr.row a], [Vr.row a]), (0, [Vr.row a], [])]) R (by intro f h1; simp [renL, renM, renV, h1]) (by kernel_rfl) hX
      subst hX
      by_cases hk2 : 0 ≤ kept + (ah - bh) ∧ kept + (ah - bh) ≤ M.room
      · rw [if_pos hk2] at es
        rw [decide_eq_true hk2]
        exact ⟨_, _, rfl, (fun i hi h1 h2 => by simp (maxSteps := 999999) only [E0, seval, -Int.reduceNatCast', (show ¬ i = R from h1)]), (.inr ⟨he, by simp⟩), (by simp (maxSteps := 999999) only [E0, seval, -Int.reduceNatCast']; omega), .inl ⟨rfl, _, es, (by simp (maxSteps := 999999) only [E0, seval, -Int.reduceNatCast'])⟩⟩
      · rw [if_neg hk2] at es
        rw [decide_eq_false hk2]
        exact ⟨_, _, rfl, (fun i hi h1 h2 => by simp (maxSteps := 999999) only [E0, seval, -Int.reduceNatCast', (show ¬ i = R from h1)]), (.inr ⟨he, by simp⟩), (by simp (maxSteps := 999999) only [E0, seval, -Int.reduceNatCast']; omega), .inr ⟨rfl, es, kept + (ah - bh), (by simp (maxSteps := 999999) only [E0, seval, -Int.reduceNatCast'])⟩⟩
  case inr.inr =>
    rw [callF_eq _ _ Try.func43 rfl Try.ntmps43 Try.results43 (by kernel_rfl) rfl (by exact Nat.le_of_ble_eq_true rfl)] at hX
    by_cases hl : LIT l
    rotate_left
    · rw [decide_eq_true hl] at cb
      have es : STEPW M kept old l = none := by unfold STEPW; rw [if_neg hl]
      simp (maxSteps := 999999) only [E0, seval, -Int.reduceNatCast', NUM, NADD, SRCH, SFRM, SCRP, SRGT, SDTY, hv.s0, hv.s1, hv.s2, hv.fz, SAV hA, SOFR, SLOT, INTS, ro, ru, hR, List.length_map, Nat.zero_add, Nat.le_refl, cb] at hX
      subst hX
      exact ⟨_, _, rfl, (fun i hi h1 h2 => rfl), (.inr ⟨he, by simp⟩), (by simp (maxSteps := 999999) only [E0, seval, -Int.reduceNatCast']; omega), .inr ⟨rfl, es, kept, (by first | exact hR | (simp (maxSteps := 999999) only [E0, seval, -Int.reduceNatCast', hR]))⟩⟩
    rw [decide_eq_false (fun g => g hl)] at cb
    have dl : DVC M.D l = 0 := by unfold DVC; rw [if_pos hX0, if_pos ⟨ll, hl⟩]
    cases hN : NDS M.D l M.D.rs.length with
    | none =>
      have es : STEPW M kept old l = none := by unfold STEPW; rw [if_pos hl, ha, hN]
      rw [show NDV M.D l = .tup [.nils, .bool false, I 0] by unfold NDV; rw [if_pos dl, hN]] at cn
      simp (maxSteps := 999999) only [E0, seval, -Int.reduceNatCast', NUM, NADD, SRCH, SFRM, SCRP, SRGT, SDTY, hv.s0, hv.s1, hv.s2, hv.fz, SAV hA, SOFR, SLOT, INTS, ro, ru, hR, List.length_map, Nat.zero_add, Nat.le_refl, cb, co, cn] at hX
      subst hX
      exact ⟨_, _, rfl, (fun i hi h1 h2 => rfl), (.inr ⟨he, by simp⟩), (by simp (maxSteps := 999999) only [E0, seval, -Int.reduceNatCast']; omega), .inr ⟨rfl, es, kept, (by first | exact hR | (simp (maxSteps := 999999) only [E0, seval, -Int.reduceNatCast', hR]))⟩⟩
    | some b =>
      rw [show NDV M.D l = .tup [.vs 1 (b.map I) none, .bool true, I 0] by unfold NDV; rw [if_pos dl, hN]] at cn
      have nokb := NDS_ok (RSI hX0) (Nat.le_refl _) hN
      have b0 : b[0]? = some (b.headD 0) := by
        cases b with
        | nil => have := nokb.len; simp at this; omega
        | cons x b => rfl
      have b1 := ints_get b0
      have bb : 0 ≤ b.headD 0 ∧ b.headD 0 ≤ 1073741824 := nokb.lit _ (List.mem_of_getElem? b0)
      have cc := c_cap hv hA a b none none noka.len nokb.len lrs
      have es : STEPW M kept old l = if CAP M.D.rs a b M.D.rs.length then (if 0 ≤ kept + (ah - b.headD 0) ∧ kept + (ah - b.headD 0) ≤ M.room then some (kept + (ah - b.headD 0)) else none) else none := by unfold STEPW; rw [if_pos hl, ha, hN]; simp only [hah]
      generalize b.headD 0 = bh at *
      by_cases hC : CAP M.D.rs a b M.D.rs.length
      rotate_left
      · rw [if_neg hC] at es
        rw [decide_eq_false hC] at cc
        simp (maxSteps := 999999) only [E0, seval, -Int.reduceNatCast', NUM, NADD, SRCH, SFRM, SCRP, SRGT, SDTY, hv.s0, hv.s1, hv.s2, hv.fz, SAV hA, SOFR, SLOT, INTS, ro, ru, hR, List.length_map, Nat.zero_add, Nat.le_refl, cb, co, cn, cc] at hX
        subst hX
        exact ⟨_, _, rfl, (fun i hi h1 h2 => rfl), (.inr ⟨he, by simp⟩), (by simp (maxSteps := 999999) only [E0, seval, -Int.reduceNatCast']; omega), .inr ⟨rfl, es, kept, (by first | exact hR | (simp (maxSteps := 999999) only [E0, seval, -Int.reduceNatCast', hR]))⟩⟩
      rw [if_pos hC] at es
      rw [decide_eq_true hC] at cc
      have cw := c_wins (kept + (ah - bh)) 0 M.room
      simp (maxSteps := 999999) only [E0, seval, -Int.reduceNatCast', NUM, NADD, SRCH, SFRM, SCRP, SRGT, SDTY, hv.s0, hv.s1, hv.s2, hv.fz, SAV hA, SOFR, SLOT, INTS, ro, ru, hR, List.length_map, Nat.zero_add, Nat.le_refl, cb, co, cn, cc, a1, b1, noka.len, nokb.len, hr0, cw, (show (0 : Int) < M.D.rs.length by omega), (i64_in (x := ah - bh) (by unfold I64; omega)), (i64_in (x := kept + (ah - bh)) (by unfold I64; omega))] at hX
      replace hX := ite_chk1 (fun a => [(9, [Vr.row a], [Vr.row a]), (0, [Vr.row a], [])]) R (by intro f h1; simp [renL, renM, renV, h1]) (by kernel_rfl) hX
      subst hX
      by_cases hk2 : 0 ≤ kept + (ah - bh) ∧ kept + (ah - bh) ≤ M.room
      · rw [if_pos hk2] at es
        rw [decide_eq_true hk2]
        exact ⟨_, _, rfl, (fun i hi h1 h2 => by simp (maxSteps := 999999) only [E0, seval, -Int.reduceNatCast', (show ¬ i = R from h1)]), (.inr ⟨he, by simp⟩), (by simp (maxSteps := 999999) only [E0, seval, -Int.reduceNatCast']; omega), .inl ⟨rfl, _, es, (by simp (maxSteps := 999999) only [E0, seval, -Int.reduceNatCast'])⟩⟩
      · rw [if_neg hk2] at es
        rw [decide_eq_false hk2]
        exact ⟨_, _, rfl, (fun i hi h1 h2 => by simp (maxSteps := 999999) only [E0, seval, -Int.reduceNatCast', (show ¬ i = R from h1)]), (.inr ⟨he, by simp⟩), (by simp (maxSteps := 999999) only [E0, seval, -Int.reduceNatCast']; omega), .inr ⟨rfl, es, kept + (ah - bh), (by simp (maxSteps := 999999) only [E0, seval, -Int.reduceNatCast'])⟩⟩
end
end Go.Proofs.Ytbmmbefgmhhciaa

/-
  All weeks after a set of offers: who can be met.
-/
namespace Go.Proofs.Ytbmmbefgmhhciaa
open Go GoV
set_option maxRecDepth 100000

/-- The litres kept in the first weeks; none if one of them cannot be met. -/
noncomputable def KPT (M : Mkt) (T : List (List Int)) : Nat → Option Int
  | 0 => some 0
  | k + 1 => (KPT M T k).bind fun kept => (M.aw[k]?).bind fun o => (T[k]?).bind fun l => STEPW M kept o l
theorem KPT_succ {M : Mkt} {T : List (List Int)} {k : Nat} {kept : Int} {o l : List Int} (h : KPT M T k = some kept) (e1 : M.aw[k]? = some o) (e2 : T[k]? = some l) : KPT M T (k + 1) = STEPW M kept o l := by
  show (KPT M T k).bind _ = _
  rw [h, Option.bind_some, e1, Option.bind_some, e2, Option.bind_some]
theorem KPT_none {M : Mkt} {T : List (List Int)} {k : Nat} (h : KPT M T k = none) : ∀ {j : Nat}, k ≤ j → KPT M T j = none := by
  intro j hj
  induction j with
  | zero => have : k = 0 := by omega
            subst this; exact h
  | succ j ih =>
    by_cases e : k = j + 1
    · subst e; exact h
    · show (KPT M T j).bind _ = _
      rw [ih (by omega)]; rfl
theorem STEPW_bd {M : Mkt} {kept k : Int} {o l : List Int} (h : STEPW M kept o l = some k) : 0 ≤ k ∧ k ≤ M.room := by
  unfold STEPW at h
  split at h
  · split at h
    · split at h
      · split at h
        · next hk => cases h; exact hk
        · cases h
      · cases h
    · cases h
  · cases h
theorem KPT_bd {M : Mkt} {T : List (List Int)} (hroom : 0 ≤ M.room) : ∀ {k : Nat} {kept : Int}, KPT M T k = some kept → 0 ≤ kept ∧ kept ≤ M.room
  | 0, kept, h => by cases h; omega
  | k + 1, kept, h => by
    simp only [KPT, Option.bind_eq_some_iff] at h
    obtain ⟨_, _, _, _, _, _, h⟩ := h
    exact STEPW_bd h
theorem mapI_inj {l l' : List Int} (h : l.map I = l'.map I) : l = l' := by
  induction l generalizing l' with
  | nil => cases l' with
    | nil => rfl
    | cons a b => simp at h
  | cons x l ih => cases l' with
    | nil => simp at h
    | cons a b =>
      simp only [List.map_cons, List.cons.injEq, PV.int.injEq, true_and] at h
      rw [h.1, ih h.2]
/-- A table's rows stay as they are. -/
theorem TEV_stay {l l' : List Int} {v v' : PV} {R : Nat} {H H' : Heap} (h : TEV l v H) (h' : TEV l' v' H) (hR : ∀ id n m k, v' = .gsl n id m 0 k → id ≠ R) (fr : ∀ i < H.next, i ≠ R → (∀ id n m k, v = .gsl n id m 0 k → i ≠ id) → H'.rows i = H.rows i) (e : TEV l v H') (nx : H.next ≤ H'.next) : TEV l' v' H' := by
  rcases h' with ⟨hne, id', fz', rfl, hrow', hid'⟩ | h'
  · rcases h with ⟨hne0, id, fz, rfl, hrow, hid⟩ | ⟨h0, hv0⟩
    · by_cases hi : id' = id
      · subst hi
        rcases e with ⟨_, id2, fz2, e2, hrow2, _⟩ | ⟨e0, _⟩
        · cases e2
          rw [hrow] at hrow'
          have : l.map I = l'.map I := by injection hrow' with h1; injection h1
          have := mapI_inj this
          subst this
          exact .inl ⟨hne, _, fz2, rfl, hrow2, by omega⟩
        · exact absurd e0 hne0
      · exact .inl ⟨hne, id', fz', rfl, by rw [fr id' hid' (hR _ _ _ _ rfl) (fun a n m k ea => by cases ea; exact hi)]; exact hrow', by omega⟩
    · refine .inl ⟨hne, id', fz', rfl, ?_, by omega⟩
      rw [fr id' hid' (hR _ _ _ _ rfl) (fun a n m k ea => by rcases hv0 with g | g <;> rw [g] at ea <;> cases ea)]
      exact hrow'
  · exact .inr h'
theorem TEV_c {l : List Int} {v : PV} {H : Heap} (h : TEV l v H) : PV.cells v = [v] ∧ PV.fits v 1 = true := by
  rcases h with ⟨_, id, fz, rfl, _⟩ | ⟨_, rfl | rfl⟩
  · exact ⟨rfl, rfl⟩
  · exact ⟨rfl, rfl⟩
  · exact ⟨rfl, rfl⟩
/-- A row that holds no row of a table. -/
def NOTIN (ev : List PV) (i : Nat) : Prop := ∀ (w id n m k : Nat), ev[w]? = some (PV.gsl n id m 0 k) → i ≠ id
/-- A table in rows. -/
structure TBL (T : List (List Int)) (ev : List PV) (R0 R : Nat) (H : Heap) : Prop where
  row : ∃ z, H.rows R0 = some (.gro 1 ev z)
  len : ev.length = T.length
  nx : R0 < H.next
  ne : R0 ≠ R
  get : ∀ (w : Nat) (l : List Int), T[w]? = some l → ∃ v, ev[w]? = some v ∧ TEV l v H ∧ (∀ id n m k, v = .gsl n id m 0 k → id ≠ R ∧ id ≠ R0)
theorem TBL_stay {T : List (List Int)} {ev : List PV} {R0 R : Nat} {H H' : Heap} {M : Mkt} {kept : Int} {o l : List Int} {v : PV} {b : Bool} {j : Nat} (h : TBL T ev R0 R H) (e : T[j]? = some l) (ev0 : ev[j]? = some v) (a : AF1 M kept o l v R b H H') : TBL T ev R0 R H' := by
  obtain ⟨v1, e1, h1, n1⟩ := h.get j l e
  rw [ev0] at e1
  cases e1
  refine ⟨?_, h.len, Nat.lt_of_lt_of_le h.nx a.nx, h.ne, fun w l' el => ?_⟩
  · obtain ⟨z, hz⟩ := h.row
    exact ⟨z, by rw [a.fr R0 h.nx h.ne (fun id n m k ea g => (n1 id n m k ea).2 g.symm)]; exact hz⟩
  · obtain ⟨v', g1, g2, g3⟩ := h.get w l' el
    exact ⟨v', g1, TEV_stay h1 g2 (fun id n m k ea => (g3 id n m k ea).1) a.fr a.ent a.nx, g3⟩
section
variable {M : Mkt} (hr : ∀ x ∈ M.D.rs, x.OK) {q : Cps} (hv : DV M.D q.cs q.gs q.ds q.ws) (hA : AWV M.aw q.av)
include hr hv hA
set_option maxHeartbeats 8000000 in
theorem c_comp (hM : MC M = 0) (T : List (List Int)) (lT : T.length = M.aw.length) (hT : ∀ l ∈ T, l.length = M.D.fs.length) (ev : List PV) (R0 R : Nat) (H : Heap) (hB : TBL T ev R0 R H) (hR : H.rows R = some (.gro 1 [I 0] 0)) (hRn : R < H.next) (X : Option (CR × Heap))
    (hX : callF G Try.prog pol 42 [.vs 1 q.av q.cw, .gsl 1 R0 M.aw.length 0 M.aw.length, .fn 43 [.rop (mcl M q), .ptr R 1 0 0]] H = X) :
    ∃ b H', X = some (.ret (.bool b), H') ∧ ((b = true ∧ ∃ k, KPT M T M.aw.length = some k) ∨ (b = false ∧ KPT M T M.aw.length = none)) ∧ TBL T ev R0 R H' ∧ H.next ≤ H'.next ∧ (∀ i < H.next, i ≠ R → NOTIN ev i → H'.rows i = H.rows i) := by
  obtain ⟨hX0, l8, _, l0, hroom, _, hMK⟩ := MC_0 hM
  have hlen := SAV hA
  obtain ⟨z, hz⟩ := hB.row
  have hBn := hB.nx
  have hBe := hB.ne
  have hBl := hB.len
  rw [callF_eq _ _ Try.func42 rfl Try.ntmps42 Try.results42 (by kernel_rfl) rfl (by exact Nat.le_of_ble_eq_true rfl)] at hX
  simp (maxSteps := 999999) only [E0, seval, -Int.reduceNatCast', NUM, SRCH, SFRM, SCRP, SRGT, SDTY, hv.s0, hv.s1, hv.s2, hv.fz, SAV hA, SOFR, SLOT, INTS] at hX
  generalize hL : W _ (.loop _) _ = L at hX
  obtain ⟨ex, s, rfl, hex, hBs, hfr, hnx, hd⟩ := loop_at hL (α := Nat) (fun j => M.aw.length - j)
    (fun s0 j s => j ≤ M.aw.length ∧ (∃ kept, KPT M T j = some kept ∧ s.H.rows R = some (.gro 1 [I kept] 0)) ∧ s.tmps 10 = I j ∧ s.tmps 9 = I M.aw.length ∧ s.tmps 0 = .vs 1 q.av q.cw ∧ s.tmps 1 = .gsl 1 R0 M.aw.length 0 M.aw.length ∧ s.tmps 2 = .fn 43 [.rop (mcl M q), .ptr R 1 0 0] ∧ TBL T ev R0 R s.H ∧ (∀ i < H.next, i ≠ R → NOTIN ev i → s.H.rows i = H.rows i) ∧ H.next < s.H.next ∧ s.defers = [] ∧ s.fid = H.next)
    (fun s0 ex s => ((ex = .exit 0 ∧ ∃ k, KPT M T M.aw.length = some k) ∨ (ex = .ret ∧ KPT M T M.aw.length = none ∧ s.tmps 6 = .bool false)) ∧ TBL T ev R0 R s.H ∧ (∀ i < H.next, i ≠ R → NOTIN ev i → s.H.rows i = H.rows i) ∧ H.next < s.H.next ∧ s.defers = []) 0
    (by simp (maxSteps := 999999) only [E0, seval, -Int.reduceNatCast']
        refine ⟨Nat.zero_le _, ⟨0, rfl, hR⟩, by simp, ⟨⟨z, ?_⟩, hBl, by simp (maxSteps := 999999) only [E0, seval, -Int.reduceNatCast']; omega, hBe, fun w l e => ?_⟩, by simp, by omega⟩
        · simp (maxSteps := 999999) only [E0, seval, -Int.reduceNatCast', hz]
        · obtain ⟨v, h1, h2, h3⟩ := hB.get w l e
          refine ⟨v, h1, ?_, h3⟩
          rcases h2 with ⟨g1, id, fz, g2, g3, g4⟩ | h2
          · exact .inl ⟨g1, id, fz, g2, (by simp (maxSteps := 999999) only [E0, seval, -Int.reduceNatCast', g3]), (by simp (maxSteps := 999999) only [E0, seval, -Int.reduceNatCast']; omega)⟩
          · exact .inr h2) (by
      rintro j s r hW ⟨hj, ⟨kept, hkp, hRs⟩, h10, h9, h0, h1, h2, hBs, hfr, hnx, hd, hf⟩
      by_cases hp : j < M.aw.length
      rotate_left
      · simp (maxSteps := 999999) only [E0, seval, -Int.reduceNatCast', h10, h9, hd, hf, (show ¬ (j : Int) < M.aw.length by omega)] at hW
        subst hW
        have : j = M.aw.length := by omega
        subst this
        exact rd_exit ⟨.inl ⟨rfl, kept, hkp⟩, hBs, hfr, hnx, by simp (maxSteps := 999999) only [E0, seval, -Int.reduceNatCast', hd]⟩
      have e0 : M.aw[j]? = some M.aw[j] := List.getElem?_eq_getElem hp
      have f0 : T[j]? = some (T[j]'(by omega)) := List.getElem?_eq_getElem _
      have ho := hMK.1 _ (List.getElem_mem hp)
      have hl := hT _ (List.getElem_mem (l := T) (n := j) (by omega))
      generalize M.aw[j] = o at *
      generalize (T[j]'(by omega)) = l at *
      obtain ⟨vo, e1, hvo⟩ := hA.get j o e0
      obtain ⟨v, f1, hv2, hne⟩ := hBs.get j l f0
      obtain ⟨z', hz'⟩ := hBs.row
      have kb := KPT_bd hroom.1 hkp
      have ks := KPT_succ hkp e0 f0
      have nx0 := hBs.nx
      have rvo := RVS hvo.rv
      have hvc := TEV_c hv2
      simp (maxSteps := 999999) only [E0, seval, -Int.reduceNatCast', NUM, SRCH, SFRM, SCRP, SRGT, SDTY, hv.s0, hv.s1, hv.s2, hv.fz, SAV hA, SOFR, SLOT, INTS, rvo, hvc, h10, h9, h0, h1, h2, hd, hf, hz', e1, f1, hBl, lT, hlen.2, List.length_map, Int.toNat_natCast, Nat.zero_add, hp, (show (j : Int) < M.aw.length by omega), (show (0 : Int) ≤ j by omega)] at hW
      generalize hE1 : callF _ _ _ _ _ _ = E1 at hW
      obtain ⟨b, H1, rfl, hAF⟩ := c_after1 hr hv hA hX0 hroom _ o vo ho hvo l v hl kept ⟨kb.1, by omega⟩ _ hv2 R hRs (by omega) (fun id n m k e => fun g => (hne id n m k e).1 g.symm) _ hE1
      clear hE1
      have hB1 := TBL_stay hBs f0 f1 hAF
      have nx1 := hAF.nx
      have hfr1 : ∀ i < H.next, i ≠ R → NOTIN ev i → H1.rows i = H.rows i := fun i hi h1 h2 => by
        rw [hAF.fr i (by omega) h1 (fun id n m k e => by subst e; exact h2 j id n m k f1)]
        exact hfr i hi h1 h2
      rcases hAF.res with ⟨rfl, k, hst, hrk⟩ | ⟨rfl, hst, k, hrk⟩
      · simp (maxSteps := 999999) only [E0, seval, -Int.reduceNatCast', NUM, SRCH, SFRM, SCRP, SRGT, SDTY, hv.s0, hv.s1, hv.s2, hv.fz, SAV hA, SOFR, SLOT, INTS, h10, hd, hf, (i64_in (x := (j : Int) + 1) (by unfold I64; omega))] at hW
        replace hW := ite_chk1 (fun a => [(10, [Vr.all], [Vr.all]), (9, [Vr.row a], [])]) R0 (by intro f h1; simp [renL, renM, renV, h1]) (by kernel_rfl) hW
        subst hW
        rw [hst] at ks
        refine rd_next (j + 1) ?_ (show M.aw.length - (j + 1) < M.aw.length - j by omega)
        simp (maxSteps := 999999) only [E0, seval, -Int.reduceNatCast', h9, h0, h1, h2, hd]
        exact ⟨by omega, ⟨k, ks, hrk⟩, by simp, hB1, hfr1, by omega⟩
      · simp (maxSteps := 999999) only [E0, seval, -Int.reduceNatCast', NUM, SRCH, SFRM, SCRP, SRGT, SDTY, hv.s0, hv.s1, hv.s2, hv.fz, SAV hA, SOFR, SLOT, INTS, h10, hd, hf] at hW
        replace hW := ite_chk1 (fun a => [(10, [Vr.all], [Vr.all]), (9, [Vr.row a], [])]) R0 (by intro f h1; simp [renL, renM, renV, h1]) (by kernel_rfl) hW
        subst hW
        rw [hst] at ks
        refine rd_ret ⟨.inr ⟨rfl, KPT_none ks (by omega), ?_⟩, ?_⟩
        · simp (maxSteps := 999999) only [E0, seval, -Int.reduceNatCast']
        · simp (maxSteps := 999999) only [E0, seval, -Int.reduceNatCast', hd]
          exact ⟨hB1, hfr1, by omega⟩)
  rcases hex with ⟨rfl, k, hk⟩ | ⟨rfl, hk, h6⟩
  · simp (maxSteps := 999999) only [E0, seval, -Int.reduceNatCast', NUM, hd] at hX
    subst hX
    exact ⟨_, _, rfl, .inl ⟨rfl, k, hk⟩, hBs, Nat.le_of_lt hnx, hfr⟩
  · simp (maxSteps := 999999) only [E0, seval, -Int.reduceNatCast', NUM, hd, h6] at hX
    subst hX
    exact ⟨_, _, rfl, .inr ⟨rfl, hk⟩, hBs, Nat.le_of_lt hnx, hfr⟩
end
end Go.Proofs.Ytbmmbefgmhhciaa

/-
  What each farm has after a set: tables.
-/
namespace Go.Proofs.Ytbmmbefgmhhciaa
open Go GoV
set_option maxRecDepth 100000

/-- A table with some litres more. -/
def ADDL (T : List (List Int)) (w f : Nat) (d : Int) : List (List Int) := match T[w]? with
  | some l => T.set w (l.set f (l.getD f 0 + d))
  | none => T
def ADDS (T : List (List Int)) (f : Nat) : List Lot → List (List Int)
  | [] => T
  | y :: r => ADDS (ADDL T y.w.toNat f y.n) f r
theorem ADDS_app (f : Nat) (a : List Lot) : ∀ (T : List (List Int)) (y : Lot), ADDS T f (a ++ [y]) = ADDL (ADDS T f a) y.w.toNat f y.n := by
  induction a with
  | nil => intro T y; rfl
  | cons x a ih => intro T y; exact ih _ y
/-- The table after the first offers of a set. -/
def MOVT (M : Mkt) (set : Int) : Nat → List (List Int)
  | 0 => M.aw
  | k + 1 => match M.os[k]? with
    | some x => if BIT set k = 1 then ADDS (MOVT M set k) x.fm.toNat x.lots else MOVT M set k
    | none => MOVT M set k
theorem MOVT_succ {M : Mkt} {set : Int} {k : Nat} {x : Ofr} (e : M.os[k]? = some x) : MOVT M set (k + 1) = if BIT set k = 1 then ADDS (MOVT M set k) x.fm.toNat x.lots else MOVT M set k := by
  simp only [MOVT, e]
def RNK (M : Mkt) (set : Int) (k : Nat) : Prop := ∀ (j : Nat) (x : Ofr), j < k → M.os[j]? = some x → BIT set j = 1 → x.lo ≤ M.rain ∧ M.rain ≤ x.hi
noncomputable instance (M : Mkt) (set : Int) (k : Nat) : Decidable (RNK M set k) := Classical.propDecidable _
theorem RNK_succ {M : Mkt} {set : Int} {k : Nat} {x : Ofr} (h : RNK M set k) (e : M.os[k]? = some x) (g : BIT set k = 1 → x.lo ≤ M.rain ∧ M.rain ≤ x.hi) : RNK M set (k + 1) := by
  intro j y hj ey hb
  by_cases hn : j = k
  · subst hn
    rw [e] at ey
    cases ey
    exact g hb
  · exact h j y (by omega) ey hb
/-- What each farm has after a set; none if it cannot be carried out. -/
noncomputable def AFT (M : Mkt) (set : Int) : Option (List (List Int)) := if RNK M set M.os.length then (match KPT M (MOVT M set M.os.length) M.aw.length with
  | some _ => some (MOVT M set M.os.length)
  | none => none) else none
/-- Size of tables. -/
structure TSZ (n nf : Nat) (B : Int) (T : List (List Int)) : Prop where
  len : T.length = n
  row : ∀ l ∈ T, l.length = nf
  bd : ∀ l ∈ T, ∀ x ∈ l, -B ≤ x ∧ x ≤ B
theorem TSZ.mono {n nf : Nat} {B C : Int} {T : List (List Int)} (h : TSZ n nf B T) (hb : B ≤ C) : TSZ n nf C T := ⟨h.len, h.row, fun l hl x hx => by have := h.bd l hl x hx; omega⟩
theorem TSZ.add {n nf : Nat} {B : Int} {T : List (List Int)} (h : TSZ n nf B T) (hB : 0 ≤ B) (w f : Nat) {d : Int} (hd : -1073741824 ≤ d ∧ d ≤ 1073741824) : TSZ n nf (B + 1073741824) (ADDL T w f d) := by
  unfold ADDL
  cases e : T[w]? with
  | none => exact h.mono (by omega)
  | some l =>
    have hl := List.mem_of_getElem? e
    refine ⟨by simp [h.len], fun m hm => ?_, fun m hm x hx => ?_⟩
    · rcases List.mem_or_eq_of_mem_set hm with hm | rfl
      · exact h.row m hm
      · simp [h.row l hl]
    · rcases List.mem_or_eq_of_mem_set hm with hm | rfl
      · have := h.bd m hm x hx; omega
      · rcases List.mem_or_eq_of_mem_set hx with hx | rfl
        · have := h.bd l hl x hx; omega
        · have : -B ≤ l.getD f 0 ∧ l.getD f 0 ≤ B := by
            rw [List.getD_eq_getElem?_getD]
            cases e2 : l[f]? with
            | none => simp; omega
            | some y => exact h.bd l hl y (List.mem_of_getElem? e2)
          omega
theorem TSZ.adds {n nf f : Nat} : ∀ {l : List Lot} {B : Int} {T : List (List Int)}, TSZ n nf B T → 0 ≤ B → (∀ y ∈ l, -1073741824 ≤ y.n ∧ y.n ≤ 1073741824) → TSZ n nf (B + 1073741824 * l.length) (ADDS T f l)
  | [], B, T, h, _, _ => h.mono (by simp)
  | y :: r, B, T, h, hB, hl => by
    have h1 := h.add hB y.w.toNat f (hl y (by simp))
    have h2 := TSZ.adds (f := f) (l := r) h1 (by omega) (fun z hz => hl z (by simp [hz]))
    exact h2.mono (by simp only [List.length_cons]; omega)
theorem MOF_ok {M : Mkt} (hM : MC M = 0) {k : Nat} {x : Ofr} (e : M.os[k]? = some x) : x.lots.length ≤ 8 ∧ (0 ≤ x.fm ∧ x.fm < M.D.fs.length) ∧ (∀ y ∈ x.lots, (0 ≤ y.w ∧ y.w < M.aw.length) ∧ (-1073741824 ≤ y.n ∧ y.n ≤ 1073741824)) := by
  have hm := (MC_0 hM).2.2.2.2.2.2.2 k x e
  have h1 : OC x = 0 := hm.1
  have hf := hm.2.2.1
  have hw := hm.2.2.2
  unfold OC at h1
  split at h1
  · omega
  · split at h1
    · next h8 g =>
      refine ⟨by omega, ⟨g.2.1.1, hf⟩, fun y hy => ?_⟩
      obtain ⟨i, ei⟩ := List.mem_iff_getElem?.1 hy
      have hk : LOTK (PW x.lots i) y := g.2.2.2.2.2 i y ei
      have hp : -1 ≤ PW x.lots i := by
        cases i with
        | zero => simp [PW]
        | succ i =>
          have hlt := (List.getElem?_eq_some_iff.1 ei).1
          have e0 : x.lots[i]? = some (x.lots[i]'(by omega)) := List.getElem?_eq_getElem _
          rw [PW_succ e0]
          have aux : ∀ (j : Nat) (z : Lot), x.lots[j]? = some z → -1 ≤ z.w := by
            intro j
            induction j with
            | zero => intro z ez; have := g.2.2.2.2.2 0 z ez; simp only [PW] at this; unfold LOTK at this; simp at this; omega
            | succ j ih =>
              intro z ez
              have hlt := (List.getElem?_eq_some_iff.1 ez).1
              have e0 : x.lots[j]? = some (x.lots[j]'(by omega)) := List.getElem?_eq_getElem _
              have : LOTK (PW x.lots (j + 1)) z := g.2.2.2.2.2 (j + 1) z ez
              rw [PW_succ e0] at this
              have h2 := ih _ e0
              unfold LOTK at this
              omega
          exact aux i _ e0
      unfold LOTK at hk
      exact ⟨⟨by omega, hw y hy⟩, hk.2.2⟩
    · omega
theorem MOVT_sz {M : Mkt} (hM : MC M = 0) (set : Int) : ∀ {k : Nat}, k ≤ M.os.length → TSZ M.aw.length M.D.fs.length (1073741824 * (1 + 8 * k)) (MOVT M set k)
  | 0, _ => by
    refine ⟨rfl, fun l hl => ?_, fun l hl x hx => ?_⟩
    · exact (DVC_0 ((MC_0 hM).2.2.2.2.2.2.1 l hl).1).2.1
    · have := (DVC_0 ((MC_0 hM).2.2.2.2.2.2.1 l hl).1).2.2 x hx; omega
  | k + 1, hk => by
    have ih := MOVT_sz hM set (k := k) (by omega)
    have e : M.os[k]? = some M.os[k] := List.getElem?_eq_getElem (by omega)
    have ok := MOF_ok hM e
    rw [MOVT_succ e]
    split
    · exact (ih.adds (f := M.os[k].fm.toNat) (l := M.os[k].lots) (by omega) (fun y hy => (ok.2.2 y hy).2)).mono (by have := ok.1; omega)
    · exact ih.mono (by omega)
/-- A table whose rows can be written. -/
structure TBB (T : List (List Int)) (ev : List PV) (B C : Nat) (H : Heap) : Prop where
  len : ev.length = T.length
  get : ∀ (w : Nat) (l : List Int), T[w]? = some l → (l ≠ [] ∧ ∃ id, ev[w]? = some (PV.gsl 1 id l.length 0 l.length) ∧ H.rows id = some (.gro 1 (l.map I) 0) ∧ B < id ∧ id < C) ∨ (l = [] ∧ ∃ v, ev[w]? = some v ∧ (v = PV.nils ∨ v = PV.vs 1 [] (some 0)))
  inj : ∀ (w w' id n m : Nat), ev[w]? = some (PV.gsl 1 id n 0 n) → ev[w']? = some (PV.gsl 1 id m 0 m) → w = w'
theorem TBB.frame {T : List (List Int)} {ev : List PV} {B C D : Nat} {H H' : Heap} (h : TBB T ev B C H) (fr : ∀ i, B < i → i < C → H'.rows i = H.rows i) (nx : C ≤ D) : TBB T ev B D H' := by
  refine ⟨h.len, fun w l e => ?_, h.inj⟩
  rcases h.get w l e with ⟨h1, id, h2, h3, h4, h5⟩ | g
  · exact .inl ⟨h1, id, h2, by rw [fr id h4 h5]; exact h3, h4, by omega⟩
  · exact .inr g
theorem TBB.push {T : List (List Int)} {ev : List PV} {B : Nat} {H H' : Heap} {l : List Int} {w : PV} (h : TBB T ev B H.next H) (hn : B < H.next) (fr : ∀ i, B < i → i < H.next → H'.rows i = H.rows i) (nx : H.next ≤ H'.next)
    (hw : (l ≠ [] ∧ w = .gsl 1 (H.next + 1) l.length 0 l.length ∧ H'.rows (H.next + 1) = some (.gro 1 (l.map I) 0) ∧ H.next + 1 < H'.next) ∨ (l = [] ∧ (w = .nils ∨ w = .vs 1 [] (some 0)))) : TBB (T ++ [l]) (ev ++ [w]) B H'.next H' := by
  have hf := h.frame fr nx
  have lo : ∀ (i id n : Nat), i < ev.length → ev[i]? = some (PV.gsl 1 id n 0 n) → id < H.next := by
    intro i id n hi e
    have hi' : i < T.length := by rw [← h.len]; exact hi
    rcases h.get i _ (List.getElem?_eq_getElem hi') with ⟨_, id', e', _, _, g⟩ | ⟨_, v, e', g⟩
    · rw [e] at e'; cases e'; exact g
    · rw [e] at e'; cases e'; rcases g with g | g <;> cases g
  have nw : ∀ (id n : Nat), w = PV.gsl 1 id n 0 n → id = H.next + 1 := by
    intro id n e
    rcases hw with ⟨_, e', _⟩ | ⟨_, e' | e'⟩
    · rw [e] at e'; cases e'; rfl
    · rw [e] at e'; cases e'
    · rw [e] at e'; cases e'
  refine ⟨by simp [h.len], fun i m e => ?_, fun i i' id n m e e' => ?_⟩
  · by_cases hi : i < T.length
    · rw [List.getElem?_append_left hi] at e
      rw [List.getElem?_append_left (by rw [h.len]; exact hi)]
      exact hf.get i m e
    · rw [List.getElem?_append_right (by omega)] at e
      rw [List.getElem?_append_right (by rw [h.len]; omega), h.len]
      have : i - T.length = 0 := by
        have := (List.getElem?_eq_some_iff.1 e).1
        simp at this; omega
      rw [this] at e ⊢
      simp only [List.getElem?_cons_zero, Option.some.injEq] at e ⊢
      subst e
      rcases hw with ⟨h1, h2, h3, h4⟩ | ⟨h1, h2⟩
      · exact .inl ⟨h1, _, h2, h3, by omega, h4⟩
      · exact .inr ⟨h1, _, rfl, h2⟩
  · by_cases hi : i < ev.length
    · rw [List.getElem?_append_left hi] at e
      by_cases hi' : i' < ev.length
      · rw [List.getElem?_append_left hi'] at e'
        exact h.inj i i' id n m e e'
      · rw [List.getElem?_append_right (by omega)] at e'
        have h0 : i' - ev.length = 0 := by
          have := (List.getElem?_eq_some_iff.1 e').1
          simp at this; omega
        rw [h0] at e'
        simp only [List.getElem?_cons_zero, Option.some.injEq] at e'
        have := lo i id n hi e
        have := nw id m e'
        omega
    · rw [List.getElem?_append_right (by omega)] at e
      have h0 : i - ev.length = 0 := by
        have := (List.getElem?_eq_some_iff.1 e).1
        simp at this; omega
      rw [h0] at e
      simp only [List.getElem?_cons_zero, Option.some.injEq] at e
      by_cases hi' : i' < ev.length
      · rw [List.getElem?_append_left hi'] at e'
        have := lo i' id m hi' e'
        have := nw id n e
        omega
      · rw [List.getElem?_append_right (by omega)] at e'
        have h0' : i' - ev.length = 0 := by
          have := (List.getElem?_eq_some_iff.1 e').1
          simp at this; omega
        omega
theorem TBB.set {T : List (List Int)} {ev : List PV} {B C : Nat} {H H' : Heap} {w f id : Nat} {l : List Int} {d : Int} (h : TBB T ev B C H) (e : T[w]? = some l) (hv : ev[w]? = some (PV.gsl 1 id l.length 0 l.length)) (hne : l ≠ []) (hr : H'.rows id = some (.gro 1 ((l.set f (l.getD f 0 + d)).map I) 0)) (fr : ∀ i, B < i → i < C → i ≠ id → H'.rows i = H.rows i) : TBB (ADDL T w f d) ev B C H' := by
  have eA : ADDL T w f d = T.set w (l.set f (l.getD f 0 + d)) := by unfold ADDL; rw [e]
  rw [eA]
  have hid : B < id ∧ id < C := by
    rcases h.get w l e with ⟨_, id', e', _, g1, g2⟩ | ⟨g, _⟩
    · rw [hv] at e'; cases e'; exact ⟨g1, g2⟩
    · exact absurd g hne
  refine ⟨by rw [h.len]; simp, fun i m em => ?_, h.inj⟩
  by_cases hi : i = w
  · subst hi
    have hlt := (List.getElem?_eq_some_iff.1 e).1
    rw [List.getElem?_set_self hlt] at em
    cases em
    refine .inl ⟨?_, id, by simpa using hv, hr, hid.1, by omega⟩
    intro h0
    apply hne
    have : (l.set f (l.getD f 0 + d)).length = 0 := by rw [h0]; rfl
    simpa using this
  · rw [List.getElem?_set_ne (by omega)] at em
    rcases h.get i m em with ⟨h1, id', h2, h3, h4, h5⟩ | g
    · refine .inl ⟨h1, id', h2, ?_, h4, by omega⟩
      rw [fr id' h4 h5 (fun g => hi (by subst g; exact h.inj i w id' _ _ h2 hv))]
      exact h3
    · exact .inr g
end Go.Proofs.Ytbmmbefgmhhciaa

/-
  What each farm has after a set: the walk.
-/
namespace Go.Proofs.Ytbmmbefgmhhciaa
open Go GoV
set_option maxRecDepth 100000

theorem upd_sort {α : Type} (f : Nat → α) (a b : Nat) (x y : α) (h : b < a) : upd (upd f a x) b y = upd (upd f b y) a x := by
  funext i
  simp only [upd_apply]
  by_cases h1 : i = b
  · subst h1
    rw [if_pos rfl, if_neg (by omega), if_pos rfl]
  · rw [if_neg h1]
    by_cases h2 : i = a
    · rw [if_pos h2, if_pos h2]
    · rw [if_neg h2, if_neg h2, if_neg h1]
theorem CLN_c {l : List Int} {w : PV} {H H' : Heap} (h : CLN l w H H') : PV.cells w = [w] ∧ PV.fits w 1 = true := by
  rcases h.el with ⟨_, rfl, _⟩ | ⟨_, rfl | rfl⟩
  · exact ⟨rfl, rfl⟩
  · exact ⟨rfl, rfl⟩
  · exact ⟨rfl, rfl⟩
theorem TBB.notin {T : List (List Int)} {ev : List PV} {B C : Nat} {H : Heap} (h : TBB T ev B C H) {i : Nat} (hi : i ≤ B ∨ C ≤ i) : NOTIN ev i := by
  intro w id n m k e
  have hw : w < T.length := by
    rw [← h.len]
    exact (List.getElem?_eq_some_iff.1 e).1
  rcases h.get w _ (List.getElem?_eq_getElem hw) with ⟨_, id', e', _, h1, h2⟩ | ⟨_, v, e', g⟩
  · rw [e] at e'
    cases e'
    omega
  · rw [e] at e'
    cases e'
    rcases g with g | g <;> cases g
theorem TBL.frame {T : List (List Int)} {ev : List PV} {R0 R : Nat} {H H' : Heap} (h : TBL T ev R0 R H) (nx : H.next ≤ H'.next) (fr : ∀ i, (i = R0 ∨ ¬ NOTIN ev i) → H'.rows i = H.rows i) : TBL T ev R0 R H' := by
  refine ⟨?_, h.len, Nat.lt_of_lt_of_le h.nx nx, h.ne, fun w l e => ?_⟩
  · obtain ⟨z, hz⟩ := h.row
    exact ⟨z, by rw [fr R0 (.inl rfl)]; exact hz⟩
  · obtain ⟨v, h1, h2, h3⟩ := h.get w l e
    refine ⟨v, h1, ?_, h3⟩
    rcases h2 with ⟨g1, id, fz, g2, g3, g4⟩ | h2
    · refine .inl ⟨g1, id, fz, g2, ?_, by omega⟩
      rw [fr id (.inr fun g => g w id _ _ _ (g2 ▸ h1) rfl)]
      exact g3
    · exact .inr h2
section
variable {M : Mkt} (hr : ∀ x ∈ M.D.rs, x.OK) {q : Cps} (hv : DV M.D q.cs q.gs q.ds q.ws) (hA : AWV M.aw q.av)
include hr hv hA
set_option maxHeartbeats 8000000 in
theorem c_after (hM : MC M = 0) (set : Int) (H : Heap) (X : Option (CR × Heap))
    (hX : callF G Try.prog pol 24 [.agg (mcl M q), I set] H = X) :
    ∃ H', (∀ i < H.next, H'.rows i = H.rows i) ∧ H.next ≤ H'.next ∧ ((AFT M set = none ∧ X = some (.ret (.tup [.nils, .bool false]), H')) ∨ (∃ T ev R0 R, AFT M set = some T ∧ X = some (.ret (.tup [.gsl 1 R0 M.aw.length 0 M.aw.length, .bool true]), H') ∧ TBL T ev R0 R H')) := by
  obtain ⟨hX0, l8, lo, l0, hroom, _, hMK⟩ := MC_0 hM
  have hlen := SAV hA
  have lfs := (XC_0 hX0).1.2.1
  have hrow : ∀ l ∈ M.aw, l.length = M.D.fs.length := fun l hl => (DVC_0 (hMK.1 l hl).1).2.1
  rw [callF_eq _ _ Try.func24 rfl Try.ntmps24 Try.results24 (by kernel_rfl) rfl (by exact Nat.le_of_ble_eq_true rfl)] at hX
  simp (maxSteps := 999999) only [E0, seval, -Int.reduceNatCast', NUM, NADD, SRCH, SFRM, SCRP, SRGT, SDTY, hv.s0, hv.s1, hv.s2, hv.fz, SAV hA, SOFR, SLOT, INTS] at hX
  generalize hL : W _ (.loop _) _ = L at hX
  obtain ⟨ex, s, rfl, rfl, ⟨ev, hB, g1, g2⟩, g3, k2, k1, k4, k5, gfr, gnx, gd, gf⟩ := loop_at hL (α := Nat) (fun j => M.aw.length - j)
    (fun s0 j s => j ≤ M.aw.length ∧ (∃ ev, TBB (M.aw.take j) ev (H.next + 1 + 1 + 1) s.H.next s.H ∧ s.H.rows (H.next + 1) = some (.gro 1 ev 0) ∧ s.H.rows (H.next + 1 + 1) = some (.gro 1 [.gsl 1 (H.next + 1) j 0 j] 0)) ∧ s.tmps 16 = I j ∧ s.tmps 15 = I M.aw.length ∧ s.tmps 14 = .vs 1 q.av q.cw ∧ s.H.rows (H.next + 1 + 1 + 1) = some (.gro 1 [.bool false] 0) ∧ s.tmps 2 = .rop (mcl M q) ∧ s.tmps 1 = I set ∧ s.tmps 4 = .ptr (H.next + 1 + 1) 1 0 0 ∧ s.tmps 5 = .ptr (H.next + 1 + 1 + 1) 1 0 0 ∧ (∀ i < H.next, s.H.rows i = H.rows i) ∧ H.next + 1 + 1 + 1 < s.H.next ∧ s.defers = [] ∧ s.fid = H.next)
    (fun s0 ex s => ex = .exit 0 ∧ (∃ ev, TBB M.aw ev (H.next + 1 + 1 + 1) s.H.next s.H ∧ s.H.rows (H.next + 1) = some (.gro 1 ev 0) ∧ s.H.rows (H.next + 1 + 1) = some (.gro 1 [.gsl 1 (H.next + 1) M.aw.length 0 M.aw.length] 0)) ∧ s.H.rows (H.next + 1 + 1 + 1) = some (.gro 1 [.bool false] 0) ∧ s.tmps 2 = .rop (mcl M q) ∧ s.tmps 1 = I set ∧ s.tmps 4 = .ptr (H.next + 1 + 1) 1 0 0 ∧ s.tmps 5 = .ptr (H.next + 1 + 1 + 1) 1 0 0 ∧ (∀ i < H.next, s.H.rows i = H.rows i) ∧ H.next + 1 + 1 + 1 < s.H.next ∧ s.defers = [] ∧ s.fid = H.next) 0
    (by simp (maxSteps := 999999) only [E0, seval, -Int.reduceNatCast', NADD]
        refine ⟨Nat.zero_le _, ⟨[], ⟨⟨rfl, fun w l e => by simp at e, fun w w' id n m e => by simp at e⟩, rfl⟩⟩, by simp, fun i hi => ?_, by omega⟩
        · simp (maxSteps := 999999) only [E0, seval, -Int.reduceNatCast', (show ¬ i = H.next + 1 by omega), (show ¬ i = H.next + 1 + 1 by omega), (show ¬ i = H.next + 1 + 1 + 1 by omega)]) (by
      rintro j s r hW ⟨hj, ⟨ev, hB, g1, g2⟩, h16, h15, h14, g3, k2, k1, k4, k5, gfr, gnx, gd, gf⟩
      by_cases hp : j < M.aw.length
      rotate_left
      · simp (maxSteps := 999999) only [E0, seval, -Int.reduceNatCast', NUM, h16, h15, gd, gf, (show ¬ (j : Int) < M.aw.length by omega)] at hW
        subst hW
        have : j = M.aw.length := by omega
        subst this
        rw [List.take_length] at hB
        exact rd_exit ⟨rfl, ⟨ev, hB, g1, g2⟩, by simp (maxSteps := 999999) only [E0, seval, -Int.reduceNatCast', g3, k2, k1, k4, k5, gd]; exact ⟨gfr, gnx⟩⟩
      have e0 : M.aw[j]? = some M.aw[j] := List.getElem?_eq_getElem hp
      have hl := hrow _ (List.getElem_mem hp)
      have tk : M.aw.take (j + 1) = M.aw.take j ++ [M.aw[j]] := by rw [List.take_add_one, e0]; rfl
      generalize M.aw[j] = l at *
      obtain ⟨v, e1, hrv⟩ := hA.get j l e0
      have rv := RVS hrv.rv
      have evl : ev.length = j := by rw [hB.len]; simp; omega
      obtain ⟨w, H1, eC, hC⟩ := c_clone l v (by omega) hrv s.H _ rfl
      have wc := CLN_c hC
      have q1 := hC.fr (H.next + 1) (by omega)
      have q2 := hC.fr (H.next + 1 + 1) (by omega)
      have q3 := hC.fr (H.next + 1 + 1 + 1) (by omega)
      rw [g1] at q1
      rw [g2] at q2
      rw [g3] at q3
      simp (maxSteps := 999999) only [E0, seval, -Int.reduceNatCast', BRU, NUM, NADD, SRCH, SFRM, SCRP, SRGT, SDTY, hv.s0, hv.s1, hv.s2, hv.fz, SAV hA, SOFR, SLOT, INTS, rv, h16, h15, h14, k2, k1, k4, k5, g1, g2, gd, gf, e1, evl, eC, wc, q1, q2, hlen.2, List.length_map, Int.toNat_natCast, (show (j : Int) < M.aw.length by omega), (show (0 : Int) ≤ j by omega), (show j ≤ 67108863 by omega)] at hW
      replace hW := ite_chkF2 (fun a b => [(5, [Vr.row b], [Vr.row b]), (4, [Vr.row a], [Vr.row a]), (2, [Vr.all], [Vr.all]), (0, [Vr.row b], [])]) (H.next + 1) (H.next + 1 + 1) (by omega) (by intro f h1 h2; simp [renL, renM, renV, h1, h2]) (by kernel_rfl) hW
      rw [brute_eq (L := [[0, 1, 2, 3, 4, 5], [1, 0, 2, 3, 4, 5], [1, 2, 0, 3, 4, 5], [1, 2, 3, 0, 4, 5]]) (by kernel_rfl) (by kernel_rfl) ?hB] at hW
      case hB => simp (maxSteps := 999999) only [E0, seval, -Int.reduceNatCast', upd_sort, BRU, NUM, NADD, SRCH, SFRM, SCRP, SRGT, SDTY, hv.s0, hv.s1, hv.s2, hv.fz, SAV hA, SOFR, SLOT, INTS, rv, k2, k1, k4, k5, g1, g2, gd, gf, e1, evl, eC, wc, q1, q2, hlen.2, h16, List.length_map, Int.toNat_natCast, (show j ≤ 67108863 by omega), (i64_in (x := (j : Int) + 1) (by unfold I64; omega))]
      simp (maxSteps := 999999) only [E0, seval, -Int.reduceNatCast', BRU, NUM, NADD, SRCH, SFRM, SCRP, SRGT, SDTY, hv.s0, hv.s1, hv.s2, hv.fz, SAV hA, SOFR, SLOT, INTS, rv, k2, k1, k4, k5, g1, g2, gd, gf, e1, evl, eC, wc, q1, q2, hlen.2, h16, List.length_map, Int.toNat_natCast, (show j ≤ 67108863 by omega), (i64_in (x := (j : Int) + 1) (by unfold I64; omega))] at hW
      subst hW
      refine rd_next (j + 1) ?_ (show M.aw.length - (j + 1) < M.aw.length - j by omega)
      simp (maxSteps := 999999) only [E0, seval, -Int.reduceNatCast', NADD, h15, h14, k2, k1, k4, k5, q3, gd]
      have nx1 := hC.nx
      refine ⟨by omega, ⟨ev ++ [w], ⟨?_, rfl⟩⟩, by simp, fun i hi => ?_, by omega⟩
      · rw [tk]
        refine (hB.push (H' := H1) (by omega) (fun i h1 h2 => hC.fr i (by omega)) (by omega) ?_).frame (fun i h1 h2 => ?_) ?_
        · rcases hC.el with ⟨a1, a2, a3, a4⟩ | a
          · exact .inl ⟨a1, a2, a3, by omega⟩
          · exact .inr a
        · simp (maxSteps := 999999) only [E0, seval, -Int.reduceNatCast', (show ¬ i = H.next + 1 by omega), (show ¬ i = H.next + 1 + 1 by omega)]
        · first | exact Nat.le_refl _ | (simp (maxSteps := 999999) only [E0, seval, -Int.reduceNatCast']; exact Nat.le_refl _)
      · simp (maxSteps := 999999) only [E0, seval, -Int.reduceNatCast', (show ¬ i = H.next + 1 by omega), (show ¬ i = H.next + 1 + 1 by omega)]
        rw [hC.fr i (by omega)]
        exact gfr i hi)
  clear hL
  have cc := c_chosen hv hA set
  obtain ⟨P, hP⟩ : ∃ P, s.H.next = P := ⟨_, rfl⟩
  rw [hP] at gnx
  have np : ((¬ P = H.next) ∧ (¬ P = H.next + 1) ∧ (¬ P = H.next + 2) ∧ (¬ P = H.next + 3) ∧ (¬ P = H.next + 1 + 1) ∧ (¬ P = H.next + 1 + 1 + 1)) ∧ (¬ H.next = P) ∧ (¬ H.next + 1 = P) ∧ (¬ H.next + 2 = P) ∧ (¬ H.next + 3 = P) ∧ (¬ H.next + 1 + 1 = P) ∧ (¬ H.next + 1 + 1 + 1 = P) := by omega
  simp (maxSteps := 999999) only [E0, seval, -Int.reduceNatCast', NUM, NADD, SRCH, SFRM, SCRP, SRGT, SDTY, hv.s0, hv.s1, hv.s2, hv.fz, SAV hA, SOFR, SLOT, INTS, cc, k2, k1, k4, k5, gd, gf, hP] at hX
  rw [callF_eq _ _ Try.func59 rfl Try.ntmps59 Try.results59 (by kernel_rfl) rfl (by exact Nat.le_of_ble_eq_true rfl)] at hX
  simp (maxSteps := 999999) only [E0, seval, -Int.reduceNatCast', NUM, NADD, SRCH, SFRM, SCRP, SRGT, SDTY, hv.s0, hv.s1, hv.s2, hv.fz, SAV hA, SOFR, SLOT, INTS, cc, k2, k1, k4, k5, gd, gf, hP, List.length_map] at hX
  generalize hL : W _ (.loop _) _ = L at hX
  obtain ⟨exB, sB, rfl, hexB, b3, bP, bfr, bnx, bd, bf⟩ := loop_at hL (α := Nat) (fun k => M.os.length - k)
    (fun s0 k s => k ≤ M.os.length ∧ RNK M set k ∧ TBB (MOVT M set k) ev (H.next + 1 + 1 + 1) P s.H ∧ s.H.rows (H.next + 1) = some (.gro 1 ev 0) ∧ s.H.rows (H.next + 1 + 1) = some (.gro 1 [.gsl 1 (H.next + 1) M.aw.length 0 M.aw.length] 0) ∧ s.H.rows (H.next + 1 + 1 + 1) = some (.gro 1 [.bool false] 0) ∧ s.tmps 9 = I k ∧ s.tmps 8 = I M.os.length ∧ s.tmps 7 = .vs 6 (M.os.map (ofr q.cl)) q.co ∧ s.tmps 0 = .yield (P + 1) ∧ s.tmps 2 = .rop [I set] ∧ s.H.rows P = some .dfr ∧ s.H.rows (P + 1) = s0.H.rows (P + 1) ∧ (∀ i < H.next, s.H.rows i = H.rows i) ∧ P + 1 + 1 < s.H.next ∧ s.defers = [] ∧ s.fid = P + 1 + 1)
    (fun s0 ex s => ((ex = .exit 0 ∧ RNK M set M.os.length ∧ TBB (MOVT M set M.os.length) ev (H.next + 1 + 1 + 1) P s.H ∧ s.H.rows (H.next + 1) = some (.gro 1 ev 0) ∧ s.H.rows (H.next + 1 + 1) = some (.gro 1 [.gsl 1 (H.next + 1) M.aw.length 0 M.aw.length] 0) ∧ s.H.rows (P + 1) = s0.H.rows (P + 1)) ∨ (ex = .ret ∧ ¬ RNK M set M.os.length ∧ s.H.rows (H.next + 1 + 1) = some (.gro 1 [.nils] 0) ∧ s.H.rows (P + 1) = setL (.over (some .ret)) (s0.H.rows (P + 1)))) ∧ s.H.rows (H.next + 1 + 1 + 1) = some (.gro 1 [.bool false] 0) ∧ s.H.rows P = some .dfr ∧ (∀ i < H.next, s.H.rows i = H.rows i) ∧ P + 1 + 1 < s.H.next ∧ s.defers = [] ∧ s.fid = P + 1 + 1) 0
    (by simp (maxSteps := 999999) only [E0, seval, -Int.reduceNatCast', NADD, hP]
        refine ⟨Nat.zero_le _, fun j x h => absurd h (by omega), ?_, ?_, ?_, ?_, by simp, fun i hi => ?_, by omega⟩
        · refine (show TBB M.aw ev _ P s.H by rw [← hP]; exact hB).frame (fun i h1 h2 => ?_) (Nat.le_refl _)
          simp (maxSteps := 999999) only [E0, seval, -Int.reduceNatCast', hP, (show ¬ i = P by omega), (show ¬ i = P + 1 by omega)]
        · simp (maxSteps := 999999) only [E0, seval, -Int.reduceNatCast', hP, (show ¬ H.next = P by omega), (show ¬ H.next + 1 = P by omega), (show ¬ H.next + 1 + 1 = P by omega), (show ¬ H.next + 1 + 1 + 1 = P by omega), g1]
        · simp (maxSteps := 999999) only [E0, seval, -Int.reduceNatCast', hP, (show ¬ H.next = P by omega), (show ¬ H.next + 1 = P by omega), (show ¬ H.next + 1 + 1 = P by omega), (show ¬ H.next + 1 + 1 + 1 = P by omega), g2]
        · simp (maxSteps := 999999) only [E0, seval, -Int.reduceNatCast', hP, (show ¬ H.next = P by omega), (show ¬ H.next + 1 = P by omega), (show ¬ H.next + 1 + 1 = P by omega), (show ¬ H.next + 1 + 1 + 1 = P by omega), g3]
        · simp (maxSteps := 999999) only [E0, seval, -Int.reduceNatCast', hP, (show ¬ i = P by omega), (show ¬ i = P + 1 by omega)]
          exact gfr i hi) (by
      rintro k sB r hW ⟨hk, hrn, hBk, b1, b2, b3, h9, h8, h7, h0, h2, bP, bP1, bfr, bnx, bd, bf⟩
      simp (maxSteps := 999999) only [E0, seval, -Int.reduceNatCast', NADD, hP] at bP1
      by_cases hp : k < M.os.length
      rotate_left
      · simp (maxSteps := 999999) only [E0, seval, -Int.reduceNatCast', NUM, h9, h8, bd, bf, (show ¬ (k : Int) < M.os.length by omega)] at hW
        subst hW
        have : k = M.os.length := by omega
        subst this
        refine rd_exit ⟨.inl ⟨rfl, hrn, hBk, ?_⟩, ?_⟩
        · simp (maxSteps := 999999) only [E0, seval, -Int.reduceNatCast', b1, b2, bP1, NADD, hP]
        · simp (maxSteps := 999999) only [E0, seval, -Int.reduceNatCast', b3, bP, bd]
          exact ⟨bfr, bnx⟩
      have e0 : M.os[k]? = some M.os[k] := List.getElem?_eq_getElem hp
      have e1 := map_get (f := ofr q.cl) e0
      have ok := MOF_ok hM e0
      have ms := MOVT_succ (set := set) e0
      have sz := MOVT_sz hM set (k := k) (by omega)
      generalize M.os[k] = x at *
      have cw := c_wins M.rain x.lo x.hi
      obtain ⟨ver, hb5⟩ : ∃ ver, sB.boxes 5 = ver := ⟨_, rfl⟩
      rcases ver with _ | ⟨v5, c5⟩
      all_goals
        by_cases hb : BIT set k = 1
        rotate_left
        · rw [if_neg hb] at ms
          simp (maxSteps := 999999) only [E0, seval, -Int.reduceNatCast', NUM, NADD, SRCH, SFRM, SCRP, SRGT, SDTY, hv.s0, hv.s1, hv.s2, hv.fz, SAV hA, SOFR, SLOT, INTS, INB, hb, h9, h8, h7, h0, h2, bd, bf, hb5, e1, List.length_map, Int.toNat_natCast, (show (k : Int) < M.os.length by omega), (show (0 : Int) ≤ k by omega), (show ¬ (k : Int) < 0 by omega), (i64_in (x := (k : Int) + 1) (by unfold I64; omega))] at hW
          subst hW
          refine rd_next (k + 1) ?_ (show M.os.length - (k + 1) < M.os.length - k by omega)
          simp (maxSteps := 999999) only [E0, seval, -Int.reduceNatCast', NADD, hP, h8, h7, h0, h2, b1, b2, b3, bP, bP1, bd, ms]
          exact ⟨by omega, RNK_succ hrn e0 (fun g => absurd g hb), hBk, by simp, bfr, bnx⟩
        by_cases hrain : x.lo ≤ M.rain ∧ M.rain ≤ x.hi
        rotate_left
        · rw [decide_eq_false hrain] at cw
          simp (maxSteps := 999999) only [E0, seval, -Int.reduceNatCast', NUM, NADD, np, Try.func24, SRCH, SFRM, SCRP, SRGT, SDTY, hv.s0, hv.s1, hv.s2, hv.fz, SAV hA, SOFR, SLOT, INTS, INB, hb, cw, k2, k1, k4, k5, h9, h8, h7, h0, h2, b1, b2, b3, bP, bP1, bd, bf, hb5, e1, List.length_map, Int.toNat_natCast, (show (k : Int) < M.os.length by omega), (show (0 : Int) ≤ k by omega), (show ¬ (k : Int) < 0 by omega), (show ¬ H.next + 1 + 1 = P + 1 by omega), (show ¬ H.next + 1 + 1 + 1 = P + 1 by omega), (show ¬ H.next + 1 + 1 + 1 = H.next + 1 + 1 by omega)] at hW
          rw [if_pos (by kernel_rfl)] at hW
          subst hW
          refine rd_ret ⟨.inr ⟨rfl, fun g => hrain (g k x hp e0 hb), ?_, ?_⟩, ?_⟩
          · simp (maxSteps := 999999) only [E0, seval, -Int.reduceNatCast', NADD, np, (show ¬ H.next + 1 + 1 = P + 1 by omega), (show ¬ H.next + 1 + 1 + 1 = P + 1 by omega)]
          · simp (maxSteps := 999999) only [E0, seval, -Int.reduceNatCast', NADD, np, setL, hP]
          · simp (maxSteps := 999999) only [E0, seval, -Int.reduceNatCast', NADD, np, b3, bP, bd, (show ¬ H.next + 1 + 1 + 1 = P + 1 by omega), (show ¬ P = H.next + 1 + 1 by omega), (show ¬ P = H.next + 1 + 1 + 1 by omega)]
            refine ⟨fun i hi => ?_, by omega⟩
            simp (maxSteps := 999999) only [E0, seval, -Int.reduceNatCast', np, (show ¬ i = P + 1 by omega), (show ¬ i = H.next + 1 + 1 by omega), (show ¬ i = H.next + 1 + 1 + 1 by omega)]
            exact bfr i hi
        rw [decide_eq_true hrain] at cw
        obtain ⟨F, hF⟩ : ∃ F, sB.H.next = F := ⟨_, rfl⟩
        simp (maxSteps := 999999) only [E0, seval, -Int.reduceNatCast', NUM, NADD, np, Try.func24, SRCH, SFRM, SCRP, SRGT, SDTY, hv.s0, hv.s1, hv.s2, hv.fz, SAV hA, SOFR, SLOT, INTS, INB, hb, cw, k2, k1, k4, k5, h9, h8, h7, h0, h2, b1, b2, b3, bP, bP1, bd, bf, hF, hb5, e1, List.length_map, Int.toNat_natCast, (show (k : Int) < M.os.length by omega), (show (0 : Int) ≤ k by omega), (show ¬ (k : Int) < 0 by omega), (show ¬ H.next + 1 + 1 = P + 1 by omega), (show ¬ H.next + 1 + 1 + 1 = P + 1 by omega), (show ¬ H.next + 1 + 1 + 1 = H.next + 1 + 1 by omega)] at hW
        rw [if_pos (by kernel_rfl)] at hW
        generalize hC : W _ (.loop _) _ = LC at hW
        obtain ⟨exC, sC, rfl, rfl, hBC, c1, c2, c3, cP, cP1, cfr, cnx, cd, cf⟩ := loop_at hC (α := Nat) (fun i => x.lots.length - i)
          (fun s0 i s => i ≤ x.lots.length ∧ TBB (ADDS (MOVT M set k) x.fm.toNat (x.lots.take i)) ev (H.next + 1 + 1 + 1) P s.H ∧ s.H.rows (H.next + 1) = some (.gro 1 ev 0) ∧ s.H.rows (H.next + 1 + 1) = some (.gro 1 [.gsl 1 (H.next + 1) M.aw.length 0 M.aw.length] 0) ∧ s.H.rows (H.next + 1 + 1 + 1) = some (.gro 1 [.bool false] 0) ∧ s.tmps 44 = I i ∧ s.tmps 43 = I x.lots.length ∧ s.tmps 42 = .vs 2 (x.lots.map lot) q.cl ∧ s.tmps 4 = .ptr (H.next + 1 + 1) 1 0 0 ∧ s.tmps 9 = .bptr F 9 0 0 ∧ s.boxes 9 = some (0, [I x.no, I x.fm, I x.pr, I x.lo, I x.hi, .vs 2 (x.lots.map lot) q.cl]) ∧ s.H.rows P = some .dfr ∧ s.H.rows (P + 1) = s0.H.rows (P + 1) ∧ (∀ i < H.next, s.H.rows i = H.rows i) ∧ P + 1 + 1 < s.H.next ∧ s.defers = [] ∧ s.fid = F)
          (fun s0 ex s => ex = .exit 4 ∧ TBB (ADDS (MOVT M set k) x.fm.toNat x.lots) ev (H.next + 1 + 1 + 1) P s.H ∧ s.H.rows (H.next + 1) = some (.gro 1 ev 0) ∧ s.H.rows (H.next + 1 + 1) = some (.gro 1 [.gsl 1 (H.next + 1) M.aw.length 0 M.aw.length] 0) ∧ s.H.rows (H.next + 1 + 1 + 1) = some (.gro 1 [.bool false] 0) ∧ s.H.rows P = some .dfr ∧ s.H.rows (P + 1) = s0.H.rows (P + 1) ∧ (∀ i < H.next, s.H.rows i = H.rows i) ∧ P + 1 + 1 < s.H.next ∧ s.defers = [] ∧ s.fid = F) 0
          (by simp (maxSteps := 999999) only [E0, seval, -Int.reduceNatCast', NADD, np, k4, b1, b2, b3, bP, List.take_zero]
              refine ⟨Nat.zero_le _, ?_, by simp, fun i hi => ?_, by omega⟩
              · refine hBk.frame (fun i h1 h2 => ?_) (Nat.le_refl _)
                simp (maxSteps := 999999) only [E0, seval, -Int.reduceNatCast', (show ¬ i = P + 1 by omega)]
              · simp (maxSteps := 999999) only [E0, seval, -Int.reduceNatCast', (show ¬ i = P + 1 by omega)]
                exact bfr i hi) (by
            rintro i sC r2 hW2 ⟨hi, hBi, c1, c2, c3, z44, z43, z42, z4, z9, zb9, cP, cP1, cfr, cnx, cd, cf⟩
            by_cases hpi : i < x.lots.length
            rotate_left
            · simp (maxSteps := 999999) only [E0, seval, -Int.reduceNatCast', NUM, z44, z43, cd, cf, (show ¬ (i : Int) < x.lots.length by omega)] at hW2
              subst hW2
              rw [List.take_of_length_le (by omega)] at hBi
              refine rd_exit ⟨rfl, hBi, ?_⟩
              simp (maxSteps := 999999) only [E0, seval, -Int.reduceNatCast', c1, c2, c3, cP, cP1, cd]
              exact ⟨cfr, cnx⟩
            have l0 : x.lots[i]? = some x.lots[i] := List.getElem?_eq_getElem hpi
            have l1 := map_get (f := lot) l0
            have oy := ok.2.2 _ (List.getElem_mem hpi)
            have tky : x.lots.take (i + 1) = x.lots.take i ++ [x.lots[i]] := by rw [List.take_add_one, l0]; rfl
            generalize x.lots[i] = y at *
            have tsz := sz.adds (f := x.fm.toNat) (l := x.lots.take i) (by omega) (fun y hy => (ok.2.2 y (List.mem_of_mem_take hy)).2)
            have tl8 : (x.lots.take i).length ≤ 8 := by simp; omega
            obtain ⟨wy, hwy⟩ : ∃ wy : Nat, y.w = wy := ⟨y.w.toNat, by omega⟩
            obtain ⟨fy, hfy⟩ : ∃ fy : Nat, x.fm = fy := ⟨x.fm.toNat, by omega⟩
            have ewy : y.w.toNat = wy := by omega
            have efy : x.fm.toNat = fy := by omega
            have aap := ADDS_app x.fm.toNat (x.lots.take i) (MOVT M set k) y
            rw [← tky, ewy] at aap
            rw [efy] at aap hBi tsz
            generalize ADDS (MOVT M set k) fy (x.lots.take i) = T at *
            have tw : T[wy]? = some (T[wy]'(by rw [tsz.len]; omega)) := List.getElem?_eq_getElem _
            have trow := tsz.row _ (List.getElem_mem (l := T) (n := wy) (by rw [tsz.len]; omega))
            have tbd := tsz.bd _ (List.getElem_mem (l := T) (n := wy) (by rw [tsz.len]; omega))
            generalize (T[wy]'(by rw [tsz.len]; omega)) = l at *
            have hfl : fy < l.length := by omega
            have fl0 : l[fy]? = some l[fy] := List.getElem?_eq_getElem hfl
            have fl1 := ints_get fl0
            have fgd : l.getD fy 0 = l[fy] := by simp [List.getD_eq_getElem?_getD, fl0]
            have fbd := tbd _ (List.getElem_mem hfl)
            have hne : l ≠ [] := by intro g; rw [g] at hfl; simp at hfl
            rcases hBi.get wy l tw with ⟨_, id, ew, hid, hid1, hid2⟩ | ⟨g, _⟩
            rotate_left
            · exact absurd g hne
            have evl : ev.length = M.aw.length := by rw [hBi.len, tsz.len]
            have tset := fun (H' : Heap) => hBi.set (H' := H') (f := fy) (d := y.n) tw ew hne
            rw [fgd] at tset
            generalize l[fy] = u at *
            have wlt : wy < M.aw.length := by omega
            rcases hb11 : sC.boxes 11 with _ | ⟨v11, c11⟩
            all_goals
              simp (maxSteps := 999999) only [E0, seval, -Int.reduceNatCast', NUM, NADD, np, INTS, SLOT, z44, z43, z42, z4, z9, zb9, c1, c2, cd, cf, hb11, l1, hwy, hfy, ew, evl, hid, fl1, List.length_map, Int.toNat_natCast, Nat.zero_add, Nat.zero_le, hfl, wlt, (show (i : Int) < x.lots.length by omega), (show (0 : Int) ≤ i by omega), (show (0 : Int) ≤ wy by omega), (show (wy : Int) < M.aw.length by omega), (show (0 : Int) ≤ fy by omega), (show (fy : Int) < l.length by omega), (i64_in (x := (i : Int) + 1) (by unfold I64; omega)), (i64_in (x := u + y.n) (by unfold I64; omega)), List.length_set] at hW2
              replace hW2 := ite_chk3 (fun a b c => [(13, [Vr.row c], [Vr.row c]), (10, [Vr.box 11], []), (8, [Vr.row c], []), (6, [Vr.box 9], []), (4, [Vr.row b], []), (2, [Vr.box 11], []), (0, [Vr.row a], [])]) (H.next + 1 + 1) (H.next + 1) id (by omega) (by omega) (by omega) (by intro f h1 h2 h3; simp [renL, renM, renV, h1, h2, h3]) (by kernel_rfl) hW2
              subst hW2
              refine rd_next (i + 1) ?_ (show x.lots.length - (i + 1) < x.lots.length - i by omega)
              simp (maxSteps := 999999) only [E0, seval, -Int.reduceNatCast', NADD, np, z43, z42, z4, z9, zb9, c1, c2, c3, cP, cP1, cd, (show ¬ H.next + 1 = id by omega), (show ¬ H.next + 1 + 1 = id by omega), (show ¬ H.next + 1 + 1 + 1 = id by omega), (show ¬ P = id by omega), (show ¬ P + 1 = id by omega)]
              refine ⟨by omega, ?_, by simp, fun a ha => ?_, by omega⟩
              · rw [efy, aap]
                refine tset _ ?_ (fun a h1 h2 h3 => ?_)
                · simp (maxSteps := 999999) only [E0, seval, -Int.reduceNatCast']
                  rw [List.map_set]
                · simp (maxSteps := 999999) only [E0, seval, -Int.reduceNatCast', h3]
              · simp (maxSteps := 999999) only [E0, seval, -Int.reduceNatCast', (show ¬ a = id by omega)]
                exact cfr a ha)
        simp (maxSteps := 999999) only [E0, seval, -Int.reduceNatCast', NADD, np] at cP1
        obtain ⟨fC, tC, bC, dC, HC, rC⟩ := sC
        dsimp only at hBC c1 c2 c3 cP cP1 cfr cnx cd cf
        subst cd
        simp (maxSteps := 999999) only [E0, seval, -Int.reduceNatCast', NUM, NADD, np, c1, c2, c3, cP, cP1, cf, h9, (i64_in (x := (k : Int) + 1) (by unfold I64; omega))] at hW
        subst hW
        rw [if_pos hb] at ms
        refine rd_next (k + 1) ?_ (show M.os.length - (k + 1) < M.os.length - k by omega)
        simp (maxSteps := 999999) only [E0, seval, -Int.reduceNatCast', NADD, np, hP, h8, h7, h0, h2, c1, c2, c3, cP, bP1, ms]
        refine ⟨by omega, RNK_succ hrn e0 (fun _ => hrain), ?_, by simp, fun a ha => ?_, by omega⟩
        · refine hBC.frame (fun a h1 h2 => ?_) (Nat.le_refl _)
          simp (maxSteps := 999999) only [E0, seval, -Int.reduceNatCast', (show ¬ a = P + 1 by omega)]
        · simp (maxSteps := 999999) only [E0, seval, -Int.reduceNatCast', (show ¬ a = P + 1 by omega)]
          exact cfr a ha)
  clear hL
  obtain ⟨fB, tB, bB, dB, HB, rB⟩ := sB
  dsimp only at hexB b3 bP bfr bnx bd bf
  subst bd
  rcases hexB with ⟨rfl, hrn, hBB, b1, b2, bL⟩ | ⟨rfl, hrn, b2, bL⟩
  rotate_left
  · simp (maxSteps := 999999) only [E0, seval, -Int.reduceNatCast', NADD, hP, setL, np] at bL
    simp (maxSteps := 999999) only [E0, seval, -Int.reduceNatCast', NUM, NADD, np, hP, SRCH, SFRM, SCRP, SRGT, SDTY, hv.s0, hv.s1, hv.s2, hv.fz, SAV hA, SOFR, SLOT, INTS, Try.func24, b2, b3, bL, bP, k2, k1, k4, k5, gf] at hX
    subst hX
    refine ⟨_, ?_, ?_, .inl ⟨?_, rfl⟩⟩
    · intro i hi
      simp (maxSteps := 999999) only [E0, seval, -Int.reduceNatCast', (show ¬ i = P by omega), (show ¬ i = P + 1 by omega), (show ¬ i = H.next + 1 + 1 by omega), (show ¬ i = H.next + 1 + 1 + 1 by omega)]
      exact bfr i hi
    · simp (maxSteps := 999999) only [E0, seval, -Int.reduceNatCast']
      omega
    · unfold AFT
      rw [if_neg hrn]
  simp (maxSteps := 999999) only [E0, seval, -Int.reduceNatCast', NADD, hP, setL, np] at bL
  obtain ⟨Q, hQ⟩ : ∃ Q, HB.next = Q := ⟨_, rfl⟩
  rw [hQ] at bnx
  have nq : ((¬ Q = H.next) ∧ (¬ Q = H.next + 1) ∧ (¬ Q = H.next + 1 + 1) ∧ (¬ Q = H.next + 1 + 1 + 1) ∧ (¬ Q = P) ∧ (¬ Q = P + 1)) ∧ (¬ H.next = Q) ∧ (¬ H.next + 1 = Q) ∧ (¬ H.next + 1 + 1 = Q) ∧ (¬ H.next + 1 + 1 + 1 = Q) ∧ (¬ P = Q) ∧ (¬ P + 1 = Q) ∧ (¬ H.next + 1 = P + 1) ∧ (¬ H.next + 1 + 1 = P + 1) ∧ (¬ H.next + 1 + 1 + 1 = P + 1) ∧ (¬ H.next + 1 + 1 + 1 = H.next + 1 + 1) := by omega
  simp (maxSteps := 999999) only [E0, seval, -Int.reduceNatCast', NUM, NADD, np, nq, hP, hQ, SRCH, SFRM, SCRP, SRGT, SDTY, hv.s0, hv.s1, hv.s2, hv.fz, SAV hA, SOFR, SLOT, INTS, Try.func24, b1, b2, b3, bL, bP, k2, k1, k4, k5, gf] at hX
  have sz := MOVT_sz hM set (k := M.os.length) (Nat.le_refl _)
  have ni := fun i => hBB.notin (i := i)
  generalize hE : callF _ _ _ _ _ _ = E at hX
  obtain ⟨b, H1, rfl, hbK, hT1, nx1, fr1⟩ := c_comp hr hv hA hM _ sz.len sz.row ev (H.next + 1) Q _ ⟨⟨0, by simp (maxSteps := 999999) only [E0, seval, -Int.reduceNatCast', nq, b1]⟩, hBB.len, by simp (maxSteps := 999999) only [E0, seval, -Int.reduceNatCast']; omega, by omega, fun w l e => by
    rcases hBB.get w l e with ⟨g1, id, g2, g3, g4, g5⟩ | ⟨g1, v, g2, g3⟩
    · refine ⟨_, g2, .inl ⟨g1, id, 0, rfl, by simp (maxSteps := 999999) only [E0, seval, -Int.reduceNatCast', (show ¬ id = P + 1 by omega), (show ¬ id = Q by omega), g3], by simp (maxSteps := 999999) only [E0, seval, -Int.reduceNatCast']; omega⟩, fun a b c d e => by cases e; omega⟩
    · refine ⟨v, g2, .inr ⟨g1, g3⟩, fun a b c d e => ?_⟩
      rcases g3 with g3 | g3 <;> rw [g3] at e <;> cases e⟩ (by simp (maxSteps := 999999) only [E0, seval, -Int.reduceNatCast']) (by simp (maxSteps := 999999) only [E0, seval, -Int.reduceNatCast']; omega) _ hE
  clear hE
  have r2 := fr1 (H.next + 1 + 1) (by simp (maxSteps := 999999) only [E0, seval, -Int.reduceNatCast']; omega) (by omega) (ni _ (by omega))
  have r3 := fr1 (H.next + 1 + 1 + 1) (by simp (maxSteps := 999999) only [E0, seval, -Int.reduceNatCast']; omega) (by omega) (ni _ (by omega))
  have rP := fr1 P (by simp (maxSteps := 999999) only [E0, seval, -Int.reduceNatCast']; omega) (by omega) (ni _ (by omega))
  simp (maxSteps := 999999) only [E0, seval, -Int.reduceNatCast', nq, np, b2] at r2
  simp (maxSteps := 999999) only [E0, seval, -Int.reduceNatCast', nq, np, b3] at r3
  simp (maxSteps := 999999) only [E0, seval, -Int.reduceNatCast', nq, np, bP] at rP
  simp (maxSteps := 999999) only [E0, seval, -Int.reduceNatCast'] at nx1
  have rr : ∀ i < H.next, H1.rows i = H.rows i := fun i hi => by
    rw [fr1 i (by simp (maxSteps := 999999) only [E0, seval, -Int.reduceNatCast']; omega) (by omega) (ni _ (by omega))]
    simp (maxSteps := 999999) only [E0, seval, -Int.reduceNatCast', (show ¬ i = P + 1 by omega), (show ¬ i = Q by omega)]
    exact bfr i hi
  rcases hbK with ⟨rfl, kk, hk⟩ | ⟨rfl, hk⟩
  · simp (maxSteps := 999999) only [E0, seval, -Int.reduceNatCast', NUM, NADD, np, nq, hP, hQ, SRCH, SFRM, SCRP, SRGT, SDTY, hv.s0, hv.s1, hv.s2, hv.fz, SAV hA, SOFR, SLOT, INTS, Try.func24, r2, r3, rP, k2, k1, k4, k5, gf] at hX
    subst hX
    refine ⟨_, ?_, ?_, .inr ⟨MOVT M set M.os.length, ev, H.next + 1, Q, ?_, rfl, ?_⟩⟩
    · intro i hi
      simp (maxSteps := 999999) only [E0, seval, -Int.reduceNatCast', (show ¬ i = P by omega), (show ¬ i = P + 1 by omega), (show ¬ i = H.next + 1 + 1 by omega), (show ¬ i = H.next + 1 + 1 + 1 by omega)]
      exact rr i hi
    · simp (maxSteps := 999999) only [E0, seval, -Int.reduceNatCast']
      omega
    · unfold AFT
      rw [if_pos hrn, hk]
    · refine hT1.frame (by simp (maxSteps := 999999) only [E0, seval, -Int.reduceNatCast']; omega) (fun i hi => ?_)
      have c1 : ¬ i = P := fun g => hi.elim (fun hi => by omega) (fun hi => hi (ni _ (by omega)))
      have c2 : ¬ i = H.next + 1 + 1 := fun g => hi.elim (fun hi => by omega) (fun hi => hi (ni _ (by omega)))
      have c3 : ¬ i = H.next + 1 + 1 + 1 := fun g => hi.elim (fun hi => by omega) (fun hi => hi (ni _ (by omega)))
      simp (maxSteps := 999999) only [E0, seval, -Int.reduceNatCast', c1, c2, c3]
  · simp (maxSteps := 999999) only [E0, seval, -Int.reduceNatCast', NUM, NADD, np, nq, hP, hQ, SRCH, SFRM, SCRP, SRGT, SDTY, hv.s0, hv.s1, hv.s2, hv.fz, SAV hA, SOFR, SLOT, INTS, Try.func24, r2, r3, rP, k2, k1, k4, k5, gf] at hX
    subst hX
    refine ⟨_, ?_, ?_, .inl ⟨?_, rfl⟩⟩
    · intro i hi
      simp (maxSteps := 999999) only [E0, seval, -Int.reduceNatCast', (show ¬ i = P by omega), (show ¬ i = P + 1 by omega), (show ¬ i = H.next + 1 + 1 by omega), (show ¬ i = H.next + 1 + 1 + 1 by omega)]
      exact rr i hi
    · simp (maxSteps := 999999) only [E0, seval, -Int.reduceNatCast']
      omega
    · unfold AFT
      rw [if_pos hrn, hk]
end
end Go.Proofs.Ytbmmbefgmhhciaa

/-
  What each farm has after a set, and the value of a set.
-/
namespace Go.Proofs.Ytbmmbefgmhhciaa
open Go GoV
set_option maxRecDepth 100000

theorem ASK_0 {M : Mkt} {set : Int} (h : ASK M set = 0) : MC M = 0 ∧ 0 ≤ set ∧ set ≤ 2 ^ M.os.length - 1 := by
  unfold ASK at h
  split at h
  · split at h
    · next h1 h2 => exact ⟨h1, h2⟩
    · omega
  · next h1 => exact absurd h h1
theorem AFT_eq {M : Mkt} {set : Int} {T : List (List Int)} (h : AFT M set = some T) : T = MOVT M set M.os.length := by
  unfold AFT at h
  split at h
  · split at h
    · exact (Option.some.inj h).symm
    · cases h
  · cases h
/-- The values of a table's rows. -/
structure TVL (T : List (List Int)) (tv : List PV) : Prop where
  len : tv.length = T.length
  get : ∀ (w : Nat) (l : List Int), T[w]? = some l → ∃ v, tv[w]? = some v ∧ RV l v
theorem TBL.tv {T : List (List Int)} {ev : List PV} {R0 R : Nat} {H : Heap} (h : TBL T ev R0 R H) : TVL T (ev.map (strip1 H)) := by
  refine ⟨by rw [List.length_map]; exact h.len, fun w l e => ?_⟩
  obtain ⟨v, h1, h2, _⟩ := h.get w l e
  rw [List.getElem?_map, h1]
  refine ⟨_, rfl, ?_⟩
  rcases h2 with ⟨_, id, fz, rfl, h4, _⟩ | ⟨rfl, rfl | rfl⟩
  · have hr : rowEs H id l.length 0 l.length = some (l.map I) := by
      rw [rowEs_K, h4, rowEsK_some, if_pos ⟨by simp, by omega⟩, List.drop_zero, List.take_of_length_le (by simp)]
    refine .inl ⟨none, ?_⟩
    show vsO 1 strip0 (rowEs H id l.length 0 l.length) = _
    rw [hr, vsO_some, map_strip0_ints]
  · exact .inr ⟨rfl, rfl⟩
  · exact .inl ⟨some 0, rfl⟩
section
variable {M : Mkt} (hr : ∀ x ∈ M.D.rs, x.OK) {q : Cps} (hv : DV M.D q.cs q.gs q.ds q.ws) (hA : AWV M.aw q.av)
include hr hv hA
set_option maxHeartbeats 4000000 in
theorem c_After (set : Int) (H : Heap) (X : Option (CR × Heap)) (hX : callF G Try.prog pol 10 [.agg (mcl M q), I set] H = X) :
    ∃ H', (∀ i < H.next, H'.rows i = H.rows i) ∧ H.next < H'.next ∧ ((ASK M set ≠ 0 ∧ X = some (.ret (.tup [.nils, .bool false, I (ASK M set)]), H')) ∨ (ASK M set = 0 ∧ AFT M set = none ∧ X = some (.ret (.tup [.nils, .bool false, I 0]), H')) ∨ (ASK M set = 0 ∧ ∃ T ev R0 R, AFT M set = some T ∧ X = some (.ret (.tup [.gsl 1 R0 M.aw.length 0 M.aw.length, .bool true, I 0]), H') ∧ TBL T ev R0 R H')) := by
  have ca := c_ask hr hv hA set
  rw [callF_eq _ _ Try.func10 rfl Try.ntmps10 Try.results10 (by kernel_rfl) rfl (by exact Nat.le_of_ble_eq_true rfl)] at hX
  by_cases h : ASK M set = 0
  rotate_left
  · simp (maxSteps := 999999) only [E0, seval, -Int.reduceNatCast', NUM, SRCH, SFRM, SCRP, SRGT, SDTY, hv.s0, hv.s1, hv.s2, hv.fz, SAV hA, SOFR, SLOT, INTS, ca, h] at hX
    subst hX
    exact ⟨⟨H.rows, H.next + 1⟩, fun i hi => rfl, Nat.lt_succ_self _, .inl ⟨h, rfl⟩⟩
  rw [h] at ca
  simp (maxSteps := 999999) only [E0, seval, -Int.reduceNatCast', NUM, SRCH, SFRM, SCRP, SRGT, SDTY, hv.s0, hv.s1, hv.s2, hv.fz, SAV hA, SOFR, SLOT, INTS, ca] at hX
  generalize hE : callF _ _ _ _ _ _ = E at hX
  obtain ⟨H1, fr, nx, ⟨ha, rfl⟩ | ⟨T, ev, R0, R, ha, rfl, hT⟩⟩ := c_after hr hv hA (ASK_0 h).1 set _ _ hE
  · simp (maxSteps := 999999) only [E0, seval, -Int.reduceNatCast', NUM] at hX
    subst hX
    simp (maxSteps := 999999) only [E0, seval, -Int.reduceNatCast'] at nx
    exact ⟨_, fun i hi => fr i (Nat.lt_succ_of_lt hi), by omega, .inr (.inl ⟨h, ha, rfl⟩)⟩
  · simp (maxSteps := 999999) only [E0, seval, -Int.reduceNatCast', NUM] at hX
    subst hX
    simp (maxSteps := 999999) only [E0, seval, -Int.reduceNatCast'] at nx
    exact ⟨_, fun i hi => fr i (Nat.lt_succ_of_lt hi), by omega, .inr (.inr ⟨h, T, ev, R0, R, ha, rfl, hT⟩)⟩
/-- What After answers, for the values of a table. -/
noncomputable def AFV (M : Mkt) (set : Int) (tv : List PV) : PV := if ASK M set ≠ 0 then .tup [.nils, .bool false, I (ASK M set)] else if AFT M set = none then .tup [.nils, .bool false, I 0] else .tup [.vs 1 tv none, .bool true, I 0]
theorem c_Aft (set : Int) : ∃ tv, ap Try.prog pol 10 [.agg (mcl M q), I set] = some (.ret (AFV M set tv)) ∧ ∀ T, ASK M set = 0 → AFT M set = some T → TVL T tv := by
  unfold ap
  generalize hE : callF _ _ _ _ _ _ = E
  unfold AFV
  obtain ⟨H1, fr, nx, ⟨ha, rfl⟩ | ⟨h0, ha, rfl⟩ | ⟨h0, T, ev, R0, R, ha, rfl, hT⟩⟩ := c_After hr hv hA set _ _ hE
  · refine ⟨[], ?_, fun T h => absurd h ha⟩
    rw [if_pos ha]
    rfl
  · refine ⟨[], ?_, fun T _ h => by rw [ha] at h; cases h⟩
    rw [if_neg (fun g => g h0), if_pos ha]
    rfl
  · refine ⟨ev.map (strip1 H1), ?_, fun T' _ h => by rw [ha] at h; cases h; exact hT.tv⟩
    rw [if_neg (fun g => g h0), if_neg (by rw [ha]; simp)]
    obtain ⟨z, hz⟩ := hT.row
    have hl : ev.length = M.aw.length := by rw [hT.len, AFT_eq ha]; exact (MOVT_sz (ASK_0 h0).1 set (k := M.os.length) (Nat.le_refl _)).len
    have hr : rowEs H1 R0 M.aw.length 0 M.aw.length = some ev := by
      rw [rowEs_K, hz, rowEsK_some, if_pos ⟨hl, by omega⟩, List.drop_zero, List.take_of_length_le (by omega)]
    show some (CR.ret (.tup [vsO 1 (strip1 H1) (rowEs H1 R0 M.aw.length 0 M.aw.length), .bool true, I 0])) = _
    rw [hr, vsO_some]
/-- What Value answers. -/
noncomputable def VALV (M : Mkt) (set : Int) : PV := if ASK M set ≠ 0 then .tup [I 0, .bool false, I (ASK M set)] else if AFT M set = none then .tup [I 0, .bool false, I 0] else .tup [I (PRC M.os set M.os.length), .bool true, I 0]
set_option maxHeartbeats 4000000 in
theorem c_value (set : Int) : ap Try.prog pol 14 [.agg (mcl M q), I set] = some (.ret (VALV M set)) := by
  obtain ⟨tv, ct, _⟩ := c_Aft hr hv hA set
  unfold AFV at ct
  unfold VALV
  rw [ap_eq _ Try.func14 rfl Try.ntmps14 Try.results14 (by kernel_rfl) rfl (by exact Nat.le_of_ble_eq_true rfl)]
  by_cases ha : ASK M set = 0
  rotate_left
  · rw [if_pos ha] at ct ⊢
    simp (maxSteps := 999999) only [E0, seval, -Int.reduceNatCast', NUM, SRCH, SFRM, SCRP, SRGT, SDTY, hv.s0, hv.s1, hv.s2, hv.fz, SAV hA, SOFR, SLOT, INTS, ct]
  rw [if_neg (fun g => g ha)] at ct ⊢
  by_cases h0 : AFT M set = none
  · rw [if_pos h0] at ct ⊢
    simp (maxSteps := 999999) only [E0, seval, -Int.reduceNatCast', NUM, SRCH, SFRM, SCRP, SRGT, SDTY, hv.s0, hv.s1, hv.s2, hv.fz, SAV hA, SOFR, SLOT, INTS, ct]
  rw [if_neg h0] at ct ⊢
  have cp := c_price hv hA set (MC_prb (ASK_0 ha).1) (MC_0 (ASK_0 ha).1).2.2.1
  simp (maxSteps := 999999) only [E0, seval, -Int.reduceNatCast', NUM, SRCH, SFRM, SCRP, SRGT, SDTY, hv.s0, hv.s1, hv.s2, hv.fz, SAV hA, SOFR, SLOT, INTS, ct, cp]
end
end Go.Proofs.Ytbmmbefgmhhciaa

/-
  A number for each offer.
-/
namespace Go.Proofs.Ytbmmbefgmhhciaa
open Go GoV
set_option maxRecDepth 100000

/-- A number for each of the first offers, and 0 for the others. -/
def PART (g : Nat → Ofr → Int) (os : List Ofr) (k : Nat) : List Int := os.mapIdx fun i x => if i < k then g i x else 0
theorem PART_len (g : Nat → Ofr → Int) (os : List Ofr) (k : Nat) : (PART g os k).length = os.length := by simp [PART]
theorem PART_get (g : Nat → Ofr → Int) (os : List Ofr) (k i : Nat) : (PART g os k)[i]? = (os[i]?).map fun x => if i < k then g i x else 0 := by simp [PART]
theorem PART_0 (g : Nat → Ofr → Int) (os : List Ofr) : PART g os 0 = List.replicate os.length 0 := by
  apply List.ext_getElem?
  intro i
  rw [PART_get]
  simp only [Nat.not_lt_zero, if_false, List.getElem?_replicate]
  by_cases h : i < os.length
  · rw [List.getElem?_eq_getElem h, if_pos h]; rfl
  · rw [List.getElem?_eq_none (by omega), if_neg h]; rfl
theorem PART_succ {g : Nat → Ofr → Int} {os : List Ofr} {k : Nat} {x : Ofr} (e : os[k]? = some x) : PART g os (k + 1) = (PART g os k).set k (g k x) := by
  have hk : k < os.length := (List.getElem?_eq_some_iff.1 e).1
  apply List.ext_getElem?
  intro i
  rw [List.getElem?_set, PART_get, PART_get, PART_len]
  by_cases h : k = i
  · subst h
    rw [if_pos rfl, if_pos hk, e]
    simp
  · rw [if_neg h]
    by_cases h2 : i < k
    · simp only [h2, if_true, show i < k + 1 by omega]
    · simp only [h2, if_false, show ¬ i < k + 1 by omega]
theorem PART_same {g : Nat → Ofr → Int} {os : List Ofr} {k : Nat} {x : Ofr} (e : os[k]? = some x) (h0 : g k x = 0) : PART g os (k + 1) = PART g os k := by
  apply List.ext_getElem?
  intro i
  rw [PART_get, PART_get]
  by_cases h : i = k
  · subst h
    rw [e]
    simp [h0]
  · by_cases h2 : i < k
    · simp only [h2, if_true, show i < k + 1 by omega]
    · simp only [h2, if_false, show ¬ i < k + 1 by omega]
/-- The absolute value of a number. -/
def ABS (n : Int) : Int := max n (-n)
/-- What an offer weighs. -/
def WGT (set : Int) (i : Nat) (x : Ofr) : Int := if BIT set i = 1 then ABS x.pr else 0
def WGS (os : List Ofr) (set : Int) : List Int := PART (WGT set) os os.length
end Go.Proofs.Ytbmmbefgmhhciaa

/-
  What Share needs.
-/
namespace Go.Proofs.Ytbmmbefgmhhciaa
namespace S
open Go GoV
set_option maxRecDepth 100000

abbrev U (n : Int) : PV := .int .u64 n
theorem wrap_u64 (n : Int) : IntKind.u64.wrap n = n % 18446744073709551616 := by simp [IntKind.wrap, IntKind.bits, IntKind.signed]
theorem wrap_i64 (n : Int) : IntKind.i64.wrap n = (n + 9223372036854775808) % 18446744073709551616 - 9223372036854775808 := by rw [IntKind.wrap_i64]
def U64 (x : Int) : Prop := 0 ≤ x ∧ x ≤ 18446744073709551615
theorem u64_in {x : Int} (h : U64 x) : IntKind.u64.wrap x = x := by
  unfold U64 at h; rw [wrap_u64]; omega
theorem map_get {α : Type} {f : α → PV} {l : List α} {k : Nat} {x : α} (h : l[k]? = some x) : (l.map f)[k]? = some (f x) := by simp [h]
theorem all_take {α : Type} {P : α → Prop} {l : List α} {j : Nat} {x : α} (e : l[j]? = some x) : (∀ y ∈ l.take (j + 1), P y) ↔ (∀ y ∈ l.take j, P y) ∧ P x := by
  rw [List.take_add_one, e]
  constructor
  · intro h; exact ⟨fun y hy => h y (by simp [hy]), h x (by simp)⟩
  · rintro ⟨h1, h2⟩ y hy
    simp only [Option.toList_some, List.mem_append, List.mem_singleton] at hy
    rcases hy with hy | rfl
    · exact h1 y hy
    · exact h2
theorem b_iff {p q : Prop} [Decidable p] [Decidable q] (h : p ↔ q) : some (CR.ret (PV.bool (decide p))) = some (CR.ret (PV.bool (decide q))) := by rw [decide_eq_decide.2 h]
theorem b_no {q : Prop} [Decidable q] (h : ¬ q) : some (CR.ret (PV.bool false)) = some (CR.ret (PV.bool (decide q))) := by rw [decide_eq_false h]
theorem b_and {p q : Prop} [Decidable p] [Decidable q] : (if p then some (CR.ret (PV.bool (decide q))) else some (CR.ret (PV.bool false))) = some (CR.ret (PV.bool (decide (p ∧ q)))) := by
  by_cases h : p <;> simp [h]
theorem b_nand {p q : Prop} [Decidable p] [Decidable q] : (if p then some (CR.ret (PV.bool false)) else some (CR.ret (PV.bool (decide q)))) = some (CR.ret (PV.bool (decide (¬ p ∧ q)))) := by
  by_cases h : p <;> simp [h]
theorem b_or {p q : Prop} [Decidable p] [Decidable q] : (if p then some (CR.ret (PV.bool true)) else some (CR.ret (PV.bool (decide q)))) = some (CR.ret (PV.bool (decide (p ∨ q)))) := by
  by_cases h : p <;> simp [h]

section
variable {α : Type} (f : α → PV)
theorem STR (h0 : ∀ x, strip0 (f x) = f x) (h1 : ∀ H x, strip1 H (f x) = f x) (h2 : ∀ H x, strip2 H (f x) = f x) :
    (∀ l : List α, strip0L (l.map f) = l.map f) ∧ (∀ l : List α, (l.map f).map strip0 = l.map f) ∧ (∀ H (l : List α), (l.map f).map (strip1 H) = l.map f) ∧ (∀ H (l : List α), (l.map f).map (strip2 H) = l.map f) ∧ (∀ H (l : List α), strip1L H (l.map f) = l.map f) ∧ (∀ H (l : List α), strip2L H (l.map f) = l.map f) := by
  refine ⟨fun l => ?_, fun l => ?_, fun H l => ?_, fun H l => ?_, fun H l => ?_, fun H l => ?_⟩
  · rw [strip0L_map]; simp [h0]
  · simp [h0]
  · simp [h1]
  · simp [h2]
  · rw [strip1L_map]; simp [h1]
  · rw [strip2L_map]; simp [h2]
end
theorem SIN : (∀ l : List Int, strip0L (l.map I) = l.map I) ∧ (∀ l : List Int, (l.map I).map strip0 = l.map I) ∧ (∀ H (l : List Int), (l.map I).map (strip1 H) = l.map I) ∧ (∀ H (l : List Int), (l.map I).map (strip2 H) = l.map I) ∧ (∀ H (l : List Int), strip1L H (l.map I) = l.map I) ∧ (∀ H (l : List Int), strip2L H (l.map I) = l.map I) := STR I (fun _ => rfl) (fun _ _ => rfl) (fun _ _ => rfl)
theorem NUM : (((0 : Nat) : Int) = 0 ∧ ((1 : Nat) : Int) = 1 ∧ ((2 : Nat) : Int) = 2 ∧ ((3 : Nat) : Int) = 3 ∧ ((4 : Nat) : Int) = 4) ∧
    (IntKind.i64.wrap 0 = 0 ∧ IntKind.i64.wrap 1 = 1 ∧ IntKind.i64.wrap 2 = 2 ∧ IntKind.i64.wrap 3 = 3 ∧ IntKind.i64.wrap 4 = 4) ∧
    ((0 : Int).toNat = 0 ∧ (1 : Int).toNat = 1 ∧ (2 : Int).toNat = 2 ∧ (3 : Int).toNat = 3 ∧ (4 : Int).toNat = 4) ∧
    ((∀ cs, strip0 (.rop cs) = .rop (strip0L cs)) ∧ (∀ f cs, strip0 (.fn f cs) = .fn f (strip0L cs)) ∧ (∀ H cs, strip1 H (.rop cs) = .rop (strip1L H cs)) ∧ (∀ H f cs, strip1 H (.fn f cs) = .fn f (strip1L H cs)) ∧ (∀ H cs, strip2 H (.rop cs) = .rop (strip2L H cs)) ∧ (∀ H f cs, strip2 H (.fn f cs) = .fn f (strip2L H cs)) ∧ (∀ sz es c, strip0 (.vs sz es c) = .vs sz (strip0L es) c) ∧ (∀ H sz es c, strip1 H (.vs sz es c) = .vs sz (strip1L H es) c) ∧ (∀ H sz es c, strip2 H (.vs sz es c) = .vs sz (strip2L H es) c)) := by
  refine ⟨⟨rfl, rfl, rfl, rfl, rfl⟩, ⟨?_, ?_, ?_, ?_, ?_⟩, ⟨rfl, rfl, rfl, rfl, rfl⟩, ⟨fun _ => rfl, fun _ _ => rfl, fun _ _ => rfl, fun _ _ _ => rfl, fun _ _ => rfl, fun _ _ _ => rfl, fun _ _ _ => rfl, fun _ _ _ _ => rfl, fun _ _ _ _ => rfl⟩⟩ <;> exact i64_in (by unfold I64; omega)
theorem c_in (n m : Int) : ap Try.prog pol 50 [I n, I m] = some (.ret (.bool (decide (0 ≤ n ∧ n ≤ m)))) := by
  rw [ap_eq _ Try.func50 rfl Try.ntmps50 Try.results50 (by kernel_rfl) rfl (by exact Nat.le_of_ble_eq_true rfl)]
  simp (maxSteps := 999999) only [E0, seval, -Int.reduceNatCast', b_and]

def OKL (n : Int) : Prop := 0 ≤ n ∧ n ≤ 1073741824
instance (n : Int) : Decidable (OKL n) := by unfold OKL; infer_instance
theorem b_not {p q : Prop} [Decidable p] [Decidable q] (h : p ↔ ¬ q) : some (CR.ret (PV.bool (!decide q))) = some (CR.ret (PV.bool (decide p))) := by
  by_cases hq : q <;> simp [h, hq]
theorem c_f4 (x : Int) : ap Try.prog pol 51 [I x] = some (.ret (.bool (decide (¬ OKL x)))) := by
  rw [ap_eq _ Try.func51 rfl Try.ntmps51 Try.results51 (by kernel_rfl) rfl (by exact Nat.le_of_ble_eq_true rfl)]
  simp (maxSteps := 999999) only [E0, seval, -Int.reduceNatCast', c_in]
  exact b_iff Iff.rfl
theorem none_more {α : Type} {P : α → Prop} {l : List α} {j : Nat} {x : α} (e : l[j]? = some x) (h : ∀ y ∈ l.take j, ¬ P y) (hx : ¬ P x) : ∀ y ∈ l.take (j + 1), ¬ P y := (all_take (P := fun y => ¬ P y) e).2 ⟨h, hx⟩
theorem c_ix4 (l : List Int) (c : Option Nat) (hl : l.length ≤ 1000000) : ∃ k : Int, ap Try.prog pol 60 [.vs 1 (l.map I) c, .fn 51 []] = some (.ret (I k)) ∧ (0 ≤ k ↔ ∃ x ∈ l, ¬ OKL x) := by
  rw [ap_eq _ Try.func60 rfl Try.ntmps60 Try.results60 (by kernel_rfl) rfl (by exact Nat.le_of_ble_eq_true rfl)]
  simp (maxSteps := 999999) only [E0, seval, -Int.reduceNatCast', List.length_map]
  generalize hL : W _ (.loop _) _ = L
  obtain ⟨ex, s, rfl, hex, hd⟩ := loop_at hL (α := Nat) (fun j => l.length - j)
    (fun s0 j s => j ≤ l.length ∧ (∀ x ∈ l.take j, ¬ (¬ OKL x)) ∧ s.tmps 8 = I j ∧ s.tmps 7 = I l.length ∧ s.tmps 0 = .vs 1 (l.map I) c ∧ s.tmps 1 = .fn 51 [] ∧ s.defers = [] ∧ s.fid = 0)
    (fun s0 ex s => ((ex = .exit 0 ∧ ∀ x ∈ l, ¬ (¬ OKL x)) ∨ (ex = .ret ∧ (∃ x ∈ l, ¬ OKL x) ∧ ∃ k : Int, 0 ≤ k ∧ s.tmps 4 = I k)) ∧ s.defers = []) 0
    (by simp (maxSteps := 999999) only [E0, seval, -Int.reduceNatCast']; exact ⟨by omega, by simp, by simp⟩) (by
      rintro j s r hW ⟨hj, hg, h8, h7, h0, h1, hd, hf⟩
      by_cases hp : j < l.length
      · have e0 : l[j]? = some l[j] := List.getElem?_eq_getElem hp
        have e1 := map_get (f := I) e0
        have hm := List.getElem_mem hp
        have cf := c_f4 l[j]
        by_cases hx : (fun x => ¬ OKL x) l[j]
        · rw [decide_eq_true hx] at cf
          simp (maxSteps := 999999) only [E0, seval, -Int.reduceNatCast', NUM, SIN, cf, h8, h7, h0, h1, hd, hf, e1, List.length_map, Int.toNat_natCast, (show (j : Int) < l.length by omega), (show (0 : Int) ≤ j by omega)] at hW
          subst hW
          refine rd_ret ⟨.inr ⟨rfl, ⟨_, hm, hx⟩, j, by omega, by simp (maxSteps := 999999) only [E0, seval, -Int.reduceNatCast']⟩, by simp (maxSteps := 999999) only [E0, seval, -Int.reduceNatCast', hd]⟩
        · rw [decide_eq_false hx] at cf
          have hn := none_more (P := fun x => ¬ OKL x) e0 hg hx
          simp (maxSteps := 999999) only [E0, seval, -Int.reduceNatCast', NUM, SIN, cf, h8, h7, h0, h1, hd, hf, e1, List.length_map, Int.toNat_natCast, (show (j : Int) < l.length by omega), (show (0 : Int) ≤ j by omega), (i64_in (x := (j : Int) + 1) (by unfold I64; omega))] at hW
          subst hW
          refine rd_next (j + 1) ?_ (show l.length - (j + 1) < l.length - j by omega)
          simp (maxSteps := 999999) only [E0, seval, -Int.reduceNatCast', h7, h0, h1, hd]
          exact ⟨by omega, hn, by simp⟩
      · simp (maxSteps := 999999) only [E0, seval, -Int.reduceNatCast', h8, h7, hd, hf, (show ¬ (j : Int) < l.length by omega)] at hW
        subst hW
        have : j = l.length := by omega
        subst this
        rw [List.take_length] at hg
        exact rd_exit ⟨.inl ⟨rfl, hg⟩, by simp (maxSteps := 999999) only [E0, seval, -Int.reduceNatCast', hd]⟩)
  rcases hex with ⟨rfl, hg⟩ | ⟨rfl, hg, k, hk, h4⟩
  · refine ⟨-1, by simp (maxSteps := 999999) only [E0, seval, -Int.reduceNatCast', hd], fun h => absurd h (by decide), fun ⟨x, hx, hp⟩ => absurd hp (hg x hx)⟩
  · refine ⟨k, by simp (maxSteps := 999999) only [E0, seval, -Int.reduceNatCast', hd, h4], fun _ => hg, fun _ => hk⟩
theorem c_has4 (l : List Int) (c : Option Nat) (hl : l.length ≤ 1000000) : ap Try.prog pol 44 [.vs 1 (l.map I) c, .fn 51 []] = some (.ret (.bool (decide (∃ x ∈ l, ¬ OKL x)))) := by
  obtain ⟨k, ck, hk⟩ := c_ix4 l c hl
  rw [ap_eq _ Try.func44 rfl Try.ntmps44 Try.results44 (by kernel_rfl) rfl (by exact Nat.le_of_ble_eq_true rfl)]
  simp (maxSteps := 999999) only [E0, seval, -Int.reduceNatCast', NUM, SIN, ck]
  exact b_iff hk
end S
end Go.Proofs.Ytbmmbefgmhhciaa

/-
  A stable order of quotas, in plain lists.
-/
namespace Go.Proofs.Ytbmmbefgmhhciaa
namespace S
open Go GoV
set_option maxRecDepth 100000

structure Qu where
  (ix r : Int)
/-- The greater remainder first, then the lesser place. -/
def QLT (a b : Qu) : Prop := b.r < a.r ∨ (a.r = b.r ∧ a.ix < b.ix)
theorem QLT.trans {a b c : Qu} (h : QLT a b) (h' : QLT b c) : QLT a c := by unfold QLT at *; omega
theorem QLT.asymm {a b : Qu} (h : QLT a b) : ¬ QLT b a := by unfold QLT at *; omega
theorem QLT.of_not {a b : Qu} (h : ¬ QLT b a) (hi : a.ix < b.ix) : QLT a b := by unfold QLT at *; omega
theorem QLT_iff {a b : Qu} (hi : b.ix < a.ix) : QLT a b ↔ b.r < a.r := by unfold QLT; omega
abbrev QS (l : List Qu) : Prop := l.Pairwise QLT
/-- All of one list before all of another. -/
def QB (l m : List Qu) : Prop := ∀ x ∈ l, ∀ y ∈ m, QLT x y
def QI (l m : List Qu) : Prop := ∀ x ∈ l, ∀ y ∈ m, x.ix < y.ix
theorem QS_app {l m : List Qu} : QS (l ++ m) ↔ QS l ∧ QS m ∧ QB l m := List.pairwise_append
theorem QB.left {l l' m : List Qu} (h : QB (l ++ l') m) : QB l m ∧ QB l' m := ⟨fun x hx => h x (by simp [hx]), fun x hx => h x (by simp [hx])⟩
theorem QB.perm {l l' m m' : List Qu} (h : QB l m) (p : l'.Perm l) (q : m'.Perm m) : QB l' m' := fun x hx y hy => h x (p.mem_iff.1 hx) y (q.mem_iff.1 hy)
theorem QI.perm {l l' m m' : List Qu} (h : QI l m) (p : l'.Perm l) (q : m'.Perm m) : QI l' m' := fun x hx y hy => h x (p.mem_iff.1 hx) y (q.mem_iff.1 hy)
def SWP (d : List Qu) (i j : Nat) : List Qu := match d[i]?, d[j]? with
  | some x, some y => (d.set i y).set j x
  | _, _ => d
theorem SWP_eq {d : List Qu} {i j : Nat} {x y : Qu} (hi : d[i]? = some x) (hj : d[j]? = some y) : SWP d i j = (d.set i y).set j x := by simp [SWP, hi, hj]
theorem SWP_len (d : List Qu) (i j : Nat) : (SWP d i j).length = d.length := by
  unfold SWP; split <;> simp
theorem at_app (A : List Qu) (x : Qu) (B : List Qu) : (A ++ x :: B)[A.length]? = some x := by simp
theorem set_app (A : List Qu) (x y : Qu) (B : List Qu) : (A ++ x :: B).set A.length y = A ++ y :: B := by simp
theorem at_app' {A : List Qu} {x : Qu} {B : List Qu} {i : Nat} (h : i = A.length) : (A ++ x :: B)[i]? = some x := by subst h; simp
theorem set_app' {A : List Qu} {x y : Qu} {B : List Qu} {i : Nat} (h : i = A.length) : (A ++ x :: B).set i y = A ++ y :: B := by subst h; simp
theorem SWP_at (A M B : List Qu) (x y : Qu) {i j : Nat} (hi : i = A.length) (hj : j = A.length + 1 + M.length) : SWP (A ++ x :: (M ++ y :: B)) i j = A ++ y :: (M ++ x :: B) := by
  have e : ∀ x, A ++ x :: (M ++ y :: B) = (A ++ x :: M) ++ y :: B := fun x => by simp
  have h2 : (A ++ x :: (M ++ y :: B))[j]? = some y := by rw [e]; exact at_app' (by simp; omega)
  rw [SWP_eq (at_app' hi) h2, set_app' hi, e, set_app' (by simp; omega)]
  simp
theorem SWP_at' (A M B : List Qu) (x y : Qu) {i j : Nat} (hi : i = A.length) (hj : j = A.length + 1 + M.length) : SWP (A ++ x :: (M ++ y :: B)) j i = A ++ y :: (M ++ x :: B) := by
  have e : A ++ x :: (M ++ y :: B) = (A ++ x :: M) ++ y :: B := by simp
  have h2 : (A ++ x :: (M ++ y :: B))[j]? = some y := by rw [e]; exact at_app' (by simp; omega)
  rw [SWP_eq h2 (at_app' hi), e, set_app' (by simp; omega), List.append_assoc, List.cons_append, set_app' hi]
/-- Two stretches changed for each other. -/
def SRF (d : List Qu) (a b : Nat) : Nat → List Qu
  | 0 => d
  | n + 1 => SRF (SWP d a b) (a + 1) (b + 1) n
theorem SRF_at : ∀ (U V A C B : List Qu) (a b : Nat), a = A.length → b = A.length + U.length + C.length → V.length = U.length → SRF (A ++ (U ++ (C ++ (V ++ B)))) a b U.length = A ++ (V ++ (C ++ (U ++ B)))
  | [], V, A, C, B, a, b, _, _, h => by
    have : V = [] := by cases V <;> simp_all
    subst this; simp [SRF]
  | x :: U, [], A, C, B, a, b, _, _, h => by simp at h
  | x :: U, y :: V, A, C, B, a, b, ha, hb, h => by
    have e : A ++ (x :: U ++ (C ++ (y :: V ++ B))) = A ++ x :: ((U ++ C) ++ y :: (V ++ B)) := by simp
    rw [e, List.length_cons]
    show SRF (SWP _ a b) (a + 1) (b + 1) U.length = _
    rw [SWP_at A (U ++ C) (V ++ B) x y ha (by simp only [List.length_append, List.length_cons] at *; omega)]
    have e2 : A ++ y :: ((U ++ C) ++ x :: (V ++ B)) = (A ++ [y]) ++ (U ++ ((C ++ [x]) ++ (V ++ B))) := by simp
    rw [e2, SRF_at U V (A ++ [y]) (C ++ [x]) B (a + 1) (b + 1) (by simp [ha]) (by simp only [List.length_append, List.length_cons, List.length_nil] at *; omega) (by simpa using h)]
    simp
theorem SRF_len : ∀ (n : Nat) (d : List Qu) (a b : Nat), (SRF d a b n).length = d.length
  | 0, _, _, _ => rfl
  | n + 1, d, a, b => by rw [SRF, SRF_len n, SWP_len]
/-- A list parted at a place. -/
theorem part_at {α : Type} (l : List α) (k : Nat) (h : k ≤ l.length) : ∃ a b, l = a ++ b ∧ a.length = k := ⟨l.take k, l.drop k, (List.take_append_drop k l).symm, by simp [h]⟩
/-- One member is put in its place among others, which come after it by their places. -/
theorem QB_last {l m : List Qu} (hl : QS l) (hm : QS m) (h : ∀ x y, l.getLast? = some x → m.head? = some y → QLT x y) : QB l m := by
  intro x hx y hy
  rcases List.eq_nil_or_concat l with rfl | ⟨l', z, rfl⟩
  · simp at hx
  cases m with
  | nil => simp at hy
  | cons w m' =>
    have h0 := h z w (by simp) rfl
    have h1 : x = z ∨ QLT x z := by
      rw [List.concat_eq_append] at hx hl
      rcases List.mem_append.1 hx with hx | hx
      · exact .inr ((QS_app.1 hl).2.2 x hx z (by simp))
      · exact .inl (by simpa using hx)
    have h2 : y = w ∨ QLT w y := by
      rcases List.mem_cons.1 hy with rfl | hy
      · exact .inl rfl
      · exact .inr ((List.pairwise_cons.1 hm).1 y hy)
    rcases h1 with rfl | h1 <;> rcases h2 with rfl | h2
    · exact h0
    · exact h0.trans h2
    · exact h1.trans h0
    · exact (h1.trans h0).trans h2
theorem getLast_at {α : Type} {l : List α} {x : α} (h : l.getLast? = some x) : 0 < l.length ∧ l[l.length - 1]? = some x := by
  rw [List.getLast?_eq_getElem?] at h
  refine ⟨?_, h⟩
  cases l with
  | nil => simp at h
  | cons _ _ => simp
theorem head_at {α : Type} {l : List α} {x : α} (h : l.head? = some x) : 0 < l.length ∧ l[0]? = some x := by
  cases l with
  | nil => simp at h
  | cons _ _ => simpa using h
/-- Where the search of a merge ends: both lists part so that the first parts come before the last. -/
theorem sym_parts {A L R B : List Qu} {a m b mid start st0 r0 e : Nat} (ha : a = A.length) (hm : m = a + L.length) (hb : b = m + R.length) (hmid : mid = (a + b) / 2)
    (sL : QS L) (sR : QS R) (hI : QI L R) (hs : (m > mid ∧ st0 = mid + m - b ∧ r0 = mid) ∨ (m ≤ mid ∧ st0 = a ∧ r0 = m)) (h1 : st0 ≤ start) (h2 : start ≤ r0) (he : e = mid + m - start)
    (k1 : st0 < start → ∀ x y, (A ++ (L ++ (R ++ B)))[start - 1]? = some x → (A ++ (L ++ (R ++ B)))[mid + m - start]? = some y → ¬ QLT y x)
    (k2 : start < r0 → ∀ x y, (A ++ (L ++ (R ++ B)))[start]? = some x → (A ++ (L ++ (R ++ B)))[mid + m - 1 - start]? = some y → QLT y x) :
    ∃ L1 L2 R1 R2, L = L1 ++ L2 ∧ R = R1 ++ R2 ∧ start = a + L1.length ∧ e = m + R1.length ∧ mid = a + L1.length + R1.length ∧ QB (L1 ++ R1) (L2 ++ R2) := by
  obtain ⟨L1, L2, rfl, l1⟩ := part_at L (start - a) (by omega)
  obtain ⟨R1, R2, rfl, l2⟩ := part_at R (e - m) (by omega)
  simp only [List.length_append] at *
  refine ⟨L1, L2, R1, R2, rfl, rfl, by omega, by omega, by omega, ?_⟩
  obtain ⟨sL1, sL2, bL⟩ := QS_app.1 sL
  obtain ⟨sR1, sR2, bR⟩ := QS_app.1 sR
  have x1 : QB L1 R2 := by
    refine QB_last sL1 sR2 fun x y hx hy => ?_
    have hx' := List.mem_of_getElem? (getLast_at hx).2
    have hy' := List.mem_of_getElem? (head_at hy).2
    obtain ⟨p1, q1⟩ := getLast_at hx
    obtain ⟨p2, q2⟩ := head_at hy
    refine QLT.of_not (k1 (by omega) x y ?_ ?_) (hI x (by simp [hx']) y (by simp [hy']))
    · rw [List.getElem?_append_right (by omega), List.append_assoc, List.getElem?_append_left (by omega), ← q1]
      congr 1; omega
    · rw [List.getElem?_append_right (by omega), List.getElem?_append_right (by simp; omega), List.append_assoc, List.getElem?_append_right (by simp; omega), List.getElem?_append_left (by simp; omega), ← q2]
      congr 1; simp; omega
  have x2 : QB R1 L2 := by
    refine QB_last sR1 sL2 fun x y hx hy => ?_
    obtain ⟨p1, q1⟩ := getLast_at hx
    obtain ⟨p2, q2⟩ := head_at hy
    refine k2 (by omega) y x ?_ ?_
    · rw [List.getElem?_append_right (by omega), List.append_assoc, List.getElem?_append_right (by omega), List.getElem?_append_left (by omega), ← q2]
      congr 1; omega
    · rw [List.getElem?_append_right (by omega), List.getElem?_append_right (by simp; omega), List.append_assoc, List.getElem?_append_left (by simp; omega), ← q1]
      congr 1; simp; omega
  intro x hx y hy
  rcases List.mem_append.1 hx with hx | hx <;> rcases List.mem_append.1 hy with hy | hy
  · exact bL x hx y hy
  · exact x1 x hx y hy
  · exact x2 x hx y hy
  · exact bR x hx y hy
end S
end Go.Proofs.Ytbmmbefgmhhciaa

/-
  What is compared and moved when quotas are put in order.
-/
namespace Go.Proofs.Ytbmmbefgmhhciaa
namespace S
open Go GoV
set_option maxRecDepth 100000

abbrev qu (x : Qu) : PV := .agg [I x.ix, U x.r]
theorem SQU : (∀ l : List Qu, strip0L (l.map qu) = l.map qu) ∧ (∀ l : List Qu, (l.map qu).map strip0 = l.map qu) ∧ (∀ H (l : List Qu), (l.map qu).map (strip1 H) = l.map qu) ∧ (∀ H (l : List Qu), (l.map qu).map (strip2 H) = l.map qu) ∧ (∀ H (l : List Qu), strip1L H (l.map qu) = l.map qu) ∧ (∀ H (l : List Qu), strip2L H (l.map qu) = l.map qu) := STR qu (fun _ => rfl) (fun _ _ => rfl) (fun _ _ => rfl)
def CMP (a b : Qu) : Int := if b.r < a.r then -1 else if a.r < b.r then 1 else 0
theorem CMP_lt {a b : Qu} : CMP a b < 0 ↔ b.r < a.r := by unfold CMP; split <;> (try split) <;> omega
theorem c_isnan (a : Int) : ap Try.prog pol 54 [U a] = some (.ret (.bool false)) := by
  rw [ap_eq _ Try.func54 rfl Try.ntmps54 Try.results54 (by kernel_rfl) rfl (by exact Nat.le_of_ble_eq_true rfl)]
  simp (maxSteps := 999999) only [E0, seval, -Int.reduceNatCast']
theorem c_compare (a b : Int) : ap Try.prog pol 37 [U a, U b] = some (.ret (I (if a < b then -1 else if b < a then 1 else 0))) := by
  rw [ap_eq _ Try.func37 rfl Try.ntmps37 Try.results37 (by kernel_rfl) rfl (by exact Nat.le_of_ble_eq_true rfl)]
  by_cases h1 : a < b
  · simp (maxSteps := 999999) only [E0, seval, -Int.reduceNatCast', c_isnan, h1]
  by_cases h2 : b < a
  · simp (maxSteps := 999999) only [E0, seval, -Int.reduceNatCast', c_isnan, h1, h2]
  · simp (maxSteps := 999999) only [E0, seval, -Int.reduceNatCast', c_isnan, h1, h2]
theorem c_cmp (a b : Qu) : ap Try.prog pol 36 [qu a, qu b] = some (.ret (I (CMP a b))) := by
  rw [ap_eq _ Try.func36 rfl Try.ntmps36 Try.results36 (by kernel_rfl) rfl (by exact Nat.le_of_ble_eq_true rfl)]
  simp (maxSteps := 999999) only [E0, seval, -Int.reduceNatCast', c_compare]
  rfl
theorem upd_upd {α : Type} (f : Nat → α) (t : Nat) (v w : α) : upd (upd f t v) t w = upd f t w := by
  funext i; simp only [upd]; split <;> rfl
/-- The order's row. -/
abbrev RW (d : List Qu) : Row := .gro 2 (d.map qu) 0
abbrev QG (n : Nat) : PV := .gsl 2 2 n 0 n
abbrev CF : PV := .fn 36 []
theorem mget {d : List Qu} {i : Nat} {x : Qu} (h : d[i]? = some x) : (d.map qu)[i]? = some (qu x) := by simp [h]
theorem mset {d : List Qu} {i j : Nat} {x y : Qu} (hi : d[i]? = some x) (hj : d[j]? = some y) : ((d.map qu).set i (qu y)).set j (qu x) = (SWP d i j).map qu := by
  rw [SWP_eq hi hj, List.map_set, List.map_set]
theorem mget2 {d : List Qu} {i j : Nat} {x y : Qu} (hi : d[i]? = some x) (hj : d[j]? = some y) : ∃ z, ((d.map qu).set i (qu y))[j]? = some (qu z) := by
  rw [List.getElem?_set]
  split
  · rw [if_pos]; exact ⟨_, rfl⟩
    rename_i h; subst h
    have := List.getElem?_eq_some_iff.1 hi
    simpa using this.1
  · exact ⟨y, by simp [hj]⟩
theorem c_swapRange (d : List Qu) (a b k : Nat) (ha : a + k ≤ d.length) (hb : b + k ≤ d.length) (hl : d.length ≤ 1000000) (H : Heap) (hr : H.rows 2 = some (RW d)) :
    ∃ n, callF G Try.prog pol 86 [QG d.length, I a, I b, I k, CF] H = some (.ret (.tup []), ⟨upd H.rows 2 (some (RW (SRF d a b k))), n⟩) ∧ H.next ≤ n := by
  rw [callF_eq _ _ Try.func86 rfl Try.ntmps86 Try.results86 (by kernel_rfl) rfl (by exact Nat.le_of_ble_eq_true rfl)]
  simp (maxSteps := 999999) only [E0, seval, -Int.reduceNatCast']
  generalize hL : W _ (.loop _) _ = L
  obtain ⟨ex, s, rfl, rfl, hrow, hd, hn⟩ := loop_at hL (α := Nat × List Qu) (fun p => k - p.1)
    (fun s0 p s => p.1 ≤ k ∧ p.2.length = d.length ∧ SRF p.2 (a + p.1) (b + p.1) (k - p.1) = SRF d a b k ∧ s.H.rows = upd H.rows 2 (some (RW p.2)) ∧ s.tmps 10 = I p.1 ∧ s.tmps 0 = QG d.length ∧ s.tmps 1 = I a ∧ s.tmps 2 = I b ∧ s.tmps 3 = I k ∧ s.defers = [] ∧ s.fid = H.next ∧ H.next ≤ s.H.next)
    (fun s0 ex s => ex = .exit 0 ∧ s.H.rows = upd H.rows 2 (some (RW (SRF d a b k))) ∧ s.defers = [] ∧ H.next ≤ s.H.next) (0, d)
    (by simp (maxSteps := 999999) only [E0, seval, -Int.reduceNatCast']; exact ⟨by omega, by simp, by rw [← hr, upd_same], by simp, by omega⟩) (by
      rintro ⟨j, e⟩ s r hW ⟨hj, hle, hs, hrow, h10, h0, h1, h2, h3, hd, hf, hn⟩
      dsimp only at hj hle hs hrow h10
      by_cases hp : j < k
      · have ei : e[a + j]? = some e[a + j] := List.getElem?_eq_getElem (by omega)
        have ej : e[b + j]? = some e[b + j] := List.getElem?_eq_getElem (by omega)
        have em := mset ei ej
        obtain ⟨z, ez⟩ := mget2 ei ej
        have i1 := mget ei
        have j1 := mget ej
        generalize e[a + j] = x at *
        generalize e[b + j] = y at *
        have r2 : s.H.rows 2 = some (RW e) := by rw [hrow]; simp
        have n1 : ((a : Int) + j).toNat = a + j := by omega
        have n2 : ((b : Int) + j).toNat = b + j := by omega
        simp (maxSteps := 999999) only [E0, seval, -Int.reduceNatCast', NUM, SQU, hle, h10, h0, h1, h2, h3, hd, hf, r2, i1, j1, ez, n1, n2, Nat.zero_add, List.length_map, List.length_set, (show (j : Int) < k by omega), (show (0 : Int) ≤ (a : Int) + j by omega), (show (0 : Int) ≤ (b : Int) + j by omega), (show (a : Int) + j < d.length by omega), (show (b : Int) + j < d.length by omega), (i64_in (x := (a : Int) + j) (by unfold I64; omega)), (i64_in (x := (b : Int) + j) (by unfold I64; omega)), (i64_in (x := (j : Int) + 1) (by unfold I64; omega)), Nat.zero_le] at hW
        subst hW
        rw [if_pos (by kernel_rfl)]
        refine rd_next (j + 1, SWP e (a + j) (b + j)) ?_ (show k - (j + 1) < k - j by omega)
        simp (maxSteps := 999999) only [E0, seval, -Int.reduceNatCast', h0, h1, h2, h3, SWP_len, em, hrow]
        refine ⟨by omega, hle, ?_, ?_, by simp, hn⟩
        · rw [← hs, show k - j = (k - (j + 1)) + 1 by omega]; rfl
        · show upd (upd s.H.rows 2 _) 2 _ = _; rw [upd_upd, hrow, upd_upd]
      · simp (maxSteps := 999999) only [E0, seval, -Int.reduceNatCast', h10, h3, hd, hf, (show ¬ (j : Int) < k by omega)] at hW
        subst hW
        have : j = k := by omega
        subst this
        rw [Nat.sub_self] at hs
        simp only [SRF] at hs
        subst hs
        exact rd_exit ⟨rfl, by simp (maxSteps := 999999) only [E0, seval, -Int.reduceNatCast', hrow], by simp (maxSteps := 999999) only [E0, seval, -Int.reduceNatCast', hd], hn⟩)
  simp (maxSteps := 999999) only [E0, seval, -Int.reduceNatCast', hd]
  refine ⟨s.H.next, ?_, hn⟩
  rw [← hrow]
theorem c_swapAt (X U C V Y d : List Qu) (a b k n : Nat) (hd : d = X ++ (U ++ (C ++ (V ++ Y)))) (ha : a = X.length) (hb : b = X.length + U.length + C.length) (hk : k = U.length) (hv : V.length = U.length) (hn : n = d.length) (hl : n ≤ 1000000) (H : Heap) (hr : H.rows 2 = some (RW d)) :
    ∃ j, callF G Try.prog pol 86 [QG n, I a, I b, I k, CF] H = some (.ret (.tup []), ⟨upd H.rows 2 (some (RW (X ++ (V ++ (C ++ (U ++ Y)))))), j⟩) ∧ H.next ≤ j := by
  subst hn hk
  have hd' := congrArg List.length hd
  simp only [List.length_append] at hd'
  obtain ⟨j, cs, hj⟩ := c_swapRange d a b U.length (by omega) (by omega) hl H hr
  have sr := SRF_at U V X C Y a b ha hb hv
  rw [← hd] at sr
  rw [sr] at cs
  exact ⟨j, cs, hj⟩
theorem c_rotate (A U V B : List Qu) (a m b n : Nat) (ha : a = A.length) (hm : m = a + U.length) (hb : b = m + V.length) (hn : n = (A ++ (U ++ (V ++ B))).length) (hu : 0 < U.length) (hv : 0 < V.length) (hl : n ≤ 1000000) (H : Heap)
    (hr : H.rows 2 = some (RW (A ++ (U ++ (V ++ B))))) :
    ∃ k, callF G Try.prog pol 76 [QG n, I a, I m, I b, CF] H = some (.ret (.tup []), ⟨upd H.rows 2 (some (RW (A ++ (V ++ (U ++ B))))), k⟩) ∧ H.next ≤ k := by
  simp only [List.length_append] at hn
  rw [callF_eq _ _ Try.func76 rfl Try.ntmps76 Try.results76 (by kernel_rfl) rfl (by exact Nat.le_of_ble_eq_true rfl)]
  simp (maxSteps := 999999) only [E0, seval, -Int.reduceNatCast', i64_in (x := (U.length : Int)) (by unfold I64; omega), i64_in (x := (V.length : Int)) (by unfold I64; omega), (show (m : Int) - a = U.length by omega), (show (b : Int) - m = V.length by omega)]
  generalize hL : W _ (.loop _) _ = L
  obtain ⟨ex, s, rfl, rfl, X, U', V', Y, hc, hnn, hum, hup, hvp, he, hrow, h10, h11, h0, h2, h4, hd, hf, hnx⟩ := loop_at hL (α := List Qu × List Qu × List Qu × List Qu) (fun p => p.2.1.length + p.2.2.1.length)
    (fun s0 p s => n = p.1.length + (p.2.1.length + (p.2.2.1.length + p.2.2.2.length)) ∧ p.1.length + p.2.1.length = m ∧ 0 < p.2.1.length ∧ 0 < p.2.2.1.length ∧ p.1 ++ (p.2.2.1 ++ (p.2.1 ++ p.2.2.2)) = A ++ (V ++ (U ++ B)) ∧
      s.H.rows = upd H.rows 2 (some (RW (p.1 ++ (p.2.1 ++ (p.2.2.1 ++ p.2.2.2))))) ∧ s.tmps 10 = I p.2.1.length ∧ s.tmps 11 = I p.2.2.1.length ∧ s.tmps 0 = QG n ∧ s.tmps 2 = I m ∧ s.tmps 4 = CF ∧ s.defers = [] ∧ s.fid = H.next ∧ H.next ≤ s.H.next)
    (fun s0 ex s => ex = .exit 0 ∧ ∃ X U' V' Y : List Qu, U'.length = V'.length ∧ n = X.length + (U'.length + (V'.length + Y.length)) ∧ X.length + U'.length = m ∧ 0 < U'.length ∧ 0 < V'.length ∧ X ++ (V' ++ (U' ++ Y)) = A ++ (V ++ (U ++ B)) ∧
      s.H.rows = upd H.rows 2 (some (RW (X ++ (U' ++ (V' ++ Y))))) ∧ s.tmps 10 = I U'.length ∧ s.tmps 11 = I V'.length ∧ s.tmps 0 = QG n ∧ s.tmps 2 = I m ∧ s.tmps 4 = CF ∧ s.defers = [] ∧ s.fid = H.next ∧ H.next ≤ s.H.next) (A, U, V, B)
    (by simp (maxSteps := 999999) only [E0, seval, -Int.reduceNatCast']; exact ⟨by omega, by omega, hu, hv, by rw [← hr, upd_same], by omega⟩) (by
      rintro ⟨X, U', V', Y⟩ s r hW ⟨hnn, hum, hup, hvp, he, hrow, h10, h11, h0, h2, h4, hd, hf, hnx⟩
      dsimp only at hnn hum hup hvp he hrow h10 h11
      have r2 : s.H.rows 2 = some (RW (X ++ (U' ++ (V' ++ Y)))) := by rw [hrow]; simp
      by_cases hij : U'.length = V'.length
      · simp (maxSteps := 999999) only [E0, seval, -Int.reduceNatCast', h10, h11, hd, hf, hij] at hW
        subst hW
        refine rd_exit ⟨rfl, X, U', V', Y, hij, hnn, hum, hup, hvp, he, ?_⟩
        simp (maxSteps := 999999) only [E0, seval, -Int.reduceNatCast', hrow, h10, h11, h0, h2, h4, hij]
        exact hnx
      by_cases hgt : V'.length < U'.length
      · obtain ⟨U1, U2, rfl, l1⟩ := part_at U' V'.length (by omega)
        rw [List.length_append] at hum hnn hgt hij
        obtain ⟨k, cs, hk⟩ := c_swapAt X U1 U2 V' Y _ (m - (U1.length + U2.length)) m V'.length n rfl (by omega) (by omega) (by omega) (by omega) (by simp only [List.length_append]; omega) hl s.H (by rw [r2]; simp)
        simp (maxSteps := 999999) only [E0, seval, -Int.reduceNatCast', NUM, h10, h11, h0, h2, h4, hd, hf, List.length_append, Int.natCast_add, (show ¬ (U1.length : Int) + U2.length = V'.length by omega), (show (V'.length : Int) < (U1.length : Int) + U2.length by omega), (i64_in (x := ((m - (U1.length + U2.length) : Nat) : Int)) (by unfold I64; omega)), (i64_in (x := (U1.length : Int) + U2.length - V'.length) (by unfold I64; omega)), (show (m : Int) - ((U1.length : Int) + U2.length) = ((m - (U1.length + U2.length) : Nat) : Int) by omega), cs] at hW
        subst hW
        refine rd_next (X ++ V', U2, U1, Y) ?_ ?_
        rotate_left
        · simp only [List.length_append]; omega
        simp (maxSteps := 999999) only [E0, seval, -Int.reduceNatCast', h11, h0, h2, h4, hrow, List.length_append]
        rw [upd_upd]
        refine ⟨by omega, by omega, by omega, by omega, ?_, by simp, ?_, by rw [l1], by omega⟩
        · rw [← he]; simp
        · rw [show (U1.length : Int) + U2.length - V'.length = U2.length by omega]
      · obtain ⟨V1, V2, rfl, l1⟩ := part_at V' (V'.length - U'.length) (by omega)
        rw [List.length_append] at hnn hgt hij l1 hvp
        obtain ⟨q, hq⟩ : ∃ q, q = m + V1.length := ⟨_, rfl⟩
        obtain ⟨k, cs, hk⟩ := c_swapAt X U' V1 V2 Y _ (m - U'.length) q U'.length n rfl (by omega) (by omega) rfl (by omega) (by simp only [List.length_append]; omega) hl s.H (by rw [r2]; simp)
        simp (maxSteps := 999999) only [E0, seval, -Int.reduceNatCast', NUM, h10, h11, h0, h2, h4, hd, hf, List.length_append, Int.natCast_add, (show ¬ (U'.length : Int) = (V1.length : Int) + V2.length by omega), (show ¬ (V1.length : Int) + V2.length < U'.length by omega), (i64_in (x := ((m - U'.length : Nat) : Int)) (by unfold I64; omega)), (show (m : Int) - (U'.length : Int) = ((m - U'.length : Nat) : Int) by omega), (i64_in (x := (m : Int) + (V1.length + V2.length)) (by unfold I64; omega)),
          (show (m : Int) + (V1.length + V2.length) - U'.length = (q : Int) by omega), (i64_in (x := (q : Int)) (by unfold I64; omega)), (show (V1.length : Int) + V2.length - U'.length = (V1.length : Int) by omega), (i64_in (x := (V1.length : Int)) (by unfold I64; omega)), cs] at hW
        subst hW
        refine rd_next (X, V2, V1, U' ++ Y) ?_ ?_
        rotate_left
        · simp only [List.length_append]; omega
        simp (maxSteps := 999999) only [E0, seval, -Int.reduceNatCast', h10, h0, h2, h4, hrow, List.length_append]
        rw [upd_upd]
        refine ⟨by omega, by omega, by omega, by omega, ?_, by simp, by rw [show U'.length = V2.length by omega], by omega⟩
        rw [← he]; simp)
  obtain ⟨k, cs, hk⟩ := c_swapAt X U' [] V' Y _ (m - U'.length) m U'.length n rfl (by omega) (by simp; omega) rfl (by omega) (by simp only [List.length_append, List.length_nil]; omega) hl s.H (by rw [hrow]; simp)
  simp (maxSteps := 999999) only [E0, seval, -Int.reduceNatCast', h10, h11, h0, h2, h4, hd, hf, (i64_in (x := ((m - U'.length : Nat) : Int)) (by unfold I64; omega)), (show (m : Int) - (U'.length : Int) = ((m - U'.length : Nat) : Int) by omega), cs]
  refine ⟨k, ?_, by omega⟩
  rw [hrow, upd_upd]
  simp only [List.nil_append] at *
  rw [he]
end S
end Go.Proofs.Ytbmmbefgmhhciaa

/-
  Insertion: a stretch of quotas is put in order.
-/
namespace Go.Proofs.Ytbmmbefgmhhciaa
namespace S
open Go GoV
set_option maxRecDepth 100000

theorem take_more {α : Type} {l : List α} {j : Nat} (h : j < l.length) : l.take (j + 1) = l.take j ++ [l[j]] := by simp
theorem drop_more {α : Type} {l : List α} {j : Nat} (h : j < l.length) : l.drop j = l[j] :: l.drop (j + 1) := by simp
theorem QS_ins {P Q : List Qu} {x : Qu} (h : QS (P ++ Q)) (hq : QB [x] Q) (hp : QB P [x]) : QS (P ++ x :: Q) := by
  obtain ⟨h1, h2, h3⟩ := QS_app.1 h
  refine QS_app.2 ⟨h1, List.pairwise_cons.2 ⟨fun y hy => hq x (by simp) y hy, h2⟩, ?_⟩
  intro u hu v hv
  rcases List.mem_cons.1 hv with rfl | hv
  · exact hp u hu v (by simp)
  · exact h3 u hu v hv
/-- The places of a stretch rise. -/
abbrev QX (l : List Qu) : Prop := l.Pairwise fun a b => a.ix < b.ix
theorem c_insertion (A S B : List Qu) (a b n : Nat) (ha : a = A.length) (hb : b = a + S.length) (hx : QX S) (hn : n = (A ++ (S ++ B)).length) (hl : n ≤ 1000000) (H : Heap) (hr : H.rows 2 = some (RW (A ++ (S ++ B)))) :
    ∃ S', S'.Perm S ∧ QS S' ∧ ∃ k, callF G Try.prog pol 65 [QG n, I a, I b, CF] H = some (.ret (.tup []), ⟨upd H.rows 2 (some (RW (A ++ (S' ++ B)))), k⟩) ∧ H.next ≤ k := by
  simp only [List.length_append] at hn
  rw [callF_eq _ _ Try.func65 rfl Try.ntmps65 Try.results65 (by kernel_rfl) rfl (by exact Nat.le_of_ble_eq_true rfl)]
  simp (maxSteps := 999999) only [E0, seval, -Int.reduceNatCast', i64_in (x := (a : Int) + 1) (by unfold I64; omega)]
  generalize hL : W _ (.loop _) _ = L
  obtain ⟨ex, s, rfl, rfl, S', hp, hs, hrow, hd, hnx⟩ := loop_at hL (α := Nat × List Qu) (fun p => S.length - p.1)
    (fun s0 p s => p.1 ≤ S.length ∧ p.2.Perm (S.take (p.1 + 1)) ∧ QS p.2 ∧ s.H.rows = upd H.rows 2 (some (RW (A ++ (p.2 ++ (S.drop (p.1 + 1) ++ B))))) ∧ s.tmps 8 = I (a + 1 + p.1) ∧ s.tmps 0 = QG n ∧ s.tmps 1 = I a ∧ s.tmps 2 = I b ∧ s.tmps 3 = CF ∧ s.defers = [] ∧ s.fid = H.next ∧ H.next ≤ s.H.next)
    (fun s0 ex s => ex = .exit 0 ∧ ∃ S', S'.Perm S ∧ QS S' ∧ s.H.rows = upd H.rows 2 (some (RW (A ++ (S' ++ B)))) ∧ s.defers = [] ∧ H.next ≤ s.H.next) (0, S.take 1)
    (by simp (maxSteps := 999999) only [E0, seval, -Int.reduceNatCast']
        refine ⟨Nat.zero_le _, .refl _, ?_, ?_, by simp, by omega⟩
        · cases S with
          | nil => simp
          | cons x S => simp
        · rw [← List.append_assoc (S.take (0 + 1)), List.take_append_drop, ← hr, upd_same]) (by
      rintro ⟨j, S1⟩ s r hW ⟨hj, hp, hs, hrow, h8, h0, h1, h2, h3, hd, hf, hnx⟩
      dsimp only at hj hp hs hrow h8
      by_cases hlt : j + 1 < S.length
      rotate_left
      · simp (maxSteps := 999999) only [E0, seval, -Int.reduceNatCast', h8, h2, hd, hf, (show ¬ (a : Int) + 1 + j < b by omega)] at hW
        subst hW
        rw [List.drop_eq_nil_of_le (by omega), List.nil_append] at hrow
        rw [List.take_of_length_le (by omega)] at hp
        refine rd_exit ⟨rfl, S1, hp, hs, ?_⟩
        simp (maxSteps := 999999) only [E0, seval, -Int.reduceNatCast', hrow, hd]
        exact hnx
      have e0 : S[j + 1]? = some S[j + 1] := List.getElem?_eq_getElem hlt
      have e1 := drop_more hlt
      have e2 := take_more hlt
      have hxx : ∀ y ∈ S1, y.ix < S[j + 1].ix := by
        intro y hy
        have hy' := hp.mem_iff.1 hy
        have hx' : QX (S.take (j + 1) ++ S.drop (j + 1)) := by rw [List.take_append_drop]; exact hx
        exact (List.pairwise_append.1 hx').2.2 y hy' _ (by rw [e1]; exact List.mem_cons_self)
      generalize S[j + 1] = x at *
      have hll : S1.length = j + 1 := by rw [hp.length_eq, List.length_take]; omega
      generalize hT : S.drop (j + 1 + 1) = T at *
      have hTl : T.length = S.length - (j + 1 + 1) := by rw [← hT]; simp
      rw [e1] at hrow
      simp (maxSteps := 999999) only [E0, seval, -Int.reduceNatCast', h8, h2, hd, hf, (show (a : Int) + 1 + j < b by omega)] at hW
      generalize hL2 : W _ (.loop _) _ = L2 at hW
      obtain ⟨ex, s2, rfl, rfl, P, Q, hPQ, hQ, hP, hrow2, z8, z0, z1, z2, z3, zd, zf, znx⟩ := loop_at hL2 (α := List Qu × List Qu) (fun p => p.1.length)
        (fun s0 p s => p.1 ++ p.2 = S1 ∧ QB [x] p.2 ∧ s.H.rows = upd H.rows 2 (some (RW (A ++ (p.1 ++ x :: (p.2 ++ (T ++ B)))))) ∧ s.tmps 9 = I (a + p.1.length) ∧ s.tmps 8 = I (a + 1 + j) ∧ s.tmps 0 = QG n ∧ s.tmps 1 = I a ∧ s.tmps 2 = I b ∧ s.tmps 3 = CF ∧ s.defers = [] ∧ s.fid = H.next ∧ H.next ≤ s.H.next)
        (fun s0 ex s => ex = .exit 2 ∧ ∃ P Q, P ++ Q = S1 ∧ QB [x] Q ∧ QB P [x] ∧ s.H.rows = upd H.rows 2 (some (RW (A ++ (P ++ x :: (Q ++ (T ++ B)))))) ∧ s.tmps 8 = I (a + 1 + j) ∧ s.tmps 0 = QG n ∧ s.tmps 1 = I a ∧ s.tmps 2 = I b ∧ s.tmps 3 = CF ∧ s.defers = [] ∧ s.fid = H.next ∧ H.next ≤ s.H.next) (S1, [])
        (by simp (maxSteps := 999999) only [E0, seval, -Int.reduceNatCast', h8, h0, h1, h2, h3]
            refine ⟨fun u hu v hv => by simp at hv, by rw [hrow]; simp, ?_, hnx⟩
            rw [hll]; simp; omega) (by
          rintro ⟨P, Q⟩ s r hW ⟨hPQ, hQ, hrow, h9, h8, h0, h1, h2, h3, hd, hf, hnx⟩
          dsimp only at hPQ hQ hrow h9
          have hlen : P.length + Q.length = S1.length := by rw [← hPQ]; simp
          have r2 : s.H.rows 2 = some (RW (A ++ (P ++ x :: (Q ++ (T ++ B))))) := by rw [hrow]; simp
          rcases List.eq_nil_or_concat P with rfl | ⟨P', z, rfl⟩
          · simp (maxSteps := 999999) only [E0, seval, -Int.reduceNatCast', h9, h8, h0, h1, h2, h3, hd, hf, r2, List.length_nil, Int.add_zero, Int.natCast_zero, (show ¬ (a : Int) < a by omega)] at hW
            subst hW
            refine rd_exit ⟨rfl, [], Q, hPQ, hQ, fun u hu => by simp at hu, ?_⟩
            simp (maxSteps := 999999) only [E0, seval, -Int.reduceNatCast', h8, h0, h1, h2, h3, hrow]
            exact hnx
          · rw [List.concat_eq_append] at *
            simp only [List.length_append, List.length_cons, List.length_nil, List.append_assoc, List.cons_append, List.nil_append] at *
            obtain ⟨q, hq⟩ : ∃ q, q = a + P'.length := ⟨_, rfl⟩
            have iz : (A ++ (P' ++ z :: x :: (Q ++ (T ++ B))))[q]? = some z := by
              rw [← List.append_assoc]; exact at_app' (by simp; omega)
            have ix : (A ++ (P' ++ z :: x :: (Q ++ (T ++ B))))[q + 1]? = some x := by
              have : A ++ (P' ++ z :: x :: (Q ++ (T ++ B))) = (A ++ P' ++ [z]) ++ x :: (Q ++ (T ++ B)) := by simp
              rw [this]; exact at_app' (by simp; omega)
            have sw : SWP (A ++ (P' ++ z :: x :: (Q ++ (T ++ B)))) (q + 1) q = A ++ (P' ++ x :: z :: (Q ++ (T ++ B))) := by
              have := SWP_at' (A ++ P') [] (Q ++ (T ++ B)) z x (i := q) (j := q + 1) (by simp; omega) (by simp; omega)
              simpa using this
            have i1 := mget iz
            have i2 := mget ix
            have em := mset ix iz
            obtain ⟨w, ew⟩ := mget2 ix iz
            have hDl : (A ++ (P' ++ z :: x :: (Q ++ (T ++ B)))).length = n := by simp only [List.length_append, List.length_cons]; omega
            have h9' : s.tmps 9 = I ((q : Int) + 1) := by rw [h9]; congr 1; omega
            have hxz := hxx z (by rw [← hPQ]; simp)
            generalize hD : A ++ (P' ++ z :: x :: (Q ++ (T ++ B))) = D at iz ix sw i1 i2 em ew hDl r2 hrow
            by_cases hc : z.r < x.r
            · have hcm : CMP x z < 0 := CMP_lt.2 hc
              simp (maxSteps := 999999) only [E0, seval, -Int.reduceNatCast', NUM, SQU, h9', h8, h0, h1, h2, h3, hd, hf, r2, i1, i2, ew, hDl, c_cmp, hcm, Nat.zero_add, Nat.zero_le, List.length_map, List.length_set, Int.toNat_natCast, Int.add_sub_cancel, (show ((q : Int) + 1).toNat = q + 1 by omega), (show (a : Int) < q + 1 by omega), (show (0 : Int) ≤ q by omega), (show (0 : Int) ≤ (q : Int) + 1 by omega), (show (q : Int) < n by omega), (show (q : Int) + 1 < n by omega), (i64_in (x := (q : Int)) (by unfold I64; omega))] at hW
              subst hW
              rw [if_pos (by kernel_rfl)]
              refine rd_next (P', z :: Q) ?_ (by simp)
              simp (maxSteps := 999999) only [E0, seval, -Int.reduceNatCast', h8, h0, h1, h2, h3, em, sw, hrow]
              refine ⟨hPQ, ?_, ?_, by rw [hq]; simp, hnx⟩
              · intro u hu v hv
                rcases List.mem_cons.1 hv with rfl | hv
                · simp only [List.mem_singleton] at hu; subst hu
                  exact .inl hc
                · exact hQ u hu v hv
              · show upd (upd s.H.rows 2 _) 2 _ = _; rw [upd_upd, hrow, upd_upd]
            · have hcm : ¬ CMP x z < 0 := fun h => hc (CMP_lt.1 h)
              simp (maxSteps := 999999) only [E0, seval, -Int.reduceNatCast', NUM, SQU, h9', h8, h0, h1, h2, h3, hd, hf, r2, i1, i2, ew, hDl, c_cmp, hcm, Nat.zero_add, Nat.zero_le, List.length_map, List.length_set, Int.toNat_natCast, Int.add_sub_cancel, (show ((q : Int) + 1).toNat = q + 1 by omega), (show (a : Int) < q + 1 by omega), (show (0 : Int) ≤ q by omega), (show (0 : Int) ≤ (q : Int) + 1 by omega), (show (q : Int) < n by omega), (show (q : Int) + 1 < n by omega), (i64_in (x := (q : Int)) (by unfold I64; omega))] at hW
              subst hW
              refine rd_exit ⟨rfl, P' ++ [z], Q, by simpa using hPQ, hQ, ?_, ?_⟩
              · have hs' : QS (P' ++ [z]) := by
                  rw [← hPQ] at hs
                  rw [show P' ++ z :: Q = (P' ++ [z]) ++ Q by simp] at hs
                  exact (QS_app.1 hs).1
                refine QB_last hs' (by simp) fun u v hu hv => ?_
                simp at hu hv
                subst hu hv
                exact QLT.of_not (fun h => hc ((QLT_iff hxz).1 h)) hxz
              · simp (maxSteps := 999999) only [E0, seval, -Int.reduceNatCast', h8, h0, h1, h2, h3, hrow, List.append_assoc]
                exact ⟨by rw [hD], hnx⟩)
      simp (maxSteps := 999999) only [E0, seval, -Int.reduceNatCast', z8, i64_in (x := (a : Int) + 1 + j + 1) (by unfold I64; omega)] at hW
      subst hW
      refine rd_next (j + 1, P ++ x :: Q) ?_ (show S.length - (j + 1) < S.length - j by omega)
      simp (maxSteps := 999999) only [E0, seval, -Int.reduceNatCast', z0, z1, z2, z3, zd, hrow2]
      refine ⟨by omega, ?_, QS_ins (by rw [hPQ]; exact hs) hQ hP, ?_, ?_, zf, znx⟩
      · rw [e2]
        rw [← hPQ] at hp
        exact (List.perm_middle.trans (hp.cons x)).trans (List.perm_append_comm (l₁ := [x]))
      · rw [hT]; simp
      · congr 1)
  simp (maxSteps := 999999) only [E0, seval, -Int.reduceNatCast', hd]
  exact ⟨S', hp, hs, s.H.next, by rw [← hrow], hnx⟩
end S
end Go.Proofs.Ytbmmbefgmhhciaa

/-
  A merge where one side is a single quota.
-/
namespace Go.Proofs.Ytbmmbefgmhhciaa
namespace S
open Go GoV
set_option maxRecDepth 100000

theorem mid_u (a z : Nat) (h : a + z ≤ 4000000) : (IntKind.u64.wrap ((a : Int) + z)).fdiv (2 ^ min 1 IntKind.u64.bits) = ((a + z) / 2 : Nat) := by
  rw [u64_in (by unfold U64; omega), show (2 : Int) ^ min 1 IntKind.u64.bits = 2 by decide, Int.fdiv_eq_ediv_of_nonneg _ (by decide)]
  omega
theorem QB_head {l m : List Qu} (hm : QS m) (hl : QS l) (h : ∀ x y, l.getLast? = some x → m.head? = some y → QLT x y) : QB l m := QB_last hl hm h
/-- Where a single member goes. -/
theorem one_parts {R : List Qu} {x : Qu} {i : Nat} (hi : i ≤ R.length) (sR : QS R) (hI : ∀ y ∈ R, x.ix < y.ix) (k1 : 0 < i → ∀ y, R[i - 1]? = some y → QLT y x) (k2 : i < R.length → ∀ y, R[i]? = some y → ¬ QLT y x) :
    ∃ R1 R2, R = R1 ++ R2 ∧ R1.length = i ∧ QB R1 [x] ∧ QB [x] R2 := by
  obtain ⟨R1, R2, rfl, l1⟩ := part_at R i hi
  obtain ⟨s1, s2, _⟩ := QS_app.1 sR
  refine ⟨R1, R2, rfl, l1, QB_last s1 (by simp) fun u v hu hv => ?_, QB_last (by simp) s2 fun u v hu hv => ?_⟩
  · simp at hv; subst hv
    obtain ⟨p, q⟩ := getLast_at hu
    exact k1 (by omega) u (by rw [List.getElem?_append_left (by omega), ← l1]; exact q)
  · simp at hu; subst hu
    obtain ⟨p, q⟩ := head_at hv
    refine QLT.of_not (k2 (by simp; omega) v (by rw [List.getElem?_append_right (by omega), l1, Nat.sub_self]; exact q)) (hI v (by simp [List.mem_of_getElem? q]))
theorem c_sym1 (A R B : List Qu) (x : Qu) (a m b n : Nat) (ha : a = A.length) (hm : m = a + 1) (hb : b = m + R.length) (sR : QS R) (hI : ∀ y ∈ R, x.ix < y.ix) (hn : n = (A ++ (x :: (R ++ B))).length) (hl : n ≤ 1000000) (H : Heap)
    (hr : H.rows 2 = some (RW (A ++ (x :: (R ++ B))))) :
    ∃ M, M.Perm (x :: R) ∧ QS M ∧ ∃ k, callF G Try.prog pol 66 [QG n, I a, I m, I b, CF] H = some (.ret (.tup []), ⟨upd H.rows 2 (some (RW (A ++ (M ++ B)))), k⟩) ∧ H.next ≤ k := by
  simp only [List.length_append, List.length_cons] at hn
  have hDl : (A ++ (x :: (R ++ B))).length = n := by simp only [List.length_append, List.length_cons]; omega
  have ix : (A ++ (x :: (R ++ B)))[a]? = some x := at_app' ha
  have iR : ∀ k, k < R.length → (A ++ (x :: (R ++ B)))[m + k]? = R[k]? := fun k hk => by
    rw [List.getElem?_append_right (by omega), show m + k - A.length = k + 1 by omega, List.getElem?_cons_succ, List.getElem?_append_left hk]
  rw [callF_eq _ _ Try.func66 rfl Try.ntmps66 Try.results66 (by kernel_rfl) rfl (by exact Nat.le_of_ble_eq_true rfl)]
  simp (maxSteps := 999999) only [E0, seval, -Int.reduceNatCast', (show (m : Int) - a = 1 by omega), NUM]
  generalize hL : W _ (.loop _) _ = L
  obtain ⟨ex, s, rfl, rfl, i, hi1, hi2, k1, k2, h10, h0, h1, hd, hf, hrow, hnx⟩ := loop_at hL (α := Nat × Nat) (fun p => p.2 - p.1)
    (fun s0 p s => m ≤ p.1 ∧ p.1 ≤ p.2 ∧ p.2 ≤ b ∧ (m < p.1 → ∀ y, R[p.1 - m - 1]? = some y → QLT y x) ∧ (p.2 < b → ∀ y, R[p.2 - m]? = some y → ¬ QLT y x) ∧ s.tmps 10 = I p.1 ∧ s.tmps 11 = I p.2 ∧ s.tmps 0 = QG n ∧ s.tmps 1 = I a ∧ s.tmps 4 = CF ∧ s.defers = [] ∧ s.fid = H.next ∧ s.H.rows = H.rows ∧ H.next ≤ s.H.next)
    (fun s0 ex s => ex = .exit 0 ∧ ∃ i, m ≤ i ∧ i ≤ b ∧ (m < i → ∀ y, R[i - m - 1]? = some y → QLT y x) ∧ (i < b → ∀ y, R[i - m]? = some y → ¬ QLT y x) ∧ s.tmps 10 = I i ∧ s.tmps 0 = QG n ∧ s.tmps 1 = I a ∧ s.defers = [] ∧ s.fid = H.next ∧ s.H.rows = H.rows ∧ H.next ≤ s.H.next) (m, b)
    (by simp (maxSteps := 999999) only [E0, seval, -Int.reduceNatCast']
        exact ⟨Nat.le_refl _, by omega, Nat.le_refl _, fun h => by omega, fun h => by omega, by omega⟩) (by
      rintro ⟨i, j⟩ s r hW ⟨q1, q2, q3, k1, k2, h10, h11, h0, h1, h4, hd, hf, hrow, hnx⟩
      dsimp only at q1 q2 q3 k1 k2 h10 h11
      by_cases hp : i < j
      rotate_left
      · simp (maxSteps := 999999) only [E0, seval, -Int.reduceNatCast', h10, h11, hd, hf, (show ¬ (i : Int) < j by omega)] at hW
        subst hW
        obtain rfl : i = j := by omega
        refine rd_exit ⟨rfl, i, q1, q3, k1, k2, ?_⟩
        simp (maxSteps := 999999) only [E0, seval, -Int.reduceNatCast', h10, h0, h1, hrow]
        exact hnx
      obtain ⟨h, hh⟩ : ∃ h, h = (i + j) / 2 := ⟨_, rfl⟩
      have mu := mid_u i j (by omega)
      rw [← hh] at mu
      have eR := iR (h - m) (by omega)
      rw [show m + (h - m) = h by omega] at eR
      have ey : R[h - m]? = some (R[h - m]'(by omega)) := List.getElem?_eq_getElem _
      have hyx := hI _ (List.getElem_mem (show h - m < R.length by omega))
      generalize R[h - m]'(by omega) = y at *
      rw [ey] at eR
      have r2 : s.H.rows 2 = some (RW (A ++ (x :: (R ++ B)))) := by rw [hrow]; exact hr
      have i1 := mget ix
      have i2 := mget eR
      generalize A ++ (x :: (R ++ B)) = D at *
      by_cases hc : x.r < y.r
      · have hcm : CMP y x < 0 := CMP_lt.2 hc
        simp (maxSteps := 999999) only [E0, seval, -Int.reduceNatCast', NUM, SQU, h10, h11, h0, h1, h4, hd, hf, r2, i1, i2, hDl, mu, c_cmp, hcm, Nat.zero_add, Nat.zero_le, List.length_map, Int.toNat_natCast, (show (i : Int) < j by omega), i64_in (x := (i : Int) + j) (by unfold I64; omega), i64_in (x := (h : Int)) (by unfold I64; omega), i64_in (x := (h : Int) + 1) (by unfold I64; omega), (show (0 : Int) ≤ h by omega), (show (0 : Int) ≤ a by omega), (show (h : Int) < n by omega), (show (a : Int) < n by omega)] at hW
        subst hW
        refine rd_next (h + 1, j) ?_ (show j - (h + 1) < j - i by omega)
        simp (maxSteps := 999999) only [E0, seval, -Int.reduceNatCast', h11, h0, h1, h4, hrow]
        refine ⟨by omega, by omega, by omega, fun _ z ez => ?_, k2, by simp, hnx⟩
        rw [show h + 1 - m - 1 = h - m by omega, ey] at ez; cases ez; exact .inl hc
      · have hcm : ¬ CMP y x < 0 := fun h => hc (CMP_lt.1 h)
        simp (maxSteps := 999999) only [E0, seval, -Int.reduceNatCast', NUM, SQU, h10, h11, h0, h1, h4, hd, hf, r2, i1, i2, hDl, mu, c_cmp, hcm, Nat.zero_add, Nat.zero_le, List.length_map, Int.toNat_natCast, (show (i : Int) < j by omega), i64_in (x := (i : Int) + j) (by unfold I64; omega), i64_in (x := (h : Int)) (by unfold I64; omega), i64_in (x := (h : Int) + 1) (by unfold I64; omega), (show (0 : Int) ≤ h by omega), (show (0 : Int) ≤ a by omega), (show (h : Int) < n by omega), (show (a : Int) < n by omega)] at hW
        subst hW
        refine rd_next (i, h) ?_ (show h - i < j - i by omega)
        simp (maxSteps := 999999) only [E0, seval, -Int.reduceNatCast', h10, h0, h1, h4, hrow]
        refine ⟨by omega, by omega, by omega, k1, fun _ z ez => ?_, hnx⟩
        rw [ey] at ez; cases ez
        exact fun hq => hc ((QLT_iff hyx).1 hq))
  obtain ⟨R1, R2, rfl, l1, b1, b2⟩ := one_parts (i := i - m) (by omega) sR hI (fun h => k1 (by omega)) (fun h => k2 (by omega))
  rw [List.length_append] at hn hb
  refine ⟨R1 ++ x :: R2, List.perm_middle, QS_ins sR b2 b1, ?_⟩
  simp (maxSteps := 999999) only [E0, seval, -Int.reduceNatCast', h10, h0, h1, hd, hf]
  generalize hL2 : W _ (.loop _) _ = L2
  obtain ⟨ex, s2, rfl, rfl, hrow2, hd2, hnx2⟩ := loop_at hL2 (α := List Qu × List Qu) (fun p => p.2.length)
    (fun s0 p s => p.1 ++ p.2 = R1 ∧ s.H.rows = upd H.rows 2 (some (RW (A ++ (p.1 ++ x :: (p.2 ++ (R2 ++ B)))))) ∧ s.tmps 13 = I (a + p.1.length) ∧ s.tmps 10 = I i ∧ s.tmps 0 = QG n ∧ s.defers = [] ∧ s.fid = H.next ∧ H.next ≤ s.H.next)
    (fun s0 ex s => ex = .exit 2 ∧ s.H.rows = upd H.rows 2 (some (RW (A ++ (R1 ++ x :: (R2 ++ B))))) ∧ s.defers = [] ∧ H.next ≤ s.H.next) ([], R1)
    (by simp (maxSteps := 999999) only [E0, seval, -Int.reduceNatCast', h10, h0]
        refine ⟨?_, by simp, hnx⟩
        rw [hrow, ← List.append_assoc R1, ← hr, upd_same]) (by
      rintro ⟨P, Q⟩ s r hW ⟨hPQ, hrow, h13, h10, h0, hd, hf, hnx⟩
      dsimp only at hPQ hrow h13
      have hlen : P.length + Q.length = R1.length := by rw [← hPQ]; simp
      obtain ⟨q, hq⟩ : ∃ q, q = a + P.length := ⟨_, rfl⟩
      have h13' : s.tmps 13 = I q := by rw [h13, hq]; simp
      cases Q with
      | nil =>
        simp only [List.length_nil, List.append_nil] at hlen hPQ
        simp (maxSteps := 999999) only [E0, seval, -Int.reduceNatCast', h13', h10, hd, hf, i64_in (x := (i : Int) - 1) (by unfold I64; omega), (show ¬ (q : Int) < (i : Int) - 1 by omega)] at hW
        subst hW
        subst hPQ
        refine rd_exit ⟨rfl, ?_⟩
        simp (maxSteps := 999999) only [E0, seval, -Int.reduceNatCast', hrow]
        simpa using hnx
      | cons z Q =>
        simp only [List.length_cons] at hlen
        have r2 : s.H.rows 2 = some (RW (A ++ (P ++ x :: (z :: Q ++ (R2 ++ B))))) := by rw [hrow]; simp
        have iz : (A ++ (P ++ x :: (z :: Q ++ (R2 ++ B))))[q]? = some x := by
          rw [← List.append_assoc]; exact at_app' (by simp; omega)
        have ix : (A ++ (P ++ x :: (z :: Q ++ (R2 ++ B))))[q + 1]? = some z := by
          have : A ++ (P ++ x :: (z :: Q ++ (R2 ++ B))) = (A ++ P ++ [x]) ++ z :: (Q ++ (R2 ++ B)) := by simp
          rw [this]; exact at_app' (by simp; omega)
        have sw : SWP (A ++ (P ++ x :: (z :: Q ++ (R2 ++ B)))) q (q + 1) = A ++ (P ++ z :: x :: (Q ++ (R2 ++ B))) := by
          have := SWP_at (A ++ P) [] (Q ++ (R2 ++ B)) x z (i := q) (j := q + 1) (by simp; omega) (by simp; omega)
          simpa using this
        have i1 := mget iz
        have i2 := mget ix
        have em := mset iz ix
        obtain ⟨w, ew⟩ := mget2 iz ix
        have hDl : (A ++ (P ++ x :: (z :: Q ++ (R2 ++ B)))).length = n := by simp only [List.length_append, List.length_cons]; omega
        generalize hD : A ++ (P ++ x :: (z :: Q ++ (R2 ++ B))) = D at iz ix sw i1 i2 em ew hDl r2 hrow
        simp (maxSteps := 999999) only [E0, seval, -Int.reduceNatCast', NUM, SQU, h13', h10, h0, hd, hf, r2, i1, i2, ew, hDl, Nat.zero_add, Nat.zero_le, List.length_map, List.length_set, Int.toNat_natCast, (show ((q : Int) + 1).toNat = q + 1 by omega), (show (q : Int) < (i : Int) - 1 by omega), (show (0 : Int) ≤ q by omega), (show (0 : Int) ≤ (q : Int) + 1 by omega), (show (q : Int) < n by omega), (show (q : Int) + 1 < n by omega), i64_in (x := (i : Int) - 1) (by unfold I64; omega), i64_in (x := (q : Int) + 1) (by unfold I64; omega)] at hW
        subst hW
        rw [if_pos (by kernel_rfl)]
        refine rd_next (P ++ [z], Q) ?_ (show Q.length < (z :: Q).length by simp)
        simp (maxSteps := 999999) only [E0, seval, -Int.reduceNatCast', h10, h0, em, sw, hrow]
        refine ⟨by rw [← hPQ]; simp, ?_, by rw [hq]; simp; omega, hnx⟩
        show upd (upd s.H.rows 2 _) 2 _ = _; rw [upd_upd, hrow, upd_upd]; simp only [List.append_assoc, List.cons_append, List.nil_append])
  simp (maxSteps := 999999) only [E0, seval, -Int.reduceNatCast', hd2]
  exact ⟨s2.H.next, by rw [← List.append_assoc, List.append_assoc, List.append_assoc, List.cons_append, ← hrow2], hnx2⟩
end S
end Go.Proofs.Ytbmmbefgmhhciaa
