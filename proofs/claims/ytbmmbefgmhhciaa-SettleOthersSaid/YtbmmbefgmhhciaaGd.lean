/-
  Markets and their settling (part 4).
-/
import Derived.Test.YtbmmbefgmhhciaaGc
set_option linter.unusedSimpArgs false
set_option linter.unusedVariables false
set_option linter.unusedSectionVars false
/-
  The books: the money of each farm.
-/
namespace Go.Proofs.Ytbmmbefgmhhciaa
open Go GoV
set_option maxRecDepth 100000

theorem PAYS_get {os : List Ofr} {set : Int} {i : Nat} {x : Ofr} (e : os[i]? = some x) : (PAYS os set)[i]? = some (PAY os set i x) := by
  unfold PAYS
  rw [PART_get, e, Option.map_some, if_pos (List.getElem?_eq_some_iff.1 e).1]
theorem PAYS_len (os : List Ofr) (set : Int) : (PAYS os set).length = os.length := PART_len _ _ _
theorem PAY_bd {M : Mkt} {set : Int} (h : PE M set = 0) {i : Nat} {x : Ofr} (e : M.os[i]? = some x) : -1100585369600 ≤ PAY M.os set i x ∧ PAY M.os set i x ≤ 1100585369600 := by
  obtain ⟨h0, ha, hp⟩ := PE_0 h
  have prb := MC_prb (ASK_0 h0).1
  have lo := (MC_0 (ASK_0 h0).1).2.2.1
  have hi := (List.getElem?_eq_some_iff.1 e).1
  have xb := prb x (List.mem_of_getElem? e)
  unfold PAY
  split
  · have hl : i < (REB M.os set).length := by rw [REB_len prb set lo hp]; exact hi
    have r0 : (REB M.os set)[i]? = some ((REB M.os set)[i]) := List.getElem?_eq_getElem hl
    have rd : (REB M.os set).getD i 0 = (REB M.os set)[i] := by simp [List.getD_eq_getElem?_getD, r0]
    have ub := REB_bd prb set lo hp _ (List.getElem_mem hl)
    rw [rd]; omega
  · omega
/-- What the first offers of a farm pay. -/
def MON (g : Nat → Ofr → Int) (os : List Ofr) (f : Int) : Nat → Int
  | 0 => 0
  | k + 1 => MON g os f k + match os[k]? with
    | some x => if x.fm = f then g k x else 0
    | none => 0
theorem MON_succ {g : Nat → Ofr → Int} {os : List Ofr} {f : Int} {k : Nat} {x : Ofr} (e : os[k]? = some x) : MON g os f (k + 1) = MON g os f k + if x.fm = f then g k x else 0 := by
  show MON g os f k + _ = _
  rw [e]
theorem MON_bd {g : Nat → Ofr → Int} {os : List Ofr} {B : Int} (hB : 0 ≤ B) (h : ∀ i x, os[i]? = some x → -B ≤ g i x ∧ g i x ≤ B) (f : Int) : ∀ k : Nat, -(B * k) ≤ MON g os f k ∧ MON g os f k ≤ B * k
  | 0 => by simp [MON]
  | k + 1 => by
    have ih := MON_bd hB h f k
    have e2 : B * ((k + 1 : Nat) : Int) = B * k + B := by rw [Int.natCast_add, Int.mul_add]; simp
    rw [e2]
    cases e : os[k]? with
    | none =>
      have : MON g os f (k + 1) = MON g os f k := by
        show MON g os f k + _ = _
        rw [e]; simp
      rw [this]; omega
    | some x =>
      have := h k x e
      rw [MON_succ e]
      split <;> omega
/-- The money of the books. -/
noncomputable def MONS (M : Mkt) (set : Int) : List Int := (List.range M.D.fs.length).map fun f : Nat => MON (PAY M.os set) M.os f M.os.length
theorem MONS_len (M : Mkt) (set : Int) : (MONS M set).length = M.D.fs.length := by simp [MONS]
theorem MONS_get {M : Mkt} {set : Int} {f : Nat} (h : f < M.D.fs.length) : (MONS M set)[f]? = some (MON (PAY M.os set) M.os f M.os.length) := by
  unfold MONS
  rw [List.getElem?_map, List.getElem?_range h]; rfl
theorem MON_bd12 {M : Mkt} {set : Int} (h : PE M set = 0) (f : Int) {k : Nat} (hk : k ≤ 12) : -13207024435200 ≤ MON (PAY M.os set) M.os f k ∧ MON (PAY M.os set) M.os f k ≤ 13207024435200 := by
  have := MON_bd (g := PAY M.os set) (B := 1100585369600) (by omega) (fun i x e => PAY_bd h e) f k
  omega
theorem TVL.mem {T : List (List Int)} {tv : List PV} (h : TVL T tv) : ∀ v ∈ tv, ∃ l, RV l v := by
  intro v hv
  obtain ⟨i, ei⟩ := List.mem_iff_getElem?.1 hv
  have hi := (List.getElem?_eq_some_iff.1 ei).1
  obtain ⟨w, ew, hw⟩ := h.get i _ (List.getElem?_eq_getElem (by rw [← h.len]; exact hi))
  rw [ei] at ew
  cases ew
  exact ⟨_, hw⟩
theorem STV {T : List (List Int)} {tv : List PV} (h : TVL T tv) : strip0L tv = tv ∧ tv.map strip0 = tv ∧ (∀ H, tv.map (strip1 H) = tv) ∧ (∀ H, tv.map (strip2 H) = tv) ∧ (∀ H, strip1L H tv = tv) ∧ (∀ H, strip2L H tv = tv) := by
  have h0 : tv.map strip0 = tv := map_id_of fun v hv => by obtain ⟨l, hl⟩ := h.mem v hv; exact (RVS hl).1.1
  have h1 : ∀ H, tv.map (strip1 H) = tv := fun H => map_id_of fun v hv => by obtain ⟨l, hl⟩ := h.mem v hv; exact (RVS hl).1.2.1 H
  have h2 : ∀ H, tv.map (strip2 H) = tv := fun H => map_id_of fun v hv => by obtain ⟨l, hl⟩ := h.mem v hv; exact (RVS hl).1.2.2 H
  exact ⟨by rw [strip0L_map, h0], h0, h1, h2, fun H => by rw [strip1L_map, h1], fun H => by rw [strip2L_map, h2]⟩
/-- What Books answers. -/
noncomputable def BKV (M : Mkt) (set : Int) (tv : List PV) : PV := if PE M set ≠ 0 then .tup [.vs 1 [] none, .nils, I (PE M set)] else .tup [.vs 1 ((MONS M set).map I) none, .vs 1 tv none, I 0]
/-- The purse: a number for each farm. -/
def PUR (g : Nat → Ofr → Int) (os : List Ofr) (k : Nat) (m : List (Int × PV)) : Prop := ∀ f, aget m f = some (I (MON g os f k)) ∨ (aget m f = none ∧ MON g os f k = 0)
theorem PUR_look {g : Nat → Ofr → Int} {os : List Ofr} {k : Nat} {m : List (Int × PV)} (h : PUR g os k m) (f : Int) : lookA (I 0) false (aget m f) = I (MON g os f k) := by
  rcases h f with h | ⟨h, h0⟩
  · rw [h]; rfl
  · rw [h, h0]; rfl
theorem PUR_succ {g : Nat → Ofr → Int} {os : List Ofr} {k : Nat} {x : Ofr} {m : List (Int × PV)} (h : PUR g os k m) (e : os[k]? = some x) : PUR g os (k + 1) (aset m x.fm (I (MON g os x.fm k + g k x))) := by
  intro f
  rw [aget_aset, MON_succ e]
  by_cases hf : f = x.fm
  · subst hf
    rw [if_pos rfl, if_pos rfl]
    exact .inl rfl
  · rw [if_neg hf, if_neg (fun g => hf g.symm), Int.add_zero]
    exact h f
section
variable {M : Mkt} (hr : ∀ x ∈ M.D.rs, x.OK) {q : Cps} (hv : DV M.D q.cs q.gs q.ds q.ws) (hA : AWV M.aw q.av)
include hr hv hA
set_option maxHeartbeats 4000000 in
theorem c_books (set : Int) (tv : List PV) (ct : ap Try.prog pol 10 [.agg (mcl M q), I set] = some (.ret (AFV M set tv))) (htv : ∀ T, ASK M set = 0 → AFT M set = some T → TVL T tv) : ap Try.prog pol 9 [.agg (mcl M q), I set] = some (.ret (BKV M set tv)) := by
  have cp := c_pay hr hv hA set
  unfold PAYV at cp
  unfold BKV
  rw [ap_eq _ Try.func9 rfl Try.ntmps9 Try.results9 (by kernel_rfl) rfl (by exact Nat.le_of_ble_eq_true rfl)]
  by_cases h : PE M set = 0
  rotate_left
  · rw [if_pos h] at cp ⊢
    simp (maxSteps := 999999) only [E0, seval, -Int.reduceNatCast', NUM, SRCH, SFRM, SCRP, SRGT, SDTY, hv.s0, hv.s1, hv.s2, hv.fz, SAV hA, SOFR, SLOT, INTS, cp, h]
  rw [if_neg (fun g => g h)] at cp ⊢
  obtain ⟨h0, ha, hp⟩ := PE_0 h
  unfold AFV at ct
  rw [if_neg (fun g => g h0), if_neg ha] at ct
  obtain ⟨T, hT⟩ : ∃ T, AFT M set = some T := Option.ne_none_iff_exists'.1 ha
  have st := STV (htv T h0 hT)
  have lo := (MC_0 (ASK_0 h0).1).2.2.1
  have lfs := (XC_0 (MC_0 (ASK_0 h0).1).1).1.2.1
  have pl := PAYS_len M.os set
  have bd := fun f => MON_bd12 h f (k := M.os.length) lo
  simp (maxSteps := 999999) only [E0, seval, -Int.reduceNatCast', NUM, SRCH, SFRM, SCRP, SRGT, SDTY, hv.s0, hv.s1, hv.s2, hv.fz, SAV hA, SOFR, SLOT, INTS, cp, ct, List.length_map]
  generalize hL : W _ (.loop _) _ = L
  obtain ⟨ex, s, rfl, rfl, ⟨mm, hm, pm⟩, hb2, h2, h4, h5, hr1, h8, hnx, hd, hf⟩ := loop_at hL (α := Nat) (fun k => M.os.length - k)
    (fun s0 k s => k ≤ M.os.length ∧ s.tmps 35 = I k ∧ s.tmps 34 = I M.os.length ∧ s.tmps 33 = .vs 6 (M.os.map (ofr q.cl)) q.co ∧ s.tmps 7 = .vs 1 ((PAYS M.os set).map I) none ∧ s.tmps 8 = .map 2 ∧ (∃ mm, s.H.rows 2 = some (.map (kmap (PV.int .i64) mm)) ∧ PUR (PAY M.os set) M.os k mm) ∧ s.boxes 2 = some (0, mcl M q) ∧ s.tmps 2 = .bptr 0 2 0 0 ∧ s.tmps 4 = .gsl 1 1 0 0 0 ∧ s.tmps 5 = .vs 1 tv none ∧ s.H.rows 1 = some (.gro 1 [] 0) ∧ s.H.next = 3 ∧ s.defers = [] ∧ s.fid = 0)
    (fun s0 ex s => ex = .exit 0 ∧ (∃ mm, s.H.rows 2 = some (.map (kmap (PV.int .i64) mm)) ∧ PUR (PAY M.os set) M.os M.os.length mm) ∧ s.boxes 2 = some (0, mcl M q) ∧ s.tmps 2 = .bptr 0 2 0 0 ∧ s.tmps 4 = .gsl 1 1 0 0 0 ∧ s.tmps 5 = .vs 1 tv none ∧ s.H.rows 1 = some (.gro 1 [] 0) ∧ s.tmps 8 = .map 2 ∧ s.H.next = 3 ∧ s.defers = [] ∧ s.fid = 0) 0
    (by simp (maxSteps := 999999) only [E0, seval, -Int.reduceNatCast']; exact ⟨Nat.zero_le _, by simp, ⟨[], rfl, fun f => .inr ⟨rfl, rfl⟩⟩⟩) (by
      rintro k s r hW ⟨hk, h35, h34, h33, h7, h8, ⟨mm, hm, pm⟩, hb2, h2, h4, h5, hr1, hnx, hd, hf⟩
      by_cases hp' : k < M.os.length
      rotate_left
      · simp (maxSteps := 999999) only [E0, seval, -Int.reduceNatCast', NUM, h35, h34, hd, hf, (show ¬ (k : Int) < M.os.length by omega)] at hW
        subst hW
        have : k = M.os.length := by omega
        subst this
        refine rd_exit ⟨rfl, ⟨mm, hm, pm⟩, ?_⟩
        simp (maxSteps := 999999) only [E0, seval, -Int.reduceNatCast', hb2, h2, h4, h5, hr1, h8, hnx, hd]
      have e0 : M.os[k]? = some M.os[k] := List.getElem?_eq_getElem hp'
      have e1 := map_get (f := ofr q.cl) e0
      have y0 := PAYS_get (set := set) e0
      have y1 := ints_get y0
      have yb := PAY_bd h e0
      have ps := PUR_succ pm e0
      have mb := MON_bd12 h M.os[k].fm (k := k) (by omega)
      have pk := PUR_look pm M.os[k].fm
      generalize M.os[k] = x at *
      generalize PAY M.os set k x = y at *
      generalize MON (PAY M.os set) M.os x.fm k = z at *
      rcases hb10 : s.boxes 10 with _ | ⟨v10, c10⟩
      all_goals
        simp (maxSteps := 999999) only [E0, seval, -Int.reduceNatCast', NUM, MAPI, pk, SRCH, SFRM, SCRP, SRGT, SDTY, hv.s0, hv.s1, hv.s2, hv.fz, SAV hA, SOFR, SLOT, INTS, h35, h34, h33, h7, h8, hm, hb2, hb10, y1, e1, pl, hnx, hd, hf, List.length_map, Int.toNat_natCast, (show k < M.os.length by omega), (show (k : Int) < M.os.length by omega), (show (0 : Int) ≤ k by omega), (i64_in (x := (k : Int) + 1) (by unfold I64; omega)), (i64_in (x := z + y) (by unfold I64; omega))] at hW
        rw [if_pos (by kernel_rfl)] at hW
        subst hW
        refine rd_next (k + 1) ?_ (show M.os.length - (k + 1) < M.os.length - k by omega)
        simp (maxSteps := 999999) only [E0, seval, -Int.reduceNatCast', h34, h33, h7, h8, hb2, h2, h4, h5, hr1, hnx, hd]
        exact ⟨by omega, by simp, ⟨_, rfl, ps⟩⟩)
  clear hL
  have lm := MONS_len M set
  simp (maxSteps := 999999) only [E0, seval, -Int.reduceNatCast', NUM, SRCH, SFRM, SCRP, SRGT, SDTY, hv.s0, hv.s1, hv.s2, hv.fz, SAV hA, SOFR, SLOT, INTS, hb2, h2, h4, h5, hr1, h8, hnx, hd, hf, List.length_map]
  generalize hL : W _ (.loop _) _ = L
  obtain ⟨ex, s, rfl, rfl, h4, h5, hr1, hd, hf⟩ := loop_at hL (α := Nat) (fun k => M.D.fs.length - k)
    (fun s0 k s => k ≤ M.D.fs.length ∧ s.tmps 54 = I k ∧ s.tmps 53 = I M.D.fs.length ∧ s.tmps 8 = .map 2 ∧ s.H.rows 2 = some (.map (kmap (PV.int .i64) mm)) ∧ s.tmps 4 = .gsl 1 1 k 0 k ∧ s.tmps 5 = .vs 1 tv none ∧ s.H.rows 1 = some (.gro 1 (((MONS M set).take k).map I) 0) ∧ s.defers = [] ∧ s.fid = 0)
    (fun s0 ex s => ex = .exit 2 ∧ s.tmps 4 = .gsl 1 1 M.D.fs.length 0 M.D.fs.length ∧ s.tmps 5 = .vs 1 tv none ∧ s.H.rows 1 = some (.gro 1 ((MONS M set).map I) 0) ∧ s.defers = [] ∧ s.fid = 0) 0
    (by simp (maxSteps := 999999) only [E0, seval, -Int.reduceNatCast', h4, h5, h8, hm, hr1, List.take_zero]; exact ⟨Nat.zero_le _, by simp⟩) (by
      rintro k s r hW ⟨hk, h54, h53, h8, hm, h4, h5, hr1, hd, hf⟩
      by_cases hp' : k < M.D.fs.length
      rotate_left
      · simp (maxSteps := 999999) only [E0, seval, -Int.reduceNatCast', NUM, h54, h53, hd, hf, (show ¬ (k : Int) < M.D.fs.length by omega)] at hW
        subst hW
        have : k = M.D.fs.length := by omega
        subst this
        rw [← lm, List.take_length] at hr1
        refine rd_exit ⟨rfl, ?_⟩
        simp (maxSteps := 999999) only [E0, seval, -Int.reduceNatCast', h4, h5, hr1, hd]
      have pk := PUR_look pm k
      have m0 := MONS_get (M := M) (set := set) hp'
      have tk : (MONS M set).take (k + 1) = (MONS M set).take k ++ [MON (PAY M.os set) M.os k M.os.length] := by rw [List.take_add_one, m0]; rfl
      have lt : ((MONS M set).take k).length = k := by rw [List.length_take, lm]; omega
      generalize MON (PAY M.os set) M.os k M.os.length = z at *
      simp (maxSteps := 999999) only [E0, seval, -Int.reduceNatCast', NUM, MAPI, pk, h54, h53, h8, hm, h4, h5, hr1, hd, hf, lt, List.length_map, Int.toNat_natCast, (show (k : Int) < M.D.fs.length by omega), (show (0 : Int) ≤ k by omega), (show k + 1 ≤ 67108864 by omega), (show k ≤ 67108863 by omega), (i64_in (x := (k : Int) + 1) (by unfold I64; omega))] at hW
      subst hW
      refine rd_next (k + 1) ?_ (show M.D.fs.length - (k + 1) < M.D.fs.length - k by omega)
      simp (maxSteps := 999999) only [E0, seval, -Int.reduceNatCast', h53, h8, hm, h4, h5, hr1, hd, tk, List.map_append]
      exact ⟨by omega, by simp⟩)
  clear hL
  have lt : ((MONS M set).map I).length = M.D.fs.length := by rw [List.length_map, lm]
  have tk : List.take M.D.fs.length ((MONS M set).map I) = (MONS M set).map I := List.take_of_length_le (by rw [lt]; exact Nat.le_refl _)
  simp (maxSteps := 999999) only [E0, seval, -Int.reduceNatCast', NUM, h4, h5, hr1, hd, hf, lm, tk, st, INTS, Nat.zero_add, Nat.le_refl, List.length_map]
end
end Go.Proofs.Ytbmmbefgmhhciaa

/-
  The statements of a farm.
-/
namespace Go.Proofs.Ytbmmbefgmhhciaa
open Go GoV
set_option maxRecDepth 100000

structure Stm where
  (no ps bid : Int) (won : Bool)
deriving DecidableEq
abbrev stm (x : Stm) : PV := .agg [I x.no, I x.ps, I x.bid, .bool x.won]
theorem SSTM : (∀ l : List Stm, strip0L (l.map stm) = l.map stm) ∧ (∀ l : List Stm, (l.map stm).map strip0 = l.map stm) ∧ (∀ H (l : List Stm), (l.map stm).map (strip1 H) = l.map stm) ∧ (∀ H (l : List Stm), (l.map stm).map (strip2 H) = l.map stm) ∧ (∀ H (l : List Stm), strip1L H (l.map stm) = l.map stm) ∧ (∀ H (l : List Stm), strip2L H (l.map stm) = l.map stm) :=
  STR stm (fun _ => rfl) (fun _ _ => rfl) (fun _ _ => rfl)
/-- The statement of an offer. -/
def STN (g : Nat → Ofr → Int) (set : Int) (k : Nat) (x : Ofr) : Stm := ⟨x.no, g k x, x.pr, decide (BIT set k = 1)⟩
/-- The statements of a farm for the first offers. -/
def STS (g : Nat → Ofr → Int) (os : List Ofr) (set f : Int) : Nat → List Stm
  | 0 => []
  | k + 1 => STS g os set f k ++ match os[k]? with
    | some x => if x.fm = f then [STN g set k x] else []
    | none => []
theorem STS_succ {g : Nat → Ofr → Int} {os : List Ofr} {set f : Int} {k : Nat} {x : Ofr} (e : os[k]? = some x) : STS g os set f (k + 1) = STS g os set f k ++ if x.fm = f then [STN g set k x] else [] := by
  show STS g os set f k ++ _ = _
  rw [e]
theorem STS_len (g : Nat → Ofr → Int) (os : List Ofr) (set f : Int) : ∀ k, (STS g os set f k).length ≤ k
  | 0 => Nat.le_refl _
  | k + 1 => by
    have ih := STS_len g os set f k
    show (STS g os set f k ++ _).length ≤ _
    rw [List.length_append]
    split
    · split <;> simp <;> omega
    · simp; omega
/-- What Statements answers. -/
noncomputable def STMV (M : Mkt) (set f : Int) : PV := if PE M set ≠ 0 then .tup [.nils, I (PE M set)] else if f < 0 ∨ (M.D.fs.length : Int) ≤ f then .tup [.nils, I 1] else .tup [.vs 4 ((STS (PAY M.os set) M.os set f M.os.length).map stm) none, I 0]
section
variable {M : Mkt} (hr : ∀ x ∈ M.D.rs, x.OK) {q : Cps} (hv : DV M.D q.cs q.gs q.ds q.ws) (hA : AWV M.aw q.av)
include hv hA
theorem c_stm1 (lo : M.os.length ≤ 12) (Y : List Int) (P k : Nat) (x : Ofr) (y set f : Int) (hk : k < 12) (ey : Y[k]? = some y) (g : Nat → Ofr → Int) (hg : g k x = y) (H : Heap) (hP : H.rows P = some (.gro 1 [.vs 1 (Y.map I) none] 0)) :
    callF G Try.prog pol 27 [I k, ofr q.cl x, .ptr P 1 0 0, .rop [I set], .rop [I f]] H = some (.ret (.tup [stm (STN g set k x), .bool (decide (x.fm = f))]), ⟨H.rows, H.next + 1⟩) := by
  have hk2 : k < Y.length := (List.getElem?_eq_some_iff.1 ey).1
  have e2 := ints_get ey
  rw [callF_eq _ _ Try.func27 rfl Try.ntmps27 Try.results27 (by kernel_rfl) rfl (by exact Nat.le_of_ble_eq_true rfl)]
  simp (maxSteps := 999999) only [E0, seval, -Int.reduceNatCast', NUM, INB, SLOT, INTS, hP, e2, List.length_map, Int.toNat_natCast, Nat.zero_add, Nat.zero_le, (show (k : Int) < Y.length by omega), (show (0 : Int) ≤ k by omega), (show ¬ (k : Int) < 0 by omega)]
  rw [if_pos (by kernel_rfl)]
  unfold STN
  rw [hg]
set_option maxHeartbeats 4000000 in
theorem c_mapped (lo : M.os.length ≤ 12) (Y : List Int) (P : Nat) (set f : Int) (g : Nat → Ofr → Int) (hg : ∀ k x, M.os[k]? = some x → Y[k]? = some (g k x)) (H : Heap) (hP : H.rows P = some (.gro 1 [.vs 1 (Y.map I) none] 0)) (hn : P < H.next) (X : Option (CR × Heap))
    (hX : callF G Try.prog pol 26 [.vs 6 (M.os.map (ofr q.cl)) q.co, .fn 27 [.ptr P 1 0 0, .rop [I set], .rop [I f]]] H = X) :
    ∃ R H', X = some (.ret (.gsl 4 R (STS g M.os set f M.os.length).length 0 (STS g M.os set f M.os.length).length), H') ∧ H'.rows R = some (.gro 4 ((STS g M.os set f M.os.length).map stm) 0) ∧ (∀ i < H.next, H'.rows i = H.rows i) := by
  subst hX
  rw [callF_eq _ _ Try.func26 rfl Try.ntmps26 Try.results26 (by kernel_rfl) rfl (by exact Nat.le_of_ble_eq_true rfl)]
  simp (maxSteps := 999999) only [E0, seval, -Int.reduceNatCast', NUM, SLOT, SOFR, INTS, List.length_map]
  generalize hL : W _ (.loop _) _ = L
  obtain ⟨ex, s, rfl, rfl, h4, hr4, hfr, hnx, hd, hf⟩ := loop_at hL (α := Nat) (fun k => M.os.length - k)
    (fun s0 k s => k ≤ M.os.length ∧ s.tmps 11 = I k ∧ s.tmps 10 = I M.os.length ∧ s.tmps 9 = .vs 6 (M.os.map (ofr q.cl)) q.co ∧ s.tmps 1 = .fn 27 [.ptr P 1 0 0, .rop [I set], .rop [I f]] ∧ s.tmps 4 = .gsl 4 (H.next + 1) (STS g M.os set f k).length 0 (STS g M.os set f k).length ∧ s.H.rows (H.next + 1) = some (.gro 4 ((STS g M.os set f k).map stm) 0) ∧ (∀ i < H.next, s.H.rows i = H.rows i) ∧ H.next + 1 < s.H.next ∧ s.defers = [] ∧ s.fid = H.next)
    (fun s0 ex s => ex = .exit 0 ∧ s.tmps 4 = .gsl 4 (H.next + 1) (STS g M.os set f M.os.length).length 0 (STS g M.os set f M.os.length).length ∧ s.H.rows (H.next + 1) = some (.gro 4 ((STS g M.os set f M.os.length).map stm) 0) ∧ (∀ i < H.next, s.H.rows i = H.rows i) ∧ H.next + 1 < s.H.next ∧ s.defers = [] ∧ s.fid = H.next) 0
    (by simp (maxSteps := 999999) only [E0, seval, -Int.reduceNatCast', STS, List.length_nil, List.map_nil]; exact ⟨Nat.zero_le _, by simp, fun i hi => if_neg (show ¬ i = H.next + 1 by omega), by omega⟩) (by
      rintro k s r hW ⟨hk, h11, h10, h9, h1, h4, hr4, hfr, hnx, hd, hf⟩
      by_cases hp' : k < M.os.length
      rotate_left
      · simp (maxSteps := 999999) only [E0, seval, -Int.reduceNatCast', NUM, h11, h10, hd, hf, (show ¬ (k : Int) < M.os.length by omega)] at hW
        subst hW
        have : k = M.os.length := by omega
        subst this
        refine rd_exit ⟨rfl, ?_⟩
        simp (maxSteps := 999999) only [E0, seval, -Int.reduceNatCast', h4, hr4, hd]
        exact ⟨hfr, hnx⟩
      have e0 : M.os[k]? = some M.os[k] := List.getElem?_eq_getElem hp'
      have e1 := map_get (f := ofr q.cl) e0
      have y0 := hg k _ e0
      have ss := STS_succ (g := g) (set := set) (f := f) e0
      have sl := STS_len g M.os set f k
      have hPs := hfr P hn
      rw [hP] at hPs
      generalize M.os[k] = x at *
      have cs := fun H h => c_stm1 (M := M) hv hA lo Y P k x (g k x) set f (by omega) y0 g rfl H h
      generalize STS g M.os set f k = S at *
      rcases hb6 : s.boxes 6 with _ | ⟨v6, c6⟩ <;> rcases hb7 : s.boxes 7 with _ | ⟨v7, c7⟩
      all_goals
        by_cases hfm : x.fm = f
        · rw [if_pos hfm] at ss
          simp only [decide_eq_true hfm] at cs
          simp (maxSteps := 999999) only [E0, seval, -Int.reduceNatCast', NUM, cs, SOFR, SLOT, INTS, hPs, h11, h10, h9, h1, h4, hr4, hb6, hb7, e1, hd, hf, List.length_map, Int.toNat_natCast, Nat.zero_add, Nat.zero_le, Nat.le_refl, (show (k : Int) < M.os.length by omega), (show (0 : Int) ≤ k by omega), (show S.length + 1 ≤ 67108864 by omega), (show S.length ≤ 67108863 by omega), (i64_in (x := (k : Int) + 1) (by unfold I64; omega))] at hW
          subst hW
          refine rd_next (k + 1) ?_ (show M.os.length - (k + 1) < M.os.length - k by omega)
          simp (maxSteps := 999999) only [E0, seval, -Int.reduceNatCast', h10, h9, h1, h4, hd, ss, List.length_append, List.map_append]
          exact ⟨by omega, by simp, fun i hi => by simp (maxSteps := 999999) only [E0, seval, -Int.reduceNatCast', (show ¬ i = H.next + 1 by omega)]; exact hfr i hi, by omega⟩
        · rw [if_neg hfm, List.append_nil] at ss
          simp only [decide_eq_false hfm] at cs
          simp (maxSteps := 999999) only [E0, seval, -Int.reduceNatCast', NUM, cs, SOFR, SLOT, INTS, hPs, h11, h10, h9, h1, h4, hr4, hb6, hb7, e1, hd, hf, List.length_map, Int.toNat_natCast, Nat.zero_add, Nat.zero_le, Nat.le_refl, (show (k : Int) < M.os.length by omega), (show (0 : Int) ≤ k by omega), (i64_in (x := (k : Int) + 1) (by unfold I64; omega))] at hW
          subst hW
          refine rd_next (k + 1) ?_ (show M.os.length - (k + 1) < M.os.length - k by omega)
          simp (maxSteps := 999999) only [E0, seval, -Int.reduceNatCast', h10, h9, h1, h4, hr4, hd, ss]
          exact ⟨by omega, by simp, hfr, by omega⟩)
  clear hL
  simp (maxSteps := 999999) only [E0, seval, -Int.reduceNatCast', NUM, h4, hd, hf]
  exact ⟨_, _, rfl, hr4, hfr⟩
include hr
set_option maxHeartbeats 4000000 in
theorem c_statements (set f : Int) : ap Try.prog pol 13 [.agg (mcl M q), I set, I f] = some (.ret (STMV M set f)) := by
  have cp := c_pay hr hv hA set
  unfold PAYV at cp
  unfold STMV
  rw [ap_eq _ Try.func13 rfl Try.ntmps13 Try.results13 (by kernel_rfl) rfl (by exact Nat.le_of_ble_eq_true rfl)]
  by_cases h : PE M set = 0
  rotate_left
  · rw [if_pos h] at cp ⊢
    simp (maxSteps := 999999) only [E0, seval, -Int.reduceNatCast', NUM, SRCH, SFRM, SCRP, SRGT, SDTY, hv.s0, hv.s1, hv.s2, hv.fz, SAV hA, SOFR, SLOT, INTS, cp, h]
  rw [if_neg (fun g => g h)] at cp ⊢
  obtain ⟨h0, ha, hp⟩ := PE_0 h
  have lo := (MC_0 (ASK_0 h0).1).2.2.1
  by_cases f0 : f < 0
  · rw [if_pos (.inl f0)]
    simp (maxSteps := 999999) only [E0, seval, -Int.reduceNatCast', NUM, SRCH, SFRM, SCRP, SRGT, SDTY, hv.s0, hv.s1, hv.s2, hv.fz, SAV hA, SOFR, SLOT, INTS, cp, f0]
  by_cases f1 : (M.D.fs.length : Int) ≤ f
  · rw [if_pos (.inr f1)]
    simp (maxSteps := 999999) only [E0, seval, -Int.reduceNatCast', NUM, SRCH, SFRM, SCRP, SRGT, SDTY, hv.s0, hv.s1, hv.s2, hv.fz, SAV hA, SOFR, SLOT, INTS, cp, f0, f1, List.length_map]
  rw [if_neg (fun g => g.elim f0 f1)]
  simp (maxSteps := 999999) only [E0, seval, -Int.reduceNatCast', NUM, SRCH, SFRM, SCRP, SRGT, SDTY, hv.s0, hv.s1, hv.s2, hv.fz, SAV hA, SOFR, SLOT, INTS, cp, f0, f1, List.length_map]
  generalize hE : callF _ _ _ _ _ _ = E
  obtain ⟨R, H', rfl, hR, hfr⟩ := c_mapped hv hA lo (PAYS M.os set) 1 set f (PAY M.os set) (fun k x e => PAYS_get e) _ (by simp (maxSteps := 999999) only [E0, seval, -Int.reduceNatCast']) (by simp (maxSteps := 999999) only [E0, seval, -Int.reduceNatCast']) _ hE
  have tk : ((STS (PAY M.os set) M.os set f M.os.length).map stm).take (STS (PAY M.os set) M.os set f M.os.length).length = (STS (PAY M.os set) M.os set f M.os.length).map stm := List.take_of_length_le (by simp)
  simp (maxSteps := 999999) only [E0, seval, -Int.reduceNatCast', NUM, hR, tk, SSTM, Nat.zero_add, Nat.le_refl, List.length_map]
end
end Go.Proofs.Ytbmmbefgmhhciaa

/-
  Lists, tables and statements compared; small markets.
-/
namespace Go.Proofs.Ytbmmbefgmhhciaa
open Go GoV
set_option maxRecDepth 100000

theorem c_same (a b : List Int) (c c' : Option Nat) (hl : a.length ≤ 1000000) : ap Try.prog pol 15 [.vs 1 (a.map I) c, .vs 1 (b.map I) c'] = some (.ret (.bool (decide (a = b)))) := by
  rw [ap_eq _ Try.func15 rfl Try.ntmps15 Try.results15 (by kernel_rfl) rfl (by exact Nat.le_of_ble_eq_true rfl)]
  by_cases h : a.length = b.length
  rotate_left
  · rw [decide_eq_false (fun e => h (by rw [e]))]
    simp (maxSteps := 999999) only [E0, seval, -Int.reduceNatCast', NUM, List.length_map, (show ¬ (a.length : Int) = b.length by omega)]
  simp (maxSteps := 999999) only [E0, seval, -Int.reduceNatCast', NUM, List.length_map, h]
  generalize hL : W _ (.loop _) _ = L
  obtain ⟨ex, s, rfl, hex, hd⟩ := loop_at hL (α := Nat) (fun j => a.length - j)
    (fun s0 j s => j ≤ a.length ∧ a.take j = b.take j ∧ s.tmps 5 = I j ∧ s.tmps 0 = .vs 1 (a.map I) c ∧ s.tmps 1 = .vs 1 (b.map I) c' ∧ s.defers = [] ∧ s.fid = 0)
    (fun s0 ex s => ((ex = .exit 0 ∧ a = b) ∨ (ex = .ret ∧ a ≠ b ∧ s.tmps 4 = .bool false)) ∧ s.defers = []) 0
    (by simp (maxSteps := 999999) only [E0, seval, -Int.reduceNatCast', List.take_zero]; exact ⟨by omega, by simp⟩) (by
      rintro j s r hW ⟨hj, ht, h5, h0, h1, hd, hf⟩
      by_cases hp : j < a.length
      · have e0 : a[j]? = some a[j] := List.getElem?_eq_getElem hp
        have f0 : b[j]? = some (b[j]'(by omega)) := List.getElem?_eq_getElem _
        have e1 := map_get (f := I) e0
        have f1 := map_get (f := I) f0
        generalize a[j] = x at *
        generalize b[j]'(by omega) = y at *
        by_cases hxy : x = y
        · simp (maxSteps := 999999) only [E0, seval, -Int.reduceNatCast', NUM, h5, h0, h1, hd, hf, e1, f1, hxy, List.length_map, Int.toNat_natCast, (show (j : Int) < a.length by omega), (show (j : Int) < b.length by omega), (show (0 : Int) ≤ j by omega), i64_in (x := (j : Int) + 1) (by unfold I64; omega)] at hW
          subst hW
          refine rd_next (j + 1) ?_ (show a.length - (j + 1) < a.length - j by omega)
          simp (maxSteps := 999999) only [E0, seval, -Int.reduceNatCast', h0, h1, hd]
          exact ⟨by omega, by rw [List.take_add_one, List.take_add_one, ht, e0, f0, hxy], by simp⟩
        · simp (maxSteps := 999999) only [E0, seval, -Int.reduceNatCast', NUM, h5, h0, h1, hd, hf, e1, f1, hxy, List.length_map, Int.toNat_natCast, (show (j : Int) < a.length by omega), (show (j : Int) < b.length by omega), (show (0 : Int) ≤ j by omega)] at hW
          subst hW
          exact rd_ret ⟨.inr ⟨rfl, fun e => hxy (by rw [e, f0] at e0; exact (Option.some.inj e0).symm), by simp (maxSteps := 999999) only [E0, seval, -Int.reduceNatCast']⟩, by simp (maxSteps := 999999) only [E0, seval, -Int.reduceNatCast', hd]⟩
      · simp (maxSteps := 999999) only [E0, seval, -Int.reduceNatCast', h5, h0, hd, hf, List.length_map, (show ¬ (j : Int) < a.length by omega)] at hW
        subst hW
        have : j = a.length := by omega
        subst this
        rw [List.take_length, h, List.take_length] at ht
        exact rd_exit ⟨.inl ⟨rfl, ht⟩, by simp (maxSteps := 999999) only [E0, seval, -Int.reduceNatCast', hd]⟩)
  rcases hex with ⟨rfl, hg⟩ | ⟨rfl, hg, h2⟩
  · rw [decide_eq_true hg]; simp (maxSteps := 999999) only [E0, seval, -Int.reduceNatCast', hd]
  · rw [decide_eq_false hg]; simp (maxSteps := 999999) only [E0, seval, -Int.reduceNatCast', hd, h2]
theorem c_same0 : ap Try.prog pol 15 [.nils, .nils] = some (.ret (.bool true)) := by
  rw [ap_eq _ Try.func15 rfl Try.ntmps15 Try.results15 (by kernel_rfl) rfl (by exact Nat.le_of_ble_eq_true rfl)]
  simp (maxSteps := 999999) only [E0, seval, -Int.reduceNatCast', NUM, WW_loop]
theorem u_stm : (match Try.prog.underlying 57 with | some (.struct fs) => (fs.toList.map fun f => (f.name, f.type, f.offset)) == [("Offer", 3, 0), ("Pays", 3, 1), ("Bid", 3, 2), ("Won", 4, 3)] && !Try.prog.stoodInHeld 57 | _ => false) = true := by kernel_rfl
theorem eq_stm (a b : Stm) : eqPV Try.prog Op.maxDepth 57 (stm a) (stm b) = some (decide (a = b)) := by
  have u := u_stm
  obtain ⟨fs, hu⟩ : ∃ fs, Try.prog.underlying 57 = some (.struct fs) := by
    revert u
    cases Try.prog.underlying 57 with
    | none => intro u; cases u
    | some d => cases d <;> intro u <;> first | exact ⟨_, rfl⟩ | cases u
  rw [hu] at u
  simp only [Bool.and_eq_true, beq_iff_eq, Bool.not_eq_true'] at u
  obtain ⟨hf, hs⟩ := u
  have i3 : Try.prog.underlying 3 = some (.int .i64) := by kernel_rfl
  have i4 : Try.prog.underlying 4 = some .bool := by kernel_rfl
  have a3 : aggT Try.prog 3 = some false := by kernel_rfl
  have a4 : aggT Try.prog 4 = some false := by kernel_rfl
  have s3 : szOf Try.prog 3 = some 1 := by kernel_rfl
  have s4 : szOf Try.prog 4 = some 1 := by kernel_rfl
  obtain ⟨l, hl⟩ : ∃ l, fs.toList = l := ⟨_, rfl⟩
  rw [hl] at hf
  rcases l with _ | ⟨f1, _ | ⟨f2, _ | ⟨f3, _ | ⟨f4, _ | ⟨f5, r⟩⟩⟩⟩⟩
  · simp at hf
  · simp at hf
  · simp at hf
  · simp at hf
  rotate_left
  · simp at hf
  simp only [List.map_cons, List.map_nil, List.cons.injEq, Prod.mk.injEq, and_true] at hf
  obtain ⟨⟨n1, t1, o1⟩, ⟨n2, t2, o2⟩, ⟨n3, t3, o3⟩, ⟨n4, t4, o4⟩⟩ := hf
  obtain ⟨x1, x2, x3, x4⟩ := a
  obtain ⟨y1, y2, y3, y4⟩ := b
  show eqPV Try.prog (_ + 1) _ _ _ = _
  unfold eqPV
  rw [hu]
  simp only [hs, Bool.false_eq_true, if_false, hl, eqFs, n1, n2, n3, n4, t1, t2, t3, t4, o1, o2, o3, o4, partPV, a3, a4, s3, s4, Option.bind_some, List.getElem?_cons_zero, List.getElem?_cons_succ]
  have e3 : ∀ x y : Int, eqPV Try.prog (9999) 3 (I x) (I y) = some (decide (x = y)) := fun x y => by
    show eqPV Try.prog (_ + 1) _ _ _ = _
    unfold eqPV
    rw [i3]
    simp only [if_true]
    congr 1
  have e4 : ∀ x y : Bool, eqPV Try.prog (9999) 4 (.bool x) (.bool y) = some (decide (x = y)) := fun x y => by
    show eqPV Try.prog (_ + 1) _ _ _ = _
    unfold eqPV
    rw [i4]
    cases x <;> cases y <;> rfl
  simp only [e3, e4, Option.bind_some, decide_eq_true_eq, (show ¬ "Offer" = "_" by decide), (show ¬ "Pays" = "_" by decide), (show ¬ "Bid" = "_" by decide), (show ¬ "Won" = "_" by decide), if_false]
  by_cases h1 : x1 = y1 <;> by_cases h2 : x2 = y2 <;> by_cases h3 : x3 = y3 <;> by_cases h4 : x4 = y4 <;> simp [h1, h2, h3, h4]
theorem c_inn (set : Int) (i : Nat) (hi : i ≤ 1000000) : ap Try.prog pol 12 [I set, I i] = some (.ret (.bool (decide (BIT set i = 1)))) := by
  rw [ap_eq _ Try.func12 rfl Try.ntmps12 Try.results12 (by kernel_rfl) rfl (by exact Nat.le_of_ble_eq_true rfl)]
  simp (maxSteps := 999999) only [E0, seval, -Int.reduceNatCast', NUM, INB, Int.toNat_natCast, (show ¬ (i : Int) < 0 by omega)]
theorem neq_stm (xo yo : Operand) (a1 a2 a3 b1 b2 b3 : Int) (a4 b4 : Bool) : binPV Try.prog .neq 57 xo yo (.agg [I a1, I a2, I a3, .bool a4]) (.agg [I b1, I b2, I b3, .bool b4]) = some (.bool (decide (¬ (Stm.mk a1 a2 a3 a4) = (Stm.mk b1 b2 b3 b4)))) := by
  have e := eq_stm ⟨a1, a2, a3, a4⟩ ⟨b1, b2, b3, b4⟩
  have g : Try.prog.eqGuardType Try.prog.depth 57 = false := by kernel_rfl
  simp only [binPV, eqOp, g, Bool.false_eq_true, if_false]
  change (eqPV Try.prog Op.maxDepth 57 (stm ⟨a1, a2, a3, a4⟩) (stm ⟨b1, b2, b3, b4⟩)).map (fun b => PV.bool !b) = _
  rw [e]
  simp only [Option.map_some]
  by_cases h : (Stm.mk a1 a2 a3 a4) = (Stm.mk b1 b2 b3 b4)
  · rw [decide_eq_true h, decide_eq_false (fun g => g h)]; rfl
  · rw [decide_eq_false h, decide_eq_true h]; rfl
/-- The values of an opened market's lists. -/
abbrev qq (D : Dis) (Ws av : List PV) : Cps := ⟨none, none, .vs 2 (D.cs.map crp) none, .vs 10 (D.gs.map rgt) none, .vs 4 (D.ds.map dty) none, .vs 4 Ws none, av, none, none, none⟩
section
variable {M : Mkt} {Ws av : List PV} (hv : DV M.D (qq M.D Ws av).cs (qq M.D Ws av).gs (qq M.D Ws av).ds (qq M.D Ws av).ws) (hA : AWV M.aw (qq M.D Ws av).av)
include hv
theorem c_few19 : ∃ b, ap Try.prog pol 49 [.agg [.str M.D.nm, I M.D.hours, I M.D.cap, I M.D.start, .vs 12 (M.D.rs.map rch) none, .vs 4 (M.D.fs.map frm) none, .vs 2 (M.D.cs.map crp) none, .vs 10 (M.D.gs.map rgt) none, .vs 4 (M.D.ds.map dty) none, .vs 4 Ws none]] = some (.ret (.bool b)) := by
  rw [ap_eq _ Try.func49 rfl Try.ntmps49 Try.results49 (by kernel_rfl) rfl (by exact Nat.le_of_ble_eq_true rfl)]
  simp (maxSteps := 999999) only [E0, seval, -Int.reduceNatCast', NUM, List.length_map, b_and]
  exact ⟨_, rfl⟩
theorem c_few41 : ∃ b, ap Try.prog pol 30 [.agg [.str M.D.nm, I M.D.hours, I M.D.cap, I M.D.start, .vs 12 (M.D.rs.map rch) none, .vs 4 (M.D.fs.map frm) none, .vs 2 (M.D.cs.map crp) none, .vs 10 (M.D.gs.map rgt) none, .vs 4 (M.D.ds.map dty) none, .vs 4 Ws none], .nils] = some (.ret (.bool b)) := by
  obtain ⟨b0, e0⟩ := c_few19 hv
  rw [ap_eq _ Try.func30 rfl Try.ntmps30 Try.results30 (by kernel_rfl) rfl (by exact Nat.le_of_ble_eq_true rfl)]
  cases b0 with
  | false =>
    simp (maxSteps := 999999) only [E0, seval, -Int.reduceNatCast', NUM, SRCH, SFRM, SCRP, SRGT, SDTY, hv.s0, hv.s1, hv.s2, hv.fz, e0]
    exact ⟨_, rfl⟩
  | true =>
    by_cases a1 : (M.D.rs.length : Int) ≤ 12 <;> by_cases a2 : (64 : Int) < M.D.rs.length <;> by_cases a3 : (M.D.fs.length : Int) ≤ 40 <;> by_cases a4 : (600 : Int) < M.D.fs.length
    all_goals
      simp (maxSteps := 999999) only [E0, seval, -Int.reduceNatCast', NUM, SRCH, SFRM, SCRP, SRGT, SDTY, hv.s0, hv.s1, hv.s2, hv.fz, e0, List.length_map, a1, a2, a3, a4]
      exact ⟨_, rfl⟩
include hA
set_option maxHeartbeats 8000000 in
theorem c_few45 : ∃ b, ap Try.prog pol 18 [.agg (mcl M (qq M.D Ws av))] = some (.ret (.bool b)) := by
  obtain ⟨b0, e0⟩ := c_few41 hv
  have hlen := SAV hA
  rw [ap_eq _ Try.func18 rfl Try.ntmps18 Try.results18 (by kernel_rfl) rfl (by exact Nat.le_of_ble_eq_true rfl)]
  cases b0 with
  | false =>
    simp (maxSteps := 999999) only [E0, seval, -Int.reduceNatCast', NUM, SRCH, SFRM, SCRP, SRGT, SDTY, hv.s0, hv.s1, hv.s2, hv.fz, hlen, SOFR, SLOT, INTS, e0]
    exact ⟨_, rfl⟩
  | true =>
    by_cases a3 : (40 : Int) < M.aw.length
    · simp (maxSteps := 999999) only [E0, seval, -Int.reduceNatCast', NUM, SRCH, SFRM, SCRP, SRGT, SDTY, hv.s0, hv.s1, hv.s2, hv.fz, hlen, SOFR, SLOT, INTS, e0, List.length_map, a3, (show (4 : Int) < M.aw.length by omega), (show ¬ (M.aw.length : Int) ≤ 8 by omega)]
      exact ⟨_, rfl⟩
    have go : ((4 : Int) < M.aw.length ∧ (M.aw.length : Int) ≤ 8) ∨ (¬ (4 : Int) < M.aw.length) ∨ ((4 : Int) < M.aw.length ∧ ¬ (M.aw.length : Int) ≤ 8) := by omega
    rcases go with ⟨a1, a2⟩ | go
    · simp (maxSteps := 999999) only [E0, seval, -Int.reduceNatCast', NUM, SRCH, SFRM, SCRP, SRGT, SDTY, hv.s0, hv.s1, hv.s2, hv.fz, hlen, SOFR, SLOT, INTS, e0, List.length_map, a1, a2, a3]
      exact ⟨_, rfl⟩
    have go2 : ((40 : Int) < M.os.length ∧ (7 : Int) < M.os.length ∧ ¬ (M.os.length : Int) ≤ 12) ∨ (¬ (40 : Int) < M.os.length ∧ (7 : Int) < M.os.length ∧ (M.os.length : Int) ≤ 12) ∨ (¬ (40 : Int) < M.os.length ∧ ¬ (7 : Int) < M.os.length) ∨ (¬ (40 : Int) < M.os.length ∧ (7 : Int) < M.os.length ∧ ¬ (M.os.length : Int) ≤ 12) := by omega
    rcases go2 with ⟨b1, b2, b3⟩ | ⟨b1, b2, b3⟩ | go2
    · rcases go with a1 | ⟨a1, a2⟩
      · simp (maxSteps := 999999) only [E0, seval, -Int.reduceNatCast', NUM, SRCH, SFRM, SCRP, SRGT, SDTY, hv.s0, hv.s1, hv.s2, hv.fz, hlen, SOFR, SLOT, INTS, e0, List.length_map, a1, a3, b1, b2, b3]
        exact ⟨_, rfl⟩
      · simp (maxSteps := 999999) only [E0, seval, -Int.reduceNatCast', NUM, SRCH, SFRM, SCRP, SRGT, SDTY, hv.s0, hv.s1, hv.s2, hv.fz, hlen, SOFR, SLOT, INTS, e0, List.length_map, a1, a2, a3, b1, b2, b3]
        exact ⟨_, rfl⟩
    · rcases go with a1 | ⟨a1, a2⟩
      · simp (maxSteps := 999999) only [E0, seval, -Int.reduceNatCast', NUM, SRCH, SFRM, SCRP, SRGT, SDTY, hv.s0, hv.s1, hv.s2, hv.fz, hlen, SOFR, SLOT, INTS, e0, List.length_map, a1, a3, b1, b2, b3]
        exact ⟨_, rfl⟩
      · simp (maxSteps := 999999) only [E0, seval, -Int.reduceNatCast', NUM, SRCH, SFRM, SCRP, SRGT, SDTY, hv.s0, hv.s1, hv.s2, hv.fz, hlen, SOFR, SLOT, INTS, e0, List.length_map, a1, a2, a3, b1, b2, b3]
        exact ⟨_, rfl⟩
    replace go : ((¬ (4 : Int) < M.aw.length) ∧ True) ∨ ((4 : Int) < M.aw.length ∧ ¬ (M.aw.length : Int) ≤ 8) := go.imp (fun h => ⟨h, trivial⟩) id
    replace go2 : (¬ (40 : Int) < M.os.length ∧ (¬ (7 : Int) < M.os.length) ∧ True) ∨ (¬ (40 : Int) < M.os.length ∧ (7 : Int) < M.os.length ∧ ¬ (M.os.length : Int) ≤ 12) := go2.imp (fun h => ⟨h.1, h.2, trivial⟩) id
    rcases go with ⟨a1, a2⟩ | ⟨a1, a2⟩ <;> rcases go2 with ⟨b1, b2, b3⟩ | ⟨b1, b2, b3⟩
    all_goals
      simp (maxSteps := 999999) only [E0, seval, -Int.reduceNatCast', NUM, SRCH, SFRM, SCRP, SRGT, SDTY, hv.s0, hv.s1, hv.s2, hv.fz, hlen, SOFR, SLOT, INTS, e0, List.length_map, a1, a2, a3, b1, b2, b3]
      generalize hL : W _ (.loop _) _ = L
      obtain ⟨ex, s, rfl, hex, hd⟩ := loop_at hL (α := Nat) (fun j => M.aw.length - j)
        (fun s0 j s => j ≤ M.aw.length ∧ s.tmps 3 = I j ∧ s.tmps 1 = .bptr 0 1 0 0 ∧ s.boxes 1 = some (0, mcl M (qq M.D Ws av)) ∧ s.defers = [] ∧ s.fid = 0)
        (fun s0 ex s => ((ex = .exit 0 ∧ s.tmps 1 = .bptr 0 1 0 0 ∧ s.boxes 1 = some (0, mcl M (qq M.D Ws av)) ∧ s.fid = 0) ∨ (ex = .ret ∧ s.tmps 2 = .bool false)) ∧ s.defers = []) 0
        (by simp (maxSteps := 999999) only [E0, seval, -Int.reduceNatCast']; exact ⟨Nat.zero_le _, by simp⟩) (by
          rintro j s r hW ⟨hj, h3, h1, hb1, hd, hf⟩
          by_cases hp : j < M.aw.length
          rotate_left
          · simp (maxSteps := 999999) only [E0, seval, -Int.reduceNatCast', NUM, SRCH, SFRM, SCRP, SRGT, SDTY, hv.s0, hv.s1, hv.s2, hv.fz, hlen, SOFR, SLOT, INTS, List.length_map, Int.toNat_natCast, h3, h1, hb1, hd, hf, (show ¬ (j : Int) < M.aw.length by omega)] at hW
            subst hW
            exact rd_exit ⟨.inl ⟨rfl, by simp (maxSteps := 999999) only [E0, seval, -Int.reduceNatCast', h1, hb1]⟩, by simp (maxSteps := 999999) only [E0, seval, -Int.reduceNatCast', hd]⟩
          have e0 : M.aw[j]? = some M.aw[j] := List.getElem?_eq_getElem hp
          obtain ⟨v, e1, hrv⟩ := hA.get j _ e0
          have rv := RVS hrv.rv
          generalize M.aw[j] = l at *
          by_cases hl : (800 : Int) < l.length
          · simp (maxSteps := 999999) only [E0, seval, -Int.reduceNatCast', NUM, SRCH, SFRM, SCRP, SRGT, SDTY, hv.s0, hv.s1, hv.s2, hv.fz, hlen, SOFR, SLOT, INTS, List.length_map, Int.toNat_natCast, h3, h1, hb1, hd, hf, hl, e1, rv, (show (j : Int) < M.aw.length by omega), (show (0 : Int) ≤ j by omega)] at hW
            subst hW
            exact rd_ret ⟨.inr ⟨rfl, by simp (maxSteps := 999999) only [E0, seval, -Int.reduceNatCast']⟩, by simp (maxSteps := 999999) only [E0, seval, -Int.reduceNatCast', hd]⟩
          · simp (maxSteps := 999999) only [E0, seval, -Int.reduceNatCast', NUM, SRCH, SFRM, SCRP, SRGT, SDTY, hv.s0, hv.s1, hv.s2, hv.fz, hlen, SOFR, SLOT, INTS, List.length_map, Int.toNat_natCast, h3, h1, hb1, hd, hf, hl, e1, rv, (show (j : Int) < M.aw.length by omega), (show (0 : Int) ≤ j by omega), (i64_in (x := (j : Int) + 1) (by unfold I64; omega))] at hW
            subst hW
            refine rd_next (j + 1) ?_ (show M.aw.length - (j + 1) < M.aw.length - j by omega)
            simp (maxSteps := 999999) only [E0, seval, -Int.reduceNatCast', h1, hb1, hd]
            exact ⟨by omega, by simp⟩)
      clear hL
      rcases hex with ⟨rfl, h1, hb1, hf⟩ | ⟨rfl, h2⟩
      rotate_left
      · simp (maxSteps := 999999) only [E0, seval, -Int.reduceNatCast', hd, h2]
        exact ⟨_, rfl⟩
      simp (maxSteps := 999999) only [E0, seval, -Int.reduceNatCast', NUM, SRCH, SFRM, SCRP, SRGT, SDTY, hv.s0, hv.s1, hv.s2, hv.fz, hlen, SOFR, SLOT, INTS, List.length_map, Int.toNat_natCast, h1, hb1, hd, hf]
      generalize hL : W _ (.loop _) _ = L
      obtain ⟨ex, s, rfl, hex, hd⟩ := loop_at hL (α := Nat) (fun j => M.os.length - j)
        (fun s0 j s => j ≤ M.os.length ∧ s.tmps 4 = I j ∧ s.tmps 1 = .bptr 0 1 0 0 ∧ s.boxes 1 = some (0, mcl M (qq M.D Ws av)) ∧ s.defers = [] ∧ s.fid = 0)
        (fun s0 ex s => ((ex = .exit 2) ∨ (ex = .ret ∧ s.tmps 2 = .bool false)) ∧ s.defers = []) 0
        (by simp (maxSteps := 999999) only [E0, seval, -Int.reduceNatCast', h1, hb1]; exact ⟨Nat.zero_le _, by simp⟩) (by
          rintro j s r hW ⟨hj, h3, h1, hb1, hd, hf⟩
          by_cases hp : j < M.os.length
          rotate_left
          · simp (maxSteps := 999999) only [E0, seval, -Int.reduceNatCast', NUM, SRCH, SFRM, SCRP, SRGT, SDTY, hv.s0, hv.s1, hv.s2, hv.fz, hlen, SOFR, SLOT, INTS, List.length_map, Int.toNat_natCast, h3, h1, hb1, hd, hf, (show ¬ (j : Int) < M.os.length by omega)] at hW
            subst hW
            exact rd_exit ⟨.inl rfl, by simp (maxSteps := 999999) only [E0, seval, -Int.reduceNatCast', hd]⟩
          have e0 : M.os[j]? = some M.os[j] := List.getElem?_eq_getElem hp
          have e1 := map_get (f := ofr none) e0
          generalize M.os[j] = x at *
          by_cases hl : (100 : Int) < x.lots.length
          · simp (maxSteps := 999999) only [E0, seval, -Int.reduceNatCast', NUM, SRCH, SFRM, SCRP, SRGT, SDTY, hv.s0, hv.s1, hv.s2, hv.fz, hlen, SOFR, SLOT, INTS, List.length_map, Int.toNat_natCast, h3, h1, hb1, hd, hf, hl, e1, (show (j : Int) < M.os.length by omega), (show (0 : Int) ≤ j by omega)] at hW
            subst hW
            exact rd_ret ⟨.inr ⟨rfl, by simp (maxSteps := 999999) only [E0, seval, -Int.reduceNatCast']⟩, by simp (maxSteps := 999999) only [E0, seval, -Int.reduceNatCast', hd]⟩
          · simp (maxSteps := 999999) only [E0, seval, -Int.reduceNatCast', NUM, SRCH, SFRM, SCRP, SRGT, SDTY, hv.s0, hv.s1, hv.s2, hv.fz, hlen, SOFR, SLOT, INTS, List.length_map, Int.toNat_natCast, h3, h1, hb1, hd, hf, hl, e1, (show (j : Int) < M.os.length by omega), (show (0 : Int) ≤ j by omega), (i64_in (x := (j : Int) + 1) (by unfold I64; omega))] at hW
            subst hW
            refine rd_next (j + 1) ?_ (show M.os.length - (j + 1) < M.os.length - j by omega)
            simp (maxSteps := 999999) only [E0, seval, -Int.reduceNatCast', h1, hb1, hd]
            exact ⟨by omega, by simp⟩)
      clear hL
      rcases hex with rfl | ⟨rfl, h2⟩
      · simp (maxSteps := 999999) only [E0, seval, -Int.reduceNatCast', hd]
        exact ⟨_, rfl⟩
      · simp (maxSteps := 999999) only [E0, seval, -Int.reduceNatCast', hd, h2]
        exact ⟨_, rfl⟩
theorem c_few : ∃ b, ap Try.prog pol 7 [.agg (mcl M (qq M.D Ws av))] = some (.ret (.bool b)) := by
  obtain ⟨b0, e0⟩ := c_few45 hv hA
  have hlen := SAV hA
  refine ⟨b0, ?_⟩
  rw [ap_eq _ Try.func7 rfl Try.ntmps7 Try.results7 (by kernel_rfl) rfl (by exact Nat.le_of_ble_eq_true rfl)]
  simp (maxSteps := 999999) only [E0, seval, -Int.reduceNatCast', NUM, SRCH, SFRM, SCRP, SRGT, SDTY, hv.s0, hv.s1, hv.s2, hv.fz, hlen, SOFR, SLOT, INTS, e0]
end
end Go.Proofs.Ytbmmbefgmhhciaa

/-
  Tables and statements that are equal.
-/
namespace Go.Proofs.Ytbmmbefgmhhciaa
open Go GoV
set_option maxRecDepth 100000

set_option maxHeartbeats 8000000 in
theorem c_same45 (T : List (List Int)) (a b : List PV) (c c' : Option Nat) (ha : TVL T a) (hb : TVL T b) (lT : T.length ≤ 1000000) (lr : ∀ l ∈ T, l.length ≤ 1000000) : ap Try.prog pol 25 [.vs 1 a c, .vs 1 b c'] = some (.ret (.bool true)) := by
  have la := ha.len
  have lb := hb.len
  have sa := STV ha
  have sb := STV hb
  rw [ap_eq _ Try.func25 rfl Try.ntmps25 Try.results25 (by kernel_rfl) rfl (by exact Nat.le_of_ble_eq_true rfl)]
  simp (maxSteps := 999999) only [E0, seval, -Int.reduceNatCast', NUM, la, lb]
  generalize hL : W _ (.loop _) _ = L
  obtain ⟨ex, s, rfl, rfl, hd⟩ := loop_at hL (α := Nat) (fun j => T.length - j)
    (fun s0 j s => j ≤ T.length ∧ s.tmps 5 = I j ∧ s.tmps 0 = .vs 1 a c ∧ s.tmps 1 = .vs 1 b c' ∧ s.defers = [] ∧ s.fid = 0)
    (fun s0 ex s => ex = .exit 0 ∧ s.defers = []) 0
    (by simp (maxSteps := 999999) only [E0, seval, -Int.reduceNatCast']; exact ⟨by omega, by simp⟩) (by
      rintro j s r hW ⟨hj, h5, h0, h1, hd, hf⟩
      by_cases hp : j < T.length
      rotate_left
      · simp (maxSteps := 999999) only [E0, seval, -Int.reduceNatCast', NUM, h5, h0, h1, hd, hf, la, (show ¬ (j : Int) < T.length by omega)] at hW
        subst hW
        exact rd_exit ⟨rfl, by simp (maxSteps := 999999) only [E0, seval, -Int.reduceNatCast', hd]⟩
      have e0 : T[j]? = some T[j] := List.getElem?_eq_getElem hp
      obtain ⟨v, e1, hv⟩ := ha.get j _ e0
      obtain ⟨w, e2, hw⟩ := hb.get j _ e0
      have ll := lr _ (List.getElem_mem hp)
      have rv := RVS hv
      have rw_ := RVS hw
      generalize T[j] = l at *
      by_cases hl : l = []
      · subst hl
        simp (maxSteps := 999999) only [E0, seval, -Int.reduceNatCast', NUM, WW_loop, h5, h0, h1, hd, hf, la, lb, e1, e2, rv, rw_, List.length_nil, (show (j : Int) < T.length by omega), (show (0 : Int) ≤ j by omega), Int.toNat_natCast, (i64_in (x := (j : Int) + 1) (by unfold I64; omega))] at hW
        subst hW
        refine rd_next (j + 1) ?_ (show T.length - (j + 1) < T.length - j by omega)
        simp (maxSteps := 999999) only [E0, seval, -Int.reduceNatCast', h0, h1, hd]
        exact ⟨by omega, by simp⟩
      obtain ⟨cv, rfl⟩ : ∃ c, v = .vs 1 (l.map I) c := hv.resolve_right fun h => hl h.1
      obtain ⟨cw, rfl⟩ : ∃ c, w = .vs 1 (l.map I) c := hw.resolve_right fun h => hl h.1
      simp (maxSteps := 999999) only [E0, seval, -Int.reduceNatCast', NUM, h5, h0, h1, hd, hf, la, lb, e1, e2, List.length_map, (show (j : Int) < T.length by omega), (show (0 : Int) ≤ j by omega), Int.toNat_natCast] at hW
      generalize hC : W _ (.loop _) _ = LC at hW
      obtain ⟨exC, sC, rfl, rfl, k5, k0, k1, kd, kf⟩ := loop_at hC (α := Nat) (fun i => l.length - i)
        (fun s0 i s => i ≤ l.length ∧ s.tmps 6 = I i ∧ s.tmps 5 = I j ∧ s.tmps 0 = .vs 1 a c ∧ s.tmps 1 = .vs 1 b c' ∧ s.defers = [] ∧ s.fid = 0)
        (fun s0 ex s => ex = .exit 2 ∧ s.tmps 5 = I j ∧ s.tmps 0 = .vs 1 a c ∧ s.tmps 1 = .vs 1 b c' ∧ s.defers = [] ∧ s.fid = 0) 0
        (by simp (maxSteps := 999999) only [E0, seval, -Int.reduceNatCast', h5, h0, h1]; exact ⟨by omega, by simp⟩) (by
          rintro i sC r hW ⟨hi, k6, k5, k0, k1, kd, kf⟩
          by_cases hpi : i < l.length
          rotate_left
          · simp (maxSteps := 999999) only [E0, seval, -Int.reduceNatCast', NUM, k6, k5, k0, k1, kd, kf, la, e1, List.length_map, (show (j : Int) < T.length by omega), (show (0 : Int) ≤ j by omega), Int.toNat_natCast, (show ¬ (i : Int) < l.length by omega)] at hW
            subst hW
            exact rd_exit ⟨rfl, by simp (maxSteps := 999999) only [E0, seval, -Int.reduceNatCast', k5, k0, k1, kd]⟩
          have f0 : l[i]? = some l[i] := List.getElem?_eq_getElem hpi
          have f1 := ints_get f0
          generalize l[i] = u at *
          simp (maxSteps := 999999) only [E0, seval, -Int.reduceNatCast', NUM, k6, k5, k0, k1, kd, kf, la, lb, e1, e2, f1, List.length_map, (show (j : Int) < T.length by omega), (show (0 : Int) ≤ j by omega), Int.toNat_natCast, (show (i : Int) < l.length by omega), (show (0 : Int) ≤ i by omega), (i64_in (x := (i : Int) + 1) (by unfold I64; omega))] at hW
          subst hW
          refine rd_next (i + 1) ?_ (show l.length - (i + 1) < l.length - i by omega)
          simp (maxSteps := 999999) only [E0, seval, -Int.reduceNatCast', k5, k0, k1, kd]
          exact ⟨by omega, by simp⟩)
      obtain ⟨fC, tC, bC, dC, HC, rC⟩ := sC
      dsimp only at k5 k0 k1 kd kf
      subst kd
      simp (maxSteps := 999999) only [E0, seval, -Int.reduceNatCast', NUM, k5, (i64_in (x := (j : Int) + 1) (by unfold I64; omega))] at hW
      subst hW
      refine rd_next (j + 1) ?_ (show T.length - (j + 1) < T.length - j by omega)
      simp (maxSteps := 999999) only [E0, seval, -Int.reduceNatCast', k0, k1, kf]
      exact ⟨by omega, by simp⟩)
  simp (maxSteps := 999999) only [E0, seval, -Int.reduceNatCast', hd]
theorem c_sameT (T : List (List Int)) (a b : List PV) (c c' : Option Nat) (ha : TVL T a) (hb : TVL T b) (lT : T.length ≤ 1000000) (lr : ∀ l ∈ T, l.length ≤ 1000000) : ap Try.prog pol 11 [.vs 1 a c, .vs 1 b c'] = some (.ret (.bool true)) := by
  have e := c_same45 T a b c c' ha hb lT lr
  have sa := STV ha
  have sb := STV hb
  rw [ap_eq _ Try.func11 rfl Try.ntmps11 Try.results11 (by kernel_rfl) rfl (by exact Nat.le_of_ble_eq_true rfl)]
  simp (maxSteps := 999999) only [E0, seval, -Int.reduceNatCast', NUM, sa, sb, e]
theorem c_samest (l : List Stm) (c c' : Option Nat) (hl : l.length ≤ 1000000) : ap Try.prog pol 17 [.vs 4 (l.map stm) c, .vs 4 (l.map stm) c'] = some (.ret (.bool true)) := by
  rw [ap_eq _ Try.func17 rfl Try.ntmps17 Try.results17 (by kernel_rfl) rfl (by exact Nat.le_of_ble_eq_true rfl)]
  simp (maxSteps := 999999) only [E0, seval, -Int.reduceNatCast', NUM, SSTM, List.length_map]
  generalize hL : W _ (.loop _) _ = L
  obtain ⟨ex, s, rfl, rfl, hd⟩ := loop_at hL (α := Nat) (fun j => l.length - j)
    (fun s0 j s => j ≤ l.length ∧ s.tmps 5 = I j ∧ s.tmps 0 = .vs 4 (l.map stm) c ∧ s.tmps 1 = .vs 4 (l.map stm) c' ∧ s.defers = [] ∧ s.fid = 0)
    (fun s0 ex s => ex = .exit 0 ∧ s.defers = []) 0
    (by simp (maxSteps := 999999) only [E0, seval, -Int.reduceNatCast']; exact ⟨by omega, by simp⟩) (by
      rintro j s r hW ⟨hj, h5, h0, h1, hd, hf⟩
      by_cases hp : j < l.length
      rotate_left
      · simp (maxSteps := 999999) only [E0, seval, -Int.reduceNatCast', NUM, h5, h0, h1, hd, hf, List.length_map, (show ¬ (j : Int) < l.length by omega)] at hW
        subst hW
        exact rd_exit ⟨rfl, by simp (maxSteps := 999999) only [E0, seval, -Int.reduceNatCast', hd]⟩
      have e0 : l[j]? = some l[j] := List.getElem?_eq_getElem hp
      have e1 := map_get (f := stm) e0
      generalize l[j] = x at *
      simp (maxSteps := 999999) only [E0, seval, -Int.reduceNatCast', NUM, neq_stm, h5, h0, h1, hd, hf, e1, List.length_map, (show (j : Int) < l.length by omega), (show (0 : Int) ≤ j by omega), Int.toNat_natCast, (i64_in (x := (j : Int) + 1) (by unfold I64; omega))] at hW
      subst hW
      refine rd_next (j + 1) ?_ (show l.length - (j + 1) < l.length - j by omega)
      simp (maxSteps := 999999) only [E0, seval, -Int.reduceNatCast', h0, h1, hd]
      exact ⟨by omega, by simp⟩)
  simp (maxSteps := 999999) only [E0, seval, -Int.reduceNatCast', hd]
end Go.Proofs.Ytbmmbefgmhhciaa

/-
  The chapter's example: what is computed for it.
-/
namespace Go.Proofs.Ytbmmbefgmhhciaa
open Go GoV
set_option maxRecDepth 100000

def SMR : Rch := ⟨.empty, -1, 1, 50, 50, 0, 0, 0, 0, 1, 0, 1⟩
def SMD : Dis := ⟨.empty, 4, 0, 0, [SMR], [⟨.empty, 0, 0, -1⟩, ⟨.empty, 0, 0, -1⟩, ⟨.empty, 0, 0, -1⟩], [], [], []⟩
def SM : Mkt := ⟨SMD, [[6, 0, 1]], 0, 0, [⟨1, 0, -10, 0, 10000, [⟨0, -4⟩]⟩, ⟨2, 1, 12, 0, 10000, [⟨0, 4⟩]⟩, ⟨5, 2, 15, 0, 10000, [⟨0, 4⟩]⟩]⟩
def qs : Cps := ⟨some 1, some 3, .nils, .nils, .nils, .nils, [.vs 1 [I 6, I 0, I 1] (some 3)], some 1, some 1, some 3⟩
theorem c_offer (a b c d : Int) : ap Try.prog pol 29 [I a, I b, I c, I d] = some (.ret (.agg [I a, I b, I c, I 0, I 10000, .vs 2 [.agg [I 0, I d]] (some 1)])) := by
  rw [ap_eq _ Try.func29 rfl Try.ntmps29 Try.results29 (by kernel_rfl) rfl (by exact Nat.le_of_ble_eq_true rfl)]
  simp (maxSteps := 999999) only [E0, seval, -Int.reduceNatCast', NUM]
theorem c_small : ap Try.prog pol 16 [] = some (.ret (.agg (mcl SM qs))) := by
  rw [ap_eq _ Try.func16 rfl Try.ntmps16 Try.results16 (by kernel_rfl) rfl (by exact Nat.le_of_ble_eq_true rfl)]
  simp (maxSteps := 999999) only [E0, seval, -Int.reduceNatCast', NUM, c_offer]
  rfl
theorem SM_ok : ∀ x ∈ SM.D.rs, x.OK := by
  intro x hx
  simp only [SM, SMD, List.mem_singleton] at hx
  subst hx
  unfold SMR Rch.OK I64
  simp
theorem SM_dv : DV SM.D qs.cs qs.gs qs.ds qs.ws := ⟨SL_nils 2, SL_nils 10, SL_nils 4, ⟨rfl, rfl, rfl, rfl⟩, fun _ => ⟨rfl, rfl, rfl, rfl⟩, fun _ => ⟨rfl, rfl, rfl, rfl⟩, fun _ => ⟨rfl, rfl, rfl, rfl⟩⟩
theorem SM_av : AWV SM.aw qs.av := by
  refine ⟨rfl, fun i l e => ?_⟩
  match i with
  | 0 =>
    simp only [SM, List.getElem?_cons_zero, Option.some.injEq] at e
    subst e
    exact ⟨_, rfl, .inl ⟨by decide, some 3, rfl⟩⟩
  | i + 1 => simp [SM] at e
theorem ALLI_nil {α : Type} {P : Nat → α → Prop} : ALLI P [] := by
  intro i y e
  simp at e
theorem ALLI_one {α : Type} {P : Nat → α → Prop} {x : α} (h : P 0 x) : ALLI P [x] := by
  intro i y e
  match i with
  | 0 => simp at e; subst e; exact h
  | i + 1 => simp at e
theorem ALLI_three {α : Type} {P : Nat → α → Prop} {x y z : α} (h : P 0 x) (h1 : P 1 y) (h2 : P 2 z) : ALLI P [x, y, z] := by
  intro i w e
  match i with
  | 0 => simp at e; subst e; exact h
  | 1 => simp at e; subst e; exact h1
  | 2 => simp at e; subst e; exact h2
  | i + 3 => simp at e
theorem SM_X : XC SMD = 0 := by
  unfold XC
  rw [if_pos (by decide), if_pos]
  exact ⟨by decide, by decide, by decide, ALLI_one (by decide), ALLI_nil, ALLI_three (by decide) (by decide) (by decide), ALLI_nil, ALLI_nil⟩
theorem SM_need {t : Int} (h : 0 < t) (h1 : t ≤ 1000) : NEED SMR t = some t := by
  have w : ∀ v : Int, 0 ≤ v → WO (los SMR) v = v := by
    intro v hv
    unfold WO HI UPD los SMR
    simp only []
    split
    · omega
    · simp
      omega
  have il : IsL (fun v => t ≤ WO (los SMR) v) 1073741825 t := by
    refine ⟨by omega, by omega, fun i h0 h1 => ?_, fun i h0 h1 => ?_⟩
    · rw [w i h0]; omega
    · rw [w i (by omega)]; omega
  unfold NEED
  rw [if_neg (by omega), if_neg (by omega), LST_eq il, if_pos (by omega)]
  have : SMR.si = 0 := rfl
  rw [this]
  congr 1
  omega
theorem SM_nds {l : List Int} {t : Int} (h : SUMP l [0] [⟨true, 0⟩, ⟨true, 1⟩, ⟨true, 2⟩] = t) (h1 : 0 < t) (h2 : t ≤ 1000) : NDS SMD l SMD.rs.length = some [t] := by
  have e := NDS_succ (D := SMD) (cl := l) (hs := [0]) (k := 0) (x := SMR) rfl rfl
  have ep : PRT SMD ((SMD.rs.length - 1 - 0 : Nat) : Int) = [⟨true, 0⟩, ⟨true, 1⟩, ⟨true, 2⟩] := by rfl
  rw [ep, h, SM_need h1 h2] at e
  exact e
theorem LIT_dec {l : List Int} (h : l.all (fun x => decide (0 ≤ x ∧ x ≤ 1073741824)) = true) : LIT l := by
  intro x hx
  have := List.all_eq_true.1 h x hx
  exact of_decide_eq_true this
theorem SM_o {no fm pr d : Int} (h0 : 0 ≤ no ∧ no ≤ 1048576) (h1 : 0 ≤ fm ∧ fm < 600) (h2 : -1073741824 ≤ pr ∧ pr ≤ 1073741824) (h3 : d ≠ 0 ∧ -1073741824 ≤ d ∧ d ≤ 1073741824) : OC ⟨no, fm, pr, 0, 10000, [⟨0, d⟩]⟩ = 0 := by
  unfold OC
  rw [if_neg (show ¬ 8 < [(⟨0, d⟩ : Lot)].length from by simp), if_pos]
  refine ⟨h0, h1, h2, by simp, by simp, ALLI_one ?_⟩
  unfold LOTK PW
  simp
  omega
theorem SM_mof {no fm pr d p : Int} (h0 : 0 ≤ no ∧ no ≤ 1048576) (h1 : 0 ≤ fm ∧ fm < 3) (h2 : -1073741824 ≤ pr ∧ pr ≤ 1073741824) (h3 : d ≠ 0 ∧ -1073741824 ≤ d ∧ d ≤ 1073741824) (h4 : p < no) : MOF SM p ⟨no, fm, pr, 0, 10000, [⟨0, d⟩]⟩ := by
  refine ⟨SM_o h0 (by omega) h2 h3, h4, ?_, ?_⟩
  · show fm < ((3 : Nat) : Int)
    omega
  · intro y hy
    simp only [List.mem_singleton] at hy
    subst hy
    show (0 : Int) < ((1 : Nat) : Int)
    decide
theorem SM_M : MC SM = 0 := by
  unfold MC
  have h0 : XC SM.D = 0 := SM_X
  rw [if_pos h0, if_neg (by decide), if_neg (by decide), if_pos]
  refine ⟨fun l hl => ?_, ?_⟩
  · have hl : l = [6, 0, 1] := by simpa [SM] using hl
    subst hl
    refine ⟨?_, [7], SM_nds (by decide) (by decide) (by decide)⟩
    unfold DVC
    rw [if_pos h0, if_pos ⟨rfl, LIT_dec (by decide)⟩]
  · exact ALLI_three (SM_mof (by decide) (by decide) (by decide) (by decide) (by decide)) (SM_mof (by decide) (by decide) (by decide) (by decide) (by decide)) (SM_mof (by decide) (by decide) (by decide) (by decide) (by decide))
theorem SM_ask {set : Int} (h : 0 ≤ set ∧ set ≤ 7) : ASK SM set = 0 := by
  unfold ASK
  rw [if_pos SM_M, if_pos]
  exact h
theorem SM_ask8 : ASK SM 8 = 1 := by
  unfold ASK
  rw [if_pos SM_M, if_neg]
  decide
theorem SM_rnk (set : Int) (k : Nat) : RNK SM set k := by
  intro j x hj e _
  have : x.lo = 0 ∧ x.hi = 10000 := by
    match j, e with
    | 0, e => simp [SM] at e; subst e; exact ⟨rfl, rfl⟩
    | 1, e => simp [SM] at e; subst e; exact ⟨rfl, rfl⟩
    | 2, e => simp [SM] at e; subst e; exact ⟨rfl, rfl⟩
    | j + 3, e => simp [SM] at e
  rw [this.1, this.2]
  decide
theorem SM_cap {a b : Int} (h : b ≤ 50) : CAP SMD.rs [a] [b] SMD.rs.length := by
  intro i x y z hi h1 h2 h3
  match i with
  | 0 =>
    simp at h1 h2 h3
    have : z = SMR := by simpa [SMD] using h3.symm
    subst h1; subst h2; subst this
    exact .inr h
  | i + 1 => simp at h1
theorem SM_step {l : List Int} {t : Int} (hl : LIT l) (h : SUMP l [0] [⟨true, 0⟩, ⟨true, 1⟩, ⟨true, 2⟩] = t) (h1 : 0 < t) (h2 : t ≤ 50) : STEPW SM 0 [6, 0, 1] l = if 7 - t = 0 then some 0 else none := by
  unfold STEPW
  have e1 : NDS SM.D [6, 0, 1] SM.D.rs.length = some [7] := SM_nds (by decide) (by decide) (by decide)
  have e2 : NDS SM.D l SM.D.rs.length = some [t] := SM_nds h h1 (by omega)
  rw [if_pos hl, e1, e2]
  show (if CAP SMD.rs [7] [t] SMD.rs.length then (if 0 ≤ 0 + (7 - t) ∧ 0 + (7 - t) ≤ (0 : Int) then some (0 + (7 - t)) else none) else none) = _
  rw [if_pos (SM_cap h2)]
  by_cases g : 7 - t = 0
  · rw [if_pos g, if_pos (by omega), g]; rfl
  · rw [if_neg g, if_neg (by omega)]
theorem SM_aft {set : Int} {l : List Int} {t : Int} (hm : MOVT SM set 3 = [l]) (hl : LIT l) (h : SUMP l [0] [⟨true, 0⟩, ⟨true, 1⟩, ⟨true, 2⟩] = t) (h1 : 0 < t) (h2 : t ≤ 50) : AFT SM set = if 7 - t = 0 then some [l] else none := by
  unfold AFT
  have hm' : MOVT SM set SM.os.length = [l] := hm
  have k0 : KPT SM [l] 0 = some 0 := rfl
  have k1 : KPT SM [l] SM.aw.length = if 7 - t = 0 then some 0 else none := by
    have := KPT_succ (M := SM) (T := [l]) (k := 0) (kept := 0) (o := [6, 0, 1]) (l := l) rfl rfl rfl
    rw [SM_step hl h h1 h2] at this
    exact this
  rw [if_pos (SM_rnk _ _), hm', k1]
  by_cases g : 7 - t = 0
  · rw [if_pos g, if_pos g]
  · rw [if_neg g, if_neg g]
theorem SM_a5 : AFT SM 5 = some [[2, 0, 5]] := SM_aft (t := 7) (by decide) (LIT_dec (by decide)) (by decide) (by decide) (by decide)
theorem SM_a1 : AFT SM 1 = none := SM_aft (l := [2, 0, 1]) (t := 3) (by decide) (LIT_dec (by decide)) (by decide) (by decide) (by decide)
theorem SM_a7 : AFT SM 7 = none := SM_aft (l := [2, 4, 5]) (t := 11) (by decide) (LIT_dec (by decide)) (by decide) (by decide) (by decide)
theorem SM_p5 : PE SM 5 = 0 := by
  unfold PE
  rw [if_neg (by rw [SM_ask (by decide)]; decide), if_neg]
  rw [SM_a5]
  rintro (h | h)
  · cases h
  · revert h; decide
theorem SM_p1 : PE SM 1 = 470 := by
  unfold PE
  rw [if_neg (by rw [SM_ask (by decide)]; decide), if_pos (.inl SM_a1)]
theorem SM_p7 : PE SM 7 = 470 := by
  unfold PE
  rw [if_neg (by rw [SM_ask (by decide)]; decide), if_pos (.inl SM_a7)]
theorem SM_p8 : PE SM 8 = 1 := by
  unfold PE
  rw [if_pos (by rw [SM_ask8]; decide), SM_ask8]
theorem SM_reb : REB SM.os 5 = [2, 0, 3] := by
  have hw : WGS SM.os 5 = [10, 0, 15] := by decide
  have hp : PRC SM.os 5 SM.os.length = 5 := by decide
  have prb : PRB SM.os := MC_prb SM_M
  have ck := CKW_ok prb 5 (by decide) (by decide)
  have ln := REB_len prb 5 (by decide) (by decide)
  unfold REB at ln ⊢
  rw [hw, hp] at ck ln ⊢
  have q := fun i x n e en => S.OUTS_q (i := i) (x := x) (n := n) ck (by decide) e en
  generalize S.OUTS 5 [10, 0, 15] = o at *
  match o, ln with
  | [a, b, c], _ =>
    have qa := q 0 10 a rfl rfl
    have qb := q 1 0 b rfl rfl
    have qc := q 2 15 c rfl rfl
    simp [S.SUMI] at qa qb qc
    rw [qa, qb, qc]
theorem SM_pays : PAYS SM.os 5 = [-12, 0, 12] := by
  unfold PAYS PAY
  rw [SM_reb]
  decide
theorem SM_mons : MONS SM 5 = [-12, 0, 12] := by
  have e : ∀ f : Int, MON (PAY SM.os 5) SM.os f SM.os.length = MON (fun i x => if BIT 5 i = 1 then x.pr - [2, 0, 3].getD i 0 else 0) SM.os f SM.os.length := fun f => by
    unfold PAY
    rw [SM_reb]
  unfold MONS
  simp only [e]
  decide
theorem SM_sts : STS (PAY SM.os 5) SM.os 5 2 SM.os.length = [⟨5, 12, 15, true⟩] := by
  unfold PAY
  rw [SM_reb]
  decide
end Go.Proofs.Ytbmmbefgmhhciaa

/-
  The chapter's example: sane.
-/
namespace Go.Proofs.Ytbmmbefgmhhciaa
open Go GoV
set_option maxRecDepth 100000

theorem e_pays (c c' : Option Nat) : ap Try.prog pol 15 [.vs 1 [I (-12), I 0, I 12] c, .vs 1 [I (-12), I 0, I 12] c'] = some (.ret (.bool true)) := c_same [-12, 0, 12] [-12, 0, 12] c c' (by decide)
set_option maxHeartbeats 8000000 in
theorem c_sane : ap Try.prog pol 6 [] = some (.ret (.bool true)) := by
  have hr := SM_ok
  have hv := SM_dv
  have hA := SM_av
  have p5 := c_pay hr hv hA 5
  have p1 := c_pay hr hv hA 1
  have p7 := c_pay hr hv hA 7
  have p8 := c_pay hr hv hA 8
  unfold PAYV at p5 p1 p7 p8
  rw [if_neg (by rw [SM_p5]; decide), SM_pays] at p5
  rw [if_pos (by rw [SM_p1]; decide), SM_p1] at p1
  rw [if_pos (by rw [SM_p7]; decide), SM_p7] at p7
  rw [if_pos (by rw [SM_p8]; decide), SM_p8] at p8
  obtain ⟨tv, ct, htv⟩ := c_Aft hr hv hA 5
  have tvl := htv _ (SM_ask (by decide)) SM_a5
  have b5 := c_books hr hv hA 5 tv ct htv
  unfold BKV at b5
  rw [if_neg (by rw [SM_p5]; decide), SM_mons] at b5
  have s5 := c_statements hr hv hA 5 2
  have s3 := c_statements hr hv hA 5 3
  unfold STMV at s5 s3
  rw [if_neg (by rw [SM_p5]; decide), if_neg (by decide), SM_sts] at s5
  rw [if_neg (by rw [SM_p5]; decide), if_pos (by decide)] at s3
  have st := STV tvl
  have tl : TVL [[2, 0, 5]] [PV.vs 1 [I 2, I 0, I 5] (some 3)] := by
    refine ⟨rfl, fun w l e => ?_⟩
    match w with
    | 0 =>
      simp only [List.getElem?_cons_zero, Option.some.injEq] at e
      subst e
      exact ⟨_, rfl, .inl ⟨some 3, rfl⟩⟩
    | w + 1 => simp at e
  have t5 := c_sameT [[2, 0, 5]] tv _ none (some 1) tvl tl (by decide) (by decide)
  have l5 := c_samest [⟨5, 12, 15, true⟩] none (some 1) (by decide)
  have l0 : ([(⟨5, 12, 15, true⟩ : Stm)].map stm) = [.agg [I 5, I 12, I 15, .bool true]] := rfl
  rw [l0] at s5 l5
  rw [ap_eq _ Try.func6 rfl Try.ntmps6 Try.results6 (by kernel_rfl) rfl (by exact Nat.le_of_ble_eq_true rfl)]
  simp (maxSteps := 999999) only [E0, seval, -Int.reduceNatCast', NUM, SRCH, SFRM, SCRP, SRGT, SDTY, hv.s0, hv.s1, hv.s2, hv.fz, SAV hA, SOFR, SLOT, INTS, c_small, p5, p1, p7, p8, b5, s5, s3, t5, l5, st, e_pays]
end Go.Proofs.Ytbmmbefgmhhciaa

/-
  Readings of a market.
-/
namespace Go.Proofs.Ytbmmbefgmhhciaa
open Go GoV
set_option maxRecDepth 100000

/-- Of which slices nil is told: lists of numbers. -/
def NN (t : Nat) : Bool := t == 38
theorem wf_bd {k : IntKind} {n : Int} (h : (Lit.int k n).wf = true) : k.min ≤ n ∧ n ≤ k.max := by
  simpa only [Lit.wf, Bool.and_eq_true, decide_eq_true_eq] using h
theorem wf_i64 {n : Int} (h : (Lit.int .i64 n).wf = true) : I64 n := by
  have := wf_bd h
  simp [IntKind.min, IntKind.max, IntKind.bits, IntKind.signed] at this
  exact this
theorem sh_int {g : Nat} {cs : List PV} (h : Sh NN Try.prog (g + 1) 3 cs) : ∃ n, cs = [I n] ∧ I64 n := by
  simp only [Sh, Try.underlying3] at h
  obtain ⟨n, rfl, w⟩ := h
  exact ⟨n, rfl, wf_i64 w⟩
theorem agg_int : aggB Try.prog 3 = false := by kernel_rfl
theorem agg_ints : aggB Try.prog 38 = false := by kernel_rfl
theorem agg_well : aggB Try.prog 196 = true := by kernel_rfl
theorem els_map {α : Type} {P : PV → Prop} (f : α → PV) (Q : α → Prop) (hP : ∀ x, P x → ∃ a, x = f a ∧ Q a) : ∀ (es : List PV), (∀ x ∈ es, P x) → ∃ l : List α, es = l.map f ∧ ∀ a ∈ l, Q a
  | [], _ => ⟨[], rfl, by simp⟩
  | e :: r, h => by
    obtain ⟨a, rfl, ha⟩ := hP e (h e (by simp))
    obtain ⟨l, rfl, hl⟩ := els_map f Q hP r fun x hx => h x (by simp [hx])
    refine ⟨a :: l, rfl, ?_⟩
    intro b hb
    rcases List.mem_cons.1 hb with rfl | hb
    · exact ha
    · exact hl b hb
theorem sh_str {g : Nat} {cs : List PV} (h : Sh NN Try.prog (g + 1) 9 cs) : ∃ s, cs = [.str s] := by
  simp only [Sh, Try.underlying9] at h
  obtain ⟨s, rfl, _⟩ := h
  exact ⟨s, rfl⟩
theorem sh_rat {g : Nat} {cs : List PV} (h : Sh NN Try.prog (g + 2) 80 cs) : ∃ a b, cs = [I a, I b] ∧ I64 a ∧ I64 b := by
  unfold Sh at h
  simp only [Try.underlying80, ShF] at h
  obtain ⟨_, _, rfl, h1, _, _, rfl, h2, rfl⟩ := h
  obtain ⟨a, rfl, ha⟩ := sh_int h1
  obtain ⟨b, rfl, hb⟩ := sh_int h2
  exact ⟨a, b, rfl, ha, hb⟩
theorem sh_range {g : Nat} {cs : List PV} (h : Sh NN Try.prog (g + 2) 48 cs) : ∃ a b, cs = [I a, I b] ∧ I64 a ∧ I64 b := by
  unfold Sh at h
  simp only [Try.underlying48, ShF] at h
  obtain ⟨_, _, rfl, h1, _, _, rfl, h2, rfl⟩ := h
  obtain ⟨a, rfl, ha⟩ := sh_int h1
  obtain ⟨b, rfl, hb⟩ := sh_int h2
  exact ⟨a, b, rfl, ha, hb⟩
theorem sh_tank {g : Nat} {cs : List PV} (h : Sh NN Try.prog (g + 2) 23 cs) : ∃ a b, cs = [I a, I b] ∧ I64 a ∧ I64 b := by
  unfold Sh at h
  simp only [Try.underlying23, ShF] at h
  obtain ⟨_, _, rfl, h1, _, _, rfl, h2, rfl⟩ := h
  obtain ⟨a, rfl, ha⟩ := sh_int h1
  obtain ⟨b, rfl, hb⟩ := sh_int h2
  exact ⟨a, b, rfl, ha, hb⟩
theorem sh_seep {g : Nat} {cs : List PV} (h : Sh NN Try.prog (g + 3) 81 cs) : ∃ a b c d, cs = [I a, I b, I c, I d] ∧ I64 a ∧ I64 b ∧ I64 c ∧ I64 d := by
  unfold Sh at h
  simp only [Try.underlying81, ShA] at h
  obtain ⟨_, _, rfl, h1, _, _, rfl, h2, rfl⟩ := h
  obtain ⟨a, b, rfl, ha, hb⟩ := sh_rat h1
  obtain ⟨c, d, rfl, hc, hd⟩ := sh_rat h2
  exact ⟨a, b, c, d, rfl, ha, hb, hc, hd⟩
theorem sh_rch {g : Nat} {cs : List PV} (h : Sh NN Try.prog (g + 4) 83 cs) : ∃ x : Rch, PV.agg cs = rch x ∧ x.OK := by
  unfold Sh at h
  simp only [Try.underlying83, ShF] at h
  obtain ⟨_, _, rfl, h1, _, _, rfl, h2, _, _, rfl, h3, _, _, rfl, h4, _, _, rfl, h5, _, _, rfl, h6, _, _, rfl, h7, _, _, rfl, h8, rfl⟩ := h
  obtain ⟨nm, rfl⟩ := sh_str h1
  obtain ⟨up, rfl, _⟩ := sh_int h2
  obtain ⟨dl, rfl, _⟩ := sh_int h3
  obtain ⟨cp, rfl, _⟩ := sh_int h4
  obtain ⟨bk, rfl, _⟩ := sh_int h5
  obtain ⟨si, rfl, _⟩ := sh_int h6
  obtain ⟨e0, e1, rfl, _⟩ := sh_range h7
  obtain ⟨s0, s1, s2, s3, rfl, a, b, c, d⟩ := sh_seep h8
  exact ⟨⟨nm, up, dl, cp, bk, si, e0, e1, s0, s1, s2, s3⟩, rfl, a, b, c, d⟩
theorem sh_frm {g : Nat} {cs : List PV} (h : Sh NN Try.prog (g + 2) 85 cs) : ∃ x : Frm, PV.agg cs = frm x := by
  unfold Sh at h
  simp only [Try.underlying85, ShF] at h
  obtain ⟨_, _, rfl, h1, _, _, rfl, h2, _, _, rfl, h3, _, _, rfl, h4, rfl⟩ := h
  obtain ⟨nm, rfl⟩ := sh_str h1
  obtain ⟨a, rfl, _⟩ := sh_int h2
  obtain ⟨b, rfl, _⟩ := sh_int h3
  obtain ⟨c, rfl, _⟩ := sh_int h4
  exact ⟨⟨nm, a, b, c⟩, rfl⟩
theorem sh_crp {g : Nat} {cs : List PV} (h : Sh NN Try.prog (g + 2) 152 cs) : ∃ x : Crp, PV.agg cs = crp x := by
  unfold Sh at h
  simp only [Try.underlying152, ShF] at h
  obtain ⟨_, _, rfl, h1, _, _, rfl, h2, rfl⟩ := h
  obtain ⟨nm, rfl⟩ := sh_str h1
  obtain ⟨a, rfl, _⟩ := sh_int h2
  exact ⟨⟨nm, a⟩, rfl⟩
theorem sh_rgt {g : Nat} {cs : List PV} (h : Sh NN Try.prog (g + 2) 154 cs) : ∃ x : Rgt, PV.agg cs = rgt x := by
  unfold Sh at h
  simp only [Try.underlying154, ShF] at h
  obtain ⟨_, _, rfl, h1, _, _, rfl, h2, _, _, rfl, h3, _, _, rfl, h4, _, _, rfl, h5, _, _, rfl, h6, _, _, rfl, h7, _, _, rfl, h8, _, _, rfl, h9, _, _, rfl, h10, rfl⟩ := h
  obtain ⟨nm, rfl⟩ := sh_str h1
  obtain ⟨a2, rfl, _⟩ := sh_int h2
  obtain ⟨a3, rfl, _⟩ := sh_int h3
  obtain ⟨a4, rfl, _⟩ := sh_int h4
  obtain ⟨a5, rfl, _⟩ := sh_int h5
  obtain ⟨a6, rfl, _⟩ := sh_int h6
  obtain ⟨a7, rfl, _⟩ := sh_int h7
  obtain ⟨a8, rfl, _⟩ := sh_int h8
  obtain ⟨a9, rfl, _⟩ := sh_int h9
  obtain ⟨a10, rfl, _⟩ := sh_int h10
  exact ⟨⟨nm, a2, a3, a4, a5, a6, a7, a8, a9, a10⟩, rfl⟩
theorem sh_dty {g : Nat} {cs : List PV} (h : Sh NN Try.prog (g + 2) 157 cs) : ∃ x : Dty, PV.agg cs = dty x := by
  unfold Sh at h
  simp only [Try.underlying157, ShF] at h
  obtain ⟨_, _, rfl, h1, _, _, rfl, h2, _, _, rfl, h3, _, _, rfl, h4, rfl⟩ := h
  obtain ⟨nm, rfl⟩ := sh_str h1
  obtain ⟨a, rfl, _⟩ := sh_int h2
  obtain ⟨b, rfl, _⟩ := sh_int h3
  obtain ⟨c, rfl, _⟩ := sh_int h4
  exact ⟨⟨nm, a, b, c⟩, rfl⟩
theorem agg_rch : aggB Try.prog 83 = true := by kernel_rfl
theorem agg_frm : aggB Try.prog 85 = true := by kernel_rfl
theorem agg_crp : aggB Try.prog 152 = true := by kernel_rfl
theorem agg_rgt : aggB Try.prog 154 = true := by kernel_rfl
theorem agg_dty : aggB Try.prog 157 = true := by kernel_rfl
theorem sh_list {α : Type} {g : Nat} {t e : Nat} (f : α → PV) (Q : α → Prop) (he : Try.prog.underlying t = some (.slice e)) (hN : NN t = false) (ha : aggB Try.prog e = true) (hP : ∀ cs, Sh NN Try.prog g e cs → ∃ a, PV.agg cs = f a ∧ Q a) {cs : List PV} (h : Sh NN Try.prog (g + 1) t cs) :
    ∃ l : List α, cs = [.vs (Try.prog.cellsOf e) (l.map f) none] ∧ ∀ a ∈ l, Q a := by
  obtain ⟨es, rfl, _, hx⟩ := Sh_slice he hN h
  obtain ⟨l, rfl, hl⟩ := els_map f Q (P := fun x => ∃ ps, x = elOf (aggB Try.prog e) ps ∧ Sh NN Try.prog g e ps) (by
    rintro x ⟨ps, rfl, hs⟩
    obtain ⟨a, ea, qa⟩ := hP ps hs
    exact ⟨a, by rw [ha]; exact ea, qa⟩) es hx
  exact ⟨l, rfl, hl⟩
theorem sh_nints {g : Nat} {cs : List PV} (h : Sh NN Try.prog (g + 2) 38 cs) : ∃ l v, cs = [v] ∧ RVN l v := by
  unfold Sh at h
  simp only [Try.underlying38] at h
  rcases h with ⟨_, rfl | ⟨c, rfl⟩⟩ | ⟨es, rfl, hn, _, hx⟩
  · exact ⟨[], _, rfl, .inr ⟨rfl, .inl rfl⟩⟩
  · exact ⟨[], _, rfl, .inr ⟨rfl, .inr ⟨c, rfl⟩⟩⟩
  · have hne := hn rfl
    obtain ⟨l, rfl, hl⟩ := els_map I I64 (P := fun x => ∃ ps, x = elOf (aggB Try.prog 3) ps ∧ Sh NN Try.prog (g + 1) 3 ps) (by
      rintro x ⟨ps, rfl, hs⟩
      obtain ⟨n, rfl, hn⟩ := sh_int hs
      exact ⟨n, by rw [agg_int]; rfl, hn⟩) es hx
    exact ⟨l, _, rfl, .inl ⟨fun e => hne (by rw [e]; rfl), none, rfl⟩⟩
/-- A well whose kernel is known. -/
def WLV (x : PV) : Prop := ∃ a b c l v, RVN l v ∧ x = .agg [I a, I b, I c, v]
theorem sh_wells {g : Nat} {cs : List PV} (h : Sh NN Try.prog (g + 4) 29 cs) : ∃ Ws, cs = [.vs 4 Ws none] ∧ ∀ x ∈ Ws, WLV x := by
  obtain ⟨es, rfl, _, hx⟩ := Sh_slice Try.underlying29 rfl h
  refine ⟨es, rfl, fun x hxm => ?_⟩
  obtain ⟨ps, rfl, hs⟩ := hx x hxm
  unfold Sh at hs
  simp only [Try.underlying196, ShF] at hs
  obtain ⟨_, _, rfl, h1, _, _, rfl, h2, _, _, rfl, h3, _, _, rfl, h4, rfl⟩ := hs
  obtain ⟨a, rfl, _⟩ := sh_int h1
  obtain ⟨b, rfl, _⟩ := sh_int h2
  obtain ⟨c, rfl, _⟩ := sh_int h3
  obtain ⟨l, v, rfl, hv⟩ := sh_nints h4
  exact ⟨a, b, c, l, v, hv, by rw [agg_well]; rfl⟩
theorem WLV.st {x : PV} (h : WLV x) : strip0 x = x ∧ (∀ H, strip1 H x = x) ∧ (∀ H, strip2 H x = x) := by
  obtain ⟨a, b, c, l, v, hv, rfl⟩ := h
  obtain ⟨⟨s0, s1, s2⟩, _⟩ := RVS hv.rv
  refine ⟨?_, fun H => ?_, fun H => ?_⟩
  · show PV.agg [I a, I b, I c, strip0 v] = _
    rw [s0]
  · show PV.agg [I a, I b, I c, strip1 H v] = _
    rw [s1]
  · show PV.agg [I a, I b, I c, strip2 H v] = _
    rw [s2]
theorem opened_dv (D : Dis) {Ws : List PV} (hw : ∀ x ∈ Ws, WLV x) (av : List PV) : DV D (qq D Ws av).cs (qq D Ws av).gs (qq D Ws av).ds (qq D Ws av).ws := by
  have w0 : Ws.map strip0 = Ws := map_id_of fun x hx => (hw x hx).st.1
  have w1 : ∀ H, Ws.map (strip1 H) = Ws := fun H => map_id_of fun x hx => (hw x hx).st.2.1 H
  have w2 : ∀ H, Ws.map (strip2 H) = Ws := fun H => map_id_of fun x hx => (hw x hx).st.2.2 H
  have e0 : strip0 (.vs 4 Ws none) = .vs 4 Ws none := by show PV.vs 4 (strip0L Ws) none = _; rw [strip0L_map, w0]
  have e1 : ∀ H, strip1 H (.vs 4 Ws none) = .vs 4 Ws none := fun H => by show PV.vs 4 (strip1L H Ws) none = _; rw [strip1L_map, w1]
  have e2 : ∀ H, strip2 H (.vs 4 Ws none) = .vs 4 Ws none := fun H => by show PV.vs 4 (strip2L H Ws) none = _; rw [strip2L_map, w2]
  have c0 := SCRP
  have g0 := SRGT
  have d0 := SDTY
  have a0 : strip0 (.vs 2 (D.cs.map crp) none) = .vs 2 (D.cs.map crp) none := by show PV.vs 2 (strip0L _) none = _; simp only [c0]
  have a1 : strip0 (.vs 10 (D.gs.map rgt) none) = .vs 10 (D.gs.map rgt) none := by show PV.vs 10 (strip0L _) none = _; simp only [g0]
  have a2 : strip0 (.vs 4 (D.ds.map dty) none) = .vs 4 (D.ds.map dty) none := by show PV.vs 4 (strip0L _) none = _; simp only [d0]
  refine ⟨SL_vs _ _ _, SL_vs _ _ _, SL_vs _ _ _, ⟨a0, a1, a2, e0⟩, fun H => ⟨?_, ?_, ?_, e1 H⟩, fun H => ⟨?_, ?_, ?_, e2 H⟩, fun H => ⟨?_, ?_, ?_, ?_⟩⟩
  · show PV.vs 2 (strip1L H _) none = _; simp only [c0]
  · show PV.vs 10 (strip1L H _) none = _; simp only [g0]
  · show PV.vs 4 (strip1L H _) none = _; simp only [d0]
  · show PV.vs 2 (strip2L H _) none = _; simp only [c0]
  · show PV.vs 10 (strip2L H _) none = _; simp only [g0]
  · show PV.vs 4 (strip2L H _) none = _; simp only [d0]
  · show (strip0 (.vs 2 (D.cs.map crp) none), H) = _; rw [a0]
  · show (strip0 (.vs 10 (D.gs.map rgt) none), H) = _; rw [a1]
  · show (strip0 (.vs 4 (D.ds.map dty) none), H) = _; rw [a2]
  · show (strip0 (.vs 4 Ws none), H) = _; rw [e0]
theorem sh_lot {g : Nat} {cs : List PV} (h : Sh NN Try.prog (g + 2) 104 cs) : ∃ x : Lot, PV.agg cs = lot x := by
  unfold Sh at h
  simp only [Try.underlying104, ShF] at h
  obtain ⟨_, _, rfl, h1, _, _, rfl, h2, rfl⟩ := h
  obtain ⟨a, rfl, _⟩ := sh_int h1
  obtain ⟨b, rfl, _⟩ := sh_int h2
  exact ⟨⟨a, b⟩, rfl⟩
theorem agg_lot : aggB Try.prog 104 = true := by kernel_rfl
theorem agg_ofr : aggB Try.prog 51 = true := by kernel_rfl
theorem sh_ofr {g : Nat} {cs : List PV} (h : Sh NN Try.prog (g + 4) 51 cs) : ∃ x : Ofr, PV.agg cs = ofr none x := by
  unfold Sh at h
  simp only [Try.underlying51, ShF] at h
  obtain ⟨_, _, rfl, h1, _, _, rfl, h2, _, _, rfl, h3, _, _, rfl, h4, _, _, rfl, h5, rfl⟩ := h
  obtain ⟨a, rfl, _⟩ := sh_int h1
  obtain ⟨b, rfl, _⟩ := sh_int h2
  obtain ⟨c, rfl, _⟩ := sh_int h3
  obtain ⟨lo, hi, rfl, _⟩ := sh_range h4
  obtain ⟨l, rfl, _⟩ := sh_list lot (fun _ => True) Try.underlying49 rfl agg_lot (fun cs h => by obtain ⟨x, e⟩ := sh_lot h; exact ⟨x, e, trivial⟩) h5
  exact ⟨⟨a, b, c, lo, hi, l⟩, rfl⟩
theorem av_of : ∀ {av : List PV}, (∀ x ∈ av, ∃ l, RVN l x) → ∃ aw, AWV aw av
  | [], _ => ⟨[], rfl, fun i l e => by simp at e⟩
  | v :: r, h => by
    obtain ⟨l, hl⟩ := h v (by simp)
    obtain ⟨aw, hw⟩ := av_of fun x hx => h x (List.mem_cons_of_mem v hx)
    refine ⟨l :: aw, by simp [hw.len], fun i m e => ?_⟩
    match i with
    | 0 =>
      simp only [List.getElem?_cons_zero, Option.some.injEq] at e
      subst e
      exact ⟨v, rfl, hl⟩
    | i + 1 =>
      simp only [List.getElem?_cons_succ] at e ⊢
      exact hw.get i m e
theorem sh_awards {g : Nat} {cs : List PV} (h : Sh NN Try.prog (g + 3) 32 cs) : ∃ aw av, cs = [.vs 1 av none] ∧ AWV aw av := by
  obtain ⟨es, rfl, _, hx⟩ := Sh_slice Try.underlying32 rfl h
  obtain ⟨aw, ha⟩ := av_of (av := es) fun x hxm => by
    obtain ⟨ps, rfl, hs⟩ := hx x hxm
    obtain ⟨l, v, rfl, hv⟩ := sh_nints hs
    exact ⟨l, by rw [agg_ints]; exact hv⟩
  exact ⟨aw, es, rfl, ha⟩
theorem sh_mkt {g : Nat} {cs : List PV} (h : Sh NN Try.prog (g + 7) 35 cs) : ∃ (M : Mkt) (Ws av : List PV), PV.agg cs = .agg (mcl M (qq M.D Ws av)) ∧ (∀ x ∈ M.D.rs, x.OK) ∧ (∀ x ∈ Ws, WLV x) ∧ AWV M.aw av := by
  unfold Sh at h
  simp only [Try.underlying35, ShF] at h
  obtain ⟨_, _, rfl, h0, _, _, rfl, ha, _, _, rfl, hroom, _, _, rfl, hrain, _, _, rfl, ho, rfl⟩ := h
  obtain ⟨aw, av, rfl, hA⟩ := sh_awards ha
  obtain ⟨room, rfl, _⟩ := sh_int hroom
  obtain ⟨rain, rfl, _⟩ := sh_int hrain
  obtain ⟨os, rfl, _⟩ := sh_list (ofr none) (fun _ => True) Try.underlying33 rfl agg_ofr (fun cs h => by obtain ⟨x, e⟩ := sh_ofr h; exact ⟨x, e, trivial⟩) ho
  unfold Sh at h0
  simp only [Try.underlying31, ShF] at h0
  obtain ⟨_, _, rfl, h1, _, _, rfl, h2, _, _, rfl, h3, _, _, rfl, h4, _, _, rfl, h5, _, _, rfl, h6, _, _, rfl, h7, _, _, rfl, h8, _, _, rfl, h9, rfl⟩ := h0
  obtain ⟨nm, rfl⟩ := sh_str h1
  obtain ⟨hours, rfl, _⟩ := sh_int h2
  obtain ⟨cap, start, rfl, _⟩ := sh_tank h3
  obtain ⟨rs, rfl, hr⟩ := sh_list rch Rch.OK Try.underlying24 rfl agg_rch (fun cs h => sh_rch h) h4
  obtain ⟨fs, rfl, _⟩ := sh_list frm (fun _ => True) Try.underlying25 rfl agg_frm (fun cs h => by obtain ⟨x, e⟩ := sh_frm h; exact ⟨x, e, trivial⟩) h5
  obtain ⟨cs, rfl, _⟩ := sh_list crp (fun _ => True) Try.underlying26 rfl agg_crp (fun cs h => by obtain ⟨x, e⟩ := sh_crp h; exact ⟨x, e, trivial⟩) h6
  obtain ⟨gs, rfl, _⟩ := sh_list rgt (fun _ => True) Try.underlying27 rfl agg_rgt (fun cs h => by obtain ⟨x, e⟩ := sh_rgt h; exact ⟨x, e, trivial⟩) h7
  obtain ⟨ds, rfl, _⟩ := sh_list dty (fun _ => True) Try.underlying28 rfl agg_dty (fun cs h => by obtain ⟨x, e⟩ := sh_dty h; exact ⟨x, e, trivial⟩) h8
  obtain ⟨Ws, rfl, hw⟩ := sh_wells h9
  exact ⟨⟨⟨nm, hours, cap, start, rs, fs, cs, gs, ds⟩, aw, room, rain, os⟩, Ws, av, rfl, hr, hw, hA⟩
theorem agg_mkt : aggB Try.prog 35 = true := by kernel_rfl
end Go.Proofs.Ytbmmbefgmhhciaa
