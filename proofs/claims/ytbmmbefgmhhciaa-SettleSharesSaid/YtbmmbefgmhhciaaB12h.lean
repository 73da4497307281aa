/-
  The rebate of an offer differs by less than one from its exact share: the law.
-/
import Derived.Test.YtbmmbefgmhhciaaB11h
set_option linter.unusedSimpArgs false
set_option linter.unusedVariables false
set_option linter.unusedSectionVars false
namespace Go.Proofs.Ytbmmbefgmhhciaa
open Go GoV
set_option maxRecDepth 100000

section
variable {M : Mkt} {Ws av : List PV} (hr : ∀ x ∈ M.D.rs, x.OK) (hv : DV M.D (qq M.D Ws av).cs (qq M.D Ws av).gs (qq M.D Ws av).ds (qq M.D Ws av).ws) (hA : AWV M.aw (qq M.D Ws av).av)
include hr hv hA
set_option maxHeartbeats 8000000 in
theorem w_shares (set : Int) : ap Try.prog pol 4 [.agg (mcl M (qq M.D Ws av)), I set] = some (.ret (.bool true)) := by
  obtain ⟨b0, cf⟩ := c_few hv hA
  have cp := c_pay hr hv hA set
  have cv := c_value hr hv hA set
  have hlen := SAV hA
  unfold PAYV at cp
  unfold VALV at cv
  rw [ap_eq _ Try.func4 rfl Try.ntmps4 Try.results4 (by kernel_rfl) rfl (by exact Nat.le_of_ble_eq_true rfl)]
  cases b0 with
  | false =>
    simp (maxSteps := 999999) only [E0, seval, -Int.reduceNatCast', NUM, SRCH, SFRM, SCRP, SRGT, SDTY, hv.s0, hv.s1, hv.s2, hv.fz, hlen, SOFR, SLOT, INTS, List.length_map, Int.toNat_natCast, c_sane, cf]
  | true =>
  by_cases h : PE M set = 0
  rotate_left
  · rw [if_pos h] at cp
    simp (maxSteps := 999999) only [E0, seval, -Int.reduceNatCast', NUM, SRCH, SFRM, SCRP, SRGT, SDTY, hv.s0, hv.s1, hv.s2, hv.fz, hlen, SOFR, SLOT, INTS, List.length_map, Int.toNat_natCast, c_sane, cf, cp, h]
  rw [if_neg (fun g => g h)] at cp
  obtain ⟨h0, ha, hp⟩ := PE_0 h
  rw [if_neg (fun g => g h0), if_neg ha] at cv
  have prb := MC_prb (ASK_0 h0).1
  have lo := (MC_0 (ASK_0 h0).1).2.2.1
  have pl := PAYS_len M.os set
  simp (maxSteps := 999999) only [E0, seval, -Int.reduceNatCast', NUM, SRCH, SFRM, SCRP, SRGT, SDTY, hv.s0, hv.s1, hv.s2, hv.fz, hlen, SOFR, SLOT, INTS, List.length_map, Int.toNat_natCast, c_sane, cf, cp, cv, pl, (show ¬ PRC M.os set M.os.length < 0 by omega)]
  generalize hL : W _ (.loop _) _ = L
  obtain ⟨ex, s, rfl, hex, hd, hf⟩ := loop_at hL (α := Nat) (fun k => M.os.length - k)
    (fun s0 k s => k ≤ M.os.length ∧ (∀ x ∈ M.os.take k, -67108864 ≤ x.pr ∧ x.pr ≤ 67108864) ∧ s.tmps 58 = I k ∧ s.tmps 57 = I M.os.length ∧ s.tmps 56 = .vs 6 (M.os.map (ofr none)) none ∧ s.tmps 1 = I set ∧ s.tmps 2 = .bptr 0 2 0 0 ∧ s.boxes 2 = some (0, mcl M (qq M.D Ws av)) ∧ s.tmps 5 = .vs 1 ((PAYS M.os set).map I) none ∧ s.tmps 7 = I (PRC M.os set M.os.length) ∧ s.tmps 10 = I (WSUM M.os set k) ∧ s.defers = [] ∧ s.fid = 0)
    (fun s0 ex s => ((ex = .exit 0 ∧ (∀ x ∈ M.os, -67108864 ≤ x.pr ∧ x.pr ≤ 67108864) ∧ s.tmps 1 = I set ∧ s.tmps 2 = .bptr 0 2 0 0 ∧ s.boxes 2 = some (0, mcl M (qq M.D Ws av)) ∧ s.tmps 5 = .vs 1 ((PAYS M.os set).map I) none ∧ s.tmps 7 = I (PRC M.os set M.os.length) ∧ s.tmps 10 = I (WSUM M.os set M.os.length)) ∨ (ex = .ret ∧ s.tmps 4 = .bool true)) ∧ s.defers = [] ∧ s.fid = 0) 0
    (by simp (maxSteps := 999999) only [E0, seval, -Int.reduceNatCast']; exact ⟨Nat.zero_le _, by simp, by simp, by simp [WSUM, S.SUMI]⟩) (by
      rintro k s r hW ⟨hk, hB, h58, h57, h56, h1, h2, hb2, h5, h7, h10, hd, hf⟩
      by_cases hp' : k < M.os.length
      rotate_left
      · simp (maxSteps := 999999) only [E0, seval, -Int.reduceNatCast', NUM, h58, h57, hd, hf, (show ¬ (k : Int) < M.os.length by omega)] at hW
        subst hW
        have : k = M.os.length := by omega
        subst this
        rw [List.take_length] at hB
        exact rd_exit ⟨.inl ⟨rfl, hB, by simp (maxSteps := 999999) only [E0, seval, -Int.reduceNatCast', h1, h2, hb2, h5, h7, h10]⟩, by simp (maxSteps := 999999) only [E0, seval, -Int.reduceNatCast', hd]⟩
      obtain ⟨x, e0⟩ : ∃ x, M.os[k]? = some x := ⟨_, List.getElem?_eq_getElem hp'⟩
      have e1 := map_get (f := ofr none) e0
      have xb := prb x (List.mem_of_getElem? e0)
      have ws := WSUM_succ (set := set) e0
      have wb := WSUM_bd (B := 67108864) (by decide) set k hB (by omega)
      have ci := c_inn set k (by omega)
      have tk : M.os.take (k + 1) = M.os.take k ++ [x] := by rw [List.take_add_one, e0]; rfl
      unfold WGT at ws
      rcases hb12 : s.boxes 12 with _ | ⟨v12, c12⟩
      all_goals
        by_cases q1 : 67108864 < x.pr
        · simp (maxSteps := 999999) only [E0, seval, -Int.reduceNatCast', NUM, SRCH, SFRM, SCRP, SRGT, SDTY, hv.s0, hv.s1, hv.s2, hv.fz, hlen, SOFR, SLOT, INTS, List.length_map, Int.toNat_natCast, h58, h57, h56, h1, h2, hb2, h5, h7, h10, hb12, e1, q1, hd, hf, (show (k : Int) < M.os.length by omega), (show (0 : Int) ≤ k by omega)] at hW
          subst hW
          exact rd_ret ⟨.inr ⟨rfl, by simp (maxSteps := 999999) only [E0, seval, -Int.reduceNatCast']⟩, by simp (maxSteps := 999999) only [E0, seval, -Int.reduceNatCast', hd]⟩
        by_cases q2 : x.pr < -67108864
        · simp (maxSteps := 999999) only [E0, seval, -Int.reduceNatCast', NUM, SRCH, SFRM, SCRP, SRGT, SDTY, hv.s0, hv.s1, hv.s2, hv.fz, hlen, SOFR, SLOT, INTS, List.length_map, Int.toNat_natCast, h58, h57, h56, h1, h2, hb2, h5, h7, h10, hb12, e1, q1, q2, hd, hf, (show (k : Int) < M.os.length by omega), (show (0 : Int) ≤ k by omega)] at hW
          subst hW
          exact rd_ret ⟨.inr ⟨rfl, by simp (maxSteps := 999999) only [E0, seval, -Int.reduceNatCast']⟩, by simp (maxSteps := 999999) only [E0, seval, -Int.reduceNatCast', hd]⟩
        have hB' : ∀ y ∈ M.os.take (k + 1), -67108864 ≤ y.pr ∧ y.pr ≤ 67108864 := by
          intro y hy
          rw [tk] at hy
          rcases List.mem_append.1 hy with hy | hy
          · exact hB y hy
          · simp only [List.mem_singleton] at hy; subst hy; omega
        have ab : 0 ≤ ABS x.pr ∧ ABS x.pr ≤ 67108864 := by unfold ABS; omega
        by_cases hb : BIT set k = 1
        · rw [if_pos hb] at ws
          rw [decide_eq_true hb] at ci
          have ea : max x.pr (-x.pr) = ABS x.pr := rfl
          simp (maxSteps := 999999) only [E0, seval, -Int.reduceNatCast', NUM, SRCH, SFRM, SCRP, SRGT, SDTY, hv.s0, hv.s1, hv.s2, hv.fz, hlen, SOFR, SLOT, INTS, List.length_map, Int.toNat_natCast, ci, h58, h57, h56, h1, h2, hb2, h5, h7, h10, hb12, e1, q1, q2, ea, Int.zero_sub, hd, hf, (show (k : Int) < M.os.length by omega), (show (0 : Int) ≤ k by omega), (i64_in (x := -x.pr) (by unfold I64; omega)), (i64_in (x := (k : Int) + 1) (by unfold I64; omega)), (i64_in (x := WSUM M.os set k + ABS x.pr) (by unfold I64; omega))] at hW
          subst hW
          refine rd_next (k + 1) ?_ (show M.os.length - (k + 1) < M.os.length - k by omega)
          simp (maxSteps := 999999) only [E0, seval, -Int.reduceNatCast', h57, h56, h1, h2, hb2, h5, h7, ws, hd]
          exact ⟨by omega, hB', by simp⟩
        · rw [if_neg hb, Int.add_zero] at ws
          rw [decide_eq_false hb] at ci
          simp (maxSteps := 999999) only [E0, seval, -Int.reduceNatCast', NUM, SRCH, SFRM, SCRP, SRGT, SDTY, hv.s0, hv.s1, hv.s2, hv.fz, hlen, SOFR, SLOT, INTS, List.length_map, Int.toNat_natCast, ci, h58, h57, h56, h1, h2, hb2, h5, h7, h10, hb12, e1, q1, q2, hd, hf, (show (k : Int) < M.os.length by omega), (show (0 : Int) ≤ k by omega), (i64_in (x := (k : Int) + 1) (by unfold I64; omega))] at hW
          subst hW
          refine rd_next (k + 1) ?_ (show M.os.length - (k + 1) < M.os.length - k by omega)
          simp (maxSteps := 999999) only [E0, seval, -Int.reduceNatCast', h57, h56, h1, h2, hb2, h5, h7, h10, ws, hd]
          exact ⟨by omega, hB', by simp⟩)
  clear hL
  rcases hex with ⟨rfl, hB, h1, h2, hb2, h5, h7, h10⟩ | ⟨rfl, h4⟩
  rotate_left
  · simp (maxSteps := 999999) only [E0, seval, -Int.reduceNatCast', hd, h4]
  obtain ⟨Z, hZ⟩ : ∃ Z, WSUM M.os set M.os.length = Z := ⟨_, rfl⟩
  obtain ⟨V, hV⟩ : ∃ V, PRC M.os set M.os.length = V := ⟨_, rfl⟩
  have zb := WSUM_bd (B := 67108864) (by decide) set M.os.length (by rw [List.take_length]; exact hB) (Nat.le_refl _)
  have vb := PRC_bdB hB (by decide) set M.os.length
  rw [hZ] at h10 zb
  rw [hV] at h7 vb
  have lR := REB_len prb set lo hp
  have bR := REB_le prb set lo hp
  rw [hV] at bR
  simp (maxSteps := 999999) only [E0, seval, -Int.reduceNatCast', NUM, SRCH, SFRM, SCRP, SRGT, SDTY, hv.s0, hv.s1, hv.s2, hv.fz, hlen, SOFR, SLOT, INTS, List.length_map, Int.toNat_natCast, h1, h2, hb2, h5, h7, h10, hd, hf]
  generalize hL : W _ (.loop _) _ = L
  obtain ⟨ex, s, rfl, rfl, hd⟩ := loop_at hL (α := Nat) (fun k => M.os.length - k)
    (fun s0 k s => k ≤ M.os.length ∧ s.tmps 86 = I k ∧ s.tmps 85 = I M.os.length ∧ s.tmps 84 = .vs 6 (M.os.map (ofr none)) none ∧ s.tmps 1 = I set ∧ s.tmps 5 = .vs 1 ((PAYS M.os set).map I) none ∧ s.tmps 7 = I V ∧ s.tmps 10 = I Z ∧ s.defers = [] ∧ s.fid = 0)
    (fun s0 ex s => ex = .exit 2 ∧ s.defers = []) 0
    (by simp (maxSteps := 999999) only [E0, seval, -Int.reduceNatCast', h1, h5, h7, h10]; exact ⟨Nat.zero_le _, by simp⟩) (by
      rintro k s r hW ⟨hk, h86, h85, h84, h1, h5, h7, h10, hd, hf⟩
      by_cases hp' : k < M.os.length
      rotate_left
      · simp (maxSteps := 999999) only [E0, seval, -Int.reduceNatCast', NUM, h86, h85, hd, hf, (show ¬ (k : Int) < M.os.length by omega)] at hW
        subst hW
        exact rd_exit ⟨rfl, by simp (maxSteps := 999999) only [E0, seval, -Int.reduceNatCast', hd]⟩
      obtain ⟨x, e0⟩ : ∃ x, M.os[k]? = some x := ⟨_, List.getElem?_eq_getElem hp'⟩
      have e1 := map_get (f := ofr none) e0
      have xb := hB x (List.mem_of_getElem? e0)
      have y0 := PAYS_get (set := set) e0
      have y1 := ints_get y0
      have ci := c_inn set k (by omega)
      rcases hb14 : s.boxes 14 with _ | ⟨v14, c14⟩
      all_goals
        by_cases hb : BIT set k = 1
        rotate_left
        · rw [decide_eq_false hb] at ci
          simp (maxSteps := 999999) only [E0, seval, -Int.reduceNatCast', NUM, SRCH, SFRM, SCRP, SRGT, SDTY, hv.s0, hv.s1, hv.s2, hv.fz, hlen, SOFR, SLOT, INTS, List.length_map, Int.toNat_natCast, ci, h86, h85, h84, h1, h5, h7, h10, hb14, e1, hd, hf, (show (k : Int) < M.os.length by omega), (show (0 : Int) ≤ k by omega), (i64_in (x := (k : Int) + 1) (by unfold I64; omega))] at hW
          subst hW
          refine rd_next (k + 1) ?_ (show M.os.length - (k + 1) < M.os.length - k by omega)
          simp (maxSteps := 999999) only [E0, seval, -Int.reduceNatCast', h85, h84, h1, h5, h7, h10, hd]
          exact ⟨by omega, by simp⟩
        rw [decide_eq_true hb] at ci
        obtain ⟨n, en⟩ : ∃ n, (REB M.os set)[k]? = some n := ⟨_, List.getElem?_eq_getElem (by omega)⟩
        have nb := bR n (List.mem_of_getElem? en)
        have rd : (REB M.os set).getD k 0 = n := by simp [List.getD_eq_getElem?_getD, en]
        have py : PAY M.os set k x = x.pr - n := by unfold PAY; rw [if_pos hb, rd]
        rw [py] at y1
        have rs := REB_share prb lo hp e0 hb en hZ hV zb.1
        have ab : 0 ≤ ABS x.pr ∧ ABS x.pr ≤ 67108864 := by unfold ABS; omega
        have ea : max x.pr (-x.pr) = ABS x.pr := rfl
        generalize ABS x.pr = A at *
        have m1 : 0 ≤ n * Z ∧ n * Z ≤ 805306368 * 805306368 := ⟨Int.mul_nonneg nb.1 zb.1, Int.mul_le_mul (by omega) (by omega) zb.1 (by decide)⟩
        have m2 : 0 ≤ V * A ∧ V * A ≤ 805306368 * 67108864 := ⟨Int.mul_nonneg (by omega) ab.1, Int.mul_le_mul (by omega) (by omega) ab.1 (by decide)⟩
        have ed : x.pr - (x.pr - n) = n := by omega
        rcases Int.lt_or_eq_of_le zb.1 with hz | hz
        · have rs := rs.1 hz
          simp (maxSteps := 999999) only [E0, seval, -Int.reduceNatCast', NUM, SRCH, SFRM, SCRP, SRGT, SDTY, hv.s0, hv.s1, hv.s2, hv.fz, hlen, SOFR, SLOT, INTS, List.length_map, Int.toNat_natCast, ci, ea, ed, rs, hz, h86, h85, h84, h1, h5, h7, h10, hb14, e1, y1, pl, Int.zero_sub, hd, hf, (show (k : Int) < M.os.length by omega), (show (0 : Int) ≤ k by omega), (i64_in (x := -x.pr) (by unfold I64; omega)), (i64_in (x := -Z) (by unfold I64; omega)), (i64_in (x := n) (by unfold I64; omega)), (i64_in (x := n * Z) (by unfold I64; omega)), (i64_in (x := V * A) (by unfold I64; omega)), (i64_in (x := n * Z - V * A) (by unfold I64; omega)), (i64_in (x := (k : Int) + 1) (by unfold I64; omega)), (show ¬ Z = 0 by omega)] at hW
          subst hW
          refine rd_next (k + 1) ?_ (show M.os.length - (k + 1) < M.os.length - k by omega)
          simp (maxSteps := 999999) only [E0, seval, -Int.reduceNatCast', h85, h84, h1, h5, h7, h10, hd]
          exact ⟨by omega, by simp⟩
        · have n0 := rs.2 hz.symm
          have hz := hz.symm
          subst hz
          subst n0
          simp (maxSteps := 999999) only [E0, seval, -Int.reduceNatCast', NUM, SRCH, SFRM, SCRP, SRGT, SDTY, hv.s0, hv.s1, hv.s2, hv.fz, hlen, SOFR, SLOT, INTS, List.length_map, Int.toNat_natCast, ci, ea, ed, h86, h85, h84, h1, h5, h7, h10, hb14, e1, y1, pl, Int.zero_sub, Int.mul_zero, Int.zero_mul, hd, hf, (show (k : Int) < M.os.length by omega), (show (0 : Int) ≤ k by omega), (i64_in (x := -x.pr) (by unfold I64; omega)), (i64_in (x := (0 : Int)) (by unfold I64; omega)), (i64_in (x := V * A) (by unfold I64; omega)), (i64_in (x := -(V * A)) (by unfold I64; omega)), (i64_in (x := (k : Int) + 1) (by unfold I64; omega))] at hW
          subst hW
          refine rd_next (k + 1) ?_ (show M.os.length - (k + 1) < M.os.length - k by omega)
          simp (maxSteps := 999999) only [E0, seval, -Int.reduceNatCast', h85, h84, h1, h5, h7, h10, hd]
          exact ⟨by omega, by simp⟩)
  simp (maxSteps := 999999) only [E0, seval, -Int.reduceNatCast', hd]
end
end Go.Proofs.Ytbmmbefgmhhciaa
