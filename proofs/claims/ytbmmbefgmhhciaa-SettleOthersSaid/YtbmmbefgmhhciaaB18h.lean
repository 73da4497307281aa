/-
  Farms that have no offer in a set; offers taken back: the law.
-/
import Derived.Test.YtbmmbefgmhhciaaB16h
import Derived.Test.YtbmmbefgmhhciaaB17h
set_option linter.unusedSimpArgs false
set_option linter.unusedVariables false
set_option linter.unusedSectionVars false
namespace Go.Proofs.Ytbmmbefgmhhciaa
open Go GoV
set_option maxRecDepth 100000

theorem bv_nat (a : Nat) (h : a < 9223372036854775808) : (BitVec.ofInt IntKind.i64.bits (a : Int)).toNat = a := by
  rw [BitVec.toNat_ofInt]
  simp [IntKind.bits]
  omega
theorem set_nums (n k : Nat) (hn : n < 4096) (hk : k < 12) : ∃ p q a s1 s2 : Nat, IntKind.i64.wrap (1 * 2 ^ min k IntKind.i64.bits) = (p : Int) ∧ IntKind.i64.wrap ((p : Int) - 1) = (q : Int) ∧ IntKind.i64.wrap ((BitVec.ofInt IntKind.i64.bits (n : Int) &&& BitVec.ofInt IntKind.i64.bits (q : Int)).toNat : Int) = (a : Int) ∧ (n : Int).fdiv (2 ^ min (k + 1) IntKind.i64.bits) = (s1 : Int) ∧ IntKind.i64.wrap ((s1 : Int) * 2 ^ min k IntKind.i64.bits) = (s2 : Int) ∧ IntKind.i64.wrap ((BitVec.ofInt IntKind.i64.bits (a : Int) ||| BitVec.ofInt IntKind.i64.bits (s2 : Int)).toNat : Int) = ((LSET n k : Nat) : Int) := by
  have hb : min k IntKind.i64.bits = k := Nat.min_eq_left (by show k ≤ 64; omega)
  have hb1 : min (k + 1) IntKind.i64.bits = k + 1 := Nat.min_eq_left (by show k + 1 ≤ 64; omega)
  have p0 : 1 ≤ 2 ^ k := Nat.one_le_two_pow
  have p1 : 2 ^ k ≤ 2 ^ 12 := Nat.pow_le_pow_right (by decide) (by omega)
  have pz : (2 : Int) ^ k = ((2 ^ k : Nat) : Int) := by rw [Int.natCast_pow]; rfl
  have pz1 : (2 : Int) ^ (k + 1) = ((2 ^ (k + 1) : Nat) : Int) := by rw [Int.natCast_pow]; rfl
  have s1l : n >>> (k + 1) < 4096 := by rw [Nat.shiftRight_eq_div_pow]; exact Nat.lt_of_le_of_lt (Nat.div_le_self _ _) hn
  have s2l : (n >>> (k + 1)) <<< k ≤ 4096 * 4096 := by
    rw [Nat.shiftLeft_eq]
    exact Nat.mul_le_mul (by omega) (by omega)
  have al : n % 2 ^ k < 4096 := Nat.lt_of_le_of_lt (Nat.mod_le _ _) hn
  have ll : LSET n k < 2048 := LSET_lt (N := 12) hn hk
  refine ⟨2 ^ k, 2 ^ k - 1, n % 2 ^ k, n >>> (k + 1), (n >>> (k + 1)) <<< k, ?_, ?_, ?_, ?_, ?_, ?_⟩
  · rw [hb, Int.one_mul, pz, i64_in (by unfold I64; omega)]
  · rw [i64_in (by unfold I64; omega)]; omega
  · rw [BitVec.toNat_and, bv_nat _ (by omega), bv_nat _ (by omega), Nat.and_two_pow_sub_one_eq_mod, i64_in (by unfold I64; omega)]
  · rw [hb1, pz1, Nat.shiftRight_eq_div_pow, Int.fdiv_eq_ediv_of_nonneg _ (by omega), Int.natCast_ediv]
  · rw [hb, pz, ← Int.natCast_mul, ← Nat.shiftLeft_eq]
    generalize (n >>> (k + 1)) <<< k = v at *
    exact i64_in (by unfold I64; omega)
  · rw [BitVec.toNat_or, bv_nat _ (by omega), bv_nat _ (by omega)]
    show IntKind.i64.wrap ((LSET n k : Nat) : Int) = _
    rw [i64_in (by unfold I64; omega)]
section
variable {M : Mkt} {Ws av : List PV} (hr : ∀ x ∈ M.D.rs, x.OK) (hv : DV M.D (qq M.D Ws av).cs (qq M.D Ws av).gs (qq M.D Ws av).ds (qq M.D Ws av).ws) (hA : AWV M.aw (qq M.D Ws av).av)
include hr hv hA
set_option maxHeartbeats 16000000 in
theorem w_others (set : Int) (at_ : Int) (hat : 0 ≤ at_ ∧ at_ ≤ 255) : ap Try.prog pol 5 [.agg (mcl M (qq M.D Ws av)), I set, .int .u8 at_] = some (.ret (.bool true)) := by
  obtain ⟨b0, cf⟩ := c_few hv hA
  have cp := c_pay hr hv hA set
  obtain ⟨tv, ct, htv⟩ := c_Aft hr hv hA set
  have cb := c_books hr hv hA set tv ct htv
  have hlen := SAV hA
  unfold PAYV at cp
  unfold BKV at cb
  rw [ap_eq _ Try.func5 rfl Try.ntmps5 Try.results5 (by kernel_rfl) rfl (by exact Nat.le_of_ble_eq_true rfl)]
  cases b0 with
  | false =>
    simp (maxSteps := 999999) only [E0, seval, -Int.reduceNatCast', NUM, SRCH, SFRM, SCRP, SRGT, SDTY, hv.s0, hv.s1, hv.s2, hv.fz, hlen, SOFR, SLOT, INTS, List.length_map, Int.toNat_natCast, c_sane, cf]
  | true =>
  by_cases h : PE M set = 0
  rotate_left
  · rw [if_pos h] at cp cb
    simp (maxSteps := 999999) only [E0, seval, -Int.reduceNatCast', NUM, SRCH, SFRM, SCRP, SRGT, SDTY, hv.s0, hv.s1, hv.s2, hv.fz, hlen, SOFR, SLOT, INTS, List.length_map, Int.toNat_natCast, c_sane, cf, cp, cb, h]
  rw [if_neg (fun g => g h)] at cp cb
  obtain ⟨h0, ha, hp⟩ := PE_0 h
  obtain ⟨T, hT⟩ : ∃ T, AFT M set = some T := Option.ne_none_iff_exists'.1 ha
  have tvl := htv T h0 hT
  have st := STV tvl
  have hM := (ASK_0 h0).1
  have prb := MC_prb hM
  have lo := (MC_0 hM).2.2.1
  have l8 := (MC_0 hM).2.1
  have lfs := (XC_0 (MC_0 hM).1).1.2.1
  have sz := MOVT_sz hM set (k := M.os.length) (Nat.le_refl _)
  have tM := AFT_eq hT
  rw [← tM] at sz
  have tl : tv.length = M.aw.length := by rw [tvl.len, sz.len]
  have pl := PAYS_len M.os set
  have ml := MONS_len M set
  have arow : ∀ l ∈ M.aw, l.length = M.D.fs.length := fun l hl => (DVC_0 ((MC_0 hM).2.2.2.2.2.2.1 l hl).1).2.1
  simp (maxSteps := 999999) only [E0, seval, -Int.reduceNatCast', NUM, SRCH, SFRM, SCRP, SRGT, SDTY, hv.s0, hv.s1, hv.s2, hv.fz, hlen, SOFR, SLOT, INTS, List.length_map, Int.toNat_natCast, c_sane, cf, cp, cb, st, pl, ml, tl]
  generalize hL : W _ (.loop _) _ = L
  obtain ⟨ex, s, rfl, rfl, h1, h2, h3, hb3, h7, h9, h10, h12, ⟨mm, hm, bm⟩, hnx, hd, hf⟩ := loop_at hL (α := Nat) (fun k => M.os.length - k)
    (fun s0 k s => k ≤ M.os.length ∧ s.tmps 78 = I k ∧ s.tmps 77 = I M.os.length ∧ s.tmps 76 = .vs 6 (M.os.map (ofr none)) none ∧ s.tmps 1 = I set ∧ s.tmps 2 = .int .u8 at_ ∧ s.tmps 3 = .bptr 0 3 0 0 ∧ s.boxes 3 = some (0, (mcl M (qq M.D Ws av))) ∧ s.tmps 7 = .vs 1 ((PAYS M.os set).map I) none ∧ s.tmps 9 = .vs 1 ((MONS M set).map I) none ∧ s.tmps 10 = .vs 1 tv none ∧ s.tmps 12 = .map 1 ∧ (∃ mm, s.H.rows 1 = some (.map (kmap (PV.int .i64) mm)) ∧ BUS M.os set k mm) ∧ s.H.next = 2 ∧ s.defers = [] ∧ s.fid = 0)
    (fun s0 ex s => ex = .exit 0 ∧ s.tmps 1 = I set ∧ s.tmps 2 = .int .u8 at_ ∧ s.tmps 3 = .bptr 0 3 0 0 ∧ s.boxes 3 = some (0, (mcl M (qq M.D Ws av))) ∧ s.tmps 7 = .vs 1 ((PAYS M.os set).map I) none ∧ s.tmps 9 = .vs 1 ((MONS M set).map I) none ∧ s.tmps 10 = .vs 1 tv none ∧ s.tmps 12 = .map 1 ∧ (∃ mm, s.H.rows 1 = some (.map (kmap (PV.int .i64) mm)) ∧ BUS M.os set M.os.length mm) ∧ s.H.next = 2 ∧ s.defers = [] ∧ s.fid = 0) 0
    (by simp (maxSteps := 999999) only [E0, seval, -Int.reduceNatCast']; exact ⟨Nat.zero_le _, by simp, ⟨[], rfl, fun f => .inr ⟨rfl, rfl⟩⟩⟩) (by
      rintro k s r hW ⟨hk, h78, h77, h76, h1, h2, h3, hb3, h7, h9, h10, h12, ⟨mm, hm, bm⟩, hnx, hd, hf⟩
      by_cases hp' : k < M.os.length
      rotate_left
      · simp (maxSteps := 999999) only [E0, seval, -Int.reduceNatCast', NUM, h78, h77, hd, hf, (show ¬ (k : Int) < M.os.length by omega)] at hW
        subst hW
        have : k = M.os.length := by omega
        subst this
        exact rd_exit ⟨rfl, by simp (maxSteps := 999999) only [E0, seval, -Int.reduceNatCast', h1, h2, h3, hb3, h7, h9, h10, h12, hnx, hd]; exact ⟨mm, hm, bm⟩⟩
      obtain ⟨x, e0⟩ : ∃ x, M.os[k]? = some x := ⟨_, List.getElem?_eq_getElem hp'⟩
      have e1 := map_get (f := ofr none) e0
      have ci := c_inn set k (by omega)
      have bl := BUS_look bm x.fm
      have bs := fun b => BUS_succ (b := b) bm e0
      generalize BSY M.os set x.fm k = bz at *
      rcases hb14 : s.boxes 14 with _ | ⟨v14, c14⟩
      all_goals
        cases bz with
        | true =>
          simp (maxSteps := 999999) only [E0, seval, -Int.reduceNatCast', NUM, SRCH, SFRM, SCRP, SRGT, SDTY, hv.s0, hv.s1, hv.s2, hv.fz, hlen, SOFR, SLOT, INTS, List.length_map, Int.toNat_natCast, MAPI, bl, hm, h78, h77, h76, h1, h2, h3, hb3, h7, h9, h10, h12, hb14, e1, hnx, hd, hf, (show (k : Int) < M.os.length by omega), (show (0 : Int) ≤ k by omega), (i64_in (x := (k : Int) + 1) (by unfold I64; omega))] at hW
          rw [if_pos (by kernel_rfl)] at hW
          subst hW
          refine rd_next (k + 1) ?_ (show M.os.length - (k + 1) < M.os.length - k by omega)
          simp (maxSteps := 999999) only [E0, seval, -Int.reduceNatCast', h77, h76, h1, h2, h3, hb3, h7, h9, h10, h12, hnx, hd]
          exact ⟨by omega, by simp, ⟨_, rfl, bs true rfl⟩⟩
        | false =>
          by_cases hb : BIT set k = 1
          · rw [decide_eq_true hb] at ci
            simp (maxSteps := 999999) only [E0, seval, -Int.reduceNatCast', NUM, SRCH, SFRM, SCRP, SRGT, SDTY, hv.s0, hv.s1, hv.s2, hv.fz, hlen, SOFR, SLOT, INTS, List.length_map, Int.toNat_natCast, MAPI, bl, ci, hm, h78, h77, h76, h1, h2, h3, hb3, h7, h9, h10, h12, hb14, e1, hnx, hd, hf, (show (k : Int) < M.os.length by omega), (show (0 : Int) ≤ k by omega), (i64_in (x := (k : Int) + 1) (by unfold I64; omega))] at hW
            rw [if_pos (by kernel_rfl)] at hW
            subst hW
            refine rd_next (k + 1) ?_ (show M.os.length - (k + 1) < M.os.length - k by omega)
            simp (maxSteps := 999999) only [E0, seval, -Int.reduceNatCast', h77, h76, h1, h2, h3, hb3, h7, h9, h10, h12, hnx, hd]
            exact ⟨by omega, by simp, ⟨_, rfl, bs true (by rw [decide_eq_true hb]; rfl)⟩⟩
          · rw [decide_eq_false hb] at ci
            simp (maxSteps := 999999) only [E0, seval, -Int.reduceNatCast', NUM, SRCH, SFRM, SCRP, SRGT, SDTY, hv.s0, hv.s1, hv.s2, hv.fz, hlen, SOFR, SLOT, INTS, List.length_map, Int.toNat_natCast, MAPI, bl, ci, hm, h78, h77, h76, h1, h2, h3, hb3, h7, h9, h10, h12, hb14, e1, hnx, hd, hf, (show (k : Int) < M.os.length by omega), (show (0 : Int) ≤ k by omega), (i64_in (x := (k : Int) + 1) (by unfold I64; omega))] at hW
            rw [if_pos (by kernel_rfl)] at hW
            subst hW
            refine rd_next (k + 1) ?_ (show M.os.length - (k + 1) < M.os.length - k by omega)
            simp (maxSteps := 999999) only [E0, seval, -Int.reduceNatCast', h77, h76, h1, h2, h3, hb3, h7, h9, h10, h12, hnx, hd]
            exact ⟨by omega, by simp, ⟨_, rfl, bs false (by rw [decide_eq_false hb]; rfl)⟩⟩)
  clear hL
  simp (maxSteps := 999999) only [E0, seval, -Int.reduceNatCast', NUM, SRCH, SFRM, SCRP, SRGT, SDTY, hv.s0, hv.s1, hv.s2, hv.fz, hlen, SOFR, SLOT, INTS, List.length_map, Int.toNat_natCast, h1, h2, h3, hb3, h7, h9, h10, h12, hm, hnx, ml, hd, hf]
  generalize hL : W _ (.loop _) _ = L
  obtain ⟨ex, s, rfl, rfl, h1, h2, h3, hb3, h7, hnx, hd, hf⟩ := loop_at hL (α := Nat) (fun f => M.D.fs.length - f)
    (fun s0 f s => f ≤ M.D.fs.length ∧ s.tmps 98 = I f ∧ s.tmps 97 = I M.D.fs.length ∧ s.tmps 96 = .vs 1 ((MONS M set).map I) none ∧ s.tmps 1 = I set ∧ s.tmps 2 = .int .u8 at_ ∧ s.tmps 3 = .bptr 0 3 0 0 ∧ s.boxes 3 = some (0, (mcl M (qq M.D Ws av))) ∧ s.tmps 7 = .vs 1 ((PAYS M.os set).map I) none ∧ s.tmps 9 = .vs 1 ((MONS M set).map I) none ∧ s.tmps 10 = .vs 1 tv none ∧ s.tmps 12 = .map 1 ∧ s.H.rows 1 = some (.map (kmap (PV.int .i64) mm)) ∧ s.H.next = 2 ∧ s.defers = [] ∧ s.fid = 0)
    (fun s0 ex s => ex = .exit 2 ∧ s.tmps 1 = I set ∧ s.tmps 2 = .int .u8 at_ ∧ s.tmps 3 = .bptr 0 3 0 0 ∧ s.boxes 3 = some (0, (mcl M (qq M.D Ws av))) ∧ s.tmps 7 = .vs 1 ((PAYS M.os set).map I) none ∧ s.H.next = 2 ∧ s.defers = [] ∧ s.fid = 0) 0
    (by simp (maxSteps := 999999) only [E0, seval, -Int.reduceNatCast', h1, h2, h3, hb3, h7, h9, h10, h12, hm, hnx]; exact ⟨Nat.zero_le _, by simp⟩) (by
      rintro f s r hW ⟨hk, h98, h97, h96, h1, h2, h3, hb3, h7, h9, h10, h12, hm, hnx, hd, hf⟩
      by_cases hp' : f < M.D.fs.length
      rotate_left
      · simp (maxSteps := 999999) only [E0, seval, -Int.reduceNatCast', NUM, h98, h97, hd, hf, (show ¬ (f : Int) < M.D.fs.length by omega)] at hW
        subst hW
        exact rd_exit ⟨rfl, by simp (maxSteps := 999999) only [E0, seval, -Int.reduceNatCast', h1, h2, h3, hb3, h7, hnx, hd]⟩
      have m0 := MONS_get (M := M) (set := set) hp'
      have m1 := ints_get m0
      have bl := BUS_look bm f
      obtain ⟨bz, hbz⟩ : ∃ bz, BSY M.os set f M.os.length = bz := ⟨_, rfl⟩
      rw [hbz] at bl
      cases bz with
      | true =>
        simp (maxSteps := 999999) only [E0, seval, -Int.reduceNatCast', NUM, SRCH, SFRM, SCRP, SRGT, SDTY, hv.s0, hv.s1, hv.s2, hv.fz, hlen, SOFR, SLOT, INTS, List.length_map, Int.toNat_natCast, MAPI, bl, hm, h98, h97, h96, h1, h2, h3, hb3, h7, h9, h10, h12, m1, ml, hnx, hd, hf, (show (f : Int) < M.D.fs.length by omega), (show (0 : Int) ≤ f by omega), (i64_in (x := (f : Int) + 1) (by unfold I64; omega))] at hW
        subst hW
        refine rd_next (f + 1) ?_ (show M.D.fs.length - (f + 1) < M.D.fs.length - f by omega)
        simp (maxSteps := 999999) only [E0, seval, -Int.reduceNatCast', h97, h96, h1, h2, h3, hb3, h7, h9, h10, h12, hm, hnx, hd]
        exact ⟨by omega, by simp⟩
      | false =>
        rw [MON_free hbz _ (Nat.le_refl _)] at m1
        simp (maxSteps := 999999) only [E0, seval, -Int.reduceNatCast', NUM, SRCH, SFRM, SCRP, SRGT, SDTY, hv.s0, hv.s1, hv.s2, hv.fz, hlen, SOFR, SLOT, INTS, List.length_map, Int.toNat_natCast, MAPI, bl, hm, h98, h97, h96, h1, h2, h3, hb3, h7, h9, h10, h12, m1, ml, tl, hnx, hd, hf, (show (f : Int) < M.D.fs.length by omega), (show (0 : Int) ≤ f by omega)] at hW
        generalize hC : W _ (.loop _) _ = LC at hW
        obtain ⟨exC, sC, rfl, rfl, k98, k97, k96, k1, k2, k3, kb3, k7, k9, k10, k12, k16, km, knx, kd, kf⟩ := loop_at hC (α := Nat) (fun w => M.aw.length - w)
          (fun s0 w s => w ≤ M.aw.length ∧ s.tmps 108 = I w ∧ s.tmps 107 = I M.aw.length ∧ s.tmps 106 = .vs 1 tv none ∧ s.tmps 15 = I f ∧ s.tmps 98 = I f ∧ s.tmps 97 = I M.D.fs.length ∧ s.tmps 96 = .vs 1 ((MONS M set).map I) none ∧ s.tmps 1 = I set ∧ s.tmps 2 = .int .u8 at_ ∧ s.tmps 3 = .bptr 0 3 0 0 ∧ s.boxes 3 = some (0, (mcl M (qq M.D Ws av))) ∧ s.tmps 7 = .vs 1 ((PAYS M.os set).map I) none ∧ s.tmps 9 = .vs 1 ((MONS M set).map I) none ∧ s.tmps 10 = .vs 1 tv none ∧ s.tmps 12 = .map 1 ∧ s.tmps 16 = I 0 ∧ s.H.rows 1 = some (.map (kmap (PV.int .i64) mm)) ∧ s.H.next = 2 ∧ s.defers = [] ∧ s.fid = 0)
          (fun s0 ex s => ex = .exit 4 ∧ s.tmps 98 = I f ∧ s.tmps 97 = I M.D.fs.length ∧ s.tmps 96 = .vs 1 ((MONS M set).map I) none ∧ s.tmps 1 = I set ∧ s.tmps 2 = .int .u8 at_ ∧ s.tmps 3 = .bptr 0 3 0 0 ∧ s.boxes 3 = some (0, (mcl M (qq M.D Ws av))) ∧ s.tmps 7 = .vs 1 ((PAYS M.os set).map I) none ∧ s.tmps 9 = .vs 1 ((MONS M set).map I) none ∧ s.tmps 10 = .vs 1 tv none ∧ s.tmps 12 = .map 1 ∧ s.tmps 16 = I 0 ∧ s.H.rows 1 = some (.map (kmap (PV.int .i64) mm)) ∧ s.H.next = 2 ∧ s.defers = [] ∧ s.fid = 0) 0
          (by simp (maxSteps := 999999) only [E0, seval, -Int.reduceNatCast', h98, h97, h96, h1, h2, h3, hb3, h7, h9, h10, h12, hm, hnx]; exact ⟨Nat.zero_le _, by simp⟩) (by
            rintro w sC r hW ⟨hw, z108, z107, z106, z15, k98, k97, k96, k1, k2, k3, kb3, k7, k9, k10, k12, k16, km, knx, kd, kf⟩
            by_cases hpw : w < M.aw.length
            rotate_left
            · simp (maxSteps := 999999) only [E0, seval, -Int.reduceNatCast', NUM, z108, z107, kd, kf, (show ¬ (w : Int) < M.aw.length by omega)] at hW
              subst hW
              exact rd_exit ⟨rfl, by simp (maxSteps := 999999) only [E0, seval, -Int.reduceNatCast', k98, k97, k96, k1, k2, k3, kb3, k7, k9, k10, k12, k16, km, knx, kd]⟩
            obtain ⟨l0, e0⟩ : ∃ l0, M.aw[w]? = some l0 := ⟨_, List.getElem?_eq_getElem hpw⟩
            obtain ⟨l, el, gl⟩ := MOVT_free hM hbz e0 M.os.length (Nat.le_refl _)
            rw [← tM] at el
            obtain ⟨v, ev, rv⟩ := tvl.get w l el
            obtain ⟨v0, ev0, rv0⟩ := hA.get w l0 e0
            have a0 := arow l0 (List.mem_of_getElem? e0)
            have a1 := sz.row l (List.mem_of_getElem? el)
            obtain ⟨c, rfl⟩ : ∃ c, v = .vs 1 (l.map I) c := rv.resolve_right fun g => by rw [g.1] at a1; simp at a1; omega
            obtain ⟨c0, rfl⟩ : ∃ c, v0 = .vs 1 (l0.map I) c := rv0.rv.resolve_right fun g => by rw [g.1] at a0; simp at a0; omega
            obtain ⟨u, eu⟩ : ∃ u, l0[f]? = some u := ⟨_, List.getElem?_eq_getElem (by omega)⟩
            rw [eu] at gl
            have u0 := ints_get eu
            have u1 := ints_get gl
            simp (maxSteps := 999999) only [E0, seval, -Int.reduceNatCast', NUM, SRCH, SFRM, SCRP, SRGT, SDTY, hv.s0, hv.s1, hv.s2, hv.fz, hlen, SOFR, SLOT, INTS, List.length_map, Int.toNat_natCast, z108, z107, z106, z15, k98, k97, k96, k1, k2, k3, kb3, k7, k9, k10, k12, ev, ev0, u0, u1, a0, a1, ml, tl, kd, kf, (show (f : Int) < M.D.fs.length by omega), (show (0 : Int) ≤ f by omega), (show (w : Int) < M.aw.length by omega), (show (0 : Int) ≤ w by omega), (i64_in (x := (w : Int) + 1) (by unfold I64; omega))] at hW
            subst hW
            refine rd_next (w + 1) ?_ (show M.aw.length - (w + 1) < M.aw.length - w by omega)
            simp (maxSteps := 999999) only [E0, seval, -Int.reduceNatCast', z107, z106, z15, k98, k97, k96, k1, k2, k3, kb3, k7, k9, k10, k12, k16, km, knx, kd]
            exact ⟨by omega, by simp⟩)
        obtain ⟨fC, tC, bC, dC, HC, rC⟩ := sC
        dsimp only at k98 k97 k96 k1 k2 k3 kb3 k7 k9 k10 k12 k16 km knx kd kf
        subst kd
        simp (maxSteps := 999999) only [E0, seval, -Int.reduceNatCast', NUM, k98, k97, k96, k16, kf, (i64_in (x := (f : Int) + 1) (by unfold I64; omega))] at hW
        subst hW
        refine rd_next (f + 1) ?_ (show M.D.fs.length - (f + 1) < M.D.fs.length - f by omega)
        simp (maxSteps := 999999) only [E0, seval, -Int.reduceNatCast', k97, k96, k1, k2, k3, kb3, k7, k9, k10, k12, km, knx]
        exact ⟨by omega, by simp⟩)
  clear hL
  by_cases hz : M.os.length = 0
  · simp (maxSteps := 999999) only [E0, seval, -Int.reduceNatCast', NUM, SRCH, SFRM, SCRP, SRGT, SDTY, hv.s0, hv.s1, hv.s2, hv.fz, hlen, SOFR, SLOT, INTS, List.length_map, Int.toNat_natCast, h1, h2, h3, hb3, h7, hnx, hd, hf, hz]
  have hk : ∃ k : Nat, Int.tmod at_ M.os.length = k ∧ k < M.os.length := by
    refine ⟨(Int.tmod at_ M.os.length).toNat, ?_⟩
    have t0 := Int.tmod_nonneg (M.os.length : Int) hat.1
    have t1 := Int.tmod_lt_of_pos at_ (show (0 : Int) < M.os.length by omega)
    omega
  obtain ⟨k, ek, hk⟩ := hk
  have ci := c_inn set k (by omega)
  by_cases hb : BIT set k = 1
  · rw [decide_eq_true hb] at ci
    simp (maxSteps := 999999) only [E0, seval, -Int.reduceNatCast', NUM, SRCH, SFRM, SCRP, SRGT, SDTY, hv.s0, hv.s1, hv.s2, hv.fz, hlen, SOFR, SLOT, INTS, List.length_map, Int.toNat_natCast, ci, ek, h1, h2, h3, hb3, h7, hnx, hd, hf, (show ¬ (M.os.length : Int) = 0 by omega), (i64_in (x := at_) (by unfold I64; omega)), (i64_in (x := (k : Int)) (by unfold I64; omega))]
  rw [decide_eq_false hb] at ci
  obtain ⟨n, rfl⟩ : ∃ n : Nat, set = n := ⟨set.toNat, by have := (ASK_0 h0).2.1; omega⟩
  simp (maxSteps := 999999) only [E0, seval, -Int.reduceNatCast', NUM, SRCH, SFRM, SCRP, SRGT, SDTY, hv.s0, hv.s1, hv.s2, hv.fz, hlen, SOFR, SLOT, INTS, List.length_map, Int.toNat_natCast, ci, ek, h1, h2, h3, hb3, h7, hnx, hd, hf, (show ¬ (M.os.length : Int) = 0 by omega), (i64_in (x := at_) (by unfold I64; omega)), (i64_in (x := (k : Int)) (by unfold I64; omega)), (i64_in (x := (k : Int) + 1) (by unfold I64; omega)), false_implies, Int.le_refl, (show (0 : Int) ≤ k by omega), (show (k : Int) ≤ M.os.length by omega), (show (0 : Int) ≤ (k : Int) + 1 by omega), (show (k : Int) + 1 ≤ M.os.length by omega)]
  have fa : ∀ l : List Ofr, ((l.map (ofr none)).all fun e => e.fits 6) = true := fun l => List.all_eq_true.2 fun e he => by obtain ⟨x, _, rfl⟩ := List.mem_map.1 he; rfl
  have nl : n < 4096 := by
    have e : ((2 ^ M.os.length : Nat) : Int) = (2 : Int) ^ M.os.length := by rw [Int.natCast_pow]; rfl
    have := (ASK_0 h0).2.2
    have : n < 2 ^ M.os.length := by omega
    have := Nat.pow_le_pow_right (n := 2) (by decide) lo
    omega
  obtain ⟨p, q, a, s1, s2, f1, f2, f3, f4, f5, f6⟩ := set_nums n k (by omega) (by omega)
  obtain ⟨P1, hP1⟩ : ∃ P1, M.os.take k = P1 := ⟨_, rfl⟩
  obtain ⟨P2, hP2⟩ : ∃ P2, M.os.drop (k + 1) = P2 := ⟨_, rfl⟩
  obtain ⟨Q, hQ⟩ : ∃ Q, LESS M.os k = Q := ⟨_, rfl⟩
  have hQ2 : P1 ++ P2 = Q := by rw [← hQ, ← hP1, ← hP2]; rfl
  have ep1 : (M.os.map (ofr none)).take k = P1.map (ofr none) := by rw [← hP1, List.map_take]
  have ep2 : (M.os.map (ofr none)).drop (k + 1) = P2.map (ofr none) := by rw [← hP2, List.map_drop]
  have n1 : P1.length = k := by rw [← hP1, List.length_take]; omega
  have n2 : P2.length = M.os.length - (k + 1) := by rw [← hP2, List.length_drop]
  have apl : P1.map (ofr none) ++ P2.map (ofr none) = Q.map (ofr none) := by rw [← hQ2, List.map_append]
  have nQ : P1.length + P2.length = Q.length := by rw [← hQ2, List.length_append]
  have tL : (Q.map (ofr none)).take Q.length = Q.map (ofr none) := List.take_of_length_le (by simp)
  have k1 : ((k : Int) + 1).toNat = k + 1 := by omega
  have tka : (M.os.map (ofr none)).take M.os.length = M.os.map (ofr none) := List.take_of_length_le (by simp)
  obtain ⟨ver, hver⟩ : ∃ ver, nextVer (s.boxes 20) = ver := ⟨_, rfl⟩
  have pz := PE_less h hk hb
  have pv : PAYV (WOUT M k) (LSET n k) = .tup [.vs 1 ((LESS (PAYS M.os n) k).map I) none, I 0] := by
    unfold PAYV
    rw [if_neg (fun g => g pz)]
    show PV.tup [.vs 1 ((PAYS (LESS M.os k) (LSET n k)).map I) none, I 0] = _
    rw [PAYS_less h hk hb]
  have cl : ∀ co, ap Try.prog pol 8 [.agg (mcl ⟨M.D, M.aw, M.room, M.rain, Q⟩ ⟨none, none, .vs 2 (M.D.cs.map crp) none, .vs 10 (M.D.gs.map rgt) none, .vs 4 (M.D.ds.map dty) none, .vs 4 Ws none, av, none, none, co⟩), I (LSET n k)] = some (.ret (.tup [.vs 1 ((LESS (PAYS M.os n) k).map I) none, I 0])) := fun co => by
    rw [← pv, ← hQ]
    exact c_pay (M := WOUT M k) (q := ⟨none, none, .vs 2 (M.D.cs.map crp) none, .vs 10 (M.D.gs.map rgt) none, .vs 4 (M.D.ds.map dty) none, .vs 4 Ws none, av, none, none, co⟩) hr hv hA (LSET n k)
  have rl := LESS_len (l := PAYS M.os n) (k := k) (by omega)
  have lt := LESS_take (l := PAYS M.os n) (k := k) (by omega)
  obtain ⟨Rr, hR⟩ : ∃ Rr, LESS (PAYS M.os n) k = Rr := ⟨_, rfl⟩
  obtain ⟨Y, hY⟩ : ∃ Y, PAYS M.os n = Y := ⟨_, rfl⟩
  rw [hR] at cl lt rl
  rw [hY] at lt rl h7 pl
  obtain ⟨Aa, hAa⟩ : ∃ Aa, Y.take k = Aa := ⟨_, rfl⟩
  obtain ⟨Bb, hBb⟩ : ∃ Bb, Y.drop (k + 1) = Bb := ⟨_, rfl⟩
  rw [hAa, hBb] at lt
  have g1 : (Y.map I).take k = Aa.map I := by rw [← hAa, List.map_take]
  have g2 : (Y.map I).drop (k + 1) = Bb.map I := by rw [← hBb, List.map_drop]
  have g3 : (Rr.map I).take k = Aa.map I := by rw [← lt.1, List.map_take]
  have g4 : (Rr.map I).drop k = Bb.map I := by rw [← lt.2, List.map_drop]
  have g5 : (Y.map I).take M.os.length = Y.map I := List.take_of_length_le (by simp; omega)
  have g6 : (Rr.map I).take (M.os.length - 1) = Rr.map I := List.take_of_length_le (by rw [List.length_map]; omega)
  have m2 : ((M.os.length : Int) - 1).toNat = M.os.length - 1 := by omega
  have m1 : ((M.os.length - 1 : Nat) : Int) = (M.os.length : Int) - 1 := by omega
  have al : Aa.length = k := by rw [← hAa, List.length_take]; omega
  have bl2 : Bb.length = M.os.length - (k + 1) := by rw [← hBb, List.length_drop, pl]
  have sA : ap Try.prog pol 15 [.vs 1 (Aa.map I) none, .vs 1 (Aa.map I) none] = some (.ret (.bool true)) := by rw [c_same Aa Aa none none (by omega), decide_eq_true rfl]
  have sB : ap Try.prog pol 15 [.vs 1 (Bb.map I) none, .vs 1 (Bb.map I) none] = some (.ret (.bool true)) := by rw [c_same Bb Bb none none (by omega), decide_eq_true rfl]
  by_cases i1 : P1 = [] <;> by_cases i2 : P2 = []
  · subst i1
    subst i2
    subst hQ2
    have cl1 : ap Try.prog pol 8 [.agg [.str M.D.nm, I M.D.hours, I M.D.cap, I M.D.start, .vs 12 (M.D.rs.map rch) none, .vs 4 (M.D.fs.map frm) none, .vs 2 (M.D.cs.map crp) none, .vs 10 (M.D.gs.map rgt) none, .vs 4 (M.D.ds.map dty) none, .vs 4 Ws none, .vs 1 av none, I M.room, I M.rain, .vs 6 [] (some 0)], I (LSET n k)] = some (.ret (.tup [.vs 1 (Rr.map I) none, I 0])) := cl (some 0)
    have j1 : (([] : List Ofr).map (ofr none)).isEmpty = true := rfl
    have j2 : (([] : List Ofr).map (ofr none)).isEmpty = true := rfl
    simp (maxSteps := 999999) only [E0, seval, -Int.reduceNatCast', NUM, SRCH, SFRM, SCRP, SRGT, SDTY, hv.s0, hv.s1, hv.s2, hv.fz, hlen, SOFR, SLOT, INTS, List.length_map, Int.toNat_natCast, ep1, tka, ep2, fa, hver, k1, j1, j2, apl, nQ, tL, or_true, true_or, Nat.zero_add, Nat.le_refl, Nat.zero_le, ci, ek, h1, h2, h3, hb3, h7, hnx, hd, hf, (show ([] : List Ofr).length ≤ 67108864 by omega), (show ([] : List Ofr).length ≤ 67108864 by omega), (show ([] : List Ofr).length ≤ 67108864 by omega), (i64_in (x := (k : Int) + 1) (by unfold I64; omega)), false_implies, Int.le_refl, (show (0 : Int) ≤ k by omega), (show (k : Int) ≤ M.os.length by omega), (show (0 : Int) ≤ (k : Int) + 1 by omega), (show (k : Int) + 1 ≤ M.os.length by omega), (show ¬ (k : Int) < 0 by omega), (show ¬ (k : Int) + 1 < 0 by omega), f1, f2, f3, f4, f5, f6, m1, m2, (show (k : Int) ≤ (M.os.length : Int) - 1 by omega), (i64_in (x := (M.os.length : Int) - 1) (by unfold I64; omega)), cl1, pl, rl, g1, g2, g3, g4, g5, g6, sA, sB]
    rw [if_pos (by kernel_rfl)]
  · subst i1
    have hQ2 : P2 = Q := hQ2
    subst hQ2
    have j1 : (([] : List Ofr).map (ofr none)).isEmpty = true := rfl
    have j2 : (P2.map (ofr none)).isEmpty = false := by cases P2 with
      | nil => exact absurd rfl i2
      | cons a b => rfl
    simp (maxSteps := 999999) only [E0, seval, -Int.reduceNatCast', NUM, SRCH, SFRM, SCRP, SRGT, SDTY, hv.s0, hv.s1, hv.s2, hv.fz, hlen, SOFR, SLOT, INTS, List.length_map, Int.toNat_natCast, ep1, tka, ep2, fa, hver, k1, j1, j2, apl, nQ, tL, or_true, true_or, Nat.zero_add, Nat.le_refl, Nat.zero_le, ci, ek, h1, h2, h3, hb3, h7, hnx, hd, hf, (show ([] : List Ofr).length ≤ 67108864 by omega), (show P2.length ≤ 67108864 by omega), (show P2.length ≤ 67108864 by omega), (i64_in (x := (k : Int) + 1) (by unfold I64; omega)), false_implies, Int.le_refl, (show (0 : Int) ≤ k by omega), (show (k : Int) ≤ M.os.length by omega), (show (0 : Int) ≤ (k : Int) + 1 by omega), (show (k : Int) + 1 ≤ M.os.length by omega), (show ¬ (k : Int) < 0 by omega), (show ¬ (k : Int) + 1 < 0 by omega), f1, f2, f3, f4, f5, f6, m1, m2, (show (k : Int) ≤ (M.os.length : Int) - 1 by omega), (i64_in (x := (M.os.length : Int) - 1) (by unfold I64; omega)), cl, pl, rl, g1, g2, g3, g4, g5, g6, sA, sB]
    rw [if_pos (by kernel_rfl), if_pos (by kernel_rfl)]
  · subst i2
    rw [List.append_nil] at hQ2
    subst hQ2
    have j1 : (P1.map (ofr none)).isEmpty = false := by cases P1 with
      | nil => exact absurd rfl i1
      | cons a b => rfl
    have j2 : (([] : List Ofr).map (ofr none)).isEmpty = true := rfl
    simp (maxSteps := 999999) only [E0, seval, -Int.reduceNatCast', NUM, SRCH, SFRM, SCRP, SRGT, SDTY, hv.s0, hv.s1, hv.s2, hv.fz, hlen, SOFR, SLOT, INTS, List.length_map, Int.toNat_natCast, ep1, tka, ep2, fa, hver, k1, j1, j2, apl, nQ, tL, or_true, true_or, Nat.zero_add, Nat.le_refl, Nat.zero_le, ci, ek, h1, h2, h3, hb3, h7, hnx, hd, hf, (show P1.length ≤ 67108864 by omega), (show P1.length ≤ 67108864 by omega), (show ([] : List Ofr).length ≤ 67108864 by omega), (i64_in (x := (k : Int) + 1) (by unfold I64; omega)), false_implies, Int.le_refl, (show (0 : Int) ≤ k by omega), (show (k : Int) ≤ M.os.length by omega), (show (0 : Int) ≤ (k : Int) + 1 by omega), (show (k : Int) + 1 ≤ M.os.length by omega), (show ¬ (k : Int) < 0 by omega), (show ¬ (k : Int) + 1 < 0 by omega), f1, f2, f3, f4, f5, f6, m1, m2, (show (k : Int) ≤ (M.os.length : Int) - 1 by omega), (i64_in (x := (M.os.length : Int) - 1) (by unfold I64; omega)), Nat.add_zero, cl, pl, rl, g1, g2, g3, g4, g5, g6, sA, sB]
    rw [if_pos (by kernel_rfl), if_pos (by kernel_rfl)]
  · skip
    have j1 : (P1.map (ofr none)).isEmpty = false := by cases P1 with
      | nil => exact absurd rfl i1
      | cons a b => rfl
    have j2 : (P2.map (ofr none)).isEmpty = false := by cases P2 with
      | nil => exact absurd rfl i2
      | cons a b => rfl
    simp (maxSteps := 999999) only [E0, seval, -Int.reduceNatCast', NUM, SRCH, SFRM, SCRP, SRGT, SDTY, hv.s0, hv.s1, hv.s2, hv.fz, hlen, SOFR, SLOT, INTS, List.length_map, Int.toNat_natCast, ep1, tka, ep2, fa, hver, k1, j1, j2, apl, nQ, tL, or_true, true_or, Nat.zero_add, Nat.le_refl, Nat.zero_le, ci, ek, h1, h2, h3, hb3, h7, hnx, hd, hf, (show P1.length ≤ 67108864 by omega), (show Q.length ≤ 67108864 by omega), (show P2.length ≤ 67108864 by omega), (i64_in (x := (k : Int) + 1) (by unfold I64; omega)), false_implies, Int.le_refl, (show (0 : Int) ≤ k by omega), (show (k : Int) ≤ M.os.length by omega), (show (0 : Int) ≤ (k : Int) + 1 by omega), (show (k : Int) + 1 ≤ M.os.length by omega), (show ¬ (k : Int) < 0 by omega), (show ¬ (k : Int) + 1 < 0 by omega), f1, f2, f3, f4, f5, f6, m1, m2, (show (k : Int) ≤ (M.os.length : Int) - 1 by omega), (i64_in (x := (M.os.length : Int) - 1) (by unfold I64; omega)), cl, pl, rl, g1, g2, g3, g4, g5, g6, sA, sB]
    rw [if_pos (by kernel_rfl), if_pos (by kernel_rfl)]
end
end Go.Proofs.Ytbmmbefgmhhciaa
