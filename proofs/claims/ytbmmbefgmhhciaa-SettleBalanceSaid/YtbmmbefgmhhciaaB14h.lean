/-
  All payments together are 0: the law.
-/
import Derived.Test.YtbmmbefgmhhciaaB13h
set_option linter.unusedSimpArgs false
set_option linter.unusedVariables false
set_option linter.unusedSectionVars false
namespace Go.Proofs.Ytbmmbefgmhhciaa
open Go GoV
set_option maxRecDepth 100000

section
variable {M : Mkt} {Ws av : List PV} (hr : ∀ x ∈ M.D.rs, x.OK) (hv : DV M.D (qq M.D Ws av).cs (qq M.D Ws av).gs (qq M.D Ws av).ds (qq M.D Ws av).ws) (hA : AWV M.aw (qq M.D Ws av).av)
include hr hv hA
set_option maxHeartbeats 16000000 in
theorem w_balance (set : Int) : ap Try.prog pol 3 [.agg (mcl M (qq M.D Ws av)), I set] = some (.ret (.bool true)) := by
  obtain ⟨b0, cf⟩ := c_few hv hA
  have cp := c_pay hr hv hA set
  obtain ⟨tv, ct, htv⟩ := c_Aft hr hv hA set
  have cb := c_books hr hv hA set tv ct htv
  have hlen := SAV hA
  unfold PAYV at cp
  unfold BKV at cb
  rw [ap_eq _ Try.func3 rfl Try.ntmps3 Try.results3 (by kernel_rfl) rfl (by exact Nat.le_of_ble_eq_true rfl)]
  cases b0 with
  | false =>
    simp (maxSteps := 999999) only [E0, seval, -Int.reduceNatCast', NUM, SRCH, SFRM, SCRP, SRGT, SDTY, hv.s0, hv.s1, hv.s2, hv.fz, hlen, SOFR, SLOT, INTS, List.length_map, Int.toNat_natCast, c_sane, cf]
  | true =>
  by_cases h : PE M set = 0
  rotate_left
  · rw [if_pos h] at cp cb
    simp (maxSteps := 999999) only [E0, seval, -Int.reduceNatCast', NUM, SRCH, SFRM, SCRP, SRGT, SDTY, hv.s0, hv.s1, hv.s2, hv.fz, hlen, SOFR, SLOT, INTS, List.length_map, Int.toNat_natCast, c_sane, cf, cp, cb, h, List.length_nil]
  rw [if_neg (fun g => g h)] at cp cb
  obtain ⟨h0, ha, hp⟩ := PE_0 h
  obtain ⟨T, hT⟩ : ∃ T, AFT M set = some T := Option.ne_none_iff_exists'.1 ha
  have tvl := htv T h0 hT
  have st := STV tvl
  unfold AFV at ct
  rw [if_neg (fun g => g h0), if_neg ha] at ct
  have hM := (ASK_0 h0).1
  have prb := MC_prb hM
  have lo := (MC_0 hM).2.2.1
  have lfs := (XC_0 (MC_0 hM).1).1.2.1
  have sz := MOVT_sz hM set (k := M.os.length) (Nat.le_refl _)
  rw [← AFT_eq hT] at sz
  have la := (MC_0 hM).2.1
  have t5 := c_sameT T tv tv none none tvl tvl (by rw [sz.len]; omega) (fun l hl => by rw [sz.row l hl]; omega)
  have pl := PAYS_len M.os set
  have ml := MONS_len M set
  simp (maxSteps := 999999) only [E0, seval, -Int.reduceNatCast', NUM, SRCH, SFRM, SCRP, SRGT, SDTY, hv.s0, hv.s1, hv.s2, hv.fz, hlen, SOFR, SLOT, INTS, List.length_map, Int.toNat_natCast, c_sane, cf, cp, cb, ct, t5, st, pl, ml]
  generalize hL : W _ (.loop _) _ = L
  obtain ⟨ex, s, rfl, rfl, h1, h2, hb2, h5, h7, h13, h14, hd, hf⟩ := loop_at hL (α := Nat) (fun k => M.os.length - k)
    (fun s0 k s => k ≤ M.os.length ∧ s.tmps 102 = I k ∧ s.tmps 101 = I M.os.length ∧ s.tmps 100 = .vs 6 (M.os.map (ofr none)) none ∧ s.tmps 1 = I set ∧ s.tmps 2 = .bptr 0 2 0 0 ∧ s.boxes 2 = some (0, (mcl M (qq M.D Ws av))) ∧ s.tmps 5 = .vs 1 ((PAYS M.os set).map I) none ∧ s.tmps 7 = .vs 1 ((MONS M set).map I) none ∧ s.tmps 13 = I (S.SUMI ((PAYS M.os set).take k)) ∧ s.tmps 14 = I 0 ∧ s.defers = [] ∧ s.fid = 0)
    (fun s0 ex s => ex = .exit 0 ∧ s.tmps 1 = I set ∧ s.tmps 2 = .bptr 0 2 0 0 ∧ s.boxes 2 = some (0, (mcl M (qq M.D Ws av))) ∧ s.tmps 5 = .vs 1 ((PAYS M.os set).map I) none ∧ s.tmps 7 = .vs 1 ((MONS M set).map I) none ∧ s.tmps 13 = I 0 ∧ s.tmps 14 = I 0 ∧ s.defers = [] ∧ s.fid = 0) 0
    (by simp (maxSteps := 999999) only [E0, seval, -Int.reduceNatCast', List.take_zero]; exact ⟨Nat.zero_le _, by simp, rfl⟩) (by
      rintro k s r hW ⟨hk, h102, h101, h100, h1, h2, hb2, h5, h7, h13, h14, hd, hf⟩
      by_cases hp' : k < M.os.length
      rotate_left
      · simp (maxSteps := 999999) only [E0, seval, -Int.reduceNatCast', NUM, h102, h101, hd, hf, (show ¬ (k : Int) < M.os.length by omega)] at hW
        subst hW
        have : k = M.os.length := by omega
        subst this
        have z := PAYS_sum prb lo hp
        rw [List.take_of_length_le (by omega), z] at h13
        exact rd_exit ⟨rfl, by simp (maxSteps := 999999) only [E0, seval, -Int.reduceNatCast', h1, h2, hb2, h5, h7, h13, h14, hd]⟩
      obtain ⟨x, e0⟩ : ∃ x, M.os[k]? = some x := ⟨_, List.getElem?_eq_getElem hp'⟩
      have e1 := map_get (f := ofr none) e0
      have y0 := PAYS_get (set := set) e0
      have y1 := ints_get y0
      have yb := PAY_bd h e0
      have ok := PAY_ok prb lo hp e0
      have ci := c_inn set k (by omega)
      have tk := S.SUMI_take y0
      have tb := S.SUMI_bounds (a := -1100585369600) (b := 1100585369600) ((PAYS M.os set).take k) (fun z hz => by
        obtain ⟨i, ei⟩ := List.mem_iff_getElem?.1 (List.mem_of_mem_take hz)
        have hi : i < M.os.length := by have := (List.getElem?_eq_some_iff.1 ei).1; omega
        have := PAYS_get (set := set) (List.getElem?_eq_getElem hi)
        rw [ei] at this
        cases this
        exact PAY_bd h (List.getElem?_eq_getElem hi))
      have tl : ((PAYS M.os set).take k).length = k := by rw [List.length_take]; omega
      rw [tl] at tb
      generalize PAY M.os set k x = y at *
      generalize S.SUMI ((PAYS M.os set).take k) = z at *
      rcases hb16 : s.boxes 16 with _ | ⟨v16, c16⟩
      all_goals
        by_cases hb : BIT set k = 1
        rotate_left
        · rw [decide_eq_false hb] at ci
          have ok := ok.1 hb
          subst ok
          simp (maxSteps := 999999) only [E0, seval, -Int.reduceNatCast', NUM, SRCH, SFRM, SCRP, SRGT, SDTY, hv.s0, hv.s1, hv.s2, hv.fz, hlen, SOFR, SLOT, INTS, List.length_map, Int.toNat_natCast, ci, h102, h101, h100, h1, h2, hb2, h5, h7, h13, h14, hb16, e1, y1, pl, hd, hf, (show (k : Int) < M.os.length by omega), (show (0 : Int) ≤ k by omega), (i64_in (x := z + 0) (by unfold I64; omega)), (i64_in (x := (k : Int) + 1) (by unfold I64; omega))] at hW
          subst hW
          refine rd_next (k + 1) ?_ (show M.os.length - (k + 1) < M.os.length - k by omega)
          simp (maxSteps := 999999) only [E0, seval, -Int.reduceNatCast', h101, h100, h1, h2, hb2, h5, h7, h14, hd, tk]
          exact ⟨by omega, by simp⟩
        rw [decide_eq_true hb] at ci
        obtain ⟨o1, o2⟩ := ok.2 hb
        by_cases hx : 0 ≤ x.pr
        · have o2 := o2 hx
          simp (maxSteps := 999999) only [E0, seval, -Int.reduceNatCast', NUM, SRCH, SFRM, SCRP, SRGT, SDTY, hv.s0, hv.s1, hv.s2, hv.fz, hlen, SOFR, SLOT, INTS, List.length_map, Int.toNat_natCast, ci, o1, o2, hx, h102, h101, h100, h1, h2, hb2, h5, h7, h13, h14, hb16, e1, y1, pl, hd, hf, (show (k : Int) < M.os.length by omega), (show (0 : Int) ≤ k by omega), (i64_in (x := z + y) (by unfold I64; omega)), (i64_in (x := (k : Int) + 1) (by unfold I64; omega))] at hW
          subst hW
          refine rd_next (k + 1) ?_ (show M.os.length - (k + 1) < M.os.length - k by omega)
          simp (maxSteps := 999999) only [E0, seval, -Int.reduceNatCast', h101, h100, h1, h2, hb2, h5, h7, h14, hd, tk]
          exact ⟨by omega, by simp⟩
        · simp (maxSteps := 999999) only [E0, seval, -Int.reduceNatCast', NUM, SRCH, SFRM, SCRP, SRGT, SDTY, hv.s0, hv.s1, hv.s2, hv.fz, hlen, SOFR, SLOT, INTS, List.length_map, Int.toNat_natCast, ci, o1, hx, h102, h101, h100, h1, h2, hb2, h5, h7, h13, h14, hb16, e1, y1, pl, hd, hf, (show (k : Int) < M.os.length by omega), (show (0 : Int) ≤ k by omega), (i64_in (x := z + y) (by unfold I64; omega)), (i64_in (x := (k : Int) + 1) (by unfold I64; omega))] at hW
          subst hW
          refine rd_next (k + 1) ?_ (show M.os.length - (k + 1) < M.os.length - k by omega)
          simp (maxSteps := 999999) only [E0, seval, -Int.reduceNatCast', h101, h100, h1, h2, hb2, h5, h7, h14, hd, tk]
          exact ⟨by omega, by simp⟩)
  clear hL
  have mall := MSF_all hM set M.os.length (Nat.le_refl _)
  rw [List.take_of_length_le (by omega), PAYS_sum prb lo hp] at mall
  simp (maxSteps := 999999) only [E0, seval, -Int.reduceNatCast', NUM, SRCH, SFRM, SCRP, SRGT, SDTY, hv.s0, hv.s1, hv.s2, hv.fz, hlen, SOFR, SLOT, INTS, List.length_map, Int.toNat_natCast, h1, h2, hb2, h5, h7, h13, h14, ml, hd, hf]
  generalize hL : W _ (.loop _) _ = L
  obtain ⟨ex, s, rfl, rfl, h13, h14, hd, hf⟩ := loop_at hL (α := Nat) (fun f => M.D.fs.length - f)
    (fun s0 f s => f ≤ M.D.fs.length ∧ s.tmps 145 = I f ∧ s.tmps 144 = I M.D.fs.length ∧ s.tmps 143 = .vs 1 ((MONS M set).map I) none ∧ s.tmps 1 = I set ∧ s.tmps 2 = .bptr 0 2 0 0 ∧ s.boxes 2 = some (0, (mcl M (qq M.D Ws av))) ∧ s.tmps 5 = .vs 1 ((PAYS M.os set).map I) none ∧ s.tmps 13 = I 0 ∧ s.tmps 14 = I (MSF (PAY M.os set) M.os M.os.length f) ∧ s.defers = [] ∧ s.fid = 0)
    (fun s0 ex s => ex = .exit 2 ∧ s.tmps 13 = I 0 ∧ s.tmps 14 = I 0 ∧ s.defers = [] ∧ s.fid = 0) 0
    (by simp (maxSteps := 999999) only [E0, seval, -Int.reduceNatCast', h1, h2, hb2, h5, h13, h14]; exact ⟨Nat.zero_le _, by simp, rfl⟩) (by
      rintro f s r hW ⟨hk, h145, h144, h143, h1, h2, hb2, h5, h13, h14, hd, hf⟩
      by_cases hp' : f < M.D.fs.length
      rotate_left
      · simp (maxSteps := 999999) only [E0, seval, -Int.reduceNatCast', NUM, h145, h144, hd, hf, (show ¬ (f : Int) < M.D.fs.length by omega)] at hW
        subst hW
        have : f = M.D.fs.length := by omega
        subst this
        rw [mall] at h14
        exact rd_exit ⟨rfl, by simp (maxSteps := 999999) only [E0, seval, -Int.reduceNatCast', h13, h14, hd]⟩
      have m0 := MONS_get (M := M) (set := set) hp'
      have m1 := ints_get m0
      have mb := MON_bd12 h f (k := M.os.length) lo
      have fb := MSF_bd (g := PAY M.os set) (os := M.os) (k := M.os.length) (B := 13207024435200) (fun f => MON_bd12 h f lo) (by decide) f
      have fs1 : MSF (PAY M.os set) M.os M.os.length (f + 1) = MSF (PAY M.os set) M.os M.os.length f + MON (PAY M.os set) M.os f M.os.length := rfl
      have cs := c_statements hr hv hA set f
      unfold STMV at cs
      rw [if_neg (fun g => g h), if_neg (by omega)] at cs
      have sl := STS_len (PAY M.os set) M.os set f M.os.length
      simp (maxSteps := 999999) only [E0, seval, -Int.reduceNatCast', NUM, SRCH, SFRM, SCRP, SRGT, SDTY, hv.s0, hv.s1, hv.s2, hv.fz, hlen, SOFR, SLOT, INTS, List.length_map, Int.toNat_natCast, cs, h145, h144, h143, h1, h2, hb2, h5, h13, h14, m1, ml, hd, hf, (show (f : Int) < M.D.fs.length by omega), (show (0 : Int) ≤ f by omega), (i64_in (x := MSF (PAY M.os set) M.os M.os.length f + MON (PAY M.os set) M.os f M.os.length) (by unfold I64; omega))] at hW
      generalize hC : W _ (.loop _) _ = LC at hW
      obtain ⟨exC, sC, rfl, rfl, k145, k144, k143, k1, k2, kb2, k5, k13, k14, k19, k20, k22, kd, kf⟩ := loop_at hC (α := Nat) (fun i => M.os.length - i)
        (fun s0 i s => i ≤ M.os.length ∧ s.tmps 165 = I i ∧ s.tmps 164 = I M.os.length ∧ s.tmps 163 = .vs 6 (M.os.map (ofr none)) none ∧ s.tmps 18 = I f ∧ s.tmps 145 = I f ∧ s.tmps 144 = I M.D.fs.length ∧ s.tmps 143 = .vs 1 ((MONS M set).map I) none ∧ s.tmps 1 = I set ∧ s.tmps 2 = .bptr 0 2 0 0 ∧ s.boxes 2 = some (0, (mcl M (qq M.D Ws av))) ∧ s.tmps 5 = .vs 1 ((PAYS M.os set).map I) none ∧ s.tmps 13 = I 0 ∧ s.tmps 14 = I (MSF (PAY M.os set) M.os M.os.length (f + 1)) ∧ s.tmps 19 = I (MON (PAY M.os set) M.os f M.os.length - MON (PAY M.os set) M.os f i) ∧ s.tmps 20 = .vs 4 ((STS (PAY M.os set) M.os set f M.os.length).map stm) none ∧ s.tmps 22 = I (STS (PAY M.os set) M.os set f i).length ∧ s.defers = [] ∧ s.fid = 0)
        (fun s0 ex s => ex = .exit 4 ∧ s.tmps 145 = I f ∧ s.tmps 144 = I M.D.fs.length ∧ s.tmps 143 = .vs 1 ((MONS M set).map I) none ∧ s.tmps 1 = I set ∧ s.tmps 2 = .bptr 0 2 0 0 ∧ s.boxes 2 = some (0, (mcl M (qq M.D Ws av))) ∧ s.tmps 5 = .vs 1 ((PAYS M.os set).map I) none ∧ s.tmps 13 = I 0 ∧ s.tmps 14 = I (MSF (PAY M.os set) M.os M.os.length (f + 1)) ∧ s.tmps 19 = I 0 ∧ s.tmps 20 = .vs 4 ((STS (PAY M.os set) M.os set f M.os.length).map stm) none ∧ s.tmps 22 = I (STS (PAY M.os set) M.os set f M.os.length).length ∧ s.defers = [] ∧ s.fid = 0) 0
        (by simp (maxSteps := 999999) only [E0, seval, -Int.reduceNatCast', h145, h144, h143, h1, h2, hb2, h5, h13, h14, fs1]
            refine ⟨Nat.zero_le _, by simp, ?_, rfl⟩
            show I _ = I (_ - 0)
            rw [Int.sub_zero]) (by
          rintro i sC r hW ⟨hi, z165, z164, z163, z18, k145, k144, k143, k1, k2, kb2, k5, k13, k14, k19, k20, k22, kd, kf⟩
          by_cases hpi : i < M.os.length
          rotate_left
          · simp (maxSteps := 999999) only [E0, seval, -Int.reduceNatCast', NUM, z165, z164, kd, kf, (show ¬ (i : Int) < M.os.length by omega)] at hW
            subst hW
            have : i = M.os.length := by omega
            subst this
            rw [Int.sub_self] at k19
            exact rd_exit ⟨rfl, by simp (maxSteps := 999999) only [E0, seval, -Int.reduceNatCast', k145, k144, k143, k1, k2, kb2, k5, k13, k14, k19, k20, k22, kd]⟩
          obtain ⟨x, e0⟩ : ∃ x, M.os[i]? = some x := ⟨_, List.getElem?_eq_getElem hpi⟩
          have e1 := map_get (f := ofr none) e0
          have y0 := PAYS_get (set := set) e0
          have y1 := ints_get y0
          have yb := PAY_bd h e0
          have ms := MON_succ (g := PAY M.os set) (f := f) e0
          have ss := STS_succ (g := PAY M.os set) (set := set) (f := f) e0
          have mbi := MON_bd12 h f (k := i) (by omega)
          have ci := c_inn set i (by omega)
          have sli := STS_len (PAY M.os set) M.os set f i
          rcases hb24 : sC.boxes 24 with _ | ⟨v24, c24⟩
          all_goals
            by_cases hfm : x.fm = f
            rotate_left
            · rw [if_neg hfm, Int.add_zero] at ms
              rw [if_neg hfm, List.append_nil] at ss
              simp (maxSteps := 999999) only [E0, seval, -Int.reduceNatCast', NUM, SRCH, SFRM, SCRP, SRGT, SDTY, hv.s0, hv.s1, hv.s2, hv.fz, hlen, SOFR, SLOT, INTS, List.length_map, Int.toNat_natCast, hfm, z165, z164, z163, z18, k145, k144, k143, k1, k2, kb2, k5, k13, k14, k19, k20, k22, hb24, e1, kd, kf, (show (i : Int) < M.os.length by omega), (show (0 : Int) ≤ i by omega), (i64_in (x := (i : Int) + 1) (by unfold I64; omega))] at hW
              subst hW
              refine rd_next (i + 1) ?_ (show M.os.length - (i + 1) < M.os.length - i by omega)
              simp (maxSteps := 999999) only [E0, seval, -Int.reduceNatCast', z164, z163, z18, k145, k144, k143, k1, k2, kb2, k5, k13, k14, k19, k20, k22, kd, ms, ss]
              exact ⟨by omega, by simp⟩
            obtain ⟨sa, sb⟩ := STS_at (g := PAY M.os set) (set := set) e0 hfm
            rw [if_pos hfm] at ms
            rw [if_pos hfm] at ss
            have sc := map_get (f := stm) sa
            have sc : ((STS (PAY M.os set) M.os set f M.os.length).map stm)[(STS (PAY M.os set) M.os set f i).length]? = some (.agg [I x.no, I (PAY M.os set i x), I x.pr, .bool (decide (BIT set i = 1))]) := sc
            generalize PAY M.os set i x = y at *
            have ln : ((STS (PAY M.os set) M.os set f i).length + 1 : Nat) = (STS (PAY M.os set) M.os set f (i + 1)).length := by rw [ss]; simp
            generalize MON (PAY M.os set) M.os f i = mi at *
            generalize MON (PAY M.os set) M.os f M.os.length = mn at *
            generalize STS (PAY M.os set) M.os set f i = Si at *
            generalize STS (PAY M.os set) M.os set f M.os.length = Sn at *
            simp (maxSteps := 999999) only [E0, seval, -Int.reduceNatCast', NUM, SRCH, SFRM, SCRP, SRGT, SDTY, hv.s0, hv.s1, hv.s2, hv.fz, hlen, SOFR, SLOT, INTS, List.length_map, Int.toNat_natCast, neq_stm, ci, hfm, z165, z164, z163, z18, k145, k144, k143, k1, k2, kb2, k5, k13, k14, k19, k20, k22, hb24, e1, y1, pl, sc, kd, kf, (show (i : Int) < M.os.length by omega), (show (0 : Int) ≤ i by omega), (show ¬ (Si.length : Int) = Sn.length by omega), (show (Si.length : Int) < Sn.length by omega), (show (0 : Int) ≤ Si.length by omega), (i64_in (x := (i : Int) + 1) (by unfold I64; omega)), (i64_in (x := (Si.length : Int) + 1) (by unfold I64; omega)), (i64_in (x := mn - mi - y) (by unfold I64; omega))] at hW
            subst hW
            refine rd_next (i + 1) ?_ (show M.os.length - (i + 1) < M.os.length - i by omega)
            have e3 : mn - (mi + y) = mn - mi - y := by omega
            have ln' : ((STS (PAY M.os set) M.os set f (i + 1)).length : Int) = Si.length + 1 := by rw [← ln]; omega
            simp (maxSteps := 999999) only [E0, seval, -Int.reduceNatCast', z164, z163, z18, k145, k144, k143, k1, k2, kb2, k5, k13, k14, k20, kd, ms, e3, ln']
            exact ⟨by omega, by simp⟩)
      obtain ⟨fC, tC, bC, dC, HC, rC⟩ := sC
      dsimp only at k145 k144 k143 k1 k2 kb2 k5 k13 k14 k19 k20 k22 kd kf
      subst kd
      simp (maxSteps := 999999) only [E0, seval, -Int.reduceNatCast', NUM, k145, k144, k143, k19, k20, k22, kf, List.length_map, (i64_in (x := (f : Int) + 1) (by unfold I64; omega))] at hW
      subst hW
      refine rd_next (f + 1) ?_ (show M.D.fs.length - (f + 1) < M.D.fs.length - f by omega)
      simp (maxSteps := 999999) only [E0, seval, -Int.reduceNatCast', k144, k143, k1, k2, kb2, k5, k13, k14]
      exact ⟨by omega, by simp⟩)
  simp (maxSteps := 999999) only [E0, seval, -Int.reduceNatCast', NUM, h13, h14, hd]
end
end Go.Proofs.Ytbmmbefgmhhciaa
