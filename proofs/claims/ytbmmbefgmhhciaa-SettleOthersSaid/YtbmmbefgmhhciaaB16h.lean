/-
  A market without one of its offers.
-/
import Derived.Test.YtbmmbefgmhhciaaB15h
set_option linter.unusedSimpArgs false
set_option linter.unusedVariables false
set_option linter.unusedSectionVars false
namespace Go.Proofs.Ytbmmbefgmhhciaa
open Go GoV
set_option maxRecDepth 100000

def UP (k j : Nat) : Nat := if j < k then j else j + 1
def LESS {α : Type} (l : List α) (k : Nat) : List α := l.take k ++ l.drop (k + 1)
theorem LESS_get {α : Type} {l : List α} {k : Nat} (hk : k < l.length) (j : Nat) : (LESS l k)[j]? = l[UP k j]? := by
  unfold LESS UP
  by_cases h : j < k
  · rw [if_pos h, List.getElem?_append_left (by rw [List.length_take]; omega), List.getElem?_take, if_pos h]
  · rw [if_neg h, List.getElem?_append_right (by rw [List.length_take]; omega), List.getElem?_drop, List.length_take]
    congr 1
    omega
theorem LESS_len {α : Type} {l : List α} {k : Nat} (hk : k < l.length) : (LESS l k).length = l.length - 1 := by
  unfold LESS
  rw [List.length_append, List.length_take, List.length_drop]
  omega
theorem LESS_eq {α : Type} {l m : List α} {k : Nat} (hk : k < l.length) (h : ∀ j, m[j]? = l[UP k j]?) : m = LESS l k := by
  apply List.ext_getElem?
  intro j
  rw [h, LESS_get hk]
theorem LESS_take {α : Type} {l : List α} {k : Nat} (hk : k < l.length) : (LESS l k).take k = l.take k ∧ (LESS l k).drop k = l.drop (k + 1) := by
  have : (l.take k).length = k := by rw [List.length_take]; omega
  unfold LESS
  constructor
  · rw [List.take_append_of_le_length (by omega), List.take_of_length_le (by omega)]
  · rw [List.drop_append_of_le_length (by omega), List.drop_of_length_le (by omega), List.nil_append]
/-- A set without a place. -/
def LSET (n k : Nat) : Nat := (n % 2 ^ k) ||| ((n >>> (k + 1)) <<< k)
theorem LSET_bit (n k j : Nat) : (LSET n k).testBit j = n.testBit (UP k j) := by
  unfold LSET UP
  rw [Nat.testBit_or, Nat.testBit_mod_two_pow, Nat.testBit_shiftLeft, Nat.testBit_shiftRight]
  by_cases h : j < k
  · rw [if_pos h, decide_eq_true h, decide_eq_false (by omega)]
    simp
  · rw [if_neg h, decide_eq_false h, decide_eq_true (by omega)]
    simp only [Bool.false_and, Bool.true_and, Bool.false_or]
    congr 1
    omega
theorem LSET_lt {n k N : Nat} (hn : n < 2 ^ N) (hk : k < N) : LSET n k < 2 ^ (N - 1) := by
  apply Nat.lt_pow_two_of_testBit
  intro i hi
  rw [LSET_bit]
  unfold UP
  rw [if_neg (by omega)]
  exact Nat.testBit_lt_two_pow (Nat.lt_of_lt_of_le hn (Nat.pow_le_pow_right (by decide) (by omega)))
theorem BIT_tb (n i : Nat) (hi : i ≤ 64) : BIT n i = if n.testBit i then 1 else 0 := by
  unfold BIT
  rw [Nat.min_eq_left hi, Nat.testBit_eq_decide_div_mod_eq]
  have e : (n : Int) / 2 ^ i % 2 = ((n / 2 ^ i % 2 : Nat) : Int) := by
    rw [Int.natCast_emod, Int.natCast_ediv, Int.natCast_pow]
    rfl
  rw [e]
  by_cases h : n / 2 ^ i % 2 = 1
  · rw [h]; rfl
  · have : n / 2 ^ i % 2 = 0 := by omega
    rw [this]; rfl
theorem LSET_BIT {n k j : Nat} (hj : j < 64) : BIT (LSET n k) j = BIT n (UP k j) := by
  rw [BIT_tb _ _ (by omega), BIT_tb _ _ (by unfold UP; split <;> omega), LSET_bit]
/-- What is added up over all places but one. -/
theorem up_fold {β : Type} (A A' : Nat → β) (st : Nat → β → β) (k n : Nat) (h0 : A' 0 = A 0) (hk : A (k + 1) = A k) (hA : ∀ i, A (i + 1) = st i (A i)) (hA' : ∀ j, j < n → A' (j + 1) = st (UP k j) (A' j)) : ∀ j, j ≤ n → (j ≤ k → A' j = A j) ∧ (k ≤ j → A' j = A (j + 1))
  | 0, _ => ⟨fun _ => h0, fun h => by
    have : k = 0 := by omega
    subst this
    rw [h0, hk]⟩
  | j + 1, hj => by
    have ih := up_fold A A' st k n h0 hk hA hA' j (by omega)
    have e := hA' j (by omega)
    unfold UP at e
    by_cases h : j < k
    · rw [if_pos h, ih.1 (by omega), ← hA] at e
      refine ⟨fun _ => e, fun g => ?_⟩
      have : k = j + 1 := by omega
      subst this
      rw [hk]; exact e
    · rw [if_neg h, ih.2 (by omega), ← hA] at e
      exact ⟨fun g => by omega, fun _ => e⟩
section
variable {M : Mkt} {n : Nat} (h : PE M n = 0) {k : Nat} (hk : k < M.os.length) (hb : ¬ BIT n k = 1)
def WOUT (M : Mkt) (k : Nat) : Mkt := ⟨M.D, M.aw, M.room, M.rain, LESS M.os k⟩
include hk hb
theorem PRC_less (hl : M.os.length ≤ 12) : PRC (LESS M.os k) (LSET n k) (LESS M.os k).length = PRC M.os n M.os.length := by
  have st := up_fold (PRC M.os n) (PRC (LESS M.os k) (LSET n k)) (fun i v => v + match M.os[i]? with
    | some x => if BIT n i = 1 then x.pr else 0
    | none => 0) k (LESS M.os k).length rfl (by
      obtain ⟨x, e⟩ : ∃ x, M.os[k]? = some x := ⟨_, List.getElem?_eq_getElem hk⟩
      rw [PRC_succ e, if_neg hb, Int.add_zero]) (fun i => rfl) (fun j hj => by
      rw [LESS_len hk] at hj
      show PRC (LESS M.os k) (LSET n k) j + _ = _
      rw [LESS_get hk, LSET_BIT (by omega)]
      cases M.os[UP k j]? <;> rfl) (LESS M.os k).length (Nat.le_refl _)
  have ln := LESS_len hk
  rw [st.2 (by omega), show (LESS M.os k).length + 1 = M.os.length by omega]
theorem MOVT_less (hl : M.os.length ≤ 12) : MOVT (WOUT M k) (LSET n k) (WOUT M k).os.length = MOVT M n M.os.length := by
  have st := up_fold (MOVT M n) (MOVT (WOUT M k) (LSET n k)) (fun i v => match M.os[i]? with
    | some x => if BIT n i = 1 then ADDS v x.fm.toNat x.lots else v
    | none => v) k (LESS M.os k).length rfl (by
      obtain ⟨x, e⟩ : ∃ x, M.os[k]? = some x := ⟨_, List.getElem?_eq_getElem hk⟩
      rw [MOVT_succ e, if_neg hb]) (fun i => rfl) (fun j hj => by
      rw [LESS_len hk] at hj
      show (match (LESS M.os k)[j]? with | some x => if BIT (LSET n k) j = 1 then ADDS (MOVT (WOUT M k) (LSET n k) j) x.fm.toNat x.lots else MOVT (WOUT M k) (LSET n k) j | none => MOVT (WOUT M k) (LSET n k) j) = _
      rw [LESS_get hk, LSET_BIT (by omega)]) (LESS M.os k).length (Nat.le_refl _)
  have ln := LESS_len hk
  show MOVT (WOUT M k) (LSET n k) (LESS M.os k).length = _
  rw [st.2 (by omega), show (LESS M.os k).length + 1 = M.os.length by omega]
omit hb in
theorem KPT_less (T : List (List Int)) : ∀ j, KPT (WOUT M k) T j = KPT M T j
  | 0 => rfl
  | j + 1 => by
    show (KPT (WOUT M k) T j).bind _ = (KPT M T j).bind _
    rw [KPT_less T j]
    rfl
omit hb in
theorem MC_less (hM : MC M = 0) : MC (WOUT M k) = 0 := by
  obtain ⟨h1, h2, h3, h4, h5, h6, h7, h8⟩ := MC_0 hM
  have ln := LESS_len hk
  unfold MC
  rw [if_pos (show XC (WOUT M k).D = 0 from h1), if_neg (show ¬ (8 < (WOUT M k).aw.length ∨ 12 < (WOUT M k).os.length) from by show ¬ (8 < M.aw.length ∨ 12 < (LESS M.os k).length); omega), if_neg (show ¬ ((WOUT M k).aw.length = 0 ∨ ¬ (0 ≤ (WOUT M k).room ∧ (WOUT M k).room ≤ 1099511627776) ∨ ¬ (0 ≤ (WOUT M k).rain ∧ (WOUT M k).rain ≤ 10000)) from by show ¬ (M.aw.length = 0 ∨ ¬ (0 ≤ M.room ∧ M.room ≤ 1099511627776) ∨ ¬ (0 ≤ M.rain ∧ M.rain ≤ 10000)); omega), if_pos]
  refine ⟨h7, fun i x e => ?_⟩
  have e' : M.os[UP k i]? = some x := by
    rw [← LESS_get hk]
    exact e
  obtain ⟨a1, a2, a3, a4⟩ := h8 _ x e'
  refine ⟨a1, ?_, a3, a4⟩
  show PO (LESS M.os k) i < x.no
  have po : ∀ {l : List Ofr} {j : Nat} {y : Ofr}, l[j]? = some y → PO l (j + 1) = y.no := fun h => PO_succ h
  have hi := (List.getElem?_eq_some_iff.1 e').1
  match i, e', a2, hi with
  | 0, e', a2, hi =>
    show (-1 : Int) < x.no
    have a1' := a1
    unfold OC at a1'
    split at a1'
    · omega
    · split at a1'
      · next g => have := g.1; omega
      · omega
  | i + 1, e', a2, hi =>
    have l1 : i < (LESS M.os k).length := by rw [ln]; unfold UP at hi; split at hi <;> omega
    obtain ⟨y, ey⟩ : ∃ y, (LESS M.os k)[i]? = some y := ⟨_, List.getElem?_eq_getElem l1⟩
    rw [po ey]
    rw [LESS_get hk] at ey
    unfold UP at e' a2 ey
    by_cases c1 : i + 1 < k
    · rw [if_pos (by omega)] at ey
      rw [if_pos c1] at a2
      rw [po ey] at a2
      exact a2
    · rw [if_neg c1] at a2 e'
      by_cases c2 : i < k
      · rw [if_pos c2] at ey
        obtain ⟨z, ez⟩ : ∃ z, M.os[i + 1]? = some z := ⟨_, List.getElem?_eq_getElem (by omega)⟩
        rw [po ez] at a2
        have := (h8 _ z ez).2.1
        rw [po ey] at this
        omega
      · rw [if_neg c2] at ey
        rw [po ey] at a2
        exact a2
include h
theorem PE_less : PE (WOUT M k) (LSET n k) = 0 := by
  obtain ⟨h0, ha, hp⟩ := PE_0 h
  obtain ⟨hM, hs0, hs1⟩ := ASK_0 h0
  have lo := (MC_0 hM).2.2.1
  have ln := LESS_len hk
  have nl : n < 2 ^ M.os.length := by
    have e : ((2 ^ M.os.length : Nat) : Int) = (2 : Int) ^ M.os.length := by rw [Int.natCast_pow]; rfl
    omega
  have ask : ASK (WOUT M k) (LSET n k) = 0 := by
    unfold ASK
    rw [if_pos (MC_less hk hM), if_pos]
    refine ⟨by omega, ?_⟩
    have lt := LSET_lt nl hk
    have e : ((2 ^ (M.os.length - 1) : Nat) : Int) = (2 : Int) ^ (M.os.length - 1) := by rw [Int.natCast_pow]; rfl
    show (LSET n k : Int) ≤ 2 ^ (LESS M.os k).length - 1
    rw [ln]
    omega
  have aft : AFT (WOUT M k) (LSET n k) ≠ none := by
    unfold AFT at ha ⊢
    split at ha
    rotate_left
    · exact absurd rfl ha
    next hrn =>
    have rn : RNK (WOUT M k) (LSET n k) (WOUT M k).os.length := by
      intro j x hj e hbit
      have hj : j < (LESS M.os k).length := hj
      have e' : M.os[UP k j]? = some x := by
        rw [← LESS_get hk]
        exact e
      rw [LSET_BIT (by omega)] at hbit
      exact hrn _ x (List.getElem?_eq_some_iff.1 e').1 e' hbit
    rw [if_pos rn, MOVT_less hk hb lo, KPT_less hk]
    show (match KPT M _ M.aw.length with | some _ => _ | none => none) ≠ none
    split at ha
    · next g => rw [g]; simp
    · exact absurd rfl ha
  unfold PE
  rw [if_neg (by rw [ask]; simp), if_neg]
  rintro (g | g)
  · exact aft g
  · have : PRC (WOUT M k).os (LSET n k) (WOUT M k).os.length = PRC M.os n M.os.length := PRC_less hk hb lo
    omega
theorem WGS_less : ∃ a b, WGS M.os n = a ++ 0 :: b ∧ a.length = k ∧ WGS (LESS M.os k) (LSET n k) = a ++ b := by
  obtain ⟨h0, _, _⟩ := PE_0 h
  have lo := (MC_0 (ASK_0 h0).1).2.2.1
  have wl : (WGS M.os n).length = M.os.length := PART_len _ _ _
  have ln := LESS_len hk
  have wg : ∀ i, (WGS M.os n)[i]? = (M.os[i]?).map (WGT n i) := by
    intro i
    unfold WGS
    rw [PART_get]
    cases e : M.os[i]? with
    | none => rfl
    | some x => rw [Option.map_some, Option.map_some, if_pos (List.getElem?_eq_some_iff.1 e).1]
  obtain ⟨x, ex⟩ : ∃ x, M.os[k]? = some x := ⟨_, List.getElem?_eq_getElem hk⟩
  have wk : (WGS M.os n)[k]? = some 0 := by
    rw [wg, ex, Option.map_some]
    unfold WGT
    rw [if_neg hb]
  refine ⟨(WGS M.os n).take k, (WGS M.os n).drop (k + 1), ?_, by rw [List.length_take]; omega, ?_⟩
  · have := List.take_append_drop k (WGS M.os n)
    rw [List.drop_eq_getElem_cons (by omega)] at this
    obtain ⟨_, g⟩ := List.getElem?_eq_some_iff.1 wk
    rw [g] at this
    exact this.symm
  · refine LESS_eq (k := k) (l := WGS M.os n) (by omega) fun j => ?_
    rw [wg]
    unfold WGS
    rw [PART_get, LESS_get hk]
    cases e : M.os[UP k j]? with
    | none => rfl
    | some y =>
      have hj : j < (LESS M.os k).length := by
        rw [← LESS_get hk] at e
        exact (List.getElem?_eq_some_iff.1 e).1
      rw [Option.map_some, Option.map_some, if_pos hj]
      unfold WGT
      rw [LSET_BIT (by omega)]
theorem REB_less (j : Nat) : (REB (LESS M.os k) (LSET n k))[j]? = (REB M.os n)[UP k j]? := by
  obtain ⟨h0, _, hp⟩ := PE_0 h
  have hM := (ASK_0 h0).1
  have lo := (MC_0 hM).2.2.1
  obtain ⟨a, b, e1, e2, e3⟩ := WGS_less h hk hb
  have ck := CKW_ok (MC_prb hM) n lo hp
  unfold REB
  rw [PRC_less hk hb lo, e3]
  rw [e1] at ck ⊢
  have rm := S.OUTS_rm ck
  rw [e2] at rm
  unfold UP
  by_cases g : j < k
  · rw [if_pos g]; exact rm.1 j g
  · rw [if_neg g]; exact rm.2 j (by omega)
theorem PAYS_less : PAYS (LESS M.os k) (LSET n k) = LESS (PAYS M.os n) k := by
  obtain ⟨h0, _, _⟩ := PE_0 h
  have lo := (MC_0 (ASK_0 h0).1).2.2.1
  have ln := LESS_len hk
  refine LESS_eq (by rw [PAYS_len]; exact hk) fun j => ?_
  unfold PAYS
  rw [PART_get, PART_get, LESS_get hk]
  cases e : M.os[UP k j]? with
  | none => rfl
  | some y =>
    have hj : j < (LESS M.os k).length := by
      have e' := e
      rw [← LESS_get hk] at e'
      exact (List.getElem?_eq_some_iff.1 e').1
    rw [Option.map_some, Option.map_some, if_pos hj, if_pos (List.getElem?_eq_some_iff.1 e).1]
    unfold PAY
    rw [LSET_BIT (by omega), List.getD_eq_getElem?_getD, List.getD_eq_getElem?_getD, REB_less h hk hb]
end
end Go.Proofs.Ytbmmbefgmhhciaa
