/-
  An offer without weight taken back: the shares of the others stay.
-/
import Derived.Test.YtbmmbefgmhhciaaGd
set_option linter.unusedSimpArgs false
set_option linter.unusedVariables false
set_option linter.unusedSectionVars false
namespace Go.Proofs.Ytbmmbefgmhhciaa
namespace S
open Go GoV
set_option maxRecDepth 100000

def NEK (k : Nat) (q : Qu) : Bool := decide (q.ix ≠ (k : Int))
/-- Places behind a place that is taken away. -/
def REN (k : Nat) (q : Qu) : Qu := ⟨if (k : Int) < q.ix then q.ix - 1 else q.ix, q.r⟩
theorem REN_lt {k : Nat} {a b : Qu} (h : QLT a b) (ha : a.ix ≠ (k : Int)) (hb : b.ix ≠ (k : Int)) : QLT (REN k a) (REN k b) := by
  unfold QLT REN at *
  dsimp only
  rcases h with h | ⟨h1, h2⟩
  · exact .inl h
  · refine .inr ⟨h1, ?_⟩
    split <;> split <;> omega
theorem QUOF_lo (T Z : Int) (k : Nat) : ∀ (i : Nat) (a : List Int), i + a.length ≤ k → ((QUOF T Z i a).filter (NEK k)).map (REN k) = QUOF T Z i a
  | _, [], _ => rfl
  | i, x :: a, h => by
    simp only [List.length_cons] at h
    have ih := QUOF_lo T Z k (i + 1) a (by omega)
    have h1 : NEK k ⟨i, T * x % Z⟩ = true := decide_eq_true (by dsimp only; omega)
    have h2 : REN k ⟨i, T * x % Z⟩ = ⟨i, T * x % Z⟩ := by
      unfold REN
      rw [if_neg (show ¬ (k : Int) < (i : Int) by omega)]
    simp only [QUOF, List.filter_cons, h1, if_true, List.map_cons, ih, h2]
theorem QUOF_hi (T Z : Int) (k : Nat) : ∀ (i : Nat) (a : List Int), k ≤ i → ((QUOF T Z (i + 1) a).filter (NEK k)).map (REN k) = QUOF T Z i a
  | _, [], _ => rfl
  | i, x :: a, h => by
    have ih := QUOF_hi T Z k (i + 1) a (by omega)
    have h1 : NEK k ⟨((i + 1 : Nat) : Int), T * x % Z⟩ = true := decide_eq_true (by dsimp only; omega)
    have h2 : REN k ⟨((i + 1 : Nat) : Int), T * x % Z⟩ = ⟨i, T * x % Z⟩ := by
      unfold REN
      rw [if_pos (show (k : Int) < ((i + 1 : Nat) : Int) by omega), show ((i + 1 : Nat) : Int) - 1 = i by omega]
    simp only [QUOF, List.filter_cons, h1, if_true, List.map_cons, ih, h2]
theorem QUO_rm (T Z : Int) (a b : List Int) (x : Int) : ((QUO T Z (a ++ x :: b)).filter (NEK a.length)).map (REN a.length) = QUO T Z (a ++ b) := by
  unfold QUO
  rw [QUOF_app, QUOF_app, List.filter_append, List.map_append, QUOF_lo T Z a.length 0 a (by omega)]
  congr 1
  rw [Nat.zero_add]
  show (((⟨a.length, T * x % Z⟩ : Qu) :: QUOF T Z (a.length + 1) b).filter _).map _ = _
  rw [List.filter_cons_of_neg (by unfold NEK; simp)]
  exact QUOF_hi T Z a.length a.length b (Nat.le_refl _)
theorem SHA_rm {T Z : Int} {a b : List Int} {M : List Qu} {left : Nat} (h : SHA T Z (a ++ 0 :: b) M left) : SHA T Z (a ++ b) ((M.filter (NEK a.length)).map (REN a.length)) left := by
  refine ⟨?_, ?_, ?_⟩
  · rw [← QUO_rm T Z a b 0]
    exact (h.pm.filter _).map _
  · refine List.pairwise_map.2 ?_
    have hf := h.qs.filter (NEK a.length)
    refine hf.imp_of_mem ?_
    intro p q hp hq hpq
    exact REN_lt hpq (of_decide_eq_true (List.mem_filter.1 hp).2) (of_decide_eq_true (List.mem_filter.1 hq).2)
  · have e := h.lf
    unfold SHQ at e ⊢
    rw [List.map_append, SUMI_app, List.map_cons, SUMI, Int.mul_zero, Int.zero_ediv] at e
    rw [List.map_append, SUMI_app]
    omega
theorem K_rm {T Z : Int} {a b : List Int} {M : List Qu} {left : Nat} (h : SHA T Z (a ++ 0 :: b) M left) (hs : Z = SUMI (a ++ 0 :: b)) (hZ : 0 < Z) : (SHA_rm h).K = (M.take left).map fun q => (REN a.length q).ix := by
  unfold SHA.K
  have all : ∀ q ∈ M.take left, NEK a.length q = true := by
    intro q hq
    refine decide_eq_true fun e => ?_
    have hp := h.pos hs hZ q hq
    obtain ⟨j, x, ej, rfl⟩ := QUO_mem (h.pm.mem_iff.1 (List.mem_of_mem_take hq))
    have hj : j = a.length := by dsimp only at e; omega
    subst hj
    have hx : x = 0 := by
      rw [List.getElem?_append_right (Nat.le_refl _), Nat.sub_self] at ej
      exact (Option.some.inj ej).symm
    subst hx
    dsimp only at hp
    rw [Int.mul_zero, Int.zero_emod] at hp
    omega
  have e : M.filter (NEK a.length) = M.take left ++ (M.drop left).filter (NEK a.length) := by
    conv => lhs; rw [← List.take_append_drop left M]
    rw [List.filter_append, List.filter_eq_self.2 all]
  have le := h.left_le hs hZ
  have tl : (M.take left).length = left := by rw [List.length_take]; omega
  rw [e, List.map_append, List.take_append_of_le_length (by rw [List.length_map, tl]; exact Nat.le_refl _), List.take_of_length_le (by rw [List.length_map, tl]; exact Nat.le_refl _), List.map_map]
  rfl
theorem SHA.K_mem {T Z : Int} {w : List Int} {M : List Qu} {left : Nat} (h : SHA T Z w M left) (i : Int) : i ∈ h.K ↔ ∃ q ∈ M.take left, q.ix = i := by
  unfold SHA.K
  exact List.mem_map
/-- The shares of the others. -/
theorem OUTS_rm {T : Int} {a b : List Int} (h : CKW T (a ++ 0 :: b) = 0) : (∀ i, i < a.length → (OUTS T (a ++ b))[i]? = (OUTS T (a ++ 0 :: b))[i]?) ∧ (∀ i, a.length ≤ i → (OUTS T (a ++ b))[i]? = (OUTS T (a ++ 0 :: b))[i + 1]?) := by
  have sm : SUMI (a ++ 0 :: b) = SUMI (a ++ b) := by rw [SUMI_app, SUMI_app, SUMI]; omega
  have ln : (a ++ 0 :: b).length = (a ++ b).length + 1 := by simp; omega
  by_cases h0 : SUMI (a ++ b) = 0
  · unfold OUTS
    rw [sm, if_pos h0, if_pos h0]
    constructor
    · intro i hi
      rw [List.getElem?_replicate, List.getElem?_replicate, if_pos (by simp; omega), if_pos (by simp; omega)]
    · intro i hi
      rw [List.getElem?_replicate, List.getElem?_replicate, ln]
      by_cases h2 : i < (a ++ b).length
      · rw [if_pos h2, if_pos (by omega)]
      · rw [if_neg h2, if_neg (by omega)]
  obtain ⟨M, left, hs, _⟩ := c_share1 T (a ++ 0 :: b) none h (by rw [sm]; exact h0)
  have bd := (CKW_0 h).2.2
  have sp : 0 ≤ SUMI (a ++ 0 :: b) := by
    have := (SUMI_bounds (a := 0) (b := 1073741824) (a ++ 0 :: b) (fun x hx => bd x hx)).1
    omega
  have hZ : 0 < SUMI (a ++ 0 :: b) := by omega
  have hr := SHA_rm hs
  have ek := K_rm hs rfl hZ
  have o1 : OUTS T (a ++ 0 :: b) = hs.out := by unfold OUTS; rw [if_neg (by rw [sm]; exact h0), SHO_eq hs]
  have hr' : SHA T (SUMI (a ++ b)) (a ++ b) ((M.filter (NEK a.length)).map (REN a.length)) left := by rw [← sm]; exact hr
  have o2 : OUTS T (a ++ b) = hr.out := by
    unfold OUTS
    rw [if_neg h0, ← SHO_eq hr']
    unfold SHA.out SHA.K
    rw [sm]
  have nk : ∀ q ∈ M.take left, q.ix ≠ (a.length : Int) := by
    intro q hq e
    have hp := hs.pos rfl hZ q hq
    obtain ⟨j, x, ej, rfl⟩ := QUO_mem (hs.pm.mem_iff.1 (List.mem_of_mem_take hq))
    have hj : j = a.length := by dsimp only at e; omega
    subst hj
    have hx : x = 0 := by
      rw [List.getElem?_append_right (Nat.le_refl _), Nat.sub_self] at ej
      exact (Option.some.inj ej).symm
    subst hx
    dsimp only at hp
    rw [Int.mul_zero, Int.zero_emod] at hp
    omega
  have kin : ∀ i : Int, i ∈ (SHA_rm hs).K ↔ ∃ q ∈ M.take left, (REN a.length q).ix = i := by
    intro i
    rw [ek]
    exact List.mem_map
  rw [o1, o2]
  constructor
  · intro i hi
    have e1 : (a ++ b)[i]? = some a[i] := by rw [List.getElem?_append_left hi, List.getElem?_eq_getElem hi]
    have e2 : (a ++ 0 :: b)[i]? = some a[i] := by rw [List.getElem?_append_left hi, List.getElem?_eq_getElem hi]
    rw [hr.out_get e1, hs.out_get e2]
    have iff : (i : Int) ∈ hr.K ↔ (i : Int) ∈ hs.K := by
      rw [kin, hs.K_mem]
      constructor
      · rintro ⟨q, hq, e⟩
        have := nk q hq
        unfold REN at e
        dsimp only at e
        split at e
        · exfalso; omega
        · exact ⟨q, hq, e⟩
      · rintro ⟨q, hq, e⟩
        refine ⟨q, hq, ?_⟩
        unfold REN
        dsimp only
        rw [if_neg (by omega)]; exact e
    by_cases g : (i : Int) ∈ hs.K
    · rw [if_pos g, if_pos (iff.2 g)]
    · rw [if_neg g, if_neg (fun q => g (iff.1 q))]
  · intro i hi
    by_cases hl : i < (a ++ b).length
    rotate_left
    · rw [List.getElem?_eq_none (by rw [hr.out_len]; omega), List.getElem?_eq_none (by rw [hs.out_len, ln]; omega)]
    have hb : i - a.length < b.length := by rw [List.length_append] at hl; omega
    have e1 : (a ++ b)[i]? = some b[i - a.length] := by rw [List.getElem?_append_right hi, List.getElem?_eq_getElem hb]
    have e2 : (a ++ 0 :: b)[i + 1]? = some b[i - a.length] := by
      rw [List.getElem?_append_right (by omega), show i + 1 - a.length = (i - a.length) + 1 by omega, List.getElem?_cons_succ, List.getElem?_eq_getElem hb]
    rw [hr.out_get e1, hs.out_get e2]
    have iff : (i : Int) ∈ hr.K ↔ ((i + 1 : Nat) : Int) ∈ hs.K := by
      rw [kin, hs.K_mem]
      constructor
      · rintro ⟨q, hq, e⟩
        have := nk q hq
        unfold REN at e
        dsimp only at e
        split at e
        · exact ⟨q, hq, by omega⟩
        · exfalso; omega
      · rintro ⟨q, hq, e⟩
        refine ⟨q, hq, ?_⟩
        unfold REN
        dsimp only
        rw [if_pos (by omega)]; omega
    by_cases g : ((i + 1 : Nat) : Int) ∈ hs.K
    · rw [if_pos g, if_pos (iff.2 g)]
    · rw [if_neg g, if_neg (fun q => g (iff.1 q))]
end S
end Go.Proofs.Ytbmmbefgmhhciaa
