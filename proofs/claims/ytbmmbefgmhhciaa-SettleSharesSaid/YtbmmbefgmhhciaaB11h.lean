/-
  The rebate of an offer differs by less than one from its exact share: the walk.
-/
import Derived.Test.YtbmmbefgmhhciaaGd
set_option linter.unusedSimpArgs false
set_option linter.unusedVariables false
set_option linter.unusedSectionVars false
namespace Go.Proofs.Ytbmmbefgmhhciaa
open Go GoV
set_option maxRecDepth 100000

theorem PRC_bdB {os : List Ofr} {B : Int} (h : ∀ x ∈ os, -B ≤ x.pr ∧ x.pr ≤ B) (hB : 0 ≤ B) (set : Int) : ∀ k : Nat, -(B * k) ≤ PRC os set k ∧ PRC os set k ≤ B * k
  | 0 => by simp [PRC]
  | k + 1 => by
    have ih := PRC_bdB h hB set k
    have e2 : B * ((k + 1 : Nat) : Int) = B * k + B := by rw [Int.natCast_add, Int.mul_add]; simp
    rw [e2]
    cases e : os[k]? with
    | none =>
      have : PRC os set (k + 1) = PRC os set k := by
        show PRC os set k + _ = _
        rw [e]; simp
      rw [this]; omega
    | some x =>
      have := h x (List.mem_of_getElem? e)
      rw [PRC_succ e]
      split <;> omega
theorem WGS_get {os : List Ofr} {set : Int} {i : Nat} {x : Ofr} (e : os[i]? = some x) : (WGS os set)[i]? = some (WGT set i x) := by
  unfold WGS
  rw [PART_get, e, Option.map_some, if_pos (List.getElem?_eq_some_iff.1 e).1]
theorem WGT_bd {os : List Ofr} {B : Int} (hB : 0 ≤ B) {set : Int} {i : Nat} {x : Ofr} (h : -B ≤ x.pr ∧ x.pr ≤ B) : 0 ≤ WGT set i x ∧ WGT set i x ≤ B := by
  unfold WGT ABS
  split <;> omega
/-- What the first offers of a set weigh. -/
def WSUM (os : List Ofr) (set : Int) (k : Nat) : Int := S.SUMI ((WGS os set).take k)
theorem WSUM_succ {os : List Ofr} {set : Int} {k : Nat} {x : Ofr} (e : os[k]? = some x) : WSUM os set (k + 1) = WSUM os set k + WGT set k x := S.SUMI_take (WGS_get e)
theorem WSUM_bd {os : List Ofr} {B : Int} (hB : 0 ≤ B) (set : Int) : ∀ k : Nat, (∀ x ∈ os.take k, -B ≤ x.pr ∧ x.pr ≤ B) → k ≤ os.length → 0 ≤ WSUM os set k ∧ WSUM os set k ≤ B * k
  | 0, _, _ => by simp [WSUM, S.SUMI]
  | k + 1, h, hk => by
    obtain ⟨y, e0⟩ : ∃ y, os[k]? = some y := ⟨_, List.getElem?_eq_getElem (by omega)⟩
    have tk : os.take (k + 1) = os.take k ++ [y] := by rw [List.take_add_one, e0]; rfl
    rw [tk] at h
    have ih := WSUM_bd hB set k (fun x hx => h x (List.mem_append_left _ hx)) (by omega)
    have b := WGT_bd (os := os) hB (set := set) (i := k) (h y (List.mem_append_right _ (List.mem_singleton.2 rfl)))
    have e2 : B * ((k + 1 : Nat) : Int) = B * k + B := by rw [Int.natCast_add, Int.mul_add]; simp
    rw [WSUM_succ e0, e2]
    omega
theorem REB_le {os : List Ofr} (h : PRB os) (set : Int) (hl : os.length ≤ 12) (h0 : 0 ≤ PRC os set os.length) : ∀ x ∈ REB os set, 0 ≤ x ∧ x ≤ PRC os set os.length := by
  have ck := CKW_ok h set hl h0
  intro x hx
  obtain ⟨i, ei⟩ := List.mem_iff_getElem?.1 hx
  have t1 := S.OUTS_take ck i
  have t2 := S.OUTS_take ck (i + 1)
  have := S.SUMI_take (l := S.OUTS (PRC os set os.length) (WGS os set)) ei
  have := (REB_bd h set hl h0 x hx).1
  omega
/-- A rebate is its share, rounded. -/
theorem REB_share {os : List Ofr} (h : PRB os) {set : Int} (hl : os.length ≤ 12) (h0 : 0 ≤ PRC os set os.length) {i : Nat} {x : Ofr} {n Z V : Int} (e : os[i]? = some x) (hb : BIT set i = 1) (en : (REB os set)[i]? = some n) (hZ : WSUM os set os.length = Z) (hV : PRC os set os.length = V) (hZ0 : 0 ≤ Z) :
    (0 < Z → ¬ (n * Z - V * ABS x.pr ≤ -Z) ∧ ¬ (Z ≤ n * Z - V * ABS x.pr)) ∧ (Z = 0 → n = 0) := by
  have ck := CKW_ok h set hl h0
  have ew := WGS_get (set := set) e
  have ex : WGT set i x = ABS x.pr := by unfold WGT; rw [if_pos hb]
  have eZ : S.SUMI (WGS os set) = Z := by
    rw [← hZ]
    unfold WSUM
    rw [List.take_of_length_le]
    unfold WGS
    rw [PART_len]
    exact Nat.le_refl _
  rw [ex] at ew
  unfold REB at en
  rw [hV] at ck en
  constructor
  · intro hp
    have q := S.OUTS_q ck (by rw [eZ]; omega) ew en
    rw [eZ] at q
    have d := Int.mul_ediv_add_emod (V * ABS x.pr) Z
    have m0 := Int.emod_nonneg (V * ABS x.pr) (show Z ≠ 0 by omega)
    have m1 := Int.emod_lt_of_pos (V * ABS x.pr) hp
    generalize V * ABS x.pr % Z = r at *
    generalize V * ABS x.pr / Z = k at *
    generalize V * ABS x.pr = P at *
    rcases q with rfl | ⟨rfl, hr⟩
    · rw [Int.mul_comm n Z]; omega
    · rw [Int.add_mul, Int.mul_comm k Z]; omega
  · intro hz
    unfold S.OUTS at en
    rw [if_pos (by rw [eZ]; exact hz)] at en
    rw [List.getElem?_replicate] at en
    split at en
    · exact (Option.some.inj en).symm
    · cases en
end Go.Proofs.Ytbmmbefgmhhciaa
