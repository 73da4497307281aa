/-
  Payments are 0 together: plain numbers.
-/
import Derived.Test.YtbmmbefgmhhciaaGd
set_option linter.unusedSimpArgs false
set_option linter.unusedVariables false
set_option linter.unusedSectionVars false
namespace Go.Proofs.Ytbmmbefgmhhciaa
open Go GoV
set_option maxRecDepth 100000

theorem WGS_at {os : List Ofr} {set : Int} {i : Nat} {x : Ofr} (e : os[i]? = some x) : (WGS os set)[i]? = some (WGT set i x) := by
  unfold WGS
  rw [PART_get, e, Option.map_some, if_pos (List.getElem?_eq_some_iff.1 e).1]
theorem PRC_le_W {os : List Ofr} (set : Int) : ∀ k : Nat, k ≤ os.length → PRC os set k ≤ S.SUMI ((WGS os set).take k)
  | 0, _ => by simp [PRC, S.SUMI]
  | k + 1, hk => by
    obtain ⟨y, e0⟩ : ∃ y, os[k]? = some y := ⟨_, List.getElem?_eq_getElem (by omega)⟩
    have ih := PRC_le_W (os := os) set k (by omega)
    rw [PRC_succ e0, S.SUMI_take (WGS_at e0)]
    unfold WGT ABS
    by_cases hb : BIT set k = 1
    · rw [if_pos hb, if_pos hb]; omega
    · rw [if_neg hb, if_neg hb]; omega
theorem WGS_all {os : List Ofr} {set : Int} : (WGS os set).take os.length = WGS os set := by
  rw [List.take_of_length_le]
  unfold WGS
  rw [PART_len]
  exact Nat.le_refl _
section
variable {os : List Ofr} (h : PRB os) {set : Int} (hl : os.length ≤ 12) (h0 : 0 ≤ PRC os set os.length)
include h hl h0
theorem PRC_le_S : PRC os set os.length ≤ S.SUMI (WGS os set) := by
  have := PRC_le_W (os := os) set os.length (Nat.le_refl _)
  rw [WGS_all] at this
  exact this
/-- No offer gets back more than its weight. -/
theorem REB_wgt {i : Nat} {x : Ofr} {n : Int} (e : os[i]? = some x) (en : (REB os set)[i]? = some n) : 0 ≤ n ∧ n ≤ WGT set i x := by
  have ck := CKW_ok h set hl h0
  have ew := WGS_at (set := set) e
  have nn := (S.OUTS_in ck ew en).1
  refine ⟨nn, ?_⟩
  have hp := PRC_le_S h hl h0
  have ok := WGS_ok h set _ (List.mem_of_getElem? ew)
  unfold S.OKL at ok
  by_cases hz : S.SUMI (WGS os set) = 0
  · unfold REB S.OUTS at en
    rw [if_pos hz, List.getElem?_replicate] at en
    split at en
    · have := Option.some.inj en; omega
    · cases en
  · have q := S.OUTS_q ck hz ew en
    generalize S.SUMI (WGS os set) = Z at *
    generalize PRC os set os.length = T at *
    generalize WGT set i x = w at *
    have d := Int.mul_ediv_add_emod (T * w) Z
    have m0 := Int.emod_nonneg (T * w) hz
    have le : T * w ≤ Z * w := Int.mul_le_mul_of_nonneg_right hp ok.1
    have pz : 0 < Z := by omega
    generalize T * w % Z = r at *
    have k1 : T * w / Z ≤ w := Int.ediv_le_of_le_mul pz (by rw [Int.mul_comm w Z]; exact le)
    generalize T * w / Z = k at *
    rcases q with rfl | ⟨rfl, hr⟩
    · exact k1
    · have : k ≠ w := by
        intro g
        subst g
        omega
      omega
theorem REB_out {i : Nat} {x : Ofr} {n : Int} (e : os[i]? = some x) (en : (REB os set)[i]? = some n) (hb : ¬ BIT set i = 1) : n = 0 := by
  have := REB_wgt h hl h0 e en
  unfold WGT at this
  rw [if_neg hb] at this
  omega
theorem REB_sum : S.SUMI (REB os set) = PRC os set os.length := by
  have ck := CKW_ok h set hl h0
  have s := S.OUTS_sum ck
  have hp := PRC_le_S h hl h0
  unfold REB
  unfold S.REST at s
  split at s <;> omega
/-- All payments of the first offers. -/
theorem PAYS_take : ∀ k : Nat, k ≤ os.length → S.SUMI ((PAYS os set).take k) = PRC os set k - S.SUMI ((REB os set).take k)
  | 0, _ => by simp [PRC, S.SUMI]
  | k + 1, hk => by
    obtain ⟨y, e0⟩ : ∃ y, os[k]? = some y := ⟨_, List.getElem?_eq_getElem (by omega)⟩
    have ln := REB_len h set hl h0
    obtain ⟨n, en⟩ : ∃ n, (REB os set)[k]? = some n := ⟨_, List.getElem?_eq_getElem (by omega)⟩
    have rd : (REB os set).getD k 0 = n := by simp [List.getD_eq_getElem?_getD, en]
    have ih := PAYS_take k (by omega)
    rw [PRC_succ e0, S.SUMI_take (PAYS_get e0), S.SUMI_take en, ih]
    unfold PAY
    split
    · rw [rd]; omega
    · next hb => rw [REB_out h hl h0 e0 en hb]; omega
theorem PAYS_sum : S.SUMI (PAYS os set) = 0 := by
  have t := PAYS_take h hl h0 os.length (Nat.le_refl _)
  have ln := REB_len h set hl h0
  rw [List.take_of_length_le (by rw [PAYS_len]; exact Nat.le_refl _), List.take_of_length_le (by omega), REB_sum h hl h0] at t
  omega
/-- What is asked of a payment. -/
theorem PAY_ok {i : Nat} {x : Ofr} (e : os[i]? = some x) : (¬ BIT set i = 1 → PAY os set i x = 0) ∧ (BIT set i = 1 → ¬ x.pr < PAY os set i x ∧ (0 ≤ x.pr → ¬ PAY os set i x < 0)) := by
  have ln := REB_len h set hl h0
  have hi := (List.getElem?_eq_some_iff.1 e).1
  obtain ⟨n, en⟩ : ∃ n, (REB os set)[i]? = some n := ⟨_, List.getElem?_eq_getElem (by omega)⟩
  have rd : (REB os set).getD i 0 = n := by simp [List.getD_eq_getElem?_getD, en]
  have w := REB_wgt h hl h0 e en
  refine ⟨fun hb => by unfold PAY; rw [if_neg hb], fun hb => ?_⟩
  unfold WGT ABS at w
  rw [if_pos hb] at w
  unfold PAY
  rw [if_pos hb, rd]
  omega
end
/-- What the first farms pay. -/
def MSF (g : Nat → Ofr → Int) (os : List Ofr) (k : Nat) : Nat → Int
  | 0 => 0
  | f + 1 => MSF g os k f + MON g os f k
theorem MSF_bd {g : Nat → Ofr → Int} {os : List Ofr} {k : Nat} {B : Int} (h : ∀ f, -B ≤ MON g os f k ∧ MON g os f k ≤ B) (hB : 0 ≤ B) : ∀ f : Nat, -(B * f) ≤ MSF g os k f ∧ MSF g os k f ≤ B * f
  | 0 => by simp [MSF]
  | f + 1 => by
    have ih := MSF_bd h hB f
    have := h f
    have e2 : B * ((f + 1 : Nat) : Int) = B * f + B := by rw [Int.natCast_add, Int.mul_add]; simp
    rw [e2]
    unfold MSF
    omega
theorem MSF_zero (g : Nat → Ofr → Int) (os : List Ofr) : ∀ f, MSF g os 0 f = 0
  | 0 => rfl
  | f + 1 => by unfold MSF; rw [MSF_zero g os f]; rfl
theorem MSF_succ {g : Nat → Ofr → Int} {os : List Ofr} {k : Nat} {x : Ofr} (e : os[k]? = some x) (hx : 0 ≤ x.fm) : ∀ f : Nat, MSF g os (k + 1) f = MSF g os k f + if x.fm < f then g k x else 0
  | 0 => by
    unfold MSF
    rw [if_neg (by omega)]; rfl
  | f + 1 => by
    unfold MSF
    rw [MSF_succ e hx f, MON_succ e]
    by_cases h1 : x.fm = f
    · rw [if_pos h1, if_neg (by omega), if_pos (by omega)]; omega
    · rw [if_neg h1]
      by_cases h2 : x.fm < f
      · rw [if_pos h2, if_pos (by omega)]; omega
      · rw [if_neg h2, if_neg (by omega)]; omega
theorem MSF_all {M : Mkt} (hM : MC M = 0) (set : Int) : ∀ k : Nat, k ≤ M.os.length → MSF (PAY M.os set) M.os k M.D.fs.length = S.SUMI ((PAYS M.os set).take k)
  | 0, _ => by rw [MSF_zero]; simp [S.SUMI]
  | k + 1, hk => by
    obtain ⟨x, e0⟩ : ∃ x, M.os[k]? = some x := ⟨_, List.getElem?_eq_getElem (by omega)⟩
    have ok := (MOF_ok hM e0).2.1
    rw [MSF_succ e0 ok.1, MSF_all hM set k (by omega), S.SUMI_take (PAYS_get e0), if_pos ok.2]
theorem STS_pre (g : Nat → Ofr → Int) (os : List Ofr) (set f : Int) {i : Nat} : ∀ {n : Nat}, i ≤ n → ∃ r, STS g os set f n = STS g os set f i ++ r
  | 0, h => ⟨[], by have : i = 0 := by omega
                    subst this; simp⟩
  | n + 1, h => by
    by_cases hi : i = n + 1
    · subst hi; exact ⟨[], by simp⟩
    · obtain ⟨r, hr⟩ := STS_pre g os set f (i := i) (n := n) (by omega)
      refine ⟨r ++ (match os[n]? with
        | some x => if x.fm = f then [STN g set n x] else []
        | none => []), ?_⟩
      rw [← List.append_assoc, ← hr]
      rfl
theorem STS_at {g : Nat → Ofr → Int} {os : List Ofr} {set f : Int} {i : Nat} {x : Ofr} (e : os[i]? = some x) (hf : x.fm = f) : (STS g os set f os.length)[(STS g os set f i).length]? = some (STN g set i x) ∧ (STS g os set f i).length < (STS g os set f os.length).length := by
  have hi := (List.getElem?_eq_some_iff.1 e).1
  obtain ⟨r, hr⟩ := STS_pre g os set f (i := i + 1) (n := os.length) (by omega)
  rw [hr, STS_succ e, if_pos hf, List.append_assoc]
  constructor
  · rw [List.getElem?_append_right (Nat.le_refl _)]
    simp
  · simp
end Go.Proofs.Ytbmmbefgmhhciaa
