/-
  Wider bounds, own forecasts, greater rates: what stakes forfeit then.
-/
import Derived.Test.YtnabgahkdomeoaaC29
set_option linter.unusedSimpArgs false
set_option linter.unusedVariables false
set_option linter.unusedSectionVars false
namespace Go.Proofs.Ytnabgahkdomeoaa
open Go GoV
set_option maxRecDepth 100000

theorem FOR_kt {l : List Stk} {ps : List Pst} (h : CHK l ps = 0) {i : Nat} {x : Stk} (e : l[i]? = some x) : FOR l ps i = (FORV x ps, 0) := by
  have hi := (List.getElem?_eq_some_iff.1 e).1
  unfold FOR
  rw [if_pos h, if_pos (by omega), Int.toNat_natCast, List.getD_eq_getElem?_getD, e]; rfl
def WID (l : List Rg) (m : Int) : List Rg := l.map fun x => ⟨max 0 (x.lo - m), min 1099511627776 (x.hi + m)⟩
def WP (m : Int) (x : Pst) : Pst := ⟨x.b, WID x.bo m, none, x.se, x.cs⟩
theorem INC_pw {l : List Pst} (h : INC l) : l.Pairwise fun a b => a.b < b.b := by
  refine List.pairwise_iff_getElem.2 fun i j hi hj hij => ?_
  exact INC_lt h j i _ _ hij (List.getElem?_eq_getElem hj) (List.getElem?_eq_getElem hi)
theorem pw_INC {l : List Pst} (h : l.Pairwise fun a b => a.b < b.b) : INC l := by
  intro k hk x e y h0 ey
  have hk' : k - 1 < l.length := by omega
  have e1 := (List.getElem?_eq_some_iff.1 e).2
  have e2 := (List.getElem?_eq_some_iff.1 ey).2
  have := List.pairwise_iff_getElem.1 h (k - 1) k hk' hk (by omega)
  rw [e1, e2] at this; exact this
theorem OKP_wide {x : Pst} {m : Int} (h : OKP x) (hm : 0 ≤ m ∧ m ≤ 1099511627776) : OKP (WP m x) := by
  obtain ⟨h1, ⟨h2, h3⟩, h4, h5⟩ := h
  refine ⟨h1, ⟨by simp [WP, WID]; omega, ?_⟩, by simp [WP, WID]; omega, h5⟩
  intro y hy
  simp only [WP, WID, List.mem_map] at hy
  obtain ⟨z, hz, rfl⟩ := hy
  have := h3 z hz
  unfold OKR at *
  simp only
  omega
theorem CHK_mk {l : List Stk} {ps ps' : List Pst} (h : CHK l ps = 0) (hl : ps'.length ≤ 256) (ok : ∀ x ∈ ps', OKP x) (hi : INC ps') : CHK l ps' = 0 := by
  have hs : CKS l = 0 := by
    unfold CHK at h
    split at h
    · assumption
    · exact h
  unfold CHK
  rw [if_pos hs, if_pos (CKP_0.2 ⟨hl, ok⟩), if_pos hi]
theorem DIST_wide {r : Rg} {n m : Int} (hr : OKR r) (hn : OKI n) (hm : 0 ≤ m) : DIST ⟨max 0 (r.lo - m), min 1099511627776 (r.hi + m)⟩ n ≤ DIST r n := by
  unfold OKR at hr
  unfold OKI at hn
  unfold DIST
  simp only
  omega
theorem AMT_mono {d d' r r' D D' : Int} (hd : d ≤ d') (hr : 0 ≤ r ∧ r ≤ r') (hD : 0 ≤ D ∧ D ≤ D') : min d (r * D) ≤ min d' (r' * D') := by
  have h1 : r * D ≤ r' * D' := Int.mul_le_mul hr.2 hD.2 hD.1 (by omega)
  omega
theorem FND_wide (m : Int) (b : Int) : ∀ (ps : List Pst), FND b (ps.map (WP m)) = (FND b ps).map (WP m) := by
  intro ps
  unfold FND
  induction ps with
  | nil => rfl
  | cons y ps ih =>
    simp only [List.map_cons, List.find?_cons]
    have e : (WP m y).b = y.b := rfl
    rw [e]
    split
    · rfl
    · exact ih
theorem FORV_wide {x : Stk} {ps : List Pst} {m : Int} (hx : OKS x) (ok : ∀ y ∈ ps, OKP y) (hm : 0 ≤ m ∧ m ≤ 1099511627776) : FORV x (ps.map (WP m)) ≤ FORV x ps := by
  unfold FORV
  rw [FND_wide]
  cases hf : FND x.b ps with
  | none => exact Int.le_refl _
  | some y =>
    have hy := ok y (List.mem_of_find?_eq_some hf)
    show AMT x (WP m y) ≤ AMT x y
    have ll : (WP m y).bo.length = y.bo.length := by simp [WP, WID]
    by_cases hp : x.p < y.bo.length
    · obtain ⟨r, n, e1, e2, o1, o2, ea, _⟩ := AMT_in hx hy hp
      have e1' : (WP m y).bo[x.p.toNat]? = some ⟨max 0 (r.lo - m), min 1099511627776 (r.hi + m)⟩ := by simp [WP, WID, e1]
      have ea' : AMT x (WP m y) = min x.d (x.r * DIST ⟨max 0 (r.lo - m), min 1099511627776 (r.hi + m)⟩ n) := by
        unfold AMT
        rw [if_pos (by rw [ll]; exact hp), e1', show (WP m y).se = y.se from rfl, e2]
      rw [ea, ea']
      refine AMT_mono (Int.le_refl _) ⟨hx.2.2.2.1, Int.le_refl _⟩ ⟨?_, DIST_wide o1 o2 hm.1⟩
      unfold DIST; omega
    · unfold AMT
      rw [if_neg (by rw [ll]; exact hp), if_neg hp]; exact Int.le_refl _
/-- Those of one body. -/
def OWNP (b : Int) (ps : List Pst) : List Pst := ps.filter fun y => decide (y.b = b)
theorem OWNP_take {b : Int} {ps : List Pst} {j : Nat} {x : Pst} (e : ps[j]? = some x) : OWNP b (ps.take (j + 1)) = OWNP b (ps.take j) ++ (if x.b = b then [x] else []) := by
  rw [List.take_add_one, e]
  simp only [OWNP, Option.toList_some, List.filter_append]
  congr 1
  by_cases h : x.b = b <;> simp [h]
theorem FORV_own (x : Stk) (ps : List Pst) : FORV x (OWNP x.b ps) = FORV x ps := by
  have : FND x.b (OWNP x.b ps) = FND x.b ps := by
    unfold FND OWNP
    rw [List.find?_filter]
    congr 1
    funext y
    simp
  unfold FORV; rw [this]
theorem CHK_own {l : List Stk} {ps : List Pst} (h : CHK l ps = 0) (b : Int) : CHK l (OWNP b ps) = 0 := by
  obtain ⟨_, ⟨hp, ok⟩, hi⟩ := CHK_0 h
  refine CHK_mk h ?_ (fun x hx => ok x ((List.mem_filter.1 hx).1)) (pw_INC ((INC_pw hi).filter _))
  exact Nat.le_trans (List.length_filter_le _ _) hp
theorem CHK_wide {l : List Stk} {ps : List Pst} (h : CHK l ps = 0) {m : Int} (hm : 0 ≤ m ∧ m ≤ 1099511627776) : CHK l (ps.map (WP m)) = 0 := by
  obtain ⟨_, ⟨hp, ok⟩, hi⟩ := CHK_0 h
  refine CHK_mk h (by simpa using hp) ?_ (pw_INC (List.pairwise_map.2 (INC_pw hi)))
  intro x hx
  obtain ⟨y, hy, rfl⟩ := List.mem_map.1 hx
  exact OKP_wide (ok y hy) hm
def GRE (x : Stk) (rate dep : Int) : Stk := ⟨x.b, x.p, max x.d dep, max x.r rate⟩
theorem GOOD_set {l : List Stk} (h : GOOD l) {i : Nat} {x : Stk} (e : l[i]? = some x) (rate dep : Int) : GOOD (l.set i (GRE x rate dep)) ↔ OKS (GRE x rate dep) := by
  have hi := (List.getElem?_eq_some_iff.1 e).1
  constructor
  · intro g
    exact GOOD_in g (i := i) (by rw [List.getElem?_set_self hi])
  · intro ok k hk z ez
    have hkl : k < l.length := by simpa using hk
    have key : ∀ (j : Nat) (w : Stk), (l.set i (GRE x rate dep))[j]? = some w → ∃ v, l[j]? = some v ∧ KEY w = KEY v ∧ (j ≠ i → w = v) := by
      intro j w ew
      by_cases hj : i = j
      · subst hj
        rw [List.getElem?_set_self hi] at ew
        cases ew
        exact ⟨x, e, rfl, fun h => absurd rfl h⟩
      · rw [List.getElem?_set_ne hj] at ew
        exact ⟨w, ew, rfl, fun _ => rfl⟩
    obtain ⟨v, ev, kv, nv⟩ := key k z ez
    obtain ⟨g1, g2⟩ := h k hkl v ev
    refine ⟨?_, fun y h0 ey => ?_⟩
    · by_cases hk' : k = i
      · subst hk'
        rw [List.getElem?_set_self hi] at ez
        cases ez; exact ok
      · rw [nv hk']; exact g1
    · obtain ⟨u, eu, ku, _⟩ := key (k - 1) y ey
      rw [kv, ku]
      exact g2 u h0 eu
theorem CHK_set {l : List Stk} {ps : List Pst} (h : CHK l ps = 0) {i : Nat} {x : Stk} (e : l[i]? = some x) (rate dep : Int) :
    (OKS (GRE x rate dep) → CHK (l.set i (GRE x rate dep)) ps = 0) ∧ (¬ OKS (GRE x rate dep) → CHK (l.set i (GRE x rate dep)) ps ≠ 0) := by
  obtain ⟨⟨hl, hg⟩, ⟨hp, ok⟩, hi⟩ := CHK_0 h
  have gs := GOOD_set hg e rate dep
  constructor
  · intro o
    have : CKS (l.set i (GRE x rate dep)) = 0 := by unfold CKS; rw [if_neg (by simp; omega), if_pos (gs.2 o)]
    unfold CHK
    rw [if_pos this, if_pos (CKP_0.2 ⟨hp, ok⟩), if_pos hi]
  · intro o
    have : CKS (l.set i (GRE x rate dep)) = 380 := by unfold CKS; rw [if_neg (by simp; omega), if_neg (fun g => o (gs.1 g))]
    unfold CHK
    rw [this, if_neg (by decide)]; decide
theorem FORV_gre {x : Stk} {ps : List Pst} (hx : OKS x) (ok : ∀ y ∈ ps, OKP y) (rate dep : Int) (ho : OKS (GRE x rate dep)) : FORV x ps ≤ FORV (GRE x rate dep) ps := by
  have e : (GRE x rate dep).b = x.b := rfl
  unfold FORV
  rw [e]
  cases hf : FND x.b ps with
  | none => exact Int.le_refl _
  | some y =>
    have hy := ok y (List.mem_of_find?_eq_some hf)
    show AMT x y ≤ AMT (GRE x rate dep) y
    by_cases hp : x.p < y.bo.length
    · obtain ⟨r, n, e1, e2, o1, o2, ea, _⟩ := AMT_in hx hy hp
      obtain ⟨r', n', e1', e2', _, _, ea', _⟩ := AMT_in ho hy (show (GRE x rate dep).p < y.bo.length from hp)
      rw [show (GRE x rate dep).p = x.p from rfl] at e1' e2'
      rw [e1] at e1'; cases e1'
      rw [e2] at e2'; cases e2'
      rw [ea, ea']
      refine AMT_mono (by show x.d ≤ max x.d dep; omega) ⟨hx.2.2.2.1, by show x.r ≤ max x.r rate; omega⟩ ⟨?_, Int.le_refl _⟩
      unfold DIST; omega
    · unfold AMT
      rw [if_neg hp, if_neg (show ¬ (GRE x rate dep).p < y.bo.length from hp)]; exact Int.le_refl _
end Go.Proofs.Ytnabgahkdomeoaa
