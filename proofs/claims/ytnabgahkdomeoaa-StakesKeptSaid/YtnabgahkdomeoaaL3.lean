/-
  Shares by weight, in plain numbers.
-/
import Derived.Test.YtnabgahkdomeoaaL1
set_option linter.unusedSimpArgs false
set_option linter.unusedVariables false
set_option linter.unusedSectionVars false
namespace Go.Proofs.Ytnabgahkdomeoaa
open Go GoV
set_option maxRecDepth 100000

def SUMI : List Int → Int
  | [] => 0
  | x :: l => x + SUMI l
theorem SUMI_app : ∀ (l m : List Int), SUMI (l ++ m) = SUMI l + SUMI m
  | [], m => by simp [SUMI]
  | x :: l, m => by simp only [List.cons_append, SUMI, SUMI_app l m]; omega
theorem SUMI_take {l : List Int} {j : Nat} {x : Int} (e : l[j]? = some x) : SUMI (l.take (j + 1)) = SUMI (l.take j) + x := by
  rw [List.take_add_one, e, SUMI_app]; simp [SUMI]
theorem SUMI_bounds {a b : Int} : ∀ (l : List Int), (∀ x ∈ l, a ≤ x ∧ x ≤ b) → a * l.length ≤ SUMI l ∧ SUMI l ≤ b * l.length
  | [], _ => by simp [SUMI]
  | x :: l, h => by
    have h1 := SUMI_bounds l (fun y hy => h y (by simp [hy]))
    have h2 := h x (by simp)
    simp only [SUMI, List.length_cons, Int.natCast_add, Int.mul_add, Int.natCast_one, Int.mul_one]
    omega
theorem SUMI_perm {l m : List Int} (h : l.Perm m) : SUMI l = SUMI m := by
  induction h with
  | nil => rfl
  | cons x _ ih => simp only [SUMI, ih]
  | swap x y l => simp only [SUMI]; omega
  | trans _ _ h1 h2 => exact h1.trans h2
theorem SUMI_set : ∀ (l : List Int) (k : Nat) (x y : Int), l[k]? = some x → SUMI (l.set k y) = SUMI l - x + y
  | [], k, _, _, h => by simp at h
  | z :: l, 0, x, y, h => by simp at h; subst h; simp only [List.set_cons_zero, SUMI]; omega
  | z :: l, k + 1, x, y, h => by
    have := SUMI_set l k x y (by simpa using h)
    simp only [List.set_cons_succ, SUMI, this]; omega
/-- The shares, rounded down. -/
def SHQ (T S : Int) (w : List Int) : List Int := w.map fun x => T * x / S
def QUOF (T S : Int) : Nat → List Int → List Qu
  | _, [] => []
  | i, x :: l => ⟨i, T * x % S⟩ :: QUOF T S (i + 1) l
/-- The remainders. -/
def QUO (T S : Int) (w : List Int) : List Qu := QUOF T S 0 w
theorem QUOF_app (T S : Int) : ∀ (i : Nat) (a b : List Int), QUOF T S i (a ++ b) = QUOF T S i a ++ QUOF T S (i + a.length) b
  | i, [], b => by simp [QUOF]
  | i, x :: a, b => by
    simp only [List.cons_append, QUOF, QUOF_app T S (i + 1) a b, List.length_cons]
    rw [show i + 1 + a.length = i + (a.length + 1) by omega]
theorem QUO_take {T S : Int} {w : List Int} {j : Nat} {x : Int} (e : w[j]? = some x) : QUO T S (w.take (j + 1)) = QUO T S (w.take j) ++ [⟨j, T * x % S⟩] := by
  have hj := (List.getElem?_eq_some_iff.1 e).1
  rw [List.take_add_one, e, QUO, QUOF_app]
  simp [QUOF, QUO, Nat.min_eq_left (Nat.le_of_lt hj)]
theorem QUOF_len (T S : Int) : ∀ (i : Nat) (w : List Int), (QUOF T S i w).length = w.length
  | _, [] => rfl
  | i, x :: l => by simp [QUOF, QUOF_len T S (i + 1) l]
theorem QUO_len (T S : Int) (w : List Int) : (QUO T S w).length = w.length := QUOF_len T S 0 w
theorem QUOF_get (T S : Int) : ∀ (i : Nat) (w : List Int) (j : Nat), (QUOF T S i w)[j]? = (w[j]?).map fun x => ⟨(i + j : Nat), T * x % S⟩
  | _, [], _ => by simp [QUOF]
  | i, x :: l, 0 => by simp [QUOF]
  | i, x :: l, j + 1 => by simp only [QUOF, List.getElem?_cons_succ, QUOF_get T S (i + 1) l j]; rw [show i + 1 + j = i + (j + 1) by omega]
theorem QUO_get (T S : Int) (w : List Int) (j : Nat) : (QUO T S w)[j]? = (w[j]?).map fun x => ⟨(j : Nat), T * x % S⟩ := by
  rw [QUO, QUOF_get, Nat.zero_add]
theorem QUO_mem {T S : Int} {w : List Int} {q : Qu} (h : q ∈ QUO T S w) : ∃ (j : Nat) (x : Int), w[j]? = some x ∧ q = ⟨j, T * x % S⟩ := by
  obtain ⟨j, e⟩ := List.mem_iff_getElem?.1 h
  rw [QUO_get] at e
  obtain ⟨x, e1, e2⟩ := Option.map_eq_some_iff.1 e
  exact ⟨j, x, e1, e2.symm⟩
theorem QS_unique {l m : List Qu} (h : l.Perm m) (hl : QS l) (hm : QS m) : l = m :=
  List.Perm.eq_of_pairwise (fun a b _ _ h1 h2 => absurd h2 h1.asymm) hl hm h
/-- One more at a place. -/
def BMP1 (q : List Int) (k : Int) : List Int := q.set k.toNat (q.getD k.toNat 0 + 1)
def BMP (ks : List Int) (q : List Int) : List Int := ks.foldl BMP1 q
theorem BMP1_len (q : List Int) (k : Int) : (BMP1 q k).length = q.length := by simp [BMP1]
theorem BMP_len (ks q : List Int) : (BMP ks q).length = q.length := by
  induction ks generalizing q with
  | nil => rfl
  | cons k ks ih => show (BMP ks (BMP1 q k)).length = _; rw [ih, BMP1_len]
theorem BMP_snoc (ks : List Int) (k : Int) (q : List Int) : BMP (ks ++ [k]) q = BMP1 (BMP ks q) k := by simp [BMP]
theorem BMP_sum (q : List Int) : ∀ (ks : List Int), (∀ k ∈ ks, 0 ≤ k ∧ k < q.length) → SUMI (BMP ks q) = SUMI q + ks.length := by
  intro ks
  induction ks generalizing q with
  | nil => intro _; simp [BMP]
  | cons k ks ih =>
    intro h
    have hk := h k (by simp)
    show SUMI (BMP ks (BMP1 q k)) = _
    rw [ih (BMP1 q k) (by rw [BMP1_len]; exact fun j hj => h j (by simp [hj]))]
    have e : q[k.toNat]? = some (q[k.toNat]'(by omega)) := List.getElem?_eq_getElem _
    have := SUMI_set q k.toNat _ (q.getD k.toNat 0 + 1) e
    rw [BMP1, this, List.getD_eq_getElem?_getD, e]
    simp only [Option.getD_some, List.length_cons, Int.natCast_add, Int.natCast_one]
    omega
theorem BMP_get (i : Nat) (x : Int) : ∀ (ks : List Int) (q : List Int), ks.Nodup → (∀ k ∈ ks, 0 ≤ k) → q[i]? = some x → (BMP ks q)[i]? = some (if (i : Int) ∈ ks then x + 1 else x)
  | [], q, _, _, e => by simpa [BMP] using e
  | k :: ks, q, hn, hk, e => by
    have hn' := List.nodup_cons.1 hn
    have k0 := hk k (by simp)
    have hi := (List.getElem?_eq_some_iff.1 e).1
    show (BMP ks (BMP1 q k))[i]? = _
    by_cases h : k.toNat = i
    · have e1 : (BMP1 q k)[i]? = some (x + 1) := by
        rw [BMP1, h, List.getElem?_set_self hi, List.getD_eq_getElem?_getD, e]; rfl
      rw [BMP_get i (x + 1) ks _ hn'.2 (fun j hj => hk j (by simp [hj])) e1]
      have : (i : Int) = k := by omega
      rw [this, if_neg hn'.1, if_pos (by simp)]
    · have e1 : (BMP1 q k)[i]? = some x := by
        rw [BMP1, List.getElem?_set_ne h]; exact e
      rw [BMP_get i x ks _ hn'.2 (fun j hj => hk j (by simp [hj])) e1]
      have : (i : Int) ≠ k := by omega
      simp [this]
/-- What is divided and what stays. -/
theorem SH_sum (T S : Int) : ∀ (i : Nat) (w : List Int), S * SUMI (SHQ T S w) + SUMI ((QUOF T S i w).map Qu.r) = T * SUMI w
  | _, [] => by simp [SHQ, QUOF, SUMI]
  | i, x :: l => by
    have ih := SH_sum T S (i + 1) l
    have := Int.mul_ediv_add_emod (T * x) S
    simp only [SHQ, QUOF, SUMI, List.map_cons, Int.mul_add] at *
    omega
structure SHA (T S : Int) (w : List Int) (M : List Qu) (left : Nat) : Prop where
  pm : M.Perm (QUO T S w)
  qs : QS M
  lf : (left : Int) = T - SUMI (SHQ T S w)
section
variable {T S : Int} {w : List Int} {M : List Qu} {left : Nat}
theorem SHA.len (h : SHA T S w M left) : M.length = w.length := by rw [h.pm.length_eq, QUO_len]
theorem SHA.rest (h : SHA T S w M left) (hs : S = SUMI w) : SUMI (M.map Qu.r) = S * left := by
  have h1 := SH_sum T S 0 w
  rw [SUMI_perm (h.pm.map Qu.r), h.lf, Int.mul_sub, ← hs, Int.mul_comm T S] at *
  unfold QUO; omega
theorem SHA.r_in (h : SHA T S w M left) (hS : 0 < S) : ∀ q ∈ M, 0 ≤ q.r ∧ q.r ≤ S - 1 := fun q hq => by
  obtain ⟨j, x, _, rfl⟩ := QUO_mem (h.pm.mem_iff.1 hq)
  have h1 := Int.emod_nonneg (T * x) (show S ≠ 0 by omega)
  have h2 := Int.emod_lt_of_pos (T * x) hS
  exact ⟨h1, by show T * x % S ≤ S - 1; omega⟩
theorem SHA.left_le (h : SHA T S w M left) (hs : S = SUMI w) (hS : 0 < S) : left ≤ M.length := by
  have h1 := h.rest hs
  have h2 := (SUMI_bounds (a := 0) (b := S - 1) (M.map Qu.r) (by
    intro x hx
    obtain ⟨q, hq, rfl⟩ := List.mem_map.1 hx
    exact h.r_in hS q hq)).2
  rw [h1, List.length_map] at h2
  rcases Nat.lt_or_ge M.length left with h3 | h3
  · have h4 : S * ((M.length : Int) + 1) ≤ S * left := Int.mul_le_mul_of_nonneg_left (by omega) (by omega)
    have e1 : (S - 1) * (M.length : Int) = S * M.length - M.length := by rw [Int.sub_mul, Int.one_mul]
    rw [Int.mul_add, Int.mul_one] at h4
    omega
  · exact h3
theorem SHA.pos (h : SHA T S w M left) (hs : S = SUMI w) (hS : 0 < S) : ∀ q ∈ M.take left, 0 < q.r := by
  intro q hq
  have hr := h.r_in hS
  rcases Int.lt_or_le 0 q.r with h0 | h0
  · exact h0
  exfalso
  obtain ⟨M1, M2, e⟩ := List.append_of_mem hq
  have e2 : M = M1 ++ q :: (M2 ++ M.drop left) := by
    have h' := (List.take_append_drop left M).symm
    rw [e, List.append_assoc] at h'
    exact h'
  have l1 : M1.length < left := by
    have := congrArg List.length e
    rw [List.length_take, List.length_append, List.length_cons] at this
    omega
  have qs := h.qs
  rw [e2] at qs
  have z2 : ∀ x ∈ (q :: (M2 ++ M.drop left)).map Qu.r, (0 : Int) ≤ x ∧ x ≤ 0 := by
    intro x hx
    obtain ⟨p, hp, rfl⟩ := List.mem_map.1 hx
    have hpM := hr p (by rw [e2]; exact List.mem_append_right _ hp)
    refine ⟨hpM.1, ?_⟩
    rcases List.mem_cons.1 hp with rfl | hp
    · exact h0
    · have := (List.pairwise_cons.1 (List.pairwise_append.1 qs).2.1).1 p hp
      unfold QLT at this; omega
  have h2 := SUMI_bounds _ z2
  have h1 := (SUMI_bounds (a := 0) (b := S - 1) (M1.map Qu.r) (by
    intro x hx
    obtain ⟨p, hp, rfl⟩ := List.mem_map.1 hx
    exact hr p (by rw [e2]; exact List.mem_append_left _ hp))).2
  have h3 := h.rest hs
  have h4 : SUMI (M.map Qu.r) = SUMI (M1.map Qu.r) + SUMI ((q :: (M2 ++ M.drop left)).map Qu.r) := by
    conv => lhs; rw [e2]
    rw [List.map_append, SUMI_app]
  rw [List.length_map] at h1
  have h5 : S * ((M1.length : Int) + 1) ≤ S * left := Int.mul_le_mul_of_nonneg_left (by omega) (by omega)
  have e1 : (S - 1) * (M1.length : Int) = S * M1.length - M1.length := by rw [Int.sub_mul, Int.one_mul]
  rw [Int.mul_add, Int.mul_one] at h5
  omega
def SHA.K (_ : SHA T S w M left) : List Int := (M.take left).map Qu.ix
theorem SHA.k_nodup (h : SHA T S w M left) : h.K.Nodup := by
  have h1 : (M.map Qu.ix).Nodup := by
    rw [(h.pm.map Qu.ix).nodup_iff]
    refine List.pairwise_iff_getElem.2 fun i j hi hj hij => ?_
    rw [List.length_map] at hi hj
    have hi' := hi; have hj' := hj
    rw [QUO_len] at hi' hj'
    have e1 := QUO_get T S w i
    have e2 := QUO_get T S w j
    rw [List.getElem?_eq_getElem hi, List.getElem?_eq_getElem hi'] at e1
    rw [List.getElem?_eq_getElem hj, List.getElem?_eq_getElem hj'] at e2
    simp only [Option.map_some, Option.some.injEq] at e1 e2
    rw [List.getElem_map, List.getElem_map, e1, e2]
    show (i : Int) ≠ j
    omega
  unfold SHA.K
  rw [List.map_take]
  exact h1.sublist (List.take_sublist _ _)
theorem SHA.k_in (h : SHA T S w M left) : ∀ k ∈ h.K, 0 ≤ k ∧ k < w.length := by
  intro k hk
  obtain ⟨q, hq, rfl⟩ := List.mem_map.1 hk
  obtain ⟨j, x, e, rfl⟩ := QUO_mem (h.pm.mem_iff.1 (List.mem_of_mem_take hq))
  have := (List.getElem?_eq_some_iff.1 e).1
  exact ⟨by show (0 : Int) ≤ j; omega, by show (j : Int) < w.length; omega⟩
/-- The shares. -/
def SHA.out (h : SHA T S w M left) : List Int := BMP h.K (SHQ T S w)
theorem SHQ_len : (SHQ T S w).length = w.length := by simp [SHQ]
theorem SHA.out_len (h : SHA T S w M left) : h.out.length = w.length := by rw [SHA.out, BMP_len, SHQ_len]
theorem SHA.out_sum (h : SHA T S w M left) (hs : S = SUMI w) (hS : 0 < S) : SUMI h.out = T := by
  rw [SHA.out, BMP_sum _ _ (by rw [SHQ_len]; exact h.k_in), SHA.K, List.length_map, List.length_take, Nat.min_eq_left (h.left_le hs hS), h.lf]
  omega
theorem SHA.out_get (h : SHA T S w M left) {i : Nat} {x : Int} (e : w[i]? = some x) : h.out[i]? = some (if (i : Int) ∈ h.K then T * x / S + 1 else T * x / S) :=
  BMP_get i _ _ _ h.k_nodup (fun k hk => (h.k_in k hk).1) (by simp [SHQ, e])
theorem SHA.k_pos (h : SHA T S w M left) (hs : S = SUMI w) (hS : 0 < S) {i : Nat} {x : Int} (e : w[i]? = some x) (hk : (i : Int) ∈ h.K) : 0 < T * x % S := by
  obtain ⟨q, hq, eq⟩ := List.mem_map.1 hk
  have hp := h.pos hs hS q hq
  obtain ⟨j, y, e', rfl⟩ := QUO_mem (h.pm.mem_iff.1 (List.mem_of_mem_take hq))
  have : j = i := by have : (j : Int) = i := eq; omega
  subst this
  rw [e] at e'; cases e'
  exact hp
/-- Whoever comes before one that gets more gets more as well. -/
theorem SHA.k_down (h : SHA T S w M left) {i j : Nat} {x y : Int} (ei : w[i]? = some x) (ej : w[j]? = some y) (hk : (i : Int) ∈ h.K) (hr : T * x % S < T * y % S) : (j : Int) ∈ h.K := by
  obtain ⟨q, hq, eq⟩ := List.mem_map.1 hk
  obtain ⟨i', x', e', rfl⟩ := QUO_mem (h.pm.mem_iff.1 (List.mem_of_mem_take hq))
  have : i' = i := by have : (i' : Int) = i := eq; omega
  subst this
  rw [ei] at e'; cases e'
  have hm : (⟨j, T * y % S⟩ : Qu) ∈ M := by
    rw [h.pm.mem_iff]
    refine List.mem_iff_getElem?.2 ⟨j, ?_⟩
    rw [QUO_get, ej]; rfl
  have hm' := hm
  rw [← List.take_append_drop left M] at hm'
  rcases List.mem_append.1 hm' with h1 | h1
  · exact List.mem_map.2 ⟨_, h1, rfl⟩
  · have qs := h.qs
    rw [← List.take_append_drop left M] at qs
    have := (List.pairwise_append.1 qs).2.2 _ hq _ h1
    unfold QLT at this
    simp only at this
    omega
end
end Go.Proofs.Ytnabgahkdomeoaa
