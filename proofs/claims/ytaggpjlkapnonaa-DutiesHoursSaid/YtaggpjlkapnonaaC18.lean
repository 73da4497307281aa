/-
  Which claims are active: filter, the periods by farm.
-/
import Derived.Test.YtaggpjlkapnonaaC17
import Derived.Test.YtaggpjlkapnonaaX1
set_option linter.unusedSimpArgs false
set_option linter.unusedVariables false
set_option linter.unusedSectionVars false
namespace Go.Proofs.Ytaggpjlkapnonaa
open Go GoV
set_option maxRecDepth 100000

structure Per where
  (d a e : Int)
abbrev per (x : Per) : PV := .agg [I x.d, I x.a, I x.e]
/-- The periods of a farm's duties. -/
def PRS (D : Dis) (l : List Don) (kn f : Int) : Nat → List Per
  | 0 => []
  | j + 1 => PRS D l kn f j ++ match D.ds[j]? with
    | some x => if x.fm = f then [⟨j, x.due, ENDP D l kn j⟩] else []
    | none => []
theorem PRS_succ {D : Dis} {l : List Don} {kn f : Int} {j : Nat} {x : Dty} (e : D.ds[j]? = some x) : PRS D l kn f (j + 1) = PRS D l kn f j ++ if x.fm = f then [⟨j, x.due, ENDP D l kn j⟩] else [] := by
  show PRS D l kn f j ++ _ = _
  rw [e]
theorem PRS_len (D : Dis) (l : List Don) (kn f : Int) : ∀ j, (PRS D l kn f j).length ≤ j
  | 0 => by simp [PRS]
  | j + 1 => by
    have ih := PRS_len D l kn f j
    cases e : D.ds[j]? with
    | none =>
      have : PRS D l kn f (j + 1) = PRS D l kn f j := by
        show PRS D l kn f j ++ _ = _
        rw [e]; simp
      rw [this]; omega
    | some x =>
      rw [PRS_succ e, List.length_append]
      split <;> simp <;> omega
/-- The rows of the periods by farm: the map's row M, and a row for each farm with duties. -/
structure PBF (D : Dis) (l : List Don) (kn : Int) (j M : Nat) (mm : List (Int × PV)) (g : Int → Nat) (H : Heap) : Prop where
  row : H.rows M = some (.map (kmap (PV.int .i64) mm))
  none : ∀ f, PRS D l kn f j = [] → aget mm f = none
  some : ∀ f, PRS D l kn f j ≠ [] → aget mm f = some (.gsl 3 (g f) (PRS D l kn f j).length 0 (PRS D l kn f j).length) ∧ H.rows (g f) = some (.gro 3 ((PRS D l kn f j).map per) 0) ∧ 8 < g f ∧ g f < H.next
  inj : ∀ f f', PRS D l kn f j ≠ [] → PRS D l kn f' j ≠ [] → g f = g f' → f = f'
theorem PRS_other {D : Dis} {l : List Don} {kn f : Int} {j : Nat} {x : Dty} (e : D.ds[j]? = some x) (h : f ≠ x.fm) : PRS D l kn f (j + 1) = PRS D l kn f j := by
  rw [PRS_succ e, if_neg (fun g => h g.symm), List.append_nil]
theorem PRS_own {D : Dis} {l : List Don} {kn : Int} {j : Nat} {x : Dty} (e : D.ds[j]? = some x) : PRS D l kn x.fm (j + 1) = PRS D l kn x.fm j ++ [⟨j, x.due, ENDP D l kn j⟩] := by
  rw [PRS_succ e, if_pos rfl]
theorem PBF_new {D : Dis} {l : List Don} {kn : Int} {j M : Nat} {mm : List (Int × PV)} {g : Int → Nat} {H H2 : Heap} {x : Dty} {id : Nat} (hP : PBF D l kn j M mm g H) (e : D.ds[j]? = some x) (hE : PRS D l kn x.fm j = [])
    (k1 : H2.rows M = some (.map (kmap (PV.int .i64) (aset mm x.fm (.gsl 3 id 1 0 1))))) (k2 : H2.rows id = some (.gro 3 [per ⟨j, x.due, ENDP D l kn j⟩] 0)) (k3 : ∀ i, 8 < i → i ≠ id → H2.rows i = H.rows i) (k4 : H.next ≤ id) (k5 : id < H2.next) (k6 : H.next ≤ H2.next) (k7 : 8 < id) :
    PBF D l kn (j + 1) M (aset mm x.fm (.gsl 3 id 1 0 1)) (fun f => if f = x.fm then id else g f) H2 := by
  refine ⟨k1, fun f hf => ?_, fun f hf => ?_, fun f f' hf hf' hg => ?_⟩
  · rw [aget_aset]
    by_cases hx : f = x.fm
    · subst hx; rw [PRS_own e] at hf; simp at hf
    · rw [if_neg hx]; rw [PRS_other e hx] at hf; exact hP.none f hf
  · rw [aget_aset]
    by_cases hx : f = x.fm
    · subst hx
      simp only [if_true]
      rw [PRS_own e, hE]
      exact ⟨rfl, k2, k7, k5⟩
    · simp only [if_neg hx]
      rw [PRS_other e hx] at hf ⊢
      obtain ⟨q1, q2, q3, q4⟩ := hP.some f hf
      exact ⟨q1, by rw [k3 _ q3 (by omega)]; exact q2, q3, by omega⟩
  · by_cases hx : f = x.fm
    · by_cases hx' : f' = x.fm
      · rw [hx, hx']
      · rw [if_pos hx, if_neg hx'] at hg
        rw [PRS_other e hx'] at hf'
        have := (hP.some f' hf').2.2.2
        omega
    · by_cases hx' : f' = x.fm
      · rw [if_neg hx, if_pos hx'] at hg
        rw [PRS_other e hx] at hf
        have := (hP.some f hf).2.2.2
        omega
      · rw [if_neg hx, if_neg hx'] at hg
        rw [PRS_other e hx] at hf
        rw [PRS_other e hx'] at hf'
        exact hP.inj f f' hf hf' hg
theorem PBF_app {D : Dis} {l : List Don} {kn : Int} {j M : Nat} {mm : List (Int × PV)} {g : Int → Nat} {H H2 : Heap} {x : Dty} {id n : Nat} (hP : PBF D l kn j M mm g H) (e : D.ds[j]? = some x) (hE : PRS D l kn x.fm j ≠ []) (hid : g x.fm = id) (hn : (PRS D l kn x.fm j).length = n)
    (k1 : H2.rows M = some (.map (kmap (PV.int .i64) (aset mm x.fm (.gsl 3 id (n + 1) 0 (n + 1)))))) (k2 : H2.rows id = some (.gro 3 ((PRS D l kn x.fm j).map per ++ [per ⟨j, x.due, ENDP D l kn j⟩]) 0)) (k3 : ∀ i, 8 < i → i ≠ id → H2.rows i = H.rows i) (k6 : H.next ≤ H2.next) :
    PBF D l kn (j + 1) M (aset mm x.fm (.gsl 3 id (n + 1) 0 (n + 1))) g H2 := by
  have hs := hP.some x.fm hE
  refine ⟨k1, fun f hf => ?_, fun f hf => ?_, fun f f' hf hf' hg => ?_⟩
  · rw [aget_aset]
    by_cases hx : f = x.fm
    · subst hx; rw [PRS_own e] at hf; simp at hf
    · rw [if_neg hx]; rw [PRS_other e hx] at hf; exact hP.none f hf
  · rw [aget_aset]
    by_cases hx : f = x.fm
    · subst hx
      simp only [if_true]
      rw [PRS_own e, hid]
      refine ⟨by rw [List.length_append, hn]; rfl, by rw [k2, List.map_append]; rfl, by omega, by omega⟩
    · simp only [if_neg hx]
      rw [PRS_other e hx] at hf ⊢
      obtain ⟨q1, q2, q3, q4⟩ := hP.some f hf
      refine ⟨q1, ?_, q3, by omega⟩
      rw [k3 _ q3 (fun h => hx (hP.inj f x.fm hf hE (h.trans hid.symm)))]; exact q2
  · have h1 : PRS D l kn f j ≠ [] := by
      by_cases hx : f = x.fm
      · rw [hx]; exact hE
      · rw [PRS_other e hx] at hf; exact hf
    have h2 : PRS D l kn f' j ≠ [] := by
      by_cases hx : f' = x.fm
      · rw [hx]; exact hE
      · rw [PRS_other e hx] at hf'; exact hf'
    exact hP.inj f f' h1 h2 hg
theorem ite_chk {α : Type} {ops : Array Oper} (L : Nat → List (Nat × MF)) (k g : Nat) {x y z : α} (h : renL (swp k g) (L k) = L g) (hk : chkL ops (L k) (L k) = true) (e : (if chkL ops (L g) (L g) = true then x else y) = z) : x = z := by
  rw [if_pos (chkL_at ops L k g h hk)] at e; exact e
end Go.Proofs.Ytaggpjlkapnonaa
