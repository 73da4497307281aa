/-
  The check of a drawing region does not depend on the names of rows.
-/
import Derived.Test.YtaggpjlkapnonaaEz
set_option linter.unusedSimpArgs false
set_option linter.unusedVariables false
set_option linter.unusedSectionVars false
namespace GoV
open Go

def renV (f : Nat → Nat) : Vr → Vr
  | .row i => .row (f i)
  | v => v
def renM (f : Nat → Nat) (m : MF) : MF := (m.1.map (renV f), m.2.map (renV f))
def renL (f : Nat → Nat) (l : List (Nat × MF)) : List (Nat × MF) := l.map fun p => (p.1, renM f p.2)
section
variable {f : Nat → Nat} (hf : ∀ a b, f a = f b → a = b)
include hf
theorem clash_ren (a b : Vr) : clash (renV f a) (renV f b) = clash a b := by
  cases a <;> cases b <;> try rfl
  rename_i i j
  simp only [renV, clash, Vr.row.injEq]
  by_cases h : i = j
  · simp [h]
  · simp only [h, decide_false, decide_eq_false_iff_not]
    exact fun g => h (hf _ _ g)
theorem disj_ren (a b : List Vr) : disj (a.map (renV f)) (b.map (renV f)) = disj a b := by
  unfold disj
  rw [List.all_map]
  congr 1
  funext x
  simp only [Function.comp_apply]
  rw [List.all_map]
  congr 1
  funext y
  simp only [Function.comp_apply, clash_ren hf]
theorem chk1_ren (ops : Array Oper) (j : Nat) (w : List Vr) : ∀ l : List (Nat × MF), chk1 ops j (w.map (renV f)) (renL f l) = chk1 ops j w l
  | [] => rfl
  | (i, m) :: r => by
    show ((Nat.beq i j || disj (w.map (renV f)) (m.1.map (renV f) ++ m.2.map (renV f)) || _) && chk1 ops j (w.map (renV f)) (renL f r)) = _
    rw [chk1_ren ops j w r, ← List.map_append, disj_ren hf]; rfl
theorem chkL_ren (ops : Array Oper) (a : List (Nat × MF)) : ∀ l : List (Nat × MF), chkL ops (renL f a) (renL f l) = chkL ops a l
  | [] => rfl
  | (j, (q, w)) :: r => by
    have ih := chkL_ren ops a r
    cases w with
    | nil => exact ih
    | cons x w =>
      show (chk1 ops j ((x :: w).map (renV f)) (renL f a) && chkL ops (renL f a) (renL f r)) = _
      rw [ih, chk1_ren hf]; rfl
end
def swp (k g i : Nat) : Nat := if i = k then g else if i = g then k else i
theorem swp_inj (k g a b : Nat) (h : swp k g a = swp k g b) : a = b := by
  unfold swp at h
  split at h <;> split at h <;> (try split at h) <;> (try split at h) <;> omega
/-- A check for one name of a row is a check for each other name of it. -/
theorem chkL_at (ops : Array Oper) (L : Nat → List (Nat × MF)) (k g : Nat) (h : renL (swp k g) (L k) = L g) (hk : chkL ops (L k) (L k) = true) : chkL ops (L g) (L g) = true := by
  rw [← h, chkL_ren (swp_inj k g)]; exact hk
end GoV
