/-
  The functions of package duties and of its reference: which variables other frames reach; numbers and lists.
-/
import Derived.Test.YtaggpjlkapnonaaFa
import Derived.IntWalk
set_option linter.unusedSimpArgs false
set_option linter.unusedVariables false
set_option linter.unusedSectionVars false
namespace Go.Proofs.Ytaggpjlkapnonaa
open Go GoV
set_option maxRecDepth 100000

/-- Which variables other frames reach; which slots hold lists that grow; which functions are called apart. -/
def heapF (f : Nat) : List Nat := if f = 12 then [6, 8] else if f = 20 then [5, 7, 12] else if f = 18 then [4, 10] else if f = 28 then [1000003, 1000004, 1000005] else if f = 31 then [2] else if f = 67 then [4] else if f = 72 then [2, 3] else []
def accsF (f : Nat) : List Nat := if f = 12 then [8] else if f = 34 then [4] else if f = 13 then [11] else if f = 19 then [11] else if f = 5 then [11] else if f = 7 then [15] else []
def inF (f : Nat) : Bool := f == 31 || f == 45 || f == 54 || f == 42 || f == 72 || f == 75 || f == 40 || f == 39 || f == 34 || f == 35
def pol : Pol := ⟨heapF, accsF, fun _ => [], fun f => !inF f⟩
theorem POL : (∀ f, pol.accs f = accsF f) ∧ (∀ f, pol.heap f = heapF f) ∧ (∀ f, pol.muts f = []) ∧ (∀ f, pol.iso f = !inF f) ∧
    (∀ f, heapF f = if f = 12 then [6, 8] else if f = 20 then [5, 7, 12] else if f = 18 then [4, 10] else if f = 28 then [1000003, 1000004, 1000005] else if f = 31 then [2] else if f = 67 then [4] else if f = 72 then [2, 3] else []) ∧
    (∀ f, accsF f = if f = 12 then [8] else if f = 34 then [4] else if f = 13 then [11] else if f = 19 then [11] else if f = 5 then [11] else if f = 7 then [15] else []) ∧
    (∀ f, inF f = (f == 31 || f == 45 || f == 54 || f == 42 || f == 72 || f == 75 || f == 40 || f == 39 || f == 34 || f == 35)) :=
  ⟨fun _ => rfl, fun _ => rfl, fun _ => rfl, fun _ => rfl, fun _ => rfl, fun _ => rfl, fun _ => rfl⟩
abbrev I (n : Int) : PV := .int .i64 n
def I64 (x : Int) : Prop := -9223372036854775808 ≤ x ∧ x ≤ 9223372036854775807
theorem i64_in {x : Int} (h : I64 x) : IntKind.i64.wrap x = x := IntWalk.i64_in x h
/-- A list of numbers. -/
abbrev ints (l : List Int) (c : Option Nat) : PV := .vs 1 (l.map I) c
theorem ints_len (l : List Int) : (l.map I).length = l.length := by simp
theorem ints_get {l : List Int} {k : Nat} {x : Int} (h : l[k]? = some x) : (l.map I)[k]? = some (I x) := by simp [h]
theorem strip0_ints (l : List Int) : strip0L (l.map I) = l.map I := by
  rw [strip0L_map]
  simp only [List.map_map]
  rfl
theorem map_strip0_ints (l : List Int) : (l.map I).map strip0 = l.map I := by
  rw [← strip0L_map]; exact strip0_ints l
theorem map_strip1_ints (H : Heap) (l : List Int) : (l.map I).map (strip1 H) = l.map I := by
  simp only [List.map_map]; rfl
theorem strip2_ints (H : Heap) (l : List Int) : strip2L H (l.map I) = l.map I := by
  rw [strip2L_map]; simp only [List.map_map]; rfl
theorem strip1_ints (H : Heap) (l : List Int) : strip1L H (l.map I) = l.map I := by
  rw [strip1L_map]; simp only [List.map_map]; rfl
theorem INTS : (∀ l : List Int, (l.map I).length = l.length) ∧ (∀ l : List Int, strip0L (l.map I) = l.map I) ∧ (∀ l : List Int, (l.map I).map strip0 = l.map I) ∧ (∀ H (l : List Int), (l.map I).map (strip1 H) = l.map I) ∧ (∀ H (l : List Int), strip2L H (l.map I) = l.map I) ∧ (∀ H (l : List Int), strip1L H (l.map I) = l.map I) :=
  ⟨ints_len, strip0_ints, map_strip0_ints, map_strip1_ints, strip2_ints, strip1_ints⟩
abbrev well (f r d : Int) (k : List Int) (c : Option Nat) : PV := .agg [I f, I r, I d, ints k c]
end Go.Proofs.Ytaggpjlkapnonaa
