/-
  A stable order of quotas, in plain lists.
-/
import Derived.Test.YtnabgahkdomeoaaFa
set_option linter.unusedSimpArgs false
set_option linter.unusedVariables false
set_option linter.unusedSectionVars false
namespace Go.Proofs.Ytnabgahkdomeoaa
open Go GoV
set_option maxRecDepth 100000

structure Qu where
  (ix r : Int)
/-- The greater remainder first, then the lesser place. -/
def QLT (a b : Qu) : Prop := b.r < a.r ∨ (a.r = b.r ∧ a.ix < b.ix)
theorem QLT.trans {a b c : Qu} (h : QLT a b) (h' : QLT b c) : QLT a c := by unfold QLT at *; omega
theorem QLT.asymm {a b : Qu} (h : QLT a b) : ¬ QLT b a := by unfold QLT at *; omega
theorem QLT.of_not {a b : Qu} (h : ¬ QLT b a) (hi : a.ix < b.ix) : QLT a b := by unfold QLT at *; omega
theorem QLT_iff {a b : Qu} (hi : b.ix < a.ix) : QLT a b ↔ b.r < a.r := by unfold QLT; omega
abbrev QS (l : List Qu) : Prop := l.Pairwise QLT
/-- All of one list before all of another. -/
def QB (l m : List Qu) : Prop := ∀ x ∈ l, ∀ y ∈ m, QLT x y
def QI (l m : List Qu) : Prop := ∀ x ∈ l, ∀ y ∈ m, x.ix < y.ix
theorem QS_app {l m : List Qu} : QS (l ++ m) ↔ QS l ∧ QS m ∧ QB l m := List.pairwise_append
theorem QB.left {l l' m : List Qu} (h : QB (l ++ l') m) : QB l m ∧ QB l' m := ⟨fun x hx => h x (by simp [hx]), fun x hx => h x (by simp [hx])⟩
theorem QB.perm {l l' m m' : List Qu} (h : QB l m) (p : l'.Perm l) (q : m'.Perm m) : QB l' m' := fun x hx y hy => h x (p.mem_iff.1 hx) y (q.mem_iff.1 hy)
theorem QI.perm {l l' m m' : List Qu} (h : QI l m) (p : l'.Perm l) (q : m'.Perm m) : QI l' m' := fun x hx y hy => h x (p.mem_iff.1 hx) y (q.mem_iff.1 hy)
def SWP (d : List Qu) (i j : Nat) : List Qu := match d[i]?, d[j]? with
  | some x, some y => (d.set i y).set j x
  | _, _ => d
theorem SWP_eq {d : List Qu} {i j : Nat} {x y : Qu} (hi : d[i]? = some x) (hj : d[j]? = some y) : SWP d i j = (d.set i y).set j x := by simp [SWP, hi, hj]
theorem SWP_len (d : List Qu) (i j : Nat) : (SWP d i j).length = d.length := by
  unfold SWP; split <;> simp
theorem at_app (A : List Qu) (x : Qu) (B : List Qu) : (A ++ x :: B)[A.length]? = some x := by simp
theorem set_app (A : List Qu) (x y : Qu) (B : List Qu) : (A ++ x :: B).set A.length y = A ++ y :: B := by simp
theorem at_app' {A : List Qu} {x : Qu} {B : List Qu} {i : Nat} (h : i = A.length) : (A ++ x :: B)[i]? = some x := by subst h; simp
theorem set_app' {A : List Qu} {x y : Qu} {B : List Qu} {i : Nat} (h : i = A.length) : (A ++ x :: B).set i y = A ++ y :: B := by subst h; simp
theorem SWP_at (A M B : List Qu) (x y : Qu) {i j : Nat} (hi : i = A.length) (hj : j = A.length + 1 + M.length) : SWP (A ++ x :: (M ++ y :: B)) i j = A ++ y :: (M ++ x :: B) := by
  have e : ∀ x, A ++ x :: (M ++ y :: B) = (A ++ x :: M) ++ y :: B := fun x => by simp
  have h2 : (A ++ x :: (M ++ y :: B))[j]? = some y := by rw [e]; exact at_app' (by simp; omega)
  rw [SWP_eq (at_app' hi) h2, set_app' hi, e, set_app' (by simp; omega)]
  simp
theorem SWP_at' (A M B : List Qu) (x y : Qu) {i j : Nat} (hi : i = A.length) (hj : j = A.length + 1 + M.length) : SWP (A ++ x :: (M ++ y :: B)) j i = A ++ y :: (M ++ x :: B) := by
  have e : A ++ x :: (M ++ y :: B) = (A ++ x :: M) ++ y :: B := by simp
  have h2 : (A ++ x :: (M ++ y :: B))[j]? = some y := by rw [e]; exact at_app' (by simp; omega)
  rw [SWP_eq h2 (at_app' hi), e, set_app' (by simp; omega), List.append_assoc, List.cons_append, set_app' hi]
/-- Two stretches changed for each other. -/
def SRF (d : List Qu) (a b : Nat) : Nat → List Qu
  | 0 => d
  | n + 1 => SRF (SWP d a b) (a + 1) (b + 1) n
theorem SRF_at : ∀ (U V A C B : List Qu) (a b : Nat), a = A.length → b = A.length + U.length + C.length → V.length = U.length → SRF (A ++ (U ++ (C ++ (V ++ B)))) a b U.length = A ++ (V ++ (C ++ (U ++ B)))
  | [], V, A, C, B, a, b, _, _, h => by
    have : V = [] := by cases V <;> simp_all
    subst this; simp [SRF]
  | x :: U, [], A, C, B, a, b, _, _, h => by simp at h
  | x :: U, y :: V, A, C, B, a, b, ha, hb, h => by
    have e : A ++ (x :: U ++ (C ++ (y :: V ++ B))) = A ++ x :: ((U ++ C) ++ y :: (V ++ B)) := by simp
    rw [e, List.length_cons]
    show SRF (SWP _ a b) (a + 1) (b + 1) U.length = _
    rw [SWP_at A (U ++ C) (V ++ B) x y ha (by simp only [List.length_append, List.length_cons] at *; omega)]
    have e2 : A ++ y :: ((U ++ C) ++ x :: (V ++ B)) = (A ++ [y]) ++ (U ++ ((C ++ [x]) ++ (V ++ B))) := by simp
    rw [e2, SRF_at U V (A ++ [y]) (C ++ [x]) B (a + 1) (b + 1) (by simp [ha]) (by simp only [List.length_append, List.length_cons, List.length_nil] at *; omega) (by simpa using h)]
    simp
theorem SRF_len : ∀ (n : Nat) (d : List Qu) (a b : Nat), (SRF d a b n).length = d.length
  | 0, _, _, _ => rfl
  | n + 1, d, a, b => by rw [SRF, SRF_len n, SWP_len]
/-- A list parted at a place. -/
theorem part_at {α : Type} (l : List α) (k : Nat) (h : k ≤ l.length) : ∃ a b, l = a ++ b ∧ a.length = k := ⟨l.take k, l.drop k, (List.take_append_drop k l).symm, by simp [h]⟩
/-- One member is put in its place among others, which come after it by their places. -/
theorem QB_last {l m : List Qu} (hl : QS l) (hm : QS m) (h : ∀ x y, l.getLast? = some x → m.head? = some y → QLT x y) : QB l m := by
  intro x hx y hy
  rcases List.eq_nil_or_concat l with rfl | ⟨l', z, rfl⟩
  · simp at hx
  cases m with
  | nil => simp at hy
  | cons w m' =>
    have h0 := h z w (by simp) rfl
    have h1 : x = z ∨ QLT x z := by
      rw [List.concat_eq_append] at hx hl
      rcases List.mem_append.1 hx with hx | hx
      · exact .inr ((QS_app.1 hl).2.2 x hx z (by simp))
      · exact .inl (by simpa using hx)
    have h2 : y = w ∨ QLT w y := by
      rcases List.mem_cons.1 hy with rfl | hy
      · exact .inl rfl
      · exact .inr ((List.pairwise_cons.1 hm).1 y hy)
    rcases h1 with rfl | h1 <;> rcases h2 with rfl | h2
    · exact h0
    · exact h0.trans h2
    · exact h1.trans h0
    · exact (h1.trans h0).trans h2
theorem getLast_at {α : Type} {l : List α} {x : α} (h : l.getLast? = some x) : 0 < l.length ∧ l[l.length - 1]? = some x := by
  rw [List.getLast?_eq_getElem?] at h
  refine ⟨?_, h⟩
  cases l with
  | nil => simp at h
  | cons _ _ => simp
theorem head_at {α : Type} {l : List α} {x : α} (h : l.head? = some x) : 0 < l.length ∧ l[0]? = some x := by
  cases l with
  | nil => simp at h
  | cons _ _ => simpa using h
/-- Where the search of a merge ends: both lists part so that the first parts come before the last. -/
theorem sym_parts {A L R B : List Qu} {a m b mid start st0 r0 e : Nat} (ha : a = A.length) (hm : m = a + L.length) (hb : b = m + R.length) (hmid : mid = (a + b) / 2)
    (sL : QS L) (sR : QS R) (hI : QI L R) (hs : (m > mid ∧ st0 = mid + m - b ∧ r0 = mid) ∨ (m ≤ mid ∧ st0 = a ∧ r0 = m)) (h1 : st0 ≤ start) (h2 : start ≤ r0) (he : e = mid + m - start)
    (k1 : st0 < start → ∀ x y, (A ++ (L ++ (R ++ B)))[start - 1]? = some x → (A ++ (L ++ (R ++ B)))[mid + m - start]? = some y → ¬ QLT y x)
    (k2 : start < r0 → ∀ x y, (A ++ (L ++ (R ++ B)))[start]? = some x → (A ++ (L ++ (R ++ B)))[mid + m - 1 - start]? = some y → QLT y x) :
    ∃ L1 L2 R1 R2, L = L1 ++ L2 ∧ R = R1 ++ R2 ∧ start = a + L1.length ∧ e = m + R1.length ∧ mid = a + L1.length + R1.length ∧ QB (L1 ++ R1) (L2 ++ R2) := by
  obtain ⟨L1, L2, rfl, l1⟩ := part_at L (start - a) (by omega)
  obtain ⟨R1, R2, rfl, l2⟩ := part_at R (e - m) (by omega)
  simp only [List.length_append] at *
  refine ⟨L1, L2, R1, R2, rfl, rfl, by omega, by omega, by omega, ?_⟩
  obtain ⟨sL1, sL2, bL⟩ := QS_app.1 sL
  obtain ⟨sR1, sR2, bR⟩ := QS_app.1 sR
  have x1 : QB L1 R2 := by
    refine QB_last sL1 sR2 fun x y hx hy => ?_
    have hx' := List.mem_of_getElem? (getLast_at hx).2
    have hy' := List.mem_of_getElem? (head_at hy).2
    obtain ⟨p1, q1⟩ := getLast_at hx
    obtain ⟨p2, q2⟩ := head_at hy
    refine QLT.of_not (k1 (by omega) x y ?_ ?_) (hI x (by simp [hx']) y (by simp [hy']))
    · rw [List.getElem?_append_right (by omega), List.append_assoc, List.getElem?_append_left (by omega), ← q1]
      congr 1; omega
    · rw [List.getElem?_append_right (by omega), List.getElem?_append_right (by simp; omega), List.append_assoc, List.getElem?_append_right (by simp; omega), List.getElem?_append_left (by simp; omega), ← q2]
      congr 1; simp; omega
  have x2 : QB R1 L2 := by
    refine QB_last sR1 sL2 fun x y hx hy => ?_
    obtain ⟨p1, q1⟩ := getLast_at hx
    obtain ⟨p2, q2⟩ := head_at hy
    refine k2 (by omega) y x ?_ ?_
    · rw [List.getElem?_append_right (by omega), List.append_assoc, List.getElem?_append_right (by omega), List.getElem?_append_left (by omega), ← q2]
      congr 1; omega
    · rw [List.getElem?_append_right (by omega), List.getElem?_append_right (by simp; omega), List.append_assoc, List.getElem?_append_left (by simp; omega), ← q1]
      congr 1; simp; omega
  intro x hx y hy
  rcases List.mem_append.1 hx with hx | hx <;> rcases List.mem_append.1 hy with hy | hy
  · exact bL x hx y hy
  · exact x1 x hx y hy
  · exact x2 x hx y hy
  · exact bR x hx y hy
end Go.Proofs.Ytnabgahkdomeoaa
