/-
  Farms that have no offer in a set: plain numbers.
-/
import Derived.Test.YtbmmbefgmhhciaaGd
set_option linter.unusedSimpArgs false
set_option linter.unusedVariables false
set_option linter.unusedSectionVars false
namespace Go.Proofs.Ytbmmbefgmhhciaa
open Go GoV
set_option maxRecDepth 100000

/-- Whether a farm has an offer in a set, among the first. -/
def BSY (os : List Ofr) (set f : Int) : Nat → Bool
  | 0 => false
  | k + 1 => BSY os set f k || match os[k]? with
    | some x => decide (x.fm = f) && decide (BIT set k = 1)
    | none => false
theorem BSY_succ {os : List Ofr} {set f : Int} {k : Nat} {x : Ofr} (e : os[k]? = some x) : BSY os set f (k + 1) = (BSY os set f k || (decide (x.fm = f) && decide (BIT set k = 1))) := by
  show (BSY os set f k || _) = _
  rw [e]
theorem BSY_false {os : List Ofr} {set f : Int} : ∀ {k : Nat}, BSY os set f k = false → ∀ i x, i < k → os[i]? = some x → x.fm = f → ¬ BIT set i = 1
  | 0, _, i, x, hi, _, _ => by omega
  | k + 1, h, i, x, hi, e, hf => by
    have h : (BSY os set f k || match os[k]? with
      | some x => decide (x.fm = f) && decide (BIT set k = 1)
      | none => false) = false := h
    rw [Bool.or_eq_false_iff] at h
    by_cases hk : i = k
    · subst hk
      have h2 := h.2
      rw [e] at h2
      intro hb
      simp [hf, hb] at h2
    · exact BSY_false h.1 i x (by omega) e hf
theorem MON_free {os : List Ofr} {set f : Int} (h : BSY os set f os.length = false) : ∀ k : Nat, k ≤ os.length → MON (PAY os set) os f k = 0
  | 0, _ => rfl
  | k + 1, hk => by
    obtain ⟨x, e⟩ : ∃ x, os[k]? = some x := ⟨_, List.getElem?_eq_getElem (by omega)⟩
    rw [MON_succ e, MON_free h k (by omega)]
    split
    · next hf =>
      unfold PAY
      rw [if_neg (BSY_false h k x (by omega) e hf)]; rfl
    · rfl
theorem ADDL_oth {T : List (List Int)} {w f f' : Nat} {d : Int} (hf : f' ≠ f) {w' : Nat} {l0 : List Int} (e : T[w']? = some l0) : ∃ l, (ADDL T w f d)[w']? = some l ∧ l[f']? = l0[f']? := by
  unfold ADDL
  cases ew : T[w]? with
  | none => exact ⟨l0, e, rfl⟩
  | some l =>
    dsimp only
    by_cases h : w = w'
    · subst h
      rw [e] at ew
      cases ew
      refine ⟨_, List.getElem?_set_self (List.getElem?_eq_some_iff.1 e).1, ?_⟩
      rw [List.getElem?_set_ne (fun g => hf g.symm)]
    · rw [List.getElem?_set_ne h]
      exact ⟨l0, e, rfl⟩
theorem ADDS_oth {f f' : Nat} (hf : f' ≠ f) {w' : Nat} : ∀ (r : List Lot) {T : List (List Int)} {l0 : List Int}, T[w']? = some l0 → ∃ l, (ADDS T f r)[w']? = some l ∧ l[f']? = l0[f']?
  | [], T, l0, e => ⟨l0, e, rfl⟩
  | y :: r, T, l0, e => by
    obtain ⟨l1, e1, g1⟩ := ADDL_oth (w := y.w.toNat) (d := y.n) hf e
    obtain ⟨l2, e2, g2⟩ := ADDS_oth hf r e1
    exact ⟨l2, e2, by rw [g2, g1]⟩
theorem MOVT_free {M : Mkt} (hM : MC M = 0) {set : Int} {f : Nat} (h : BSY M.os set f M.os.length = false) {w : Nat} {l0 : List Int} (e : M.aw[w]? = some l0) : ∀ k : Nat, k ≤ M.os.length → ∃ l, (MOVT M set k)[w]? = some l ∧ l[f]? = l0[f]?
  | 0, _ => ⟨l0, e, rfl⟩
  | k + 1, hk => by
    obtain ⟨x, ex⟩ : ∃ x, M.os[k]? = some x := ⟨_, List.getElem?_eq_getElem (by omega)⟩
    obtain ⟨l, el, gl⟩ := MOVT_free hM h e k (by omega)
    rw [MOVT_succ ex]
    split
    · next hb =>
      have hx := (MOF_ok hM ex).2.1
      have hn : f ≠ x.fm.toNat := by
        intro g
        exact BSY_false h k x (by omega) ex (by omega) hb
      obtain ⟨l2, e2, g2⟩ := ADDS_oth hn x.lots el
      exact ⟨l2, e2, by rw [g2, gl]⟩
    · exact ⟨l, el, gl⟩
/-- The map of busy farms. -/
def BUS (os : List Ofr) (set : Int) (k : Nat) (m : List (Int × PV)) : Prop := ∀ f, aget m f = some (.bool (BSY os set f k)) ∨ (aget m f = none ∧ BSY os set f k = false)
theorem BUS_look {os : List Ofr} {set : Int} {k : Nat} {m : List (Int × PV)} (h : BUS os set k m) (f : Int) : lookA (.bool false) false (aget m f) = .bool (BSY os set f k) := by
  rcases h f with h | ⟨h, h0⟩
  · rw [h]; rfl
  · rw [h, h0]; rfl
theorem BUS_succ {os : List Ofr} {set : Int} {k : Nat} {x : Ofr} {m : List (Int × PV)} {b : Bool} (h : BUS os set k m) (e : os[k]? = some x) (hb : b = (BSY os set x.fm k || decide (BIT set k = 1))) : BUS os set (k + 1) (aset m x.fm (.bool b)) := by
  intro f
  rw [aget_aset, BSY_succ e]
  by_cases hf : f = x.fm
  · subst hf
    rw [if_pos rfl, hb, decide_eq_true rfl, Bool.true_and]
    exact .inl rfl
  · rw [if_neg hf, decide_eq_false (fun g => hf g.symm), Bool.false_and, Bool.or_false]
    exact h f
end Go.Proofs.Ytbmmbefgmhhciaa
