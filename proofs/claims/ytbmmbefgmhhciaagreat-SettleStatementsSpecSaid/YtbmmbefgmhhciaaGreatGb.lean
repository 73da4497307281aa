/-
  Markets and their settling (part 2).
-/
import Derived.Test.YtbmmbefgmhhciaaGreatGa
set_option linter.unusedSimpArgs false
set_option linter.unusedVariables false
set_option linter.unusedSectionVars false
namespace Go.Proofs.YtbmmbefgmhhciaaGreat
open Go GoV
set_option maxRecDepth 100000
noncomputable def STEPW (M : Mkt) (kept : Int) (old now : List Int) : Option Int:=
  if LIT now then (match NDS M.D old M.D.rs.length,NDS M.D now M.D.rs.length with
    | some a,some b => if CAP M.D.rs a b M.D.rs.length then (if 0 ≤ kept + (a.headD 0 - b.headD 0) ∧ kept + (a.headD 0 - b.headD 0) ≤ M.room then some (kept + (a.headD 0 - b.headD 0)) else none) else none
    | _,_ => none) else none
def TEV (l : List Int) (v : PV) (H : Heap) : Prop:=(l ≠ [] ∧ ∃ id fz,v = .gsl 1 id l.length 0 l.length ∧ H.rows id = some (.gro 1 (l.map I) fz) ∧ id < H.next) ∨ (l = [] ∧ (v = .nils ∨ v = .vs 1 [] (some 0)))
structure AF1 (M : Mkt) (kept : Int) (old l : List Int) (v : PV) (R : Nat) (b : Bool) (H H' : Heap) : Prop where
  fr : ∀ i < H.next,i ≠ R → (∀ id n m k,v = .gsl n id m 0 k → i ≠ id) → H'.rows i = H.rows i
  ent : TEV l v H'
  nx : H.next ≤ H'.next
  res : (b = true ∧ ∃ k,STEPW M kept old l = some k ∧ H'.rows R = some (.gro 1 [I k] 0)) ∨ (b = false ∧ STEPW M kept old l = none ∧ ∃ k,H'.rows R = some (.gro 1 [I k] 0))
section
variable {M : Mkt} (hr : ∀ x ∈ M.D.rs,x.OK) {q : Cps} (hv : DV M.D q.cs q.gs q.ds q.ws) (hA : AWV M.aw q.av)
include hr hv hA
set_option maxHeartbeats 8000000 in
theorem c_after1 (hX0 : XC M.D = 0) (hroom : 0 ≤ M.room ∧ M.room ≤ 1099511627776) (w : Int) (old : List Int) (vo : PV) (ho : NDO M.D old) (hvo : RVN old vo) (l : List Int) (v : PV) (ll : l.length = M.D.fs.length) (kept : Int) (hk : 0 ≤ kept ∧ kept ≤ 1099511627776) (H : Heap) (hv2 : TEV l v H) (R : Nat) (hR : H.rows R = some (.gro 1 [I kept] 0)) (hRn : R < H.next) (hRv : ∀ id n m k,v = .gsl n id m 0 k → R ≠ id) (X : Option (CR × Heap))
    (hX : callF G Tryz.prog pol 63 [I w,vo,v,.rop (mcl M q),.ptr R 1 0 0] H = X) : ∃ b H',X = some (.ret (.bool b),H') ∧ AF1 M kept old l v R b H H':=by
  obtain ⟨hL0,hK⟩:=XC_0 hX0
  obtain ⟨hd0,a,ha⟩:=ho
  have lrs:=hL0.1
  have lfs:=hL0.2.1
  have hr0:=hK.2.2.1
  have noka:=NDS_ok (RSI hX0) (Nat.le_refl _) ha
  have ro:=RVS hvo.rv
  have co:=c_Needs hr q.r q.f hv old vo hvo.rv
  rw [show NDV M.D old = .tup [.vs 1 (a.map I) none,.bool true,I 0] by unfold NDV; rw [if_pos hd0,ha]] at co
  have a0 : a[0]? = some (a.headD 0):=by
    cases a with
    | nil => have:=noka.len; simp at this; omega
    | cons x a => rfl
  have a1:=ints_get a0
  have ab : 0 ≤ a.headD 0 ∧ a.headD 0 ≤ 1073741824:=noka.lit _ (List.mem_of_getElem? a0)
  generalize hah : a.headD 0 = ah at *
  have hu : ∃ u,RV l u ∧ ((l ≠ [] ∧ u = .vs 1 (l.map I) none ∧ ∃ id fz,v = .gsl 1 id l.length 0 l.length ∧ H.rows id = some (.gro 1 (l.map I) fz) ∧ id < H.next) ∨ (l = [] ∧ u = .nils ∧ v = .nils) ∨ (l = [] ∧ u = .vs 1 [] (some 0) ∧ v = .vs 1 [] (some 0))):=by
    rcases hv2 with ⟨hne,id,fz,e,hrow,hid⟩ | ⟨e,e2 | e2⟩
    · exact ⟨_,.inl ⟨none,rfl⟩,.inl ⟨hne,rfl,id,fz,e,hrow,hid⟩⟩
    · exact ⟨.nils,.inr ⟨e,rfl⟩,.inr (.inl ⟨e,rfl,e2⟩)⟩
    · exact ⟨.vs 1 [] (some 0),.inl ⟨some 0,by rw [e]; rfl⟩,.inr (.inr ⟨e,rfl,e2⟩)⟩
  obtain ⟨u,hu,hcase⟩:=hu
  have ru:=RVS hu
  have cb:=c_hasl 64 (.inr rfl) l u hu (by omega)
  have cn:=c_Needs hr q.r q.f hv l u hu
  have tkl : (l.map I).take l.length = l.map I:=List.take_of_length_le (by simp)
  rcases hcase with ⟨hne,rfl,id,fz,rfl,hcase,hid⟩ | ⟨he,rfl,rfl⟩ | ⟨he,rfl,rfl⟩
  case inl =>
    have hRi : ¬ R = id:=hRv id _ _ _ rfl
    have hiR : ¬ id = R:=fun e => hRi e.symm
    rw [callF_eq _ _ Tryz.func63 rfl Tryz.ntmps63 Tryz.results63 (by kernel_rfl) rfl (by exact Nat.le_of_ble_eq_true rfl)] at hX
    by_cases hl : LIT l
    rotate_left
    · rw [decide_eq_true hl] at cb
      have es : STEPW M kept old l = none:=by unfold STEPW; rw [if_neg hl]
      simp (maxSteps:=999999) only [E0,seval,-Int.reduceNatCast',NUM,NADD,SRCH,SFRM,SCRP,SRGT,SDTY,hv.st,SAV hA,SOFR,SLOT,INTS,ro,ru,hR,hcase,tkl,hRi,hiR,List.length_map,Nat.zero_add,Nat.le_refl,cb] at hX
      subst hX
      exact ⟨_,_,rfl,(fun i hi h1 h2 => by simp (maxSteps:=999999) only [E0,seval,-Int.reduceNatCast',(show ¬ i = id from h2 id _ _ _ rfl)]),(.inl ⟨hne,id,l.length,rfl,(by simp (maxSteps:=999999) only [E0,seval,-Int.reduceNatCast',hRi,hiR]),(by simp (maxSteps:=999999) only [E0,seval,-Int.reduceNatCast']; omega)⟩),(by simp (maxSteps:=999999) only [E0,seval,-Int.reduceNatCast']; omega),.inr ⟨rfl,es,kept,(by simp (maxSteps:=999999) only [E0,seval,-Int.reduceNatCast',hRi,hiR,hR])⟩⟩
    rw [decide_eq_false (fun g => g hl)] at cb
    have dl : DVC M.D l = 0:=by unfold DVC; rw [if_pos hX0,if_pos ⟨ll,hl⟩]
    cases hN : NDS M.D l M.D.rs.length with
    | none =>
      have es : STEPW M kept old l = none:=by unfold STEPW; rw [if_pos hl,ha,hN]
      rw [show NDV M.D l = .tup [.nils,.bool false,I 0] by unfold NDV; rw [if_pos dl,hN]] at cn
      simp (maxSteps:=999999) only [E0,seval,-Int.reduceNatCast',NUM,NADD,SRCH,SFRM,SCRP,SRGT,SDTY,hv.st,SAV hA,SOFR,SLOT,INTS,ro,ru,hR,hcase,tkl,hRi,hiR,List.length_map,Nat.zero_add,Nat.le_refl,cb,co,cn] at hX
      subst hX
      exact ⟨_,_,rfl,(fun i hi h1 h2 => by simp (maxSteps:=999999) only [E0,seval,-Int.reduceNatCast',(show ¬ i = id from h2 id _ _ _ rfl)]),(.inl ⟨hne,id,l.length,rfl,(by simp (maxSteps:=999999) only [E0,seval,-Int.reduceNatCast',hRi,hiR]),(by simp (maxSteps:=999999) only [E0,seval,-Int.reduceNatCast']; omega)⟩),(by simp (maxSteps:=999999) only [E0,seval,-Int.reduceNatCast']; omega),.inr ⟨rfl,es,kept,(by simp (maxSteps:=999999) only [E0,seval,-Int.reduceNatCast',hRi,hiR,hR])⟩⟩
    | some b =>
      rw [show NDV M.D l = .tup [.vs 1 (b.map I) none,.bool true,I 0] by unfold NDV; rw [if_pos dl,hN]] at cn
      have nokb:=NDS_ok (RSI hX0) (Nat.le_refl _) hN
      have b0 : b[0]? = some (b.headD 0):=by
        cases b with
        | nil => have:=nokb.len; simp at this; omega
        | cons x b => rfl
      have b1:=ints_get b0
      have bb : 0 ≤ b.headD 0 ∧ b.headD 0 ≤ 1073741824:=nokb.lit _ (List.mem_of_getElem? b0)
      have cc:=c_cap hv hA a b none none noka.len nokb.len lrs
      have es : STEPW M kept old l = if CAP M.D.rs a b M.D.rs.length then (if 0 ≤ kept + (ah - b.headD 0) ∧ kept + (ah - b.headD 0) ≤ M.room then some (kept + (ah - b.headD 0)) else none) else none:=by unfold STEPW; rw [if_pos hl,ha,hN]; simp only [hah]
      generalize b.headD 0 = bh at *
      by_cases hC : CAP M.D.rs a b M.D.rs.length
      rotate_left
      · rw [if_neg hC] at es
        rw [decide_eq_false hC] at cc
        simp (maxSteps:=999999) only [E0,seval,-Int.reduceNatCast',NUM,NADD,SRCH,SFRM,SCRP,SRGT,SDTY,hv.st,SAV hA,SOFR,SLOT,INTS,ro,ru,hR,hcase,tkl,hRi,hiR,List.length_map,Nat.zero_add,Nat.le_refl,cb,co,cn,cc] at hX
        subst hX
        exact ⟨_,_,rfl,(fun i hi h1 h2 => by simp (maxSteps:=999999) only [E0,seval,-Int.reduceNatCast',(show ¬ i = id from h2 id _ _ _ rfl)]),(.inl ⟨hne,id,l.length,rfl,(by simp (maxSteps:=999999) only [E0,seval,-Int.reduceNatCast',hRi,hiR]),(by simp (maxSteps:=999999) only [E0,seval,-Int.reduceNatCast']; omega)⟩),(by simp (maxSteps:=999999) only [E0,seval,-Int.reduceNatCast']; omega),.inr ⟨rfl,es,kept,(by simp (maxSteps:=999999) only [E0,seval,-Int.reduceNatCast',hRi,hiR,hR])⟩⟩
      rw [if_pos hC] at es
      rw [decide_eq_true hC] at cc
      have cw:=c_wins (kept + (ah - bh)) 0 M.room
      simp (maxSteps:=999999) only [E0,seval,-Int.reduceNatCast',NUM,NADD,SRCH,SFRM,SCRP,SRGT,SDTY,hv.st,SAV hA,SOFR,SLOT,INTS,ro,ru,hR,hcase,tkl,hRi,hiR,List.length_map,Nat.zero_add,Nat.le_refl,cb,co,cn,cc,a1,b1,noka.len,nokb.len,hr0,cw,(show (0 : Int) < M.D.rs.length by omega),(i64_in (x:=ah - bh) (by unfold I64; omega)),(i64_in (x:=kept + (ah - bh)) (by unfold I64; omega))] at hX
      replace hX:=ite_chk1 (fun a => [(9,[Vr.row a],[Vr.row a]),(0,[Vr.row a],[])]) R (by intro f h1; simp [renL,renM,renV,h1]) (by kernel_rfl) hX
      subst hX
      by_cases hk2 : 0 ≤ kept + (ah - bh) ∧ kept + (ah - bh) ≤ M.room
      · rw [if_pos hk2] at es
        rw [decide_eq_true hk2]
        exact ⟨_,_,rfl,(fun i hi h1 h2 => by simp (maxSteps:=999999) only [E0,seval,-Int.reduceNatCast',(show ¬ i = R from h1),(show ¬ i = id from h2 id _ _ _ rfl)]),(.inl ⟨hne,id,l.length,rfl,(by simp (maxSteps:=999999) only [E0,seval,-Int.reduceNatCast',hRi,hiR]),(by simp (maxSteps:=999999) only [E0,seval,-Int.reduceNatCast']; omega)⟩),(by simp (maxSteps:=999999) only [E0,seval,-Int.reduceNatCast']; omega),.inl ⟨rfl,_,es,(by simp (maxSteps:=999999) only [E0,seval,-Int.reduceNatCast',hRi,hiR])⟩⟩
      · rw [if_neg hk2] at es
        rw [decide_eq_false hk2]
        exact ⟨_,_,rfl,(fun i hi h1 h2 => by simp (maxSteps:=999999) only [E0,seval,-Int.reduceNatCast',(show ¬ i = R from h1),(show ¬ i = id from h2 id _ _ _ rfl)]),(.inl ⟨hne,id,l.length,rfl,(by simp (maxSteps:=999999) only [E0,seval,-Int.reduceNatCast',hRi,hiR]),(by simp (maxSteps:=999999) only [E0,seval,-Int.reduceNatCast']; omega)⟩),(by simp (maxSteps:=999999) only [E0,seval,-Int.reduceNatCast']; omega),.inr ⟨rfl,es,kept + (ah - bh),(by simp (maxSteps:=999999) only [E0,seval,-Int.reduceNatCast',hRi,hiR])⟩⟩
  case inr.inl =>
    rw [callF_eq _ _ Tryz.func63 rfl Tryz.ntmps63 Tryz.results63 (by kernel_rfl) rfl (by exact Nat.le_of_ble_eq_true rfl)] at hX
    by_cases hl : LIT l
    rotate_left
    · rw [decide_eq_true hl] at cb
      have es : STEPW M kept old l = none:=by unfold STEPW; rw [if_neg hl]
      simp (maxSteps:=999999) only [E0,seval,-Int.reduceNatCast',NUM,NADD,SRCH,SFRM,SCRP,SRGT,SDTY,hv.st,SAV hA,SOFR,SLOT,INTS,ro,ru,hR,List.length_map,Nat.zero_add,Nat.le_refl,cb] at hX
      subst hX
      exact ⟨_,_,rfl,(fun i hi h1 h2 => rfl),(.inr ⟨he,by simp⟩),(by simp (maxSteps:=999999) only [E0,seval,-Int.reduceNatCast']; omega),.inr ⟨rfl,es,kept,(by first | exact hR | (simp (maxSteps:=999999) only [E0,seval,-Int.reduceNatCast',hR]))⟩⟩
    rw [decide_eq_false (fun g => g hl)] at cb
    have dl : DVC M.D l = 0:=by unfold DVC; rw [if_pos hX0,if_pos ⟨ll,hl⟩]
    cases hN : NDS M.D l M.D.rs.length with
    | none =>
      have es : STEPW M kept old l = none:=by unfold STEPW; rw [if_pos hl,ha,hN]
      rw [show NDV M.D l = .tup [.nils,.bool false,I 0] by unfold NDV; rw [if_pos dl,hN]] at cn
      simp (maxSteps:=999999) only [E0,seval,-Int.reduceNatCast',NUM,NADD,SRCH,SFRM,SCRP,SRGT,SDTY,hv.st,SAV hA,SOFR,SLOT,INTS,ro,ru,hR,List.length_map,Nat.zero_add,Nat.le_refl,cb,co,cn] at hX
      subst hX
      exact ⟨_,_,rfl,(fun i hi h1 h2 => rfl),(.inr ⟨he,by simp⟩),(by simp (maxSteps:=999999) only [E0,seval,-Int.reduceNatCast']; omega),.inr ⟨rfl,es,kept,(by first | exact hR | (simp (maxSteps:=999999) only [E0,seval,-Int.reduceNatCast',hR]))⟩⟩
    | some b =>
      rw [show NDV M.D l = .tup [.vs 1 (b.map I) none,.bool true,I 0] by unfold NDV; rw [if_pos dl,hN]] at cn
      have nokb:=NDS_ok (RSI hX0) (Nat.le_refl _) hN
      have b0 : b[0]? = some (b.headD 0):=by
        cases b with
        | nil => have:=nokb.len; simp at this; omega
        | cons x b => rfl
      have b1:=ints_get b0
      have bb : 0 ≤ b.headD 0 ∧ b.headD 0 ≤ 1073741824:=nokb.lit _ (List.mem_of_getElem? b0)
      have cc:=c_cap hv hA a b none none noka.len nokb.len lrs
      have es : STEPW M kept old l = if CAP M.D.rs a b M.D.rs.length then (if 0 ≤ kept + (ah - b.headD 0) ∧ kept + (ah - b.headD 0) ≤ M.room then some (kept + (ah - b.headD 0)) else none) else none:=by unfold STEPW; rw [if_pos hl,ha,hN]; simp only [hah]
      generalize b.headD 0 = bh at *
      by_cases hC : CAP M.D.rs a b M.D.rs.length
      rotate_left
      · rw [if_neg hC] at es
        rw [decide_eq_false hC] at cc
        simp (maxSteps:=999999) only [E0,seval,-Int.reduceNatCast',NUM,NADD,SRCH,SFRM,SCRP,SRGT,SDTY,hv.st,SAV hA,SOFR,SLOT,INTS,ro,ru,hR,List.length_map,Nat.zero_add,Nat.le_refl,cb,co,cn,cc] at hX
        subst hX
        exact ⟨_,_,rfl,(fun i hi h1 h2 => rfl),(.inr ⟨he,by simp⟩),(by simp (maxSteps:=999999) only [E0,seval,-Int.reduceNatCast']; omega),.inr ⟨rfl,es,kept,(by first | exact hR | (simp (maxSteps:=999999) only [E0,seval,-Int.reduceNatCast',hR]))⟩⟩
      rw [if_pos hC] at es
      rw [decide_eq_true hC] at cc
      have cw:=c_wins (kept + (ah - bh)) 0 M.room
      simp (maxSteps:=999999) only [E0,seval,-Int.reduceNatCast',NUM,NADD,SRCH,SFRM,SCRP,SRGT,SDTY,hv.st,SAV hA,SOFR,SLOT,INTS,ro,ru,hR,List.length_map,Nat.zero_add,Nat.le_refl,cb,co,cn,cc,a1,b1,noka.len,nokb.len,hr0,cw,(show (0 : Int) < M.D.rs.length by omega),(i64_in (x:=ah - bh) (by unfold I64; omega)),(i64_in (x:=kept + (ah - bh)) (by unfold I64; omega))] at hX
      replace hX:=ite_chk1 (fun a => [(9,[Vr.row a],[Vr.row a]),(0,[Vr.row a],[])]) R (by intro f h1; simp [renL,renM,renV,h1]) (by kernel_rfl) hX
      subst hX
      by_cases hk2 : 0 ≤ kept + (ah - bh) ∧ kept + (ah - bh) ≤ M.room
      · rw [if_pos hk2] at es
        rw [decide_eq_true hk2]
        exact ⟨_,_,rfl,(fun i hi h1 h2 => by simp (maxSteps:=999999) only [E0,seval,-Int.reduceNatCast',(show ¬ i = R from h1)]),(.inr ⟨he,by simp⟩),(by simp (maxSteps:=999999) only [E0,seval,-Int.reduceNatCast']; omega),.inl ⟨rfl,_,es,(by simp (maxSteps:=999999) only [E0,seval,-Int.reduceNatCast'])⟩⟩
      · rw [if_neg hk2] at es
        rw [decide_eq_false hk2]
        exact ⟨_,_,rfl,(fun i hi h1 h2 => by simp (maxSteps:=999999) only [E0,seval,-Int.reduceNatCast',(show ¬ i = R from h1)]),(.inr ⟨he,by simp⟩),(by simp (maxSteps:=999999) only [E0,seval,-Int.reduceNatCast']; omega),.inr ⟨rfl,es,kept + (ah - bh),(by simp (maxSteps:=999999) only [E0,seval,-Int.reduceNatCast'])⟩⟩
  case inr.inr =>
    rw [callF_eq _ _ Tryz.func63 rfl Tryz.ntmps63 Tryz.results63 (by kernel_rfl) rfl (by exact Nat.le_of_ble_eq_true rfl)] at hX
    by_cases hl : LIT l
    rotate_left
    · rw [decide_eq_true hl] at cb
      have es : STEPW M kept old l = none:=by unfold STEPW; rw [if_neg hl]
      simp (maxSteps:=999999) only [E0,seval,-Int.reduceNatCast',NUM,NADD,SRCH,SFRM,SCRP,SRGT,SDTY,hv.st,SAV hA,SOFR,SLOT,INTS,ro,ru,hR,List.length_map,Nat.zero_add,Nat.le_refl,cb] at hX
      subst hX
      exact ⟨_,_,rfl,(fun i hi h1 h2 => rfl),(.inr ⟨he,by simp⟩),(by simp (maxSteps:=999999) only [E0,seval,-Int.reduceNatCast']; omega),.inr ⟨rfl,es,kept,(by first | exact hR | (simp (maxSteps:=999999) only [E0,seval,-Int.reduceNatCast',hR]))⟩⟩
    rw [decide_eq_false (fun g => g hl)] at cb
    have dl : DVC M.D l = 0:=by unfold DVC; rw [if_pos hX0,if_pos ⟨ll,hl⟩]
    cases hN : NDS M.D l M.D.rs.length with
    | none =>
      have es : STEPW M kept old l = none:=by unfold STEPW; rw [if_pos hl,ha,hN]
      rw [show NDV M.D l = .tup [.nils,.bool false,I 0] by unfold NDV; rw [if_pos dl,hN]] at cn
      simp (maxSteps:=999999) only [E0,seval,-Int.reduceNatCast',NUM,NADD,SRCH,SFRM,SCRP,SRGT,SDTY,hv.st,SAV hA,SOFR,SLOT,INTS,ro,ru,hR,List.length_map,Nat.zero_add,Nat.le_refl,cb,co,cn] at hX
      subst hX
      exact ⟨_,_,rfl,(fun i hi h1 h2 => rfl),(.inr ⟨he,by simp⟩),(by simp (maxSteps:=999999) only [E0,seval,-Int.reduceNatCast']; omega),.inr ⟨rfl,es,kept,(by first | exact hR | (simp (maxSteps:=999999) only [E0,seval,-Int.reduceNatCast',hR]))⟩⟩
    | some b =>
      rw [show NDV M.D l = .tup [.vs 1 (b.map I) none,.bool true,I 0] by unfold NDV; rw [if_pos dl,hN]] at cn
      have nokb:=NDS_ok (RSI hX0) (Nat.le_refl _) hN
      have b0 : b[0]? = some (b.headD 0):=by
        cases b with
        | nil => have:=nokb.len; simp at this; omega
        | cons x b => rfl
      have b1:=ints_get b0
      have bb : 0 ≤ b.headD 0 ∧ b.headD 0 ≤ 1073741824:=nokb.lit _ (List.mem_of_getElem? b0)
      have cc:=c_cap hv hA a b none none noka.len nokb.len lrs
      have es : STEPW M kept old l = if CAP M.D.rs a b M.D.rs.length then (if 0 ≤ kept + (ah - b.headD 0) ∧ kept + (ah - b.headD 0) ≤ M.room then some (kept + (ah - b.headD 0)) else none) else none:=by unfold STEPW; rw [if_pos hl,ha,hN]; simp only [hah]
      generalize b.headD 0 = bh at *
      by_cases hC : CAP M.D.rs a b M.D.rs.length
      rotate_left
      · rw [if_neg hC] at es
        rw [decide_eq_false hC] at cc
        simp (maxSteps:=999999) only [E0,seval,-Int.reduceNatCast',NUM,NADD,SRCH,SFRM,SCRP,SRGT,SDTY,hv.st,SAV hA,SOFR,SLOT,INTS,ro,ru,hR,List.length_map,Nat.zero_add,Nat.le_refl,cb,co,cn,cc] at hX
        subst hX
        exact ⟨_,_,rfl,(fun i hi h1 h2 => rfl),(.inr ⟨he,by simp⟩),(by simp (maxSteps:=999999) only [E0,seval,-Int.reduceNatCast']; omega),.inr ⟨rfl,es,kept,(by first | exact hR | (simp (maxSteps:=999999) only [E0,seval,-Int.reduceNatCast',hR]))⟩⟩
      rw [if_pos hC] at es
      rw [decide_eq_true hC] at cc
      have cw:=c_wins (kept + (ah - bh)) 0 M.room
      simp (maxSteps:=999999) only [E0,seval,-Int.reduceNatCast',NUM,NADD,SRCH,SFRM,SCRP,SRGT,SDTY,hv.st,SAV hA,SOFR,SLOT,INTS,ro,ru,hR,List.length_map,Nat.zero_add,Nat.le_refl,cb,co,cn,cc,a1,b1,noka.len,nokb.len,hr0,cw,(show (0 : Int) < M.D.rs.length by omega),(i64_in (x:=ah - bh) (by unfold I64; omega)),(i64_in (x:=kept + (ah - bh)) (by unfold I64; omega))] at hX
      replace hX:=ite_chk1 (fun a => [(9,[Vr.row a],[Vr.row a]),(0,[Vr.row a],[])]) R (by intro f h1; simp [renL,renM,renV,h1]) (by kernel_rfl) hX
      subst hX
      by_cases hk2 : 0 ≤ kept + (ah - bh) ∧ kept + (ah - bh) ≤ M.room
      · rw [if_pos hk2] at es
        rw [decide_eq_true hk2]
        exact ⟨_,_,rfl,(fun i hi h1 h2 => by simp (maxSteps:=999999) only [E0,seval,-Int.reduceNatCast',(show ¬ i = R from h1)]),(.inr ⟨he,by simp⟩),(by simp (maxSteps:=999999) only [E0,seval,-Int.reduceNatCast']; omega),.inl ⟨rfl,_,es,(by simp (maxSteps:=999999) only [E0,seval,-Int.reduceNatCast'])⟩⟩
      · rw [if_neg hk2] at es
        rw [decide_eq_false hk2]
        exact ⟨_,_,rfl,(fun i hi h1 h2 => by simp (maxSteps:=999999) only [E0,seval,-Int.reduceNatCast',(show ¬ i = R from h1)]),(.inr ⟨he,by simp⟩),(by simp (maxSteps:=999999) only [E0,seval,-Int.reduceNatCast']; omega),.inr ⟨rfl,es,kept + (ah - bh),(by simp (maxSteps:=999999) only [E0,seval,-Int.reduceNatCast'])⟩⟩
end
noncomputable def KPT (M : Mkt) (T : List (List Int)) : Nat → Option Int
  | 0 => some 0
  | k + 1 => (KPT M T k).bind fun kept => (M.aw[k]?).bind fun o => (T[k]?).bind fun l => STEPW M kept o l
theorem KPT_succ {M : Mkt} {T : List (List Int)} {k : Nat} {kept : Int} {o l : List Int} (h : KPT M T k = some kept) (e1 : M.aw[k]? = some o) (e2 : T[k]? = some l) : KPT M T (k + 1) = STEPW M kept o l:=by
  show (KPT M T k).bind _ = _
  rw [h,Option.bind_some,e1,Option.bind_some,e2,Option.bind_some]
theorem KPT_none {M : Mkt} {T : List (List Int)} {k : Nat} (h : KPT M T k = none) : ∀ {j : Nat},k ≤ j → KPT M T j = none:=by
  intro j hj
  induction j with
  | zero => have : k = 0:=by omega
            subst this; exact h
  | succ j ih =>
    by_cases e : k = j + 1
    · subst e; exact h
    · show (KPT M T j).bind _ = _
      rw [ih (by omega)]; rfl
theorem STEPW_bd {M : Mkt} {kept k : Int} {o l : List Int} (h : STEPW M kept o l = some k) : 0 ≤ k ∧ k ≤ M.room:=by
  unfold STEPW at h
  split at h
  · split at h
    · split at h
      · split at h
        · next hk => cases h; exact hk
        · cases h
      · cases h
    · cases h
  · cases h
theorem KPT_bd {M : Mkt} {T : List (List Int)} (hroom : 0 ≤ M.room) : ∀ {k : Nat} {kept : Int},KPT M T k = some kept → 0 ≤ kept ∧ kept ≤ M.room
  | 0,kept,h => by cases h; omega
  | k + 1,kept,h => by
    simp only [KPT,Option.bind_eq_some_iff] at h
    obtain ⟨_,_,_,_,_,_,h⟩:=h
    exact STEPW_bd h
theorem mapI_inj {l l' : List Int} (h : l.map I = l'.map I) : l = l':=by
  induction l generalizing l' with
  | nil => cases l' with
    | nil => rfl
    | cons a b => simp at h
  | cons x l ih => cases l' with
    | nil => simp at h
    | cons a b =>
      simp only [List.map_cons,List.cons.injEq,PV.int.injEq,true_and] at h
      rw [h.1,ih h.2]
theorem TEV_stay {l l' : List Int} {v v' : PV} {R : Nat} {H H' : Heap} (h : TEV l v H) (h' : TEV l' v' H) (hR : ∀ id n m k,v' = .gsl n id m 0 k → id ≠ R) (fr : ∀ i < H.next,i ≠ R → (∀ id n m k,v = .gsl n id m 0 k → i ≠ id) → H'.rows i = H.rows i) (e : TEV l v H') (nx : H.next ≤ H'.next) : TEV l' v' H':=by
  rcases h' with ⟨hne,id',fz',rfl,hrow',hid'⟩ | h'
  · rcases h with ⟨hne0,id,fz,rfl,hrow,hid⟩ | ⟨h0,hv0⟩
    · by_cases hi : id' = id
      · subst hi
        rcases e with ⟨_,id2,fz2,e2,hrow2,_⟩ | ⟨e0,_⟩
        · cases e2
          rw [hrow] at hrow'
          have : l.map I = l'.map I:=by injection hrow' with h1; injection h1
          have:=mapI_inj this
          subst this
          exact .inl ⟨hne,_,fz2,rfl,hrow2,by omega⟩
        · exact absurd e0 hne0
      · exact .inl ⟨hne,id',fz',rfl,by rw [fr id' hid' (hR _ _ _ _ rfl) (fun a n m k ea => by cases ea; exact hi)]; exact hrow',by omega⟩
    · refine .inl ⟨hne,id',fz',rfl,?_,by omega⟩
      rw [fr id' hid' (hR _ _ _ _ rfl) (fun a n m k ea => by rcases hv0 with g | g <;> rw [g] at ea <;> cases ea)]
      exact hrow'
  · exact .inr h'
theorem TEV_c {l : List Int} {v : PV} {H : Heap} (h : TEV l v H) : PV.cells v = [v] ∧ PV.fits v 1 = true:=by
  rcases h with ⟨_,id,fz,rfl,_⟩ | ⟨_,rfl | rfl⟩
  · exact ⟨rfl,rfl⟩
  · exact ⟨rfl,rfl⟩
  · exact ⟨rfl,rfl⟩
def NOTIN (ev : List PV) (i : Nat) : Prop:=∀ (w id n m k : Nat),ev[w]? = some (PV.gsl n id m 0 k) → i ≠ id
structure TBL (T : List (List Int)) (ev : List PV) (R0 R : Nat) (H : Heap) : Prop where
  row : ∃ z,H.rows R0 = some (.gro 1 ev z)
  len : ev.length = T.length
  nx : R0 < H.next
  ne : R0 ≠ R
  get : ∀ (w : Nat) (l : List Int),T[w]? = some l → ∃ v,ev[w]? = some v ∧ TEV l v H ∧ (∀ id n m k,v = .gsl n id m 0 k → id ≠ R ∧ id ≠ R0)
theorem TBL_stay {T : List (List Int)} {ev : List PV} {R0 R : Nat} {H H' : Heap} {M : Mkt} {kept : Int} {o l : List Int} {v : PV} {b : Bool} {j : Nat} (h : TBL T ev R0 R H) (e : T[j]? = some l) (ev0 : ev[j]? = some v) (a : AF1 M kept o l v R b H H') : TBL T ev R0 R H':=by
  obtain ⟨v1,e1,h1,n1⟩:=h.get j l e
  rw [ev0] at e1
  cases e1
  refine ⟨?_,h.len,Nat.lt_of_lt_of_le h.nx a.nx,h.ne,fun w l' el => ?_⟩
  · obtain ⟨z,hz⟩:=h.row
    exact ⟨z,by rw [a.fr R0 h.nx h.ne (fun id n m k ea g => (n1 id n m k ea).2 g.symm)]; exact hz⟩
  · obtain ⟨v',g1,g2,g3⟩:=h.get w l' el
    exact ⟨v',g1,TEV_stay h1 g2 (fun id n m k ea => (g3 id n m k ea).1) a.fr a.ent a.nx,g3⟩
section
variable {M : Mkt} (hr : ∀ x ∈ M.D.rs,x.OK) {q : Cps} (hv : DV M.D q.cs q.gs q.ds q.ws) (hA : AWV M.aw q.av)
include hr hv hA
set_option maxHeartbeats 8000000 in
theorem c_comp (hM : MC M = 0) (T : List (List Int)) (lT : T.length = M.aw.length) (hT : ∀ l ∈ T,l.length = M.D.fs.length) (ev : List PV) (R0 R : Nat) (H : Heap) (hB : TBL T ev R0 R H) (hR : H.rows R = some (.gro 1 [I 0] 0)) (hRn : R < H.next) (X : Option (CR × Heap))
    (hX : callF G Tryz.prog pol 62 [.vs 1 q.av q.cw,.gsl 1 R0 M.aw.length 0 M.aw.length,.fn 63 [.rop (mcl M q),.ptr R 1 0 0]] H = X) :
    ∃ b H',X = some (.ret (.bool b),H') ∧ ((b = true ∧ ∃ k,KPT M T M.aw.length = some k) ∨ (b = false ∧ KPT M T M.aw.length = none)) ∧ TBL T ev R0 R H' ∧ H.next ≤ H'.next ∧ (∀ i < H.next,i ≠ R → NOTIN ev i → H'.rows i = H.rows i):=by
  obtain ⟨hX0,l8,_,l0,hroom,_,hMK⟩:=MC_0 hM
  have hlen:=SAV hA
  obtain ⟨z,hz⟩:=hB.row
  have hBn:=hB.nx
  have hBe:=hB.ne
  have hBl:=hB.len
  rw [callF_eq _ _ Tryz.func62 rfl Tryz.ntmps62 Tryz.results62 (by kernel_rfl) rfl (by exact Nat.le_of_ble_eq_true rfl)] at hX
  simp (maxSteps:=999999) only [E0,seval,-Int.reduceNatCast',K1,hv.st,SAV hA] at hX
  generalize hL : W _ (.loop _) _ = L at hX
  obtain ⟨ex,s,rfl,hex,hBs,hfr,hnx,hd⟩:=loop_at hL (α:=Nat) (fun j => M.aw.length - j)
    (fun s0 j s => j ≤ M.aw.length ∧ (∃ kept,KPT M T j = some kept ∧ s.H.rows R = some (.gro 1 [I kept] 0)) ∧ s.tmps 10 = I j ∧ s.tmps 9 = I M.aw.length ∧ s.tmps 0 = .vs 1 q.av q.cw ∧ s.tmps 1 = .gsl 1 R0 M.aw.length 0 M.aw.length ∧ s.tmps 2 = .fn 63 [.rop (mcl M q),.ptr R 1 0 0] ∧ TBL T ev R0 R s.H ∧ (∀ i < H.next,i ≠ R → NOTIN ev i → s.H.rows i = H.rows i) ∧ H.next < s.H.next ∧ s.defers = [] ∧ s.fid = H.next)
    (fun s0 ex s => ((ex = .exit 0 ∧ ∃ k,KPT M T M.aw.length = some k) ∨ (ex = .ret ∧ KPT M T M.aw.length = none ∧ s.tmps 6 = .bool false)) ∧ TBL T ev R0 R s.H ∧ (∀ i < H.next,i ≠ R → NOTIN ev i → s.H.rows i = H.rows i) ∧ H.next < s.H.next ∧ s.defers = []) 0
    (by simp (maxSteps:=999999) only [E0,seval,-Int.reduceNatCast']
        refine ⟨Nat.zero_le _,⟨0,rfl,hR⟩,by simp,⟨⟨z,?_⟩,hBl,by simp (maxSteps:=999999) only [E0,seval,-Int.reduceNatCast']; omega,hBe,fun w l e => ?_⟩,by simp,by omega⟩
        · simp (maxSteps:=999999) only [E0,seval,-Int.reduceNatCast',hz]
        · obtain ⟨v,h1,h2,h3⟩:=hB.get w l e
          refine ⟨v,h1,?_,h3⟩
          rcases h2 with ⟨g1,id,fz,g2,g3,g4⟩ | h2
          · exact .inl ⟨g1,id,fz,g2,(by simp (maxSteps:=999999) only [E0,seval,-Int.reduceNatCast',g3]),(by simp (maxSteps:=999999) only [E0,seval,-Int.reduceNatCast']; omega)⟩
          · exact .inr h2) (by
      rintro j s r hW ⟨hj,⟨kept,hkp,hRs⟩,h10,h9,h0,h1,h2,hBs,hfr,hnx,hd,hf⟩
      by_cases hp : j < M.aw.length
      rotate_left
      · simp (maxSteps:=999999) only [E0,seval,-Int.reduceNatCast',h10,h9,hd,hf,(show ¬ (j : Int) < M.aw.length by omega)] at hW
        subst hW
        have : j = M.aw.length:=by omega
        subst this
        exact rd_exit ⟨.inl ⟨rfl,kept,hkp⟩,hBs,hfr,hnx,by simp (maxSteps:=999999) only [E0,seval,-Int.reduceNatCast',hd]⟩
      have e0 : M.aw[j]? = some M.aw[j]:=List.getElem?_eq_getElem hp
      have f0 : T[j]? = some (T[j]'(by omega)):=List.getElem?_eq_getElem _
      have ho:=hMK.1 _ (List.getElem_mem hp)
      have hl:=hT _ (List.getElem_mem (l:=T) (n:=j) (by omega))
      generalize M.aw[j] = o at *
      generalize (T[j]'(by omega)) = l at *
      obtain ⟨vo,e1,hvo⟩:=hA.get j o e0
      obtain ⟨v,f1,hv2,hne⟩:=hBs.get j l f0
      obtain ⟨z',hz'⟩:=hBs.row
      have kb:=KPT_bd hroom.1 hkp
      have ks:=KPT_succ hkp e0 f0
      have nx0:=hBs.nx
      have rvo:=RVS hvo.rv
      have hvc:=TEV_c hv2
      simp (maxSteps:=999999) only [E0,seval,-Int.reduceNatCast',K1,hv.st,SAV hA,rvo,hvc,h10,h9,h0,h1,h2,hd,hf,hz',e1,f1,hBl,lT,hlen.2,List.length_map,Int.toNat_natCast,Nat.zero_add,hp,(show (j : Int) < M.aw.length by omega),(show (0 : Int) ≤ j by omega)] at hW
      generalize hE1 : callF _ _ _ _ _ _ = E1 at hW
      obtain ⟨b,H1,rfl,hAF⟩:=c_after1 hr hv hA hX0 hroom _ o vo ho hvo l v hl kept ⟨kb.1,by omega⟩ _ hv2 R hRs (by omega) (fun id n m k e => fun g => (hne id n m k e).1 g.symm) _ hE1
      clear hE1
      have hB1:=TBL_stay hBs f0 f1 hAF
      have nx1:=hAF.nx
      have hfr1 : ∀ i < H.next,i ≠ R → NOTIN ev i → H1.rows i = H.rows i:=fun i hi h1 h2 => by
        rw [hAF.fr i (by omega) h1 (fun id n m k e => by subst e; exact h2 j id n m k f1)]
        exact hfr i hi h1 h2
      rcases hAF.res with ⟨rfl,k,hst,hrk⟩ | ⟨rfl,hst,k,hrk⟩
      · simp (maxSteps:=999999) only [E0,seval,-Int.reduceNatCast',K1,hv.st,SAV hA,h10,hd,hf,(i64_in (x:=(j : Int) + 1) (by unfold I64; omega))] at hW
        replace hW:=ite_chk1 (fun a => [(10,[Vr.all],[Vr.all]),(9,[Vr.row a],[])]) R0 (by intro f h1; simp [renL,renM,renV,h1]) (by kernel_rfl) hW
        subst hW
        rw [hst] at ks
        refine rd_next (j + 1) ?_ (show M.aw.length - (j + 1) < M.aw.length - j by omega)
        simp (maxSteps:=999999) only [E0,seval,-Int.reduceNatCast',h9,h0,h1,h2,hd]
        exact ⟨by omega,⟨k,ks,hrk⟩,by simp,hB1,hfr1,by omega⟩
      · simp (maxSteps:=999999) only [E0,seval,-Int.reduceNatCast',K1,hv.st,SAV hA,h10,hd,hf] at hW
        replace hW:=ite_chk1 (fun a => [(10,[Vr.all],[Vr.all]),(9,[Vr.row a],[])]) R0 (by intro f h1; simp [renL,renM,renV,h1]) (by kernel_rfl) hW
        subst hW
        rw [hst] at ks
        refine rd_ret ⟨.inr ⟨rfl,KPT_none ks (by omega),?_⟩,?_⟩
        · simp (maxSteps:=999999) only [E0,seval,-Int.reduceNatCast']
        · simp (maxSteps:=999999) only [E0,seval,-Int.reduceNatCast',hd]
          exact ⟨hB1,hfr1,by omega⟩)
  rcases hex with ⟨rfl,k,hk⟩ | ⟨rfl,hk,h6⟩
  · simp (maxSteps:=999999) only [E0,seval,-Int.reduceNatCast',NUM,hd] at hX
    subst hX
    exact ⟨_,_,rfl,.inl ⟨rfl,k,hk⟩,hBs,Nat.le_of_lt hnx,hfr⟩
  · simp (maxSteps:=999999) only [E0,seval,-Int.reduceNatCast',NUM,hd,h6] at hX
    subst hX
    exact ⟨_,_,rfl,.inr ⟨rfl,hk⟩,hBs,Nat.le_of_lt hnx,hfr⟩
end
def ADDL (T : List (List Int)) (w f : Nat) (d : Int) : List (List Int):=match T[w]? with
  | some l => T.set w (l.set f (l.getD f 0 + d))
  | none => T
def ADDS (T : List (List Int)) (f : Nat) : List Lot → List (List Int)
  | [] => T
  | y :: r => ADDS (ADDL T y.w.toNat f y.n) f r
theorem ADDS_app (f : Nat) (a : List Lot) : ∀ (T : List (List Int)) (y : Lot),ADDS T f (a ++ [y]) = ADDL (ADDS T f a) y.w.toNat f y.n:=by
  induction a with
  | nil => intro T y; rfl
  | cons x a ih => intro T y; exact ih _ y
def MOVT (M : Mkt) (set : Int) : Nat → List (List Int)
  | 0 => M.aw
  | k + 1 => match M.os[k]? with
    | some x => if BIT set k = 1 then ADDS (MOVT M set k) x.fm.toNat x.lots else MOVT M set k
    | none => MOVT M set k
theorem MOVT_succ {M : Mkt} {set : Int} {k : Nat} {x : Ofr} (e : M.os[k]? = some x) : MOVT M set (k + 1) = if BIT set k = 1 then ADDS (MOVT M set k) x.fm.toNat x.lots else MOVT M set k:=by
  simp only [MOVT,e]
def RNK (M : Mkt) (set : Int) (k : Nat) : Prop:=∀ (j : Nat) (x : Ofr),j < k → M.os[j]? = some x → BIT set j = 1 → x.lo ≤ M.rain ∧ M.rain ≤ x.hi
noncomputable instance (M : Mkt) (set : Int) (k : Nat) : Decidable (RNK M set k):=Classical.propDecidable _
theorem RNK_succ {M : Mkt} {set : Int} {k : Nat} {x : Ofr} (h : RNK M set k) (e : M.os[k]? = some x) (g : BIT set k = 1 → x.lo ≤ M.rain ∧ M.rain ≤ x.hi) : RNK M set (k + 1):=by
  intro j y hj ey hb
  by_cases hn : j = k
  · subst hn
    rw [e] at ey
    cases ey
    exact g hb
  · exact h j y (by omega) ey hb
noncomputable def AFT (M : Mkt) (set : Int) : Option (List (List Int)):=if RNK M set M.os.length then (match KPT M (MOVT M set M.os.length) M.aw.length with
  | some _ => some (MOVT M set M.os.length)
  | none => none) else none
structure TSZ (n nf : Nat) (B : Int) (T : List (List Int)) : Prop where
  len : T.length = n
  row : ∀ l ∈ T,l.length = nf
  bd : ∀ l ∈ T,∀ x ∈ l,-B ≤ x ∧ x ≤ B
theorem TSZ.mono {n nf : Nat} {B C : Int} {T : List (List Int)} (h : TSZ n nf B T) (hb : B ≤ C) : TSZ n nf C T:=⟨h.len,h.row,fun l hl x hx => by have:=h.bd l hl x hx; omega⟩
theorem TSZ.add {n nf : Nat} {B : Int} {T : List (List Int)} (h : TSZ n nf B T) (hB : 0 ≤ B) (w f : Nat) {d : Int} (hd : -1073741824 ≤ d ∧ d ≤ 1073741824) : TSZ n nf (B + 1073741824) (ADDL T w f d):=by
  unfold ADDL
  cases e : T[w]? with
  | none => exact h.mono (by omega)
  | some l =>
    have hl:=List.mem_of_getElem? e
    refine ⟨by simp [h.len],fun m hm => ?_,fun m hm x hx => ?_⟩
    · rcases List.mem_or_eq_of_mem_set hm with hm | rfl
      · exact h.row m hm
      · simp [h.row l hl]
    · rcases List.mem_or_eq_of_mem_set hm with hm | rfl
      · have:=h.bd m hm x hx; omega
      · rcases List.mem_or_eq_of_mem_set hx with hx | rfl
        · have:=h.bd l hl x hx; omega
        · have : -B ≤ l.getD f 0 ∧ l.getD f 0 ≤ B:=by
            rw [List.getD_eq_getElem?_getD]
            cases e2 : l[f]? with
            | none => simp; omega
            | some y => exact h.bd l hl y (List.mem_of_getElem? e2)
          omega
theorem TSZ.adds {n nf f : Nat} : ∀ {l : List Lot} {B : Int} {T : List (List Int)},TSZ n nf B T → 0 ≤ B → (∀ y ∈ l,-1073741824 ≤ y.n ∧ y.n ≤ 1073741824) → TSZ n nf (B + 1073741824 * l.length) (ADDS T f l)
  | [],B,T,h,_,_ => h.mono (by simp)
  | y :: r,B,T,h,hB,hl => by
    have h1:=h.add hB y.w.toNat f (hl y (by simp))
    have h2:=TSZ.adds (f:=f) (l:=r) h1 (by omega) (fun z hz => hl z (by simp [hz]))
    exact h2.mono (by simp only [List.length_cons]; omega)
theorem MOF_ok {M : Mkt} (hM : MC M = 0) {k : Nat} {x : Ofr} (e : M.os[k]? = some x) : x.lots.length ≤ 8 ∧ (0 ≤ x.fm ∧ x.fm < M.D.fs.length) ∧ (∀ y ∈ x.lots,(0 ≤ y.w ∧ y.w < M.aw.length) ∧ (-1073741824 ≤ y.n ∧ y.n ≤ 1073741824)):=by
  have hm:=(MC_0 hM).2.2.2.2.2.2.2 k x e
  have h1 : OC x = 0:=hm.1
  have hf:=hm.2.2.1
  have hw:=hm.2.2.2
  unfold OC at h1
  split at h1
  · omega
  · split at h1
    · next h8 g =>
      refine ⟨by omega,⟨g.2.1.1,hf⟩,fun y hy => ?_⟩
      obtain ⟨i,ei⟩:=List.mem_iff_getElem?.1 hy
      have hk : LOTK (PW x.lots i) y:=g.2.2.2.2.2 i y ei
      have hp : -1 ≤ PW x.lots i:=by
        cases i with
        | zero => simp [PW]
        | succ i =>
          have hlt:=(List.getElem?_eq_some_iff.1 ei).1
          have e0 : x.lots[i]? = some (x.lots[i]'(by omega)):=List.getElem?_eq_getElem _
          rw [PW_succ e0]
          have aux : ∀ (j : Nat) (z : Lot),x.lots[j]? = some z → -1 ≤ z.w:=by
            intro j
            induction j with
            | zero => intro z ez; have:=g.2.2.2.2.2 0 z ez; simp only [PW] at this; unfold LOTK at this; simp at this; omega
            | succ j ih =>
              intro z ez
              have hlt:=(List.getElem?_eq_some_iff.1 ez).1
              have e0 : x.lots[j]? = some (x.lots[j]'(by omega)):=List.getElem?_eq_getElem _
              have : LOTK (PW x.lots (j + 1)) z:=g.2.2.2.2.2 (j + 1) z ez
              rw [PW_succ e0] at this
              have h2:=ih _ e0
              unfold LOTK at this
              omega
          exact aux i _ e0
      unfold LOTK at hk
      exact ⟨⟨by omega,hw y hy⟩,hk.2.2⟩
    · omega
theorem MOVT_sz {M : Mkt} (hM : MC M = 0) (set : Int) : ∀ {k : Nat},k ≤ M.os.length → TSZ M.aw.length M.D.fs.length (1073741824 * (1 + 8 * k)) (MOVT M set k)
  | 0,_ => by
    refine ⟨rfl,fun l hl => ?_,fun l hl x hx => ?_⟩
    · exact (DVC_0 ((MC_0 hM).2.2.2.2.2.2.1 l hl).1).2.1
    · have:=(DVC_0 ((MC_0 hM).2.2.2.2.2.2.1 l hl).1).2.2 x hx; omega
  | k + 1,hk => by
    have ih:=MOVT_sz hM set (k:=k) (by omega)
    have e : M.os[k]? = some M.os[k]:=List.getElem?_eq_getElem (by omega)
    have ok:=MOF_ok hM e
    rw [MOVT_succ e]
    split
    · exact (ih.adds (f:=M.os[k].fm.toNat) (l:=M.os[k].lots) (by omega) (fun y hy => (ok.2.2 y hy).2)).mono (by have:=ok.1; omega)
    · exact ih.mono (by omega)
structure TBB (T : List (List Int)) (ev : List PV) (B C : Nat) (H : Heap) : Prop where
  len : ev.length = T.length
  get : ∀ (w : Nat) (l : List Int),T[w]? = some l → (l ≠ [] ∧ ∃ id,ev[w]? = some (PV.gsl 1 id l.length 0 l.length) ∧ H.rows id = some (.gro 1 (l.map I) 0) ∧ B < id ∧ id < C) ∨ (l = [] ∧ ∃ v,ev[w]? = some v ∧ (v = PV.nils ∨ v = PV.vs 1 [] (some 0)))
  inj : ∀ (w w' id n m : Nat),ev[w]? = some (PV.gsl 1 id n 0 n) → ev[w']? = some (PV.gsl 1 id m 0 m) → w = w'
theorem TBB.frame {T : List (List Int)} {ev : List PV} {B C D : Nat} {H H' : Heap} (h : TBB T ev B C H) (fr : ∀ i,B < i → i < C → H'.rows i = H.rows i) (nx : C ≤ D) : TBB T ev B D H':=by
  refine ⟨h.len,fun w l e => ?_,h.inj⟩
  rcases h.get w l e with ⟨h1,id,h2,h3,h4,h5⟩ | g
  · exact .inl ⟨h1,id,h2,by rw [fr id h4 h5]; exact h3,h4,by omega⟩
  · exact .inr g
theorem TBB.push {T : List (List Int)} {ev : List PV} {B : Nat} {H H' : Heap} {l : List Int} {w : PV} (h : TBB T ev B H.next H) (hn : B < H.next) (fr : ∀ i,B < i → i < H.next → H'.rows i = H.rows i) (nx : H.next ≤ H'.next)
    (hw : (l ≠ [] ∧ w = .gsl 1 (H.next + 1) l.length 0 l.length ∧ H'.rows (H.next + 1) = some (.gro 1 (l.map I) 0) ∧ H.next + 1 < H'.next) ∨ (l = [] ∧ (w = .nils ∨ w = .vs 1 [] (some 0)))) : TBB (T ++ [l]) (ev ++ [w]) B H'.next H':=by
  have hf:=h.frame fr nx
  have lo : ∀ (i id n : Nat),i < ev.length → ev[i]? = some (PV.gsl 1 id n 0 n) → id < H.next:=by
    intro i id n hi e
    have hi' : i < T.length:=by rw [← h.len]; exact hi
    rcases h.get i _ (List.getElem?_eq_getElem hi') with ⟨_,id',e',_,_,g⟩ | ⟨_,v,e',g⟩
    · rw [e] at e'; cases e'; exact g
    · rw [e] at e'; cases e'; rcases g with g | g <;> cases g
  have nw : ∀ (id n : Nat),w = PV.gsl 1 id n 0 n → id = H.next + 1:=by
    intro id n e
    rcases hw with ⟨_,e',_⟩ | ⟨_,e' | e'⟩
    · rw [e] at e'; cases e'; rfl
    · rw [e] at e'; cases e'
    · rw [e] at e'; cases e'
  refine ⟨by simp [h.len],fun i m e => ?_,fun i i' id n m e e' => ?_⟩
  · by_cases hi : i < T.length
    · rw [List.getElem?_append_left hi] at e
      rw [List.getElem?_append_left (by rw [h.len]; exact hi)]
      exact hf.get i m e
    · rw [List.getElem?_append_right (by omega)] at e
      rw [List.getElem?_append_right (by rw [h.len]; omega),h.len]
      have : i - T.length = 0:=by
        have:=(List.getElem?_eq_some_iff.1 e).1
        simp at this; omega
      rw [this] at e ⊢
      simp only [List.getElem?_cons_zero,Option.some.injEq] at e ⊢
      subst e
      rcases hw with ⟨h1,h2,h3,h4⟩ | ⟨h1,h2⟩
      · exact .inl ⟨h1,_,h2,h3,by omega,h4⟩
      · exact .inr ⟨h1,_,rfl,h2⟩
  · by_cases hi : i < ev.length
    · rw [List.getElem?_append_left hi] at e
      by_cases hi' : i' < ev.length
      · rw [List.getElem?_append_left hi'] at e'
        exact h.inj i i' id n m e e'
      · rw [List.getElem?_append_right (by omega)] at e'
        have h0 : i' - ev.length = 0:=by
          have:=(List.getElem?_eq_some_iff.1 e').1
          simp at this; omega
        rw [h0] at e'
        simp only [List.getElem?_cons_zero,Option.some.injEq] at e'
        have:=lo i id n hi e
        have:=nw id m e'
        omega
    · rw [List.getElem?_append_right (by omega)] at e
      have h0 : i - ev.length = 0:=by
        have:=(List.getElem?_eq_some_iff.1 e).1
        simp at this; omega
      rw [h0] at e
      simp only [List.getElem?_cons_zero,Option.some.injEq] at e
      by_cases hi' : i' < ev.length
      · rw [List.getElem?_append_left hi'] at e'
        have:=lo i' id m hi' e'
        have:=nw id n e
        omega
      · rw [List.getElem?_append_right (by omega)] at e'
        have h0' : i' - ev.length = 0:=by
          have:=(List.getElem?_eq_some_iff.1 e').1
          simp at this; omega
        omega
theorem TBB.set {T : List (List Int)} {ev : List PV} {B C : Nat} {H H' : Heap} {w f id : Nat} {l : List Int} {d : Int} (h : TBB T ev B C H) (e : T[w]? = some l) (hv : ev[w]? = some (PV.gsl 1 id l.length 0 l.length)) (hne : l ≠ []) (hr : H'.rows id = some (.gro 1 ((l.set f (l.getD f 0 + d)).map I) 0)) (fr : ∀ i,B < i → i < C → i ≠ id → H'.rows i = H.rows i) : TBB (ADDL T w f d) ev B C H':=by
  have eA : ADDL T w f d = T.set w (l.set f (l.getD f 0 + d)):=by unfold ADDL; rw [e]
  rw [eA]
  have hid : B < id ∧ id < C:=by
    rcases h.get w l e with ⟨_,id',e',_,g1,g2⟩ | ⟨g,_⟩
    · rw [hv] at e'; cases e'; exact ⟨g1,g2⟩
    · exact absurd g hne
  refine ⟨by rw [h.len]; simp,fun i m em => ?_,h.inj⟩
  by_cases hi : i = w
  · subst hi
    have hlt:=(List.getElem?_eq_some_iff.1 e).1
    rw [List.getElem?_set_self hlt] at em
    cases em
    refine .inl ⟨?_,id,by simpa using hv,hr,hid.1,by omega⟩
    intro h0
    apply hne
    have : (l.set f (l.getD f 0 + d)).length = 0:=by rw [h0]; rfl
    simpa using this
  · rw [List.getElem?_set_ne (by omega)] at em
    rcases h.get i m em with ⟨h1,id',h2,h3,h4,h5⟩ | g
    · refine .inl ⟨h1,id',h2,?_,h4,by omega⟩
      rw [fr id' h4 h5 (fun g => hi (by subst g; exact h.inj i w id' _ _ h2 hv))]
      exact h3
    · exact .inr g
theorem upd_sort {α : Type} (f : Nat → α) (a b : Nat) (x y : α) (h : b < a) : upd (upd f a x) b y = upd (upd f b y) a x:=by
  funext i
  simp only [upd_apply]
  by_cases h1 : i = b
  · subst h1
    rw [if_pos rfl,if_neg (by omega),if_pos rfl]
  · rw [if_neg h1]
    by_cases h2 : i = a
    · rw [if_pos h2,if_pos h2]
    · rw [if_neg h2,if_neg h2,if_neg h1]
theorem CLN_c {l : List Int} {w : PV} {H H' : Heap} (h : CLN l w H H') : PV.cells w = [w] ∧ PV.fits w 1 = true:=by
  rcases h.el with ⟨_,rfl,_⟩ | ⟨_,rfl | rfl⟩
  · exact ⟨rfl,rfl⟩
  · exact ⟨rfl,rfl⟩
  · exact ⟨rfl,rfl⟩
theorem TBB.notin {T : List (List Int)} {ev : List PV} {B C : Nat} {H : Heap} (h : TBB T ev B C H) {i : Nat} (hi : i ≤ B ∨ C ≤ i) : NOTIN ev i:=by
  intro w id n m k e
  have hw : w < T.length:=by
    rw [← h.len]
    exact (List.getElem?_eq_some_iff.1 e).1
  rcases h.get w _ (List.getElem?_eq_getElem hw) with ⟨_,id',e',_,h1,h2⟩ | ⟨_,v,e',g⟩
  · rw [e] at e'
    cases e'
    omega
  · rw [e] at e'
    cases e'
    rcases g with g | g <;> cases g
theorem TBL.frame {T : List (List Int)} {ev : List PV} {R0 R : Nat} {H H' : Heap} (h : TBL T ev R0 R H) (nx : H.next ≤ H'.next) (fr : ∀ i,(i = R0 ∨ ¬ NOTIN ev i) → H'.rows i = H.rows i) : TBL T ev R0 R H':=by
  refine ⟨?_,h.len,Nat.lt_of_lt_of_le h.nx nx,h.ne,fun w l e => ?_⟩
  · obtain ⟨z,hz⟩:=h.row
    exact ⟨z,by rw [fr R0 (.inl rfl)]; exact hz⟩
  · obtain ⟨v,h1,h2,h3⟩:=h.get w l e
    refine ⟨v,h1,?_,h3⟩
    rcases h2 with ⟨g1,id,fz,g2,g3,g4⟩ | h2
    · refine .inl ⟨g1,id,fz,g2,?_,by omega⟩
      rw [fr id (.inr fun g => g w id _ _ _ (g2 ▸ h1) rfl)]
      exact g3
    · exact .inr h2
section
variable {M : Mkt} (hr : ∀ x ∈ M.D.rs,x.OK) {q : Cps} (hv : DV M.D q.cs q.gs q.ds q.ws) (hA : AWV M.aw q.av)
include hr hv hA
set_option maxHeartbeats 8000000 in
theorem c_after (hM : MC M = 0) (set : Int) (H : Heap) (X : Option (CR × Heap))
    (hX : callF G Tryz.prog pol 48 [.agg (mcl M q),I set] H = X) :
    ∃ H',(∀ i < H.next,H'.rows i = H.rows i) ∧ H.next ≤ H'.next ∧ ((AFT M set = none ∧ X = some (.ret (.tup [.nils,.bool false]),H')) ∨ (∃ T ev R0 R,AFT M set = some T ∧ X = some (.ret (.tup [.gsl 1 R0 M.aw.length 0 M.aw.length,.bool true]),H') ∧ TBL T ev R0 R H')):=by
  obtain ⟨hX0,l8,lo,l0,hroom,_,hMK⟩:=MC_0 hM
  have hlen:=SAV hA
  have lfs:=(XC_0 hX0).1.2.1
  have hrow : ∀ l ∈ M.aw,l.length = M.D.fs.length:=fun l hl => (DVC_0 (hMK.1 l hl).1).2.1
  rw [callF_eq _ _ Tryz.func48 rfl Tryz.ntmps48 Tryz.results48 (by kernel_rfl) rfl (by exact Nat.le_of_ble_eq_true rfl)] at hX
  simp (maxSteps:=999999) only [E0,seval,-Int.reduceNatCast',NUM,NADD,SRCH,SFRM,SCRP,SRGT,SDTY,hv.st,SAV hA,SOFR,SLOT,INTS] at hX
  generalize hL : W _ (.loop _) _ = L at hX
  obtain ⟨ex,s,rfl,rfl,⟨ev,hB,g1,g2⟩,g3,k2,k1,k4,k5,gfr,gnx,gd,gf⟩:=loop_at hL (α:=Nat) (fun j => M.aw.length - j)
    (fun s0 j s => j ≤ M.aw.length ∧ (∃ ev,TBB (M.aw.take j) ev (H.next + 1 + 1 + 1) s.H.next s.H ∧ s.H.rows (H.next + 1) = some (.gro 1 ev 0) ∧ s.H.rows (H.next + 1 + 1) = some (.gro 1 [.gsl 1 (H.next + 1) j 0 j] 0)) ∧ s.tmps 16 = I j ∧ s.tmps 15 = I M.aw.length ∧ s.tmps 14 = .vs 1 q.av q.cw ∧ s.H.rows (H.next + 1 + 1 + 1) = some (.gro 1 [.bool false] 0) ∧ s.tmps 2 = .rop (mcl M q) ∧ s.tmps 1 = I set ∧ s.tmps 4 = .ptr (H.next + 1 + 1) 1 0 0 ∧ s.tmps 5 = .ptr (H.next + 1 + 1 + 1) 1 0 0 ∧ (∀ i < H.next,s.H.rows i = H.rows i) ∧ H.next + 1 + 1 + 1 < s.H.next ∧ s.defers = [] ∧ s.fid = H.next)
    (fun s0 ex s => ex = .exit 0 ∧ (∃ ev,TBB M.aw ev (H.next + 1 + 1 + 1) s.H.next s.H ∧ s.H.rows (H.next + 1) = some (.gro 1 ev 0) ∧ s.H.rows (H.next + 1 + 1) = some (.gro 1 [.gsl 1 (H.next + 1) M.aw.length 0 M.aw.length] 0)) ∧ s.H.rows (H.next + 1 + 1 + 1) = some (.gro 1 [.bool false] 0) ∧ s.tmps 2 = .rop (mcl M q) ∧ s.tmps 1 = I set ∧ s.tmps 4 = .ptr (H.next + 1 + 1) 1 0 0 ∧ s.tmps 5 = .ptr (H.next + 1 + 1 + 1) 1 0 0 ∧ (∀ i < H.next,s.H.rows i = H.rows i) ∧ H.next + 1 + 1 + 1 < s.H.next ∧ s.defers = [] ∧ s.fid = H.next) 0
    (by simp (maxSteps:=999999) only [E0,seval,-Int.reduceNatCast',NADD]
        refine ⟨Nat.zero_le _,⟨[],⟨⟨rfl,fun w l e => by simp at e,fun w w' id n m e => by simp at e⟩,rfl⟩⟩,by simp,fun i hi => ?_,by omega⟩
        · simp (maxSteps:=999999) only [E0,seval,-Int.reduceNatCast',(show ¬ i = H.next + 1 by omega),(show ¬ i = H.next + 1 + 1 by omega),(show ¬ i = H.next + 1 + 1 + 1 by omega)]) (by
      rintro j s r hW ⟨hj,⟨ev,hB,g1,g2⟩,h16,h15,h14,g3,k2,k1,k4,k5,gfr,gnx,gd,gf⟩
      by_cases hp : j < M.aw.length
      rotate_left
      · simp (maxSteps:=999999) only [E0,seval,-Int.reduceNatCast',NUM,h16,h15,gd,gf,(show ¬ (j : Int) < M.aw.length by omega)] at hW
        subst hW
        have : j = M.aw.length:=by omega
        subst this
        rw [List.take_length] at hB
        exact rd_exit ⟨rfl,⟨ev,hB,g1,g2⟩,by simp (maxSteps:=999999) only [E0,seval,-Int.reduceNatCast',g3,k2,k1,k4,k5,gd]; exact ⟨gfr,gnx⟩⟩
      have e0 : M.aw[j]? = some M.aw[j]:=List.getElem?_eq_getElem hp
      have hl:=hrow _ (List.getElem_mem hp)
      have tk : M.aw.take (j + 1) = M.aw.take j ++ [M.aw[j]]:=by rw [List.take_add_one,e0]; rfl
      generalize M.aw[j] = l at *
      obtain ⟨v,e1,hrv⟩:=hA.get j l e0
      have rv:=RVS hrv.rv
      have evl : ev.length = j:=by rw [hB.len]; simp; omega
      obtain ⟨w,H1,eC,hC⟩:=c_clone l v (by omega) hrv s.H _ rfl
      have wc:=CLN_c hC
      have q1:=hC.fr (H.next + 1) (by omega)
      have q2:=hC.fr (H.next + 1 + 1) (by omega)
      have q3:=hC.fr (H.next + 1 + 1 + 1) (by omega)
      rw [g1] at q1
      rw [g2] at q2
      rw [g3] at q3
      simp (maxSteps:=999999) only [E0,seval,-Int.reduceNatCast',BRU,NUM,NADD,SRCH,SFRM,SCRP,SRGT,SDTY,hv.st,SAV hA,SOFR,SLOT,INTS,rv,h16,h15,h14,k2,k1,k4,k5,g1,g2,gd,gf,e1,evl,eC,wc,q1,q2,hlen.2,List.length_map,Int.toNat_natCast,(show (j : Int) < M.aw.length by omega),(show (0 : Int) ≤ j by omega),(show j ≤ 67108863 by omega)] at hW
      replace hW:=ite_chkF2 (fun a b => [(5,[Vr.row b],[Vr.row b]),(4,[Vr.row a],[Vr.row a]),(2,[Vr.all],[Vr.all]),(0,[Vr.row b],[])]) (H.next + 1) (H.next + 1 + 1) (by omega) (by intro f h1 h2; simp [renL,renM,renV,h1,h2]) (by kernel_rfl) hW
      rw [brute_eq (L:=[[0,1,2,3,4,5],[1,0,2,3,4,5],[1,2,0,3,4,5],[1,2,3,0,4,5]]) (by kernel_rfl) (by kernel_rfl) ?hB] at hW
      case hB => simp (maxSteps:=999999) only [E0,seval,-Int.reduceNatCast',upd_sort,BRU,NUM,NADD,SRCH,SFRM,SCRP,SRGT,SDTY,hv.st,SAV hA,SOFR,SLOT,INTS,rv,k2,k1,k4,k5,g1,g2,gd,gf,e1,evl,eC,wc,q1,q2,hlen.2,h16,List.length_map,Int.toNat_natCast,(show j ≤ 67108863 by omega),(i64_in (x:=(j : Int) + 1) (by unfold I64; omega))]
      simp (maxSteps:=999999) only [E0,seval,-Int.reduceNatCast',BRU,NUM,NADD,SRCH,SFRM,SCRP,SRGT,SDTY,hv.st,SAV hA,SOFR,SLOT,INTS,rv,k2,k1,k4,k5,g1,g2,gd,gf,e1,evl,eC,wc,q1,q2,hlen.2,h16,List.length_map,Int.toNat_natCast,(show j ≤ 67108863 by omega),(i64_in (x:=(j : Int) + 1) (by unfold I64; omega))] at hW
      subst hW
      refine rd_next (j + 1) ?_ (show M.aw.length - (j + 1) < M.aw.length - j by omega)
      simp (maxSteps:=999999) only [E0,seval,-Int.reduceNatCast',NADD,h15,h14,k2,k1,k4,k5,q3,gd]
      have nx1:=hC.nx
      refine ⟨by omega,⟨ev ++ [w],⟨?_,rfl⟩⟩,by simp,fun i hi => ?_,by omega⟩
      · rw [tk]
        refine (hB.push (H':=H1) (by omega) (fun i h1 h2 => hC.fr i (by omega)) (by omega) ?_).frame (fun i h1 h2 => ?_) ?_
        · rcases hC.el with ⟨a1,a2,a3,a4⟩ | a
          · exact .inl ⟨a1,a2,a3,by omega⟩
          · exact .inr a
        · simp (maxSteps:=999999) only [E0,seval,-Int.reduceNatCast',(show ¬ i = H.next + 1 by omega),(show ¬ i = H.next + 1 + 1 by omega)]
        · first | exact Nat.le_refl _ | (simp (maxSteps:=999999) only [E0,seval,-Int.reduceNatCast']; exact Nat.le_refl _)
      · simp (maxSteps:=999999) only [E0,seval,-Int.reduceNatCast',(show ¬ i = H.next + 1 by omega),(show ¬ i = H.next + 1 + 1 by omega)]
        rw [hC.fr i (by omega)]
        exact gfr i hi)
  clear hL
  have cc:=c_chosen hv hA set
  obtain ⟨P,hP⟩ : ∃ P,s.H.next = P:=⟨_,rfl⟩
  rw [hP] at gnx
  have np : ((¬ P = H.next) ∧ (¬ P = H.next + 1) ∧ (¬ P = H.next + 2) ∧ (¬ P = H.next + 3) ∧ (¬ P = H.next + 1 + 1) ∧ (¬ P = H.next + 1 + 1 + 1)) ∧ (¬ H.next = P) ∧ (¬ H.next + 1 = P) ∧ (¬ H.next + 2 = P) ∧ (¬ H.next + 3 = P) ∧ (¬ H.next + 1 + 1 = P) ∧ (¬ H.next + 1 + 1 + 1 = P):=by omega
  simp (maxSteps:=999999) only [E0,seval,-Int.reduceNatCast',NUM,NADD,SRCH,SFRM,SCRP,SRGT,SDTY,hv.st,SAV hA,SOFR,SLOT,INTS,cc,k2,k1,k4,k5,gd,gf,hP] at hX
  rw [callF_eq _ _ Tryz.func72 rfl Tryz.ntmps72 Tryz.results72 (by kernel_rfl) rfl (by exact Nat.le_of_ble_eq_true rfl)] at hX
  simp (maxSteps:=999999) only [E0,seval,-Int.reduceNatCast',NUM,NADD,SRCH,SFRM,SCRP,SRGT,SDTY,hv.st,SAV hA,SOFR,SLOT,INTS,cc,k2,k1,k4,k5,gd,gf,hP,List.length_map] at hX
  generalize hL : W _ (.loop _) _ = L at hX
  obtain ⟨exB,sB,rfl,hexB,b3,bP,bfr,bnx,bd,bf⟩:=loop_at hL (α:=Nat) (fun k => M.os.length - k)
    (fun s0 k s => k ≤ M.os.length ∧ RNK M set k ∧ TBB (MOVT M set k) ev (H.next + 1 + 1 + 1) P s.H ∧ s.H.rows (H.next + 1) = some (.gro 1 ev 0) ∧ s.H.rows (H.next + 1 + 1) = some (.gro 1 [.gsl 1 (H.next + 1) M.aw.length 0 M.aw.length] 0) ∧ s.H.rows (H.next + 1 + 1 + 1) = some (.gro 1 [.bool false] 0) ∧ s.tmps 9 = I k ∧ s.tmps 8 = I M.os.length ∧ s.tmps 7 = .vs 6 (M.os.map (ofr q.cl)) q.co ∧ s.tmps 0 = .yield (P + 1) ∧ s.tmps 2 = .rop [I set] ∧ s.H.rows P = some .dfr ∧ s.H.rows (P + 1) = s0.H.rows (P + 1) ∧ (∀ i < H.next,s.H.rows i = H.rows i) ∧ P + 1 + 1 < s.H.next ∧ s.defers = [] ∧ s.fid = P + 1 + 1)
    (fun s0 ex s => ((ex = .exit 0 ∧ RNK M set M.os.length ∧ TBB (MOVT M set M.os.length) ev (H.next + 1 + 1 + 1) P s.H ∧ s.H.rows (H.next + 1) = some (.gro 1 ev 0) ∧ s.H.rows (H.next + 1 + 1) = some (.gro 1 [.gsl 1 (H.next + 1) M.aw.length 0 M.aw.length] 0) ∧ s.H.rows (P + 1) = s0.H.rows (P + 1)) ∨ (ex = .ret ∧ ¬ RNK M set M.os.length ∧ s.H.rows (H.next + 1 + 1) = some (.gro 1 [.nils] 0) ∧ s.H.rows (P + 1) = setL (.over (some .ret)) (s0.H.rows (P + 1)))) ∧ s.H.rows (H.next + 1 + 1 + 1) = some (.gro 1 [.bool false] 0) ∧ s.H.rows P = some .dfr ∧ (∀ i < H.next,s.H.rows i = H.rows i) ∧ P + 1 + 1 < s.H.next ∧ s.defers = [] ∧ s.fid = P + 1 + 1) 0
    (by simp (maxSteps:=999999) only [E0,seval,-Int.reduceNatCast',NADD,hP]
        refine ⟨Nat.zero_le _,fun j x h => absurd h (by omega),?_,?_,?_,?_,by simp,fun i hi => ?_,by omega⟩
        · refine (show TBB M.aw ev _ P s.H by rw [← hP]; exact hB).frame (fun i h1 h2 => ?_) (Nat.le_refl _)
          simp (maxSteps:=999999) only [E0,seval,-Int.reduceNatCast',hP,(show ¬ i = P by omega),(show ¬ i = P + 1 by omega)]
        · simp (maxSteps:=999999) only [E0,seval,-Int.reduceNatCast',hP,(show ¬ H.next = P by omega),(show ¬ H.next + 1 = P by omega),(show ¬ H.next + 1 + 1 = P by omega),(show ¬ H.next + 1 + 1 + 1 = P by omega),g1]
        · simp (maxSteps:=999999) only [E0,seval,-Int.reduceNatCast',hP,(show ¬ H.next = P by omega),(show ¬ H.next + 1 = P by omega),(show ¬ H.next + 1 + 1 = P by omega),(show ¬ H.next + 1 + 1 + 1 = P by omega),g2]
        · simp (maxSteps:=999999) only [E0,seval,-Int.reduceNatCast',hP,(show ¬ H.next = P by omega),(show ¬ H.next + 1 = P by omega),(show ¬ H.next + 1 + 1 = P by omega),(show ¬ H.next + 1 + 1 + 1 = P by omega),g3]
        · simp (maxSteps:=999999) only [E0,seval,-Int.reduceNatCast',hP,(show ¬ i = P by omega),(show ¬ i = P + 1 by omega)]
          exact gfr i hi) (by
      rintro k sB r hW ⟨hk,hrn,hBk,b1,b2,b3,h9,h8,h7,h0,h2,bP,bP1,bfr,bnx,bd,bf⟩
      simp (maxSteps:=999999) only [E0,seval,-Int.reduceNatCast',NADD,hP] at bP1
      by_cases hp : k < M.os.length
      rotate_left
      · simp (maxSteps:=999999) only [E0,seval,-Int.reduceNatCast',NUM,h9,h8,bd,bf,(show ¬ (k : Int) < M.os.length by omega)] at hW
        subst hW
        have : k = M.os.length:=by omega
        subst this
        refine rd_exit ⟨.inl ⟨rfl,hrn,hBk,?_⟩,?_⟩
        · simp (maxSteps:=999999) only [E0,seval,-Int.reduceNatCast',b1,b2,bP1,NADD,hP]
        · simp (maxSteps:=999999) only [E0,seval,-Int.reduceNatCast',b3,bP,bd]
          exact ⟨bfr,bnx⟩
      have e0 : M.os[k]? = some M.os[k]:=List.getElem?_eq_getElem hp
      have e1:=map_get (f:=ofr q.cl) e0
      have ok:=MOF_ok hM e0
      have ms:=MOVT_succ (set:=set) e0
      have sz:=MOVT_sz hM set (k:=k) (by omega)
      generalize M.os[k] = x at *
      have cw:=c_wins M.rain x.lo x.hi
      obtain ⟨ver,hb5⟩ : ∃ ver,sB.boxes 5 = ver:=⟨_,rfl⟩
      rcases ver with _ | ⟨v5,c5⟩
      all_goals
        by_cases hb : BIT set k = 1
        rotate_left
        · rw [if_neg hb] at ms
          simp (maxSteps:=999999) only [E0,seval,-Int.reduceNatCast',NUM,NADD,SRCH,SFRM,SCRP,SRGT,SDTY,hv.st,SAV hA,SOFR,SLOT,INTS,INB,hb,h9,h8,h7,h0,h2,bd,bf,hb5,e1,List.length_map,Int.toNat_natCast,(show (k : Int) < M.os.length by omega),(show (0 : Int) ≤ k by omega),(show ¬ (k : Int) < 0 by omega),(i64_in (x:=(k : Int) + 1) (by unfold I64; omega))] at hW
          subst hW
          refine rd_next (k + 1) ?_ (show M.os.length - (k + 1) < M.os.length - k by omega)
          simp (maxSteps:=999999) only [E0,seval,-Int.reduceNatCast',NADD,hP,h8,h7,h0,h2,b1,b2,b3,bP,bP1,bd,ms]
          exact ⟨by omega,RNK_succ hrn e0 (fun g => absurd g hb),hBk,by simp,bfr,bnx⟩
        by_cases hrain : x.lo ≤ M.rain ∧ M.rain ≤ x.hi
        rotate_left
        · rw [decide_eq_false hrain] at cw
          simp (maxSteps:=999999) only [E0,seval,-Int.reduceNatCast',NUM,NADD,np,Tryz.func48,SRCH,SFRM,SCRP,SRGT,SDTY,hv.st,SAV hA,SOFR,SLOT,INTS,INB,hb,cw,k2,k1,k4,k5,h9,h8,h7,h0,h2,b1,b2,b3,bP,bP1,bd,bf,hb5,e1,List.length_map,Int.toNat_natCast,(show (k : Int) < M.os.length by omega),(show (0 : Int) ≤ k by omega),(show ¬ (k : Int) < 0 by omega),(show ¬ H.next + 1 + 1 = P + 1 by omega),(show ¬ H.next + 1 + 1 + 1 = P + 1 by omega),(show ¬ H.next + 1 + 1 + 1 = H.next + 1 + 1 by omega)] at hW
          rw [if_pos (by kernel_rfl)] at hW
          subst hW
          refine rd_ret ⟨.inr ⟨rfl,fun g => hrain (g k x hp e0 hb),?_,?_⟩,?_⟩
          · simp (maxSteps:=999999) only [E0,seval,-Int.reduceNatCast',NADD,np,(show ¬ H.next + 1 + 1 = P + 1 by omega),(show ¬ H.next + 1 + 1 + 1 = P + 1 by omega)]
          · simp (maxSteps:=999999) only [E0,seval,-Int.reduceNatCast',NADD,np,setL,hP]
          · simp (maxSteps:=999999) only [E0,seval,-Int.reduceNatCast',NADD,np,b3,bP,bd,(show ¬ H.next + 1 + 1 + 1 = P + 1 by omega),(show ¬ P = H.next + 1 + 1 by omega),(show ¬ P = H.next + 1 + 1 + 1 by omega)]
            refine ⟨fun i hi => ?_,by omega⟩
            simp (maxSteps:=999999) only [E0,seval,-Int.reduceNatCast',np,(show ¬ i = P + 1 by omega),(show ¬ i = H.next + 1 + 1 by omega),(show ¬ i = H.next + 1 + 1 + 1 by omega)]
            exact bfr i hi
        rw [decide_eq_true hrain] at cw
        obtain ⟨F,hF⟩ : ∃ F,sB.H.next = F:=⟨_,rfl⟩
        simp (maxSteps:=999999) only [E0,seval,-Int.reduceNatCast',NUM,NADD,np,Tryz.func48,SRCH,SFRM,SCRP,SRGT,SDTY,hv.st,SAV hA,SOFR,SLOT,INTS,INB,hb,cw,k2,k1,k4,k5,h9,h8,h7,h0,h2,b1,b2,b3,bP,bP1,bd,bf,hF,hb5,e1,List.length_map,Int.toNat_natCast,(show (k : Int) < M.os.length by omega),(show (0 : Int) ≤ k by omega),(show ¬ (k : Int) < 0 by omega),(show ¬ H.next + 1 + 1 = P + 1 by omega),(show ¬ H.next + 1 + 1 + 1 = P + 1 by omega),(show ¬ H.next + 1 + 1 + 1 = H.next + 1 + 1 by omega)] at hW
        rw [if_pos (by kernel_rfl)] at hW
        generalize hC : W _ (.loop _) _ = LC at hW
        obtain ⟨exC,sC,rfl,rfl,hBC,c1,c2,c3,cP,cP1,cfr,cnx,cd,cf⟩:=loop_at hC (α:=Nat) (fun i => x.lots.length - i)
          (fun s0 i s => i ≤ x.lots.length ∧ TBB (ADDS (MOVT M set k) x.fm.toNat (x.lots.take i)) ev (H.next + 1 + 1 + 1) P s.H ∧ s.H.rows (H.next + 1) = some (.gro 1 ev 0) ∧ s.H.rows (H.next + 1 + 1) = some (.gro 1 [.gsl 1 (H.next + 1) M.aw.length 0 M.aw.length] 0) ∧ s.H.rows (H.next + 1 + 1 + 1) = some (.gro 1 [.bool false] 0) ∧ s.tmps 44 = I i ∧ s.tmps 43 = I x.lots.length ∧ s.tmps 42 = .vs 2 (x.lots.map lot) q.cl ∧ s.tmps 4 = .ptr (H.next + 1 + 1) 1 0 0 ∧ s.tmps 9 = .bptr F 9 0 0 ∧ s.boxes 9 = some (0,[I x.no,I x.fm,I x.pr,I x.lo,I x.hi,.vs 2 (x.lots.map lot) q.cl]) ∧ s.H.rows P = some .dfr ∧ s.H.rows (P + 1) = s0.H.rows (P + 1) ∧ (∀ i < H.next,s.H.rows i = H.rows i) ∧ P + 1 + 1 < s.H.next ∧ s.defers = [] ∧ s.fid = F)
          (fun s0 ex s => ex = .exit 4 ∧ TBB (ADDS (MOVT M set k) x.fm.toNat x.lots) ev (H.next + 1 + 1 + 1) P s.H ∧ s.H.rows (H.next + 1) = some (.gro 1 ev 0) ∧ s.H.rows (H.next + 1 + 1) = some (.gro 1 [.gsl 1 (H.next + 1) M.aw.length 0 M.aw.length] 0) ∧ s.H.rows (H.next + 1 + 1 + 1) = some (.gro 1 [.bool false] 0) ∧ s.H.rows P = some .dfr ∧ s.H.rows (P + 1) = s0.H.rows (P + 1) ∧ (∀ i < H.next,s.H.rows i = H.rows i) ∧ P + 1 + 1 < s.H.next ∧ s.defers = [] ∧ s.fid = F) 0
          (by simp (maxSteps:=999999) only [E0,seval,-Int.reduceNatCast',NADD,np,k4,b1,b2,b3,bP,List.take_zero]
              refine ⟨Nat.zero_le _,?_,by simp,fun i hi => ?_,by omega⟩
              · refine hBk.frame (fun i h1 h2 => ?_) (Nat.le_refl _)
                simp (maxSteps:=999999) only [E0,seval,-Int.reduceNatCast',(show ¬ i = P + 1 by omega)]
              · simp (maxSteps:=999999) only [E0,seval,-Int.reduceNatCast',(show ¬ i = P + 1 by omega)]
                exact bfr i hi) (by
            rintro i sC r2 hW2 ⟨hi,hBi,c1,c2,c3,z44,z43,z42,z4,z9,zb9,cP,cP1,cfr,cnx,cd,cf⟩
            by_cases hpi : i < x.lots.length
            rotate_left
            · simp (maxSteps:=999999) only [E0,seval,-Int.reduceNatCast',NUM,z44,z43,cd,cf,(show ¬ (i : Int) < x.lots.length by omega)] at hW2
              subst hW2
              rw [List.take_of_length_le (by omega)] at hBi
              refine rd_exit ⟨rfl,hBi,?_⟩
              simp (maxSteps:=999999) only [E0,seval,-Int.reduceNatCast',c1,c2,c3,cP,cP1,cd]
              exact ⟨cfr,cnx⟩
            have l0 : x.lots[i]? = some x.lots[i]:=List.getElem?_eq_getElem hpi
            have l1:=map_get (f:=lot) l0
            have oy:=ok.2.2 _ (List.getElem_mem hpi)
            have tky : x.lots.take (i + 1) = x.lots.take i ++ [x.lots[i]]:=by rw [List.take_add_one,l0]; rfl
            generalize x.lots[i] = y at *
            have tsz:=sz.adds (f:=x.fm.toNat) (l:=x.lots.take i) (by omega) (fun y hy => (ok.2.2 y (List.mem_of_mem_take hy)).2)
            have tl8 : (x.lots.take i).length ≤ 8:=by simp; omega
            obtain ⟨wy,hwy⟩ : ∃ wy : Nat,y.w = wy:=⟨y.w.toNat,by omega⟩
            obtain ⟨fy,hfy⟩ : ∃ fy : Nat,x.fm = fy:=⟨x.fm.toNat,by omega⟩
            have ewy : y.w.toNat = wy:=by omega
            have efy : x.fm.toNat = fy:=by omega
            have aap:=ADDS_app x.fm.toNat (x.lots.take i) (MOVT M set k) y
            rw [← tky,ewy] at aap
            rw [efy] at aap hBi tsz
            generalize ADDS (MOVT M set k) fy (x.lots.take i) = T at *
            have tw : T[wy]? = some (T[wy]'(by rw [tsz.len]; omega)):=List.getElem?_eq_getElem _
            have trow:=tsz.row _ (List.getElem_mem (l:=T) (n:=wy) (by rw [tsz.len]; omega))
            have tbd:=tsz.bd _ (List.getElem_mem (l:=T) (n:=wy) (by rw [tsz.len]; omega))
            generalize (T[wy]'(by rw [tsz.len]; omega)) = l at *
            have hfl : fy < l.length:=by omega
            have fl0 : l[fy]? = some l[fy]:=List.getElem?_eq_getElem hfl
            have fl1:=ints_get fl0
            have fgd : l.getD fy 0 = l[fy]:=by simp [List.getD_eq_getElem?_getD,fl0]
            have fbd:=tbd _ (List.getElem_mem hfl)
            have hne : l ≠ []:=by intro g; rw [g] at hfl; simp at hfl
            rcases hBi.get wy l tw with ⟨_,id,ew,hid,hid1,hid2⟩ | ⟨g,_⟩
            rotate_left
            · exact absurd g hne
            have evl : ev.length = M.aw.length:=by rw [hBi.len,tsz.len]
            have tset:=fun (H' : Heap) => hBi.set (H':=H') (f:=fy) (d:=y.n) tw ew hne
            rw [fgd] at tset
            generalize l[fy] = u at *
            have wlt : wy < M.aw.length:=by omega
            rcases hb11 : sC.boxes 11 with _ | ⟨v11,c11⟩
            all_goals
              simp (maxSteps:=999999) only [E0,seval,-Int.reduceNatCast',NUM,NADD,np,INTS,SLOT,z44,z43,z42,z4,z9,zb9,c1,c2,cd,cf,hb11,l1,hwy,hfy,ew,evl,hid,fl1,List.length_map,Int.toNat_natCast,Nat.zero_add,Nat.zero_le,hfl,wlt,(show (i : Int) < x.lots.length by omega),(show (0 : Int) ≤ i by omega),(show (0 : Int) ≤ wy by omega),(show (wy : Int) < M.aw.length by omega),(show (0 : Int) ≤ fy by omega),(show (fy : Int) < l.length by omega),(i64_in (x:=(i : Int) + 1) (by unfold I64; omega)),(i64_in (x:=u + y.n) (by unfold I64; omega)),List.length_set] at hW2
              replace hW2:=ite_chk3 (fun a b c => [(13,[Vr.row c],[Vr.row c]),(10,[Vr.box 11],[]),(8,[Vr.row c],[]),(6,[Vr.box 9],[]),(4,[Vr.row b],[]),(2,[Vr.box 11],[]),(0,[Vr.row a],[])]) (H.next + 1 + 1) (H.next + 1) id (by omega) (by omega) (by omega) (by intro f h1 h2 h3; simp [renL,renM,renV,h1,h2,h3]) (by kernel_rfl) hW2
              subst hW2
              refine rd_next (i + 1) ?_ (show x.lots.length - (i + 1) < x.lots.length - i by omega)
              simp (maxSteps:=999999) only [E0,seval,-Int.reduceNatCast',NADD,np,z43,z42,z4,z9,zb9,c1,c2,c3,cP,cP1,cd,(show ¬ H.next + 1 = id by omega),(show ¬ H.next + 1 + 1 = id by omega),(show ¬ H.next + 1 + 1 + 1 = id by omega),(show ¬ P = id by omega),(show ¬ P + 1 = id by omega)]
              refine ⟨by omega,?_,by simp,fun a ha => ?_,by omega⟩
              · rw [efy,aap]
                refine tset _ ?_ (fun a h1 h2 h3 => ?_)
                · simp (maxSteps:=999999) only [E0,seval,-Int.reduceNatCast']
                  rw [List.map_set]
                · simp (maxSteps:=999999) only [E0,seval,-Int.reduceNatCast',h3]
              · simp (maxSteps:=999999) only [E0,seval,-Int.reduceNatCast',(show ¬ a = id by omega)]
                exact cfr a ha)
        simp (maxSteps:=999999) only [E0,seval,-Int.reduceNatCast',NADD,np] at cP1
        obtain ⟨fC,tC,bC,dC,HC,rC⟩:=sC
        dsimp only at hBC c1 c2 c3 cP cP1 cfr cnx cd cf
        subst cd
        simp (maxSteps:=999999) only [E0,seval,-Int.reduceNatCast',NUM,NADD,np,c1,c2,c3,cP,cP1,cf,h9,(i64_in (x:=(k : Int) + 1) (by unfold I64; omega))] at hW
        subst hW
        rw [if_pos hb] at ms
        refine rd_next (k + 1) ?_ (show M.os.length - (k + 1) < M.os.length - k by omega)
        simp (maxSteps:=999999) only [E0,seval,-Int.reduceNatCast',NADD,np,hP,h8,h7,h0,h2,c1,c2,c3,cP,bP1,ms]
        refine ⟨by omega,RNK_succ hrn e0 (fun _ => hrain),?_,by simp,fun a ha => ?_,by omega⟩
        · refine hBC.frame (fun a h1 h2 => ?_) (Nat.le_refl _)
          simp (maxSteps:=999999) only [E0,seval,-Int.reduceNatCast',(show ¬ a = P + 1 by omega)]
        · simp (maxSteps:=999999) only [E0,seval,-Int.reduceNatCast',(show ¬ a = P + 1 by omega)]
          exact cfr a ha)
  clear hL
  obtain ⟨fB,tB,bB,dB,HB,rB⟩:=sB
  dsimp only at hexB b3 bP bfr bnx bd bf
  subst bd
  rcases hexB with ⟨rfl,hrn,hBB,b1,b2,bL⟩ | ⟨rfl,hrn,b2,bL⟩
  rotate_left
  · simp (maxSteps:=999999) only [E0,seval,-Int.reduceNatCast',NADD,hP,setL,np] at bL
    simp (maxSteps:=999999) only [E0,seval,-Int.reduceNatCast',NUM,NADD,np,hP,SRCH,SFRM,SCRP,SRGT,SDTY,hv.st,SAV hA,SOFR,SLOT,INTS,Tryz.func48,b2,b3,bL,bP,k2,k1,k4,k5,gf] at hX
    subst hX
    refine ⟨_,?_,?_,.inl ⟨?_,rfl⟩⟩
    · intro i hi
      simp (maxSteps:=999999) only [E0,seval,-Int.reduceNatCast',(show ¬ i = P by omega),(show ¬ i = P + 1 by omega),(show ¬ i = H.next + 1 + 1 by omega),(show ¬ i = H.next + 1 + 1 + 1 by omega)]
      exact bfr i hi
    · simp (maxSteps:=999999) only [E0,seval,-Int.reduceNatCast']
      omega
    · unfold AFT
      rw [if_neg hrn]
  simp (maxSteps:=999999) only [E0,seval,-Int.reduceNatCast',NADD,hP,setL,np] at bL
  obtain ⟨Q,hQ⟩ : ∃ Q,HB.next = Q:=⟨_,rfl⟩
  rw [hQ] at bnx
  have nq : ((¬ Q = H.next) ∧ (¬ Q = H.next + 1) ∧ (¬ Q = H.next + 1 + 1) ∧ (¬ Q = H.next + 1 + 1 + 1) ∧ (¬ Q = P) ∧ (¬ Q = P + 1)) ∧ (¬ H.next = Q) ∧ (¬ H.next + 1 = Q) ∧ (¬ H.next + 1 + 1 = Q) ∧ (¬ H.next + 1 + 1 + 1 = Q) ∧ (¬ P = Q) ∧ (¬ P + 1 = Q) ∧ (¬ H.next + 1 = P + 1) ∧ (¬ H.next + 1 + 1 = P + 1) ∧ (¬ H.next + 1 + 1 + 1 = P + 1) ∧ (¬ H.next + 1 + 1 + 1 = H.next + 1 + 1):=by omega
  simp (maxSteps:=999999) only [E0,seval,-Int.reduceNatCast',NUM,NADD,np,nq,hP,hQ,SRCH,SFRM,SCRP,SRGT,SDTY,hv.st,SAV hA,SOFR,SLOT,INTS,Tryz.func48,b1,b2,b3,bL,bP,k2,k1,k4,k5,gf] at hX
  have sz:=MOVT_sz hM set (k:=M.os.length) (Nat.le_refl _)
  have ni:=fun i => hBB.notin (i:=i)
  generalize hE : callF _ _ _ _ _ _ = E at hX
  obtain ⟨b,H1,rfl,hbK,hT1,nx1,fr1⟩:=c_comp hr hv hA hM _ sz.len sz.row ev (H.next + 1) Q _ ⟨⟨0,by simp (maxSteps:=999999) only [E0,seval,-Int.reduceNatCast',nq,b1]⟩,hBB.len,by simp (maxSteps:=999999) only [E0,seval,-Int.reduceNatCast']; omega,by omega,fun w l e => by
    rcases hBB.get w l e with ⟨g1,id,g2,g3,g4,g5⟩ | ⟨g1,v,g2,g3⟩
    · refine ⟨_,g2,.inl ⟨g1,id,0,rfl,by simp (maxSteps:=999999) only [E0,seval,-Int.reduceNatCast',(show ¬ id = P + 1 by omega),(show ¬ id = Q by omega),g3],by simp (maxSteps:=999999) only [E0,seval,-Int.reduceNatCast']; omega⟩,fun a b c d e => by cases e; omega⟩
    · refine ⟨v,g2,.inr ⟨g1,g3⟩,fun a b c d e => ?_⟩
      rcases g3 with g3 | g3 <;> rw [g3] at e <;> cases e⟩ (by simp (maxSteps:=999999) only [E0,seval,-Int.reduceNatCast']) (by simp (maxSteps:=999999) only [E0,seval,-Int.reduceNatCast']; omega) _ hE
  clear hE
  have r2:=fr1 (H.next + 1 + 1) (by simp (maxSteps:=999999) only [E0,seval,-Int.reduceNatCast']; omega) (by omega) (ni _ (by omega))
  have r3:=fr1 (H.next + 1 + 1 + 1) (by simp (maxSteps:=999999) only [E0,seval,-Int.reduceNatCast']; omega) (by omega) (ni _ (by omega))
  have rP:=fr1 P (by simp (maxSteps:=999999) only [E0,seval,-Int.reduceNatCast']; omega) (by omega) (ni _ (by omega))
  simp (maxSteps:=999999) only [E0,seval,-Int.reduceNatCast',nq,np,b2] at r2
  simp (maxSteps:=999999) only [E0,seval,-Int.reduceNatCast',nq,np,b3] at r3
  simp (maxSteps:=999999) only [E0,seval,-Int.reduceNatCast',nq,np,bP] at rP
  simp (maxSteps:=999999) only [E0,seval,-Int.reduceNatCast'] at nx1
  have rr : ∀ i < H.next,H1.rows i = H.rows i:=fun i hi => by
    rw [fr1 i (by simp (maxSteps:=999999) only [E0,seval,-Int.reduceNatCast']; omega) (by omega) (ni _ (by omega))]
    simp (maxSteps:=999999) only [E0,seval,-Int.reduceNatCast',(show ¬ i = P + 1 by omega),(show ¬ i = Q by omega)]
    exact bfr i hi
  rcases hbK with ⟨rfl,kk,hk⟩ | ⟨rfl,hk⟩
  · simp (maxSteps:=999999) only [E0,seval,-Int.reduceNatCast',NUM,NADD,np,nq,hP,hQ,SRCH,SFRM,SCRP,SRGT,SDTY,hv.st,SAV hA,SOFR,SLOT,INTS,Tryz.func48,r2,r3,rP,k2,k1,k4,k5,gf] at hX
    subst hX
    refine ⟨_,?_,?_,.inr ⟨MOVT M set M.os.length,ev,H.next + 1,Q,?_,rfl,?_⟩⟩
    · intro i hi
      simp (maxSteps:=999999) only [E0,seval,-Int.reduceNatCast',(show ¬ i = P by omega),(show ¬ i = P + 1 by omega),(show ¬ i = H.next + 1 + 1 by omega),(show ¬ i = H.next + 1 + 1 + 1 by omega)]
      exact rr i hi
    · simp (maxSteps:=999999) only [E0,seval,-Int.reduceNatCast']
      omega
    · unfold AFT
      rw [if_pos hrn,hk]
    · refine hT1.frame (by simp (maxSteps:=999999) only [E0,seval,-Int.reduceNatCast']; omega) (fun i hi => ?_)
      have c1 : ¬ i = P:=fun g => hi.elim (fun hi => by omega) (fun hi => hi (ni _ (by omega)))
      have c2 : ¬ i = H.next + 1 + 1:=fun g => hi.elim (fun hi => by omega) (fun hi => hi (ni _ (by omega)))
      have c3 : ¬ i = H.next + 1 + 1 + 1:=fun g => hi.elim (fun hi => by omega) (fun hi => hi (ni _ (by omega)))
      simp (maxSteps:=999999) only [E0,seval,-Int.reduceNatCast',c1,c2,c3]
  · simp (maxSteps:=999999) only [E0,seval,-Int.reduceNatCast',NUM,NADD,np,nq,hP,hQ,SRCH,SFRM,SCRP,SRGT,SDTY,hv.st,SAV hA,SOFR,SLOT,INTS,Tryz.func48,r2,r3,rP,k2,k1,k4,k5,gf] at hX
    subst hX
    refine ⟨_,?_,?_,.inl ⟨?_,rfl⟩⟩
    · intro i hi
      simp (maxSteps:=999999) only [E0,seval,-Int.reduceNatCast',(show ¬ i = P by omega),(show ¬ i = P + 1 by omega),(show ¬ i = H.next + 1 + 1 by omega),(show ¬ i = H.next + 1 + 1 + 1 by omega)]
      exact rr i hi
    · simp (maxSteps:=999999) only [E0,seval,-Int.reduceNatCast']
      omega
    · unfold AFT
      rw [if_pos hrn,hk]
end
theorem ASK_0 {M : Mkt} {set : Int} (h : ASK M set = 0) : MC M = 0 ∧ 0 ≤ set ∧ set ≤ 2 ^ M.os.length - 1:=by
  unfold ASK at h
  split at h
  · split at h
    · next h1 h2 => exact ⟨h1,h2⟩
    · omega
  · next h1 => exact absurd h h1
theorem AFT_eq {M : Mkt} {set : Int} {T : List (List Int)} (h : AFT M set = some T) : T = MOVT M set M.os.length:=by
  unfold AFT at h
  split at h
  · split at h
    · exact (Option.some.inj h).symm
    · cases h
  · cases h
structure TVL (T : List (List Int)) (tv : List PV) : Prop where
  len : tv.length = T.length
  get : ∀ (w : Nat) (l : List Int),T[w]? = some l → ∃ v,tv[w]? = some v ∧ RV l v
theorem TBL.tv {T : List (List Int)} {ev : List PV} {R0 R : Nat} {H : Heap} (h : TBL T ev R0 R H) : TVL T (ev.map (strip1 H)):=by
  refine ⟨by rw [List.length_map]; exact h.len,fun w l e => ?_⟩
  obtain ⟨v,h1,h2,_⟩:=h.get w l e
  rw [List.getElem?_map,h1]
  refine ⟨_,rfl,?_⟩
  rcases h2 with ⟨_,id,fz,rfl,h4,_⟩ | ⟨rfl,rfl | rfl⟩
  · have hr : rowEs H id l.length 0 l.length = some (l.map I):=by
      rw [rowEs_K,h4,rowEsK_some,if_pos ⟨by simp,by omega⟩,List.drop_zero,List.take_of_length_le (by simp)]
    refine .inl ⟨none,?_⟩
    show vsO 1 strip0 (rowEs H id l.length 0 l.length) = _
    rw [hr,vsO_some,map_strip0_ints]
  · exact .inr ⟨rfl,rfl⟩
  · exact .inl ⟨some 0,rfl⟩
section
variable {M : Mkt} (hr : ∀ x ∈ M.D.rs,x.OK) {q : Cps} (hv : DV M.D q.cs q.gs q.ds q.ws) (hA : AWV M.aw q.av)
include hr hv hA
set_option maxHeartbeats 4000000 in
theorem c_After (set : Int) (H : Heap) (X : Option (CR × Heap)) (hX : callF G Tryz.prog pol 27 [.agg (mcl M q),I set] H = X) :
    ∃ H',(∀ i < H.next,H'.rows i = H.rows i) ∧ H.next < H'.next ∧ ((ASK M set ≠ 0 ∧ X = some (.ret (.tup [.nils,.bool false,I (ASK M set)]),H')) ∨ (ASK M set = 0 ∧ AFT M set = none ∧ X = some (.ret (.tup [.nils,.bool false,I 0]),H')) ∨ (ASK M set = 0 ∧ ∃ T ev R0 R,AFT M set = some T ∧ X = some (.ret (.tup [.gsl 1 R0 M.aw.length 0 M.aw.length,.bool true,I 0]),H') ∧ TBL T ev R0 R H')):=by
  have ca:=c_ask hr hv hA set
  rw [callF_eq _ _ Tryz.func27 rfl Tryz.ntmps27 Tryz.results27 (by kernel_rfl) rfl (by exact Nat.le_of_ble_eq_true rfl)] at hX
  by_cases h : ASK M set = 0
  rotate_left
  · simp (maxSteps:=999999) only [E0,seval,-Int.reduceNatCast',K1,hv.st,SAV hA,ca,h] at hX
    subst hX
    exact ⟨⟨H.rows,H.next + 1⟩,fun i hi => rfl,Nat.lt_succ_self _,.inl ⟨h,rfl⟩⟩
  rw [h] at ca
  simp (maxSteps:=999999) only [E0,seval,-Int.reduceNatCast',K1,hv.st,SAV hA,ca] at hX
  generalize hE : callF _ _ _ _ _ _ = E at hX
  obtain ⟨H1,fr,nx,⟨ha,rfl⟩ | ⟨T,ev,R0,R,ha,rfl,hT⟩⟩:=c_after hr hv hA (ASK_0 h).1 set _ _ hE
  · simp (maxSteps:=999999) only [E0,seval,-Int.reduceNatCast',NUM] at hX
    subst hX
    simp (maxSteps:=999999) only [E0,seval,-Int.reduceNatCast'] at nx
    exact ⟨_,fun i hi => fr i (Nat.lt_succ_of_lt hi),by omega,.inr (.inl ⟨h,ha,rfl⟩)⟩
  · simp (maxSteps:=999999) only [E0,seval,-Int.reduceNatCast',NUM] at hX
    subst hX
    simp (maxSteps:=999999) only [E0,seval,-Int.reduceNatCast'] at nx
    exact ⟨_,fun i hi => fr i (Nat.lt_succ_of_lt hi),by omega,.inr (.inr ⟨h,T,ev,R0,R,ha,rfl,hT⟩)⟩
noncomputable def AFV (M : Mkt) (set : Int) (tv : List PV) : PV:=if ASK M set ≠ 0 then .tup [.nils,.bool false,I (ASK M set)] else if AFT M set = none then .tup [.nils,.bool false,I 0] else .tup [.vs 1 tv none,.bool true,I 0]
theorem c_Aft (set : Int) : ∃ tv,ap Tryz.prog pol 27 [.agg (mcl M q),I set] = some (.ret (AFV M set tv)) ∧ ∀ T,ASK M set = 0 → AFT M set = some T → TVL T tv:=by
  unfold ap
  generalize hE : callF _ _ _ _ _ _ = E
  unfold AFV
  obtain ⟨H1,fr,nx,⟨ha,rfl⟩ | ⟨h0,ha,rfl⟩ | ⟨h0,T,ev,R0,R,ha,rfl,hT⟩⟩:=c_After hr hv hA set _ _ hE
  · refine ⟨[],?_,fun T h => absurd h ha⟩
    rw [if_pos ha]
    rfl
  · refine ⟨[],?_,fun T _ h => by rw [ha] at h; cases h⟩
    rw [if_neg (fun g => g h0),if_pos ha]
    rfl
  · refine ⟨ev.map (strip1 H1),?_,fun T' _ h => by rw [ha] at h; cases h; exact hT.tv⟩
    rw [if_neg (fun g => g h0),if_neg (by rw [ha]; simp)]
    obtain ⟨z,hz⟩:=hT.row
    have hl : ev.length = M.aw.length:=by rw [hT.len,AFT_eq ha]; exact (MOVT_sz (ASK_0 h0).1 set (k:=M.os.length) (Nat.le_refl _)).len
    have hr : rowEs H1 R0 M.aw.length 0 M.aw.length = some ev:=by
      rw [rowEs_K,hz,rowEsK_some,if_pos ⟨hl,by omega⟩,List.drop_zero,List.take_of_length_le (by omega)]
    show some (CR.ret (.tup [vsO 1 (strip1 H1) (rowEs H1 R0 M.aw.length 0 M.aw.length),.bool true,I 0])) = _
    rw [hr,vsO_some]
noncomputable def VALV (M : Mkt) (set : Int) : PV:=if ASK M set ≠ 0 then .tup [I 0,.bool false,I (ASK M set)] else if AFT M set = none then .tup [I 0,.bool false,I 0] else .tup [I (PRC M.os set M.os.length),.bool true,I 0]
set_option maxHeartbeats 4000000 in
theorem c_value (set : Int) : ap Tryz.prog pol 18 [.agg (mcl M q),I set] = some (.ret (VALV M set)):=by
  obtain ⟨tv,ct,_⟩:=c_Aft hr hv hA set
  unfold AFV at ct
  unfold VALV
  rw [ap_eq _ Tryz.func18 rfl Tryz.ntmps18 Tryz.results18 (by kernel_rfl) rfl (by exact Nat.le_of_ble_eq_true rfl)]
  by_cases ha : ASK M set = 0
  rotate_left
  · rw [if_pos ha] at ct ⊢
    simp (maxSteps:=999999) only [E0,seval,-Int.reduceNatCast',K1,hv.st,SAV hA,ct]
  rw [if_neg (fun g => g ha)] at ct ⊢
  by_cases h0 : AFT M set = none
  · rw [if_pos h0] at ct ⊢
    simp (maxSteps:=999999) only [E0,seval,-Int.reduceNatCast',K1,hv.st,SAV hA,ct]
  rw [if_neg h0] at ct ⊢
  have cp:=c_price hv hA set (MC_prb (ASK_0 ha).1) (MC_0 (ASK_0 ha).1).2.2.1
  simp (maxSteps:=999999) only [E0,seval,-Int.reduceNatCast',K1,hv.st,SAV hA,ct,cp]
end
def PART (g : Nat → Ofr → Int) (os : List Ofr) (k : Nat) : List Int:=os.mapIdx fun i x => if i < k then g i x else 0
theorem PART_len (g : Nat → Ofr → Int) (os : List Ofr) (k : Nat) : (PART g os k).length = os.length:=by simp [PART]
theorem PART_get (g : Nat → Ofr → Int) (os : List Ofr) (k i : Nat) : (PART g os k)[i]? = (os[i]?).map fun x => if i < k then g i x else 0:=by simp [PART]
theorem PART_0 (g : Nat → Ofr → Int) (os : List Ofr) : PART g os 0 = List.replicate os.length 0:=by
  apply List.ext_getElem?
  intro i
  rw [PART_get]
  simp only [Nat.not_lt_zero,if_false,List.getElem?_replicate]
  by_cases h : i < os.length
  · rw [List.getElem?_eq_getElem h,if_pos h]; rfl
  · rw [List.getElem?_eq_none (by omega),if_neg h]; rfl
theorem PART_succ {g : Nat → Ofr → Int} {os : List Ofr} {k : Nat} {x : Ofr} (e : os[k]? = some x) : PART g os (k + 1) = (PART g os k).set k (g k x):=by
  have hk : k < os.length:=(List.getElem?_eq_some_iff.1 e).1
  apply List.ext_getElem?
  intro i
  rw [List.getElem?_set,PART_get,PART_get,PART_len]
  by_cases h : k = i
  · subst h
    rw [if_pos rfl,if_pos hk,e]
    simp
  · rw [if_neg h]
    by_cases h2 : i < k
    · simp only [h2,if_true,show i < k + 1 by omega]
    · simp only [h2,if_false,show ¬ i < k + 1 by omega]
theorem PART_same {g : Nat → Ofr → Int} {os : List Ofr} {k : Nat} {x : Ofr} (e : os[k]? = some x) (h0 : g k x = 0) : PART g os (k + 1) = PART g os k:=by
  apply List.ext_getElem?
  intro i
  rw [PART_get,PART_get]
  by_cases h : i = k
  · subst h
    rw [e]
    simp [h0]
  · by_cases h2 : i < k
    · simp only [h2,if_true,show i < k + 1 by omega]
    · simp only [h2,if_false,show ¬ i < k + 1 by omega]
def ABS (n : Int) : Int:=max n (-n)
def WGT (set : Int) (i : Nat) (x : Ofr) : Int:=if BIT set i = 1 then ABS x.pr else 0
def WGS (os : List Ofr) (set : Int) : List Int:=PART (WGT set) os os.length
namespace S
abbrev U (n : Int) : PV:=.int .u64 n
theorem wrap_u64 (n : Int) : IntKind.u64.wrap n = n % 18446744073709551616:=by simp [IntKind.wrap,IntKind.bits,IntKind.signed]
theorem wrap_i64 (n : Int) : IntKind.i64.wrap n = (n + 9223372036854775808) % 18446744073709551616 - 9223372036854775808:=by rw [IntKind.wrap_i64]
def U64 (x : Int) : Prop:=0 ≤ x ∧ x ≤ 18446744073709551615
theorem u64_in {x : Int} (h : U64 x) : IntKind.u64.wrap x = x:=by
  unfold U64 at h; rw [wrap_u64]; omega
theorem map_get {α : Type} {f : α → PV} {l : List α} {k : Nat} {x : α} (h : l[k]? = some x) : (l.map f)[k]? = some (f x):=by simp [h]
theorem all_take {α : Type} {P : α → Prop} {l : List α} {j : Nat} {x : α} (e : l[j]? = some x) : (∀ y ∈ l.take (j + 1),P y) ↔ (∀ y ∈ l.take j,P y) ∧ P x:=by
  rw [List.take_add_one,e]
  constructor
  · intro h; exact ⟨fun y hy => h y (by simp [hy]),h x (by simp)⟩
  · rintro ⟨h1,h2⟩ y hy
    simp only [Option.toList_some,List.mem_append,List.mem_singleton] at hy
    rcases hy with hy | rfl
    · exact h1 y hy
    · exact h2
theorem b_iff {p q : Prop} [Decidable p] [Decidable q] (h : p ↔ q) : some (CR.ret (PV.bool (decide p))) = some (CR.ret (PV.bool (decide q))):=by rw [decide_eq_decide.2 h]
theorem b_no {q : Prop} [Decidable q] (h : ¬ q) : some (CR.ret (PV.bool false)) = some (CR.ret (PV.bool (decide q))):=by rw [decide_eq_false h]
theorem b_and {p q : Prop} [Decidable p] [Decidable q] : (if p then some (CR.ret (PV.bool (decide q))) else some (CR.ret (PV.bool false))) = some (CR.ret (PV.bool (decide (p ∧ q)))):=by
  by_cases h : p <;> simp [h]
theorem b_nand {p q : Prop} [Decidable p] [Decidable q] : (if p then some (CR.ret (PV.bool false)) else some (CR.ret (PV.bool (decide q)))) = some (CR.ret (PV.bool (decide (¬ p ∧ q)))):=by
  by_cases h : p <;> simp [h]
theorem b_or {p q : Prop} [Decidable p] [Decidable q] : (if p then some (CR.ret (PV.bool true)) else some (CR.ret (PV.bool (decide q)))) = some (CR.ret (PV.bool (decide (p ∨ q)))):=by
  by_cases h : p <;> simp [h]
section
variable {α : Type} (f : α → PV)
theorem STR (h0 : ∀ x,strip0 (f x) = f x) (h1 : ∀ H x,strip1 H (f x) = f x) (h2 : ∀ H x,strip2 H (f x) = f x) :
    (∀ l : List α,strip0L (l.map f) = l.map f) ∧ (∀ l : List α,(l.map f).map strip0 = l.map f) ∧ (∀ H (l : List α),(l.map f).map (strip1 H) = l.map f) ∧ (∀ H (l : List α),(l.map f).map (strip2 H) = l.map f) ∧ (∀ H (l : List α),strip1L H (l.map f) = l.map f) ∧ (∀ H (l : List α),strip2L H (l.map f) = l.map f):=by
  refine ⟨fun l => ?_,fun l => ?_,fun H l => ?_,fun H l => ?_,fun H l => ?_,fun H l => ?_⟩
  · rw [strip0L_map]; simp [h0]
  · simp [h0]
  · simp [h1]
  · simp [h2]
  · rw [strip1L_map]; simp [h1]
  · rw [strip2L_map]; simp [h2]
end
theorem SIN : (∀ l : List Int,strip0L (l.map I) = l.map I) ∧ (∀ l : List Int,(l.map I).map strip0 = l.map I) ∧ (∀ H (l : List Int),(l.map I).map (strip1 H) = l.map I) ∧ (∀ H (l : List Int),(l.map I).map (strip2 H) = l.map I) ∧ (∀ H (l : List Int),strip1L H (l.map I) = l.map I) ∧ (∀ H (l : List Int),strip2L H (l.map I) = l.map I):=STR I (fun _ => rfl) (fun _ _ => rfl) (fun _ _ => rfl)
theorem NUM : (((0 : Nat) : Int) = 0 ∧ ((1 : Nat) : Int) = 1 ∧ ((2 : Nat) : Int) = 2 ∧ ((3 : Nat) : Int) = 3 ∧ ((4 : Nat) : Int) = 4) ∧
    (IntKind.i64.wrap 0 = 0 ∧ IntKind.i64.wrap 1 = 1 ∧ IntKind.i64.wrap 2 = 2 ∧ IntKind.i64.wrap 3 = 3 ∧ IntKind.i64.wrap 4 = 4) ∧
    ((0 : Int).toNat = 0 ∧ (1 : Int).toNat = 1 ∧ (2 : Int).toNat = 2 ∧ (3 : Int).toNat = 3 ∧ (4 : Int).toNat = 4) ∧
    ((∀ cs,strip0 (.rop cs) = .rop (strip0L cs)) ∧ (∀ f cs,strip0 (.fn f cs) = .fn f (strip0L cs)) ∧ (∀ H cs,strip1 H (.rop cs) = .rop (strip1L H cs)) ∧ (∀ H f cs,strip1 H (.fn f cs) = .fn f (strip1L H cs)) ∧ (∀ H cs,strip2 H (.rop cs) = .rop (strip2L H cs)) ∧ (∀ H f cs,strip2 H (.fn f cs) = .fn f (strip2L H cs)) ∧ (∀ sz es c,strip0 (.vs sz es c) = .vs sz (strip0L es) c) ∧ (∀ H sz es c,strip1 H (.vs sz es c) = .vs sz (strip1L H es) c) ∧ (∀ H sz es c,strip2 H (.vs sz es c) = .vs sz (strip2L H es) c)):=by
  refine ⟨⟨rfl,rfl,rfl,rfl,rfl⟩,⟨?_,?_,?_,?_,?_⟩,⟨rfl,rfl,rfl,rfl,rfl⟩,⟨fun _ => rfl,fun _ _ => rfl,fun _ _ => rfl,fun _ _ _ => rfl,fun _ _ => rfl,fun _ _ _ => rfl,fun _ _ _ => rfl,fun _ _ _ _ => rfl,fun _ _ _ _ => rfl⟩⟩ <;> exact i64_in (by unfold I64; omega)
theorem c_in (n m : Int) : ap Tryz.prog pol 53 [I n,I m] = some (.ret (.bool (decide (0 ≤ n ∧ n ≤ m)))):=by
  rw [ap_eq _ Tryz.func53 rfl Tryz.ntmps53 Tryz.results53 (by kernel_rfl) rfl (by exact Nat.le_of_ble_eq_true rfl)]
  simp (maxSteps:=999999) only [E0,seval,-Int.reduceNatCast',b_and]
def OKL (n : Int) : Prop:=0 ≤ n ∧ n ≤ 1073741824
instance (n : Int) : Decidable (OKL n):=by unfold OKL; infer_instance
theorem b_not {p q : Prop} [Decidable p] [Decidable q] (h : p ↔ ¬ q) : some (CR.ret (PV.bool (!decide q))) = some (CR.ret (PV.bool (decide p))):=by
  by_cases hq : q <;> simp [h,hq]
theorem c_f4 (x : Int) : ap Tryz.prog pol 55 [I x] = some (.ret (.bool (decide (¬ OKL x)))):=by
  rw [ap_eq _ Tryz.func55 rfl Tryz.ntmps55 Tryz.results55 (by kernel_rfl) rfl (by exact Nat.le_of_ble_eq_true rfl)]
  simp (maxSteps:=999999) only [E0,seval,-Int.reduceNatCast',c_in]
  exact b_iff Iff.rfl
theorem none_more {α : Type} {P : α → Prop} {l : List α} {j : Nat} {x : α} (e : l[j]? = some x) (h : ∀ y ∈ l.take j,¬ P y) (hx : ¬ P x) : ∀ y ∈ l.take (j + 1),¬ P y:=(all_take (P:=fun y => ¬ P y) e).2 ⟨h,hx⟩
theorem c_ix4 (l : List Int) (c : Option Nat) (hl : l.length ≤ 1000000) : ∃ k : Int,ap Tryz.prog pol 73 [.vs 1 (l.map I) c,.fn 55 []] = some (.ret (I k)) ∧ (0 ≤ k ↔ ∃ x ∈ l,¬ OKL x):=by
  rw [ap_eq _ Tryz.func73 rfl Tryz.ntmps73 Tryz.results73 (by kernel_rfl) rfl (by exact Nat.le_of_ble_eq_true rfl)]
  simp (maxSteps:=999999) only [E0,seval,-Int.reduceNatCast',List.length_map]
  generalize hL : W _ (.loop _) _ = L
  obtain ⟨ex,s,rfl,hex,hd⟩:=loop_at hL (α:=Nat) (fun j => l.length - j)
    (fun s0 j s => j ≤ l.length ∧ (∀ x ∈ l.take j,¬ (¬ OKL x)) ∧ s.tmps 8 = I j ∧ s.tmps 7 = I l.length ∧ s.tmps 0 = .vs 1 (l.map I) c ∧ s.tmps 1 = .fn 55 [] ∧ s.defers = [] ∧ s.fid = 0)
    (fun s0 ex s => ((ex = .exit 0 ∧ ∀ x ∈ l,¬ (¬ OKL x)) ∨ (ex = .ret ∧ (∃ x ∈ l,¬ OKL x) ∧ ∃ k : Int,0 ≤ k ∧ s.tmps 4 = I k)) ∧ s.defers = []) 0
    (by simp (maxSteps:=999999) only [E0,seval,-Int.reduceNatCast']; exact ⟨by omega,by simp,by simp⟩) (by
      rintro j s r hW ⟨hj,hg,h8,h7,h0,h1,hd,hf⟩
      by_cases hp : j < l.length
      · have e0 : l[j]? = some l[j]:=List.getElem?_eq_getElem hp
        have e1:=map_get (f:=I) e0
        have hm:=List.getElem_mem hp
        have cf:=c_f4 l[j]
        by_cases hx : (fun x => ¬ OKL x) l[j]
        · rw [decide_eq_true hx] at cf
          simp (maxSteps:=999999) only [E0,seval,-Int.reduceNatCast',NUM,SIN,cf,h8,h7,h0,h1,hd,hf,e1,List.length_map,Int.toNat_natCast,(show (j : Int) < l.length by omega),(show (0 : Int) ≤ j by omega)] at hW
          subst hW
          refine rd_ret ⟨.inr ⟨rfl,⟨_,hm,hx⟩,j,by omega,by simp (maxSteps:=999999) only [E0,seval,-Int.reduceNatCast']⟩,by simp (maxSteps:=999999) only [E0,seval,-Int.reduceNatCast',hd]⟩
        · rw [decide_eq_false hx] at cf
          have hn:=none_more (P:=fun x => ¬ OKL x) e0 hg hx
          simp (maxSteps:=999999) only [E0,seval,-Int.reduceNatCast',NUM,SIN,cf,h8,h7,h0,h1,hd,hf,e1,List.length_map,Int.toNat_natCast,(show (j : Int) < l.length by omega),(show (0 : Int) ≤ j by omega),(i64_in (x:=(j : Int) + 1) (by unfold I64; omega))] at hW
          subst hW
          refine rd_next (j + 1) ?_ (show l.length - (j + 1) < l.length - j by omega)
          simp (maxSteps:=999999) only [E0,seval,-Int.reduceNatCast',h7,h0,h1,hd]
          exact ⟨by omega,hn,by simp⟩
      · simp (maxSteps:=999999) only [E0,seval,-Int.reduceNatCast',h8,h7,hd,hf,(show ¬ (j : Int) < l.length by omega)] at hW
        subst hW
        have : j = l.length:=by omega
        subst this
        rw [List.take_length] at hg
        exact rd_exit ⟨.inl ⟨rfl,hg⟩,by simp (maxSteps:=999999) only [E0,seval,-Int.reduceNatCast',hd]⟩)
  rcases hex with ⟨rfl,hg⟩ | ⟨rfl,hg,k,hk,h4⟩
  · refine ⟨-1,by simp (maxSteps:=999999) only [E0,seval,-Int.reduceNatCast',hd],fun h => absurd h (by decide),fun ⟨x,hx,hp⟩ => absurd hp (hg x hx)⟩
  · refine ⟨k,by simp (maxSteps:=999999) only [E0,seval,-Int.reduceNatCast',hd,h4],fun _ => hg,fun _ => hk⟩
theorem c_has4 (l : List Int) (c : Option Nat) (hl : l.length ≤ 1000000) : ap Tryz.prog pol 54 [.vs 1 (l.map I) c,.fn 55 []] = some (.ret (.bool (decide (∃ x ∈ l,¬ OKL x)))):=by
  obtain ⟨k,ck,hk⟩:=c_ix4 l c hl
  rw [ap_eq _ Tryz.func54 rfl Tryz.ntmps54 Tryz.results54 (by kernel_rfl) rfl (by exact Nat.le_of_ble_eq_true rfl)]
  simp (maxSteps:=999999) only [E0,seval,-Int.reduceNatCast',NUM,SIN,ck]
  exact b_iff hk
end S
namespace S
structure Qu where
  (ix r : Int)
def QLT (a b : Qu) : Prop:=b.r < a.r ∨ (a.r = b.r ∧ a.ix < b.ix)
theorem QLT.trans {a b c : Qu} (h : QLT a b) (h' : QLT b c) : QLT a c:=by unfold QLT at *; omega
theorem QLT.asymm {a b : Qu} (h : QLT a b) : ¬ QLT b a:=by unfold QLT at *; omega
theorem QLT.of_not {a b : Qu} (h : ¬ QLT b a) (hi : a.ix < b.ix) : QLT a b:=by unfold QLT at *; omega
theorem QLT_iff {a b : Qu} (hi : b.ix < a.ix) : QLT a b ↔ b.r < a.r:=by unfold QLT; omega
abbrev QS (l : List Qu) : Prop:=l.Pairwise QLT
def QB (l m : List Qu) : Prop:=∀ x ∈ l,∀ y ∈ m,QLT x y
def QI (l m : List Qu) : Prop:=∀ x ∈ l,∀ y ∈ m,x.ix < y.ix
theorem QS_app {l m : List Qu} : QS (l ++ m) ↔ QS l ∧ QS m ∧ QB l m:=List.pairwise_append
theorem QB.left {l l' m : List Qu} (h : QB (l ++ l') m) : QB l m ∧ QB l' m:=⟨fun x hx => h x (by simp [hx]),fun x hx => h x (by simp [hx])⟩
theorem QB.perm {l l' m m' : List Qu} (h : QB l m) (p : l'.Perm l) (q : m'.Perm m) : QB l' m':=fun x hx y hy => h x (p.mem_iff.1 hx) y (q.mem_iff.1 hy)
theorem QI.perm {l l' m m' : List Qu} (h : QI l m) (p : l'.Perm l) (q : m'.Perm m) : QI l' m':=fun x hx y hy => h x (p.mem_iff.1 hx) y (q.mem_iff.1 hy)
def SWP (d : List Qu) (i j : Nat) : List Qu:=match d[i]?,d[j]? with
  | some x,some y => (d.set i y).set j x
  | _,_ => d
theorem SWP_eq {d : List Qu} {i j : Nat} {x y : Qu} (hi : d[i]? = some x) (hj : d[j]? = some y) : SWP d i j = (d.set i y).set j x:=by simp [SWP,hi,hj]
theorem SWP_len (d : List Qu) (i j : Nat) : (SWP d i j).length = d.length:=by
  unfold SWP; split <;> simp
theorem at_app (A : List Qu) (x : Qu) (B : List Qu) : (A ++ x :: B)[A.length]? = some x:=by simp
theorem set_app (A : List Qu) (x y : Qu) (B : List Qu) : (A ++ x :: B).set A.length y = A ++ y :: B:=by simp
theorem at_app' {A : List Qu} {x : Qu} {B : List Qu} {i : Nat} (h : i = A.length) : (A ++ x :: B)[i]? = some x:=by subst h; simp
theorem set_app' {A : List Qu} {x y : Qu} {B : List Qu} {i : Nat} (h : i = A.length) : (A ++ x :: B).set i y = A ++ y :: B:=by subst h; simp
theorem SWP_at (A M B : List Qu) (x y : Qu) {i j : Nat} (hi : i = A.length) (hj : j = A.length + 1 + M.length) : SWP (A ++ x :: (M ++ y :: B)) i j = A ++ y :: (M ++ x :: B):=by
  have e : ∀ x,A ++ x :: (M ++ y :: B) = (A ++ x :: M) ++ y :: B:=fun x => by simp
  have h2 : (A ++ x :: (M ++ y :: B))[j]? = some y:=by rw [e]; exact at_app' (by simp; omega)
  rw [SWP_eq (at_app' hi) h2,set_app' hi,e,set_app' (by simp; omega)]
  simp
theorem SWP_at' (A M B : List Qu) (x y : Qu) {i j : Nat} (hi : i = A.length) (hj : j = A.length + 1 + M.length) : SWP (A ++ x :: (M ++ y :: B)) j i = A ++ y :: (M ++ x :: B):=by
  have e : A ++ x :: (M ++ y :: B) = (A ++ x :: M) ++ y :: B:=by simp
  have h2 : (A ++ x :: (M ++ y :: B))[j]? = some y:=by rw [e]; exact at_app' (by simp; omega)
  rw [SWP_eq h2 (at_app' hi),e,set_app' (by simp; omega),List.append_assoc,List.cons_append,set_app' hi]
def SRF (d : List Qu) (a b : Nat) : Nat → List Qu
  | 0 => d
  | n + 1 => SRF (SWP d a b) (a + 1) (b + 1) n
theorem SRF_at : ∀ (U V A C B : List Qu) (a b : Nat),a = A.length → b = A.length + U.length + C.length → V.length = U.length → SRF (A ++ (U ++ (C ++ (V ++ B)))) a b U.length = A ++ (V ++ (C ++ (U ++ B)))
  | [],V,A,C,B,a,b,_,_,h => by
    have : V = []:=by cases V <;> simp_all
    subst this; simp [SRF]
  | x :: U,[],A,C,B,a,b,_,_,h => by simp at h
  | x :: U,y :: V,A,C,B,a,b,ha,hb,h => by
    have e : A ++ (x :: U ++ (C ++ (y :: V ++ B))) = A ++ x :: ((U ++ C) ++ y :: (V ++ B)):=by simp
    rw [e,List.length_cons]
    show SRF (SWP _ a b) (a + 1) (b + 1) U.length = _
    rw [SWP_at A (U ++ C) (V ++ B) x y ha (by simp only [List.length_append,List.length_cons] at *; omega)]
    have e2 : A ++ y :: ((U ++ C) ++ x :: (V ++ B)) = (A ++ [y]) ++ (U ++ ((C ++ [x]) ++ (V ++ B))):=by simp
    rw [e2,SRF_at U V (A ++ [y]) (C ++ [x]) B (a + 1) (b + 1) (by simp [ha]) (by simp only [List.length_append,List.length_cons,List.length_nil] at *; omega) (by simpa using h)]
    simp
theorem SRF_len : ∀ (n : Nat) (d : List Qu) (a b : Nat),(SRF d a b n).length = d.length
  | 0,_,_,_ => rfl
  | n + 1,d,a,b => by rw [SRF,SRF_len n,SWP_len]
theorem part_at {α : Type} (l : List α) (k : Nat) (h : k ≤ l.length) : ∃ a b,l = a ++ b ∧ a.length = k:=⟨l.take k,l.drop k,(List.take_append_drop k l).symm,by simp [h]⟩
theorem QB_last {l m : List Qu} (hl : QS l) (hm : QS m) (h : ∀ x y,l.getLast? = some x → m.head? = some y → QLT x y) : QB l m:=by
  intro x hx y hy
  rcases List.eq_nil_or_concat l with rfl | ⟨l',z,rfl⟩
  · simp at hx
  cases m with
  | nil => simp at hy
  | cons w m' =>
    have h0:=h z w (by simp) rfl
    have h1 : x = z ∨ QLT x z:=by
      rw [List.concat_eq_append] at hx hl
      rcases List.mem_append.1 hx with hx | hx
      · exact .inr ((QS_app.1 hl).2.2 x hx z (by simp))
      · exact .inl (by simpa using hx)
    have h2 : y = w ∨ QLT w y:=by
      rcases List.mem_cons.1 hy with rfl | hy
      · exact .inl rfl
      · exact .inr ((List.pairwise_cons.1 hm).1 y hy)
    rcases h1 with rfl | h1 <;> rcases h2 with rfl | h2
    · exact h0
    · exact h0.trans h2
    · exact h1.trans h0
    · exact (h1.trans h0).trans h2
theorem getLast_at {α : Type} {l : List α} {x : α} (h : l.getLast? = some x) : 0 < l.length ∧ l[l.length - 1]? = some x:=by
  rw [List.getLast?_eq_getElem?] at h
  refine ⟨?_,h⟩
  cases l with
  | nil => simp at h
  | cons _ _ => simp
theorem head_at {α : Type} {l : List α} {x : α} (h : l.head? = some x) : 0 < l.length ∧ l[0]? = some x:=by
  cases l with
  | nil => simp at h
  | cons _ _ => simpa using h
theorem sym_parts {A L R B : List Qu} {a m b mid start st0 r0 e : Nat} (ha : a = A.length) (hm : m = a + L.length) (hb : b = m + R.length) (hmid : mid = (a + b) / 2)
    (sL : QS L) (sR : QS R) (hI : QI L R) (hs : (m > mid ∧ st0 = mid + m - b ∧ r0 = mid) ∨ (m ≤ mid ∧ st0 = a ∧ r0 = m)) (h1 : st0 ≤ start) (h2 : start ≤ r0) (he : e = mid + m - start)
    (k1 : st0 < start → ∀ x y,(A ++ (L ++ (R ++ B)))[start - 1]? = some x → (A ++ (L ++ (R ++ B)))[mid + m - start]? = some y → ¬ QLT y x)
    (k2 : start < r0 → ∀ x y,(A ++ (L ++ (R ++ B)))[start]? = some x → (A ++ (L ++ (R ++ B)))[mid + m - 1 - start]? = some y → QLT y x) :
    ∃ L1 L2 R1 R2,L = L1 ++ L2 ∧ R = R1 ++ R2 ∧ start = a + L1.length ∧ e = m + R1.length ∧ mid = a + L1.length + R1.length ∧ QB (L1 ++ R1) (L2 ++ R2):=by
  obtain ⟨L1,L2,rfl,l1⟩:=part_at L (start - a) (by omega)
  obtain ⟨R1,R2,rfl,l2⟩:=part_at R (e - m) (by omega)
  simp only [List.length_append] at *
  refine ⟨L1,L2,R1,R2,rfl,rfl,by omega,by omega,by omega,?_⟩
  obtain ⟨sL1,sL2,bL⟩:=QS_app.1 sL
  obtain ⟨sR1,sR2,bR⟩:=QS_app.1 sR
  have x1 : QB L1 R2:=by
    refine QB_last sL1 sR2 fun x y hx hy => ?_
    have hx':=List.mem_of_getElem? (getLast_at hx).2
    have hy':=List.mem_of_getElem? (head_at hy).2
    obtain ⟨p1,q1⟩:=getLast_at hx
    obtain ⟨p2,q2⟩:=head_at hy
    refine QLT.of_not (k1 (by omega) x y ?_ ?_) (hI x (by simp [hx']) y (by simp [hy']))
    · rw [List.getElem?_append_right (by omega),List.append_assoc,List.getElem?_append_left (by omega),← q1]
      congr 1; omega
    · rw [List.getElem?_append_right (by omega),List.getElem?_append_right (by simp; omega),List.append_assoc,List.getElem?_append_right (by simp; omega),List.getElem?_append_left (by simp; omega),← q2]
      congr 1; simp; omega
  have x2 : QB R1 L2:=by
    refine QB_last sR1 sL2 fun x y hx hy => ?_
    obtain ⟨p1,q1⟩:=getLast_at hx
    obtain ⟨p2,q2⟩:=head_at hy
    refine k2 (by omega) y x ?_ ?_
    · rw [List.getElem?_append_right (by omega),List.append_assoc,List.getElem?_append_right (by omega),List.getElem?_append_left (by omega),← q2]
      congr 1; omega
    · rw [List.getElem?_append_right (by omega),List.getElem?_append_right (by simp; omega),List.append_assoc,List.getElem?_append_left (by simp; omega),← q1]
      congr 1; simp; omega
  intro x hx y hy
  rcases List.mem_append.1 hx with hx | hx <;> rcases List.mem_append.1 hy with hy | hy
  · exact bL x hx y hy
  · exact x1 x hx y hy
  · exact x2 x hx y hy
  · exact bR x hx y hy
end S
namespace S
abbrev qu (x : Qu) : PV:=.agg [I x.ix,U x.r]
theorem SQU : (∀ l : List Qu,strip0L (l.map qu) = l.map qu) ∧ (∀ l : List Qu,(l.map qu).map strip0 = l.map qu) ∧ (∀ H (l : List Qu),(l.map qu).map (strip1 H) = l.map qu) ∧ (∀ H (l : List Qu),(l.map qu).map (strip2 H) = l.map qu) ∧ (∀ H (l : List Qu),strip1L H (l.map qu) = l.map qu) ∧ (∀ H (l : List Qu),strip2L H (l.map qu) = l.map qu):=STR qu (fun _ => rfl) (fun _ _ => rfl) (fun _ _ => rfl)
def CMP (a b : Qu) : Int:=if b.r < a.r then -1 else if a.r < b.r then 1 else 0
theorem CMP_lt {a b : Qu} : CMP a b < 0 ↔ b.r < a.r:=by unfold CMP; split <;> (try split) <;> omega
theorem c_isnan (a : Int) : ap Tryz.prog pol 58 [U a] = some (.ret (.bool false)):=by
  rw [ap_eq _ Tryz.func58 rfl Tryz.ntmps58 Tryz.results58 (by kernel_rfl) rfl (by exact Nat.le_of_ble_eq_true rfl)]
  simp (maxSteps:=999999) only [E0,seval,-Int.reduceNatCast']
theorem c_compare (a b : Int) : ap Tryz.prog pol 41 [U a,U b] = some (.ret (I (if a < b then -1 else if b < a then 1 else 0))):=by
  rw [ap_eq _ Tryz.func41 rfl Tryz.ntmps41 Tryz.results41 (by kernel_rfl) rfl (by exact Nat.le_of_ble_eq_true rfl)]
  by_cases h1 : a < b
  · simp (maxSteps:=999999) only [E0,seval,-Int.reduceNatCast',c_isnan,h1]
  by_cases h2 : b < a
  · simp (maxSteps:=999999) only [E0,seval,-Int.reduceNatCast',c_isnan,h1,h2]
  · simp (maxSteps:=999999) only [E0,seval,-Int.reduceNatCast',c_isnan,h1,h2]
theorem c_cmp (a b : Qu) : ap Tryz.prog pol 40 [qu a,qu b] = some (.ret (I (CMP a b))):=by
  rw [ap_eq _ Tryz.func40 rfl Tryz.ntmps40 Tryz.results40 (by kernel_rfl) rfl (by exact Nat.le_of_ble_eq_true rfl)]
  simp (maxSteps:=999999) only [E0,seval,-Int.reduceNatCast',c_compare]
  rfl
theorem upd_upd {α : Type} (f : Nat → α) (t : Nat) (v w : α) : upd (upd f t v) t w = upd f t w:=by
  funext i; simp only [upd]; split <;> rfl
abbrev RW (d : List Qu) : Row:=.gro 2 (d.map qu) 0
abbrev QG (n : Nat) : PV:=.gsl 2 2 n 0 n
abbrev CF : PV:=.fn 40 []
theorem mget {d : List Qu} {i : Nat} {x : Qu} (h : d[i]? = some x) : (d.map qu)[i]? = some (qu x):=by simp [h]
theorem mset {d : List Qu} {i j : Nat} {x y : Qu} (hi : d[i]? = some x) (hj : d[j]? = some y) : ((d.map qu).set i (qu y)).set j (qu x) = (SWP d i j).map qu:=by
  rw [SWP_eq hi hj,List.map_set,List.map_set]
theorem mget2 {d : List Qu} {i j : Nat} {x y : Qu} (hi : d[i]? = some x) (hj : d[j]? = some y) : ∃ z,((d.map qu).set i (qu y))[j]? = some (qu z):=by
  rw [List.getElem?_set]
  split
  · rw [if_pos]; exact ⟨_,rfl⟩
    rename_i h; subst h
    have:=List.getElem?_eq_some_iff.1 hi
    simpa using this.1
  · exact ⟨y,by simp [hj]⟩
theorem c_swapRange (d : List Qu) (a b k : Nat) (ha : a + k ≤ d.length) (hb : b + k ≤ d.length) (hl : d.length ≤ 1000000) (H : Heap) (hr : H.rows 2 = some (RW d)) :
    ∃ n,callF G Tryz.prog pol 105 [QG d.length,I a,I b,I k,CF] H = some (.ret (.tup []),⟨upd H.rows 2 (some (RW (SRF d a b k))),n⟩) ∧ H.next ≤ n:=by
  rw [callF_eq _ _ Tryz.func105 rfl Tryz.ntmps105 Tryz.results105 (by kernel_rfl) rfl (by exact Nat.le_of_ble_eq_true rfl)]
  simp (maxSteps:=999999) only [E0,seval,-Int.reduceNatCast']
  generalize hL : W _ (.loop _) _ = L
  obtain ⟨ex,s,rfl,rfl,hrow,hd,hn⟩:=loop_at hL (α:=Nat × List Qu) (fun p => k - p.1)
    (fun s0 p s => p.1 ≤ k ∧ p.2.length = d.length ∧ SRF p.2 (a + p.1) (b + p.1) (k - p.1) = SRF d a b k ∧ s.H.rows = upd H.rows 2 (some (RW p.2)) ∧ s.tmps 10 = I p.1 ∧ s.tmps 0 = QG d.length ∧ s.tmps 1 = I a ∧ s.tmps 2 = I b ∧ s.tmps 3 = I k ∧ s.defers = [] ∧ s.fid = H.next ∧ H.next ≤ s.H.next)
    (fun s0 ex s => ex = .exit 0 ∧ s.H.rows = upd H.rows 2 (some (RW (SRF d a b k))) ∧ s.defers = [] ∧ H.next ≤ s.H.next) (0,d)
    (by simp (maxSteps:=999999) only [E0,seval,-Int.reduceNatCast']; exact ⟨by omega,by simp,by rw [← hr,upd_same],by simp,by omega⟩) (by
      rintro ⟨j,e⟩ s r hW ⟨hj,hle,hs,hrow,h10,h0,h1,h2,h3,hd,hf,hn⟩
      dsimp only at hj hle hs hrow h10
      by_cases hp : j < k
      · have ei : e[a + j]? = some e[a + j]:=List.getElem?_eq_getElem (by omega)
        have ej : e[b + j]? = some e[b + j]:=List.getElem?_eq_getElem (by omega)
        have em:=mset ei ej
        obtain ⟨z,ez⟩:=mget2 ei ej
        have i1:=mget ei
        have j1:=mget ej
        generalize e[a + j] = x at *
        generalize e[b + j] = y at *
        have r2 : s.H.rows 2 = some (RW e):=by rw [hrow]; simp
        have n1 : ((a : Int) + j).toNat = a + j:=by omega
        have n2 : ((b : Int) + j).toNat = b + j:=by omega
        simp (maxSteps:=999999) only [E0,seval,-Int.reduceNatCast',NUM,SQU,hle,h10,h0,h1,h2,h3,hd,hf,r2,i1,j1,ez,n1,n2,Nat.zero_add,List.length_map,List.length_set,(show (j : Int) < k by omega),(show (0 : Int) ≤ (a : Int) + j by omega),(show (0 : Int) ≤ (b : Int) + j by omega),(show (a : Int) + j < d.length by omega),(show (b : Int) + j < d.length by omega),(i64_in (x:=(a : Int) + j) (by unfold I64; omega)),(i64_in (x:=(b : Int) + j) (by unfold I64; omega)),(i64_in (x:=(j : Int) + 1) (by unfold I64; omega)),Nat.zero_le] at hW
        subst hW
        rw [if_pos (by kernel_rfl)]
        refine rd_next (j + 1,SWP e (a + j) (b + j)) ?_ (show k - (j + 1) < k - j by omega)
        simp (maxSteps:=999999) only [E0,seval,-Int.reduceNatCast',h0,h1,h2,h3,SWP_len,em,hrow]
        refine ⟨by omega,hle,?_,?_,by simp,hn⟩
        · rw [← hs,show k - j = (k - (j + 1)) + 1 by omega]; rfl
        · show upd (upd s.H.rows 2 _) 2 _ = _; rw [upd_upd,hrow,upd_upd]
      · simp (maxSteps:=999999) only [E0,seval,-Int.reduceNatCast',h10,h3,hd,hf,(show ¬ (j : Int) < k by omega)] at hW
        subst hW
        have : j = k:=by omega
        subst this
        rw [Nat.sub_self] at hs
        simp only [SRF] at hs
        subst hs
        exact rd_exit ⟨rfl,by simp (maxSteps:=999999) only [E0,seval,-Int.reduceNatCast',hrow],by simp (maxSteps:=999999) only [E0,seval,-Int.reduceNatCast',hd],hn⟩)
  simp (maxSteps:=999999) only [E0,seval,-Int.reduceNatCast',hd]
  refine ⟨s.H.next,?_,hn⟩
  rw [← hrow]
theorem c_swapAt (X U C V Y d : List Qu) (a b k n : Nat) (hd : d = X ++ (U ++ (C ++ (V ++ Y)))) (ha : a = X.length) (hb : b = X.length + U.length + C.length) (hk : k = U.length) (hv : V.length = U.length) (hn : n = d.length) (hl : n ≤ 1000000) (H : Heap) (hr : H.rows 2 = some (RW d)) :
    ∃ j,callF G Tryz.prog pol 105 [QG n,I a,I b,I k,CF] H = some (.ret (.tup []),⟨upd H.rows 2 (some (RW (X ++ (V ++ (C ++ (U ++ Y)))))),j⟩) ∧ H.next ≤ j:=by
  subst hn hk
  have hd':=congrArg List.length hd
  simp only [List.length_append] at hd'
  obtain ⟨j,cs,hj⟩:=c_swapRange d a b U.length (by omega) (by omega) hl H hr
  have sr:=SRF_at U V X C Y a b ha hb hv
  rw [← hd] at sr
  rw [sr] at cs
  exact ⟨j,cs,hj⟩
theorem c_rotate (A U V B : List Qu) (a m b n : Nat) (ha : a = A.length) (hm : m = a + U.length) (hb : b = m + V.length) (hn : n = (A ++ (U ++ (V ++ B))).length) (hu : 0 < U.length) (hv : 0 < V.length) (hl : n ≤ 1000000) (H : Heap)
    (hr : H.rows 2 = some (RW (A ++ (U ++ (V ++ B))))) :
    ∃ k,callF G Tryz.prog pol 88 [QG n,I a,I m,I b,CF] H = some (.ret (.tup []),⟨upd H.rows 2 (some (RW (A ++ (V ++ (U ++ B))))),k⟩) ∧ H.next ≤ k:=by
  simp only [List.length_append] at hn
  rw [callF_eq _ _ Tryz.func88 rfl Tryz.ntmps88 Tryz.results88 (by kernel_rfl) rfl (by exact Nat.le_of_ble_eq_true rfl)]
  simp (maxSteps:=999999) only [E0,seval,-Int.reduceNatCast',i64_in (x:=(U.length : Int)) (by unfold I64; omega),i64_in (x:=(V.length : Int)) (by unfold I64; omega),(show (m : Int) - a = U.length by omega),(show (b : Int) - m = V.length by omega)]
  generalize hL : W _ (.loop _) _ = L
  obtain ⟨ex,s,rfl,rfl,X,U',V',Y,hc,hnn,hum,hup,hvp,he,hrow,h10,h11,h0,h2,h4,hd,hf,hnx⟩:=loop_at hL (α:=List Qu × List Qu × List Qu × List Qu) (fun p => p.2.1.length + p.2.2.1.length)
    (fun s0 p s => n = p.1.length + (p.2.1.length + (p.2.2.1.length + p.2.2.2.length)) ∧ p.1.length + p.2.1.length = m ∧ 0 < p.2.1.length ∧ 0 < p.2.2.1.length ∧ p.1 ++ (p.2.2.1 ++ (p.2.1 ++ p.2.2.2)) = A ++ (V ++ (U ++ B)) ∧
      s.H.rows = upd H.rows 2 (some (RW (p.1 ++ (p.2.1 ++ (p.2.2.1 ++ p.2.2.2))))) ∧ s.tmps 10 = I p.2.1.length ∧ s.tmps 11 = I p.2.2.1.length ∧ s.tmps 0 = QG n ∧ s.tmps 2 = I m ∧ s.tmps 4 = CF ∧ s.defers = [] ∧ s.fid = H.next ∧ H.next ≤ s.H.next)
    (fun s0 ex s => ex = .exit 0 ∧ ∃ X U' V' Y : List Qu,U'.length = V'.length ∧ n = X.length + (U'.length + (V'.length + Y.length)) ∧ X.length + U'.length = m ∧ 0 < U'.length ∧ 0 < V'.length ∧ X ++ (V' ++ (U' ++ Y)) = A ++ (V ++ (U ++ B)) ∧
      s.H.rows = upd H.rows 2 (some (RW (X ++ (U' ++ (V' ++ Y))))) ∧ s.tmps 10 = I U'.length ∧ s.tmps 11 = I V'.length ∧ s.tmps 0 = QG n ∧ s.tmps 2 = I m ∧ s.tmps 4 = CF ∧ s.defers = [] ∧ s.fid = H.next ∧ H.next ≤ s.H.next) (A,U,V,B)
    (by simp (maxSteps:=999999) only [E0,seval,-Int.reduceNatCast']; exact ⟨by omega,by omega,hu,hv,by rw [← hr,upd_same],by omega⟩) (by
      rintro ⟨X,U',V',Y⟩ s r hW ⟨hnn,hum,hup,hvp,he,hrow,h10,h11,h0,h2,h4,hd,hf,hnx⟩
      dsimp only at hnn hum hup hvp he hrow h10 h11
      have r2 : s.H.rows 2 = some (RW (X ++ (U' ++ (V' ++ Y)))):=by rw [hrow]; simp
      by_cases hij : U'.length = V'.length
      · simp (maxSteps:=999999) only [E0,seval,-Int.reduceNatCast',h10,h11,hd,hf,hij] at hW
        subst hW
        refine rd_exit ⟨rfl,X,U',V',Y,hij,hnn,hum,hup,hvp,he,?_⟩
        simp (maxSteps:=999999) only [E0,seval,-Int.reduceNatCast',hrow,h10,h11,h0,h2,h4,hij]
        exact hnx
      by_cases hgt : V'.length < U'.length
      · obtain ⟨U1,U2,rfl,l1⟩:=part_at U' V'.length (by omega)
        rw [List.length_append] at hum hnn hgt hij
        obtain ⟨k,cs,hk⟩:=c_swapAt X U1 U2 V' Y _ (m - (U1.length + U2.length)) m V'.length n rfl (by omega) (by omega) (by omega) (by omega) (by simp only [List.length_append]; omega) hl s.H (by rw [r2]; simp)
        simp (maxSteps:=999999) only [E0,seval,-Int.reduceNatCast',NUM,h10,h11,h0,h2,h4,hd,hf,List.length_append,Int.natCast_add,(show ¬ (U1.length : Int) + U2.length = V'.length by omega),(show (V'.length : Int) < (U1.length : Int) + U2.length by omega),(i64_in (x:=((m - (U1.length + U2.length) : Nat) : Int)) (by unfold I64; omega)),(i64_in (x:=(U1.length : Int) + U2.length - V'.length) (by unfold I64; omega)),(show (m : Int) - ((U1.length : Int) + U2.length) = ((m - (U1.length + U2.length) : Nat) : Int) by omega),cs] at hW
        subst hW
        refine rd_next (X ++ V',U2,U1,Y) ?_ ?_
        rotate_left
        · simp only [List.length_append]; omega
        simp (maxSteps:=999999) only [E0,seval,-Int.reduceNatCast',h11,h0,h2,h4,hrow,List.length_append]
        rw [upd_upd]
        refine ⟨by omega,by omega,by omega,by omega,?_,by simp,?_,by rw [l1],by omega⟩
        · rw [← he]; simp
        · rw [show (U1.length : Int) + U2.length - V'.length = U2.length by omega]
      · obtain ⟨V1,V2,rfl,l1⟩:=part_at V' (V'.length - U'.length) (by omega)
        rw [List.length_append] at hnn hgt hij l1 hvp
        obtain ⟨q,hq⟩ : ∃ q,q = m + V1.length:=⟨_,rfl⟩
        obtain ⟨k,cs,hk⟩:=c_swapAt X U' V1 V2 Y _ (m - U'.length) q U'.length n rfl (by omega) (by omega) rfl (by omega) (by simp only [List.length_append]; omega) hl s.H (by rw [r2]; simp)
        simp (maxSteps:=999999) only [E0,seval,-Int.reduceNatCast',NUM,h10,h11,h0,h2,h4,hd,hf,List.length_append,Int.natCast_add,(show ¬ (U'.length : Int) = (V1.length : Int) + V2.length by omega),(show ¬ (V1.length : Int) + V2.length < U'.length by omega),(i64_in (x:=((m - U'.length : Nat) : Int)) (by unfold I64; omega)),(show (m : Int) - (U'.length : Int) = ((m - U'.length : Nat) : Int) by omega),(i64_in (x:=(m : Int) + (V1.length + V2.length)) (by unfold I64; omega)),
          (show (m : Int) + (V1.length + V2.length) - U'.length = (q : Int) by omega),(i64_in (x:=(q : Int)) (by unfold I64; omega)),(show (V1.length : Int) + V2.length - U'.length = (V1.length : Int) by omega),(i64_in (x:=(V1.length : Int)) (by unfold I64; omega)),cs] at hW
        subst hW
        refine rd_next (X,V2,V1,U' ++ Y) ?_ ?_
        rotate_left
        · simp only [List.length_append]; omega
        simp (maxSteps:=999999) only [E0,seval,-Int.reduceNatCast',h10,h0,h2,h4,hrow,List.length_append]
        rw [upd_upd]
        refine ⟨by omega,by omega,by omega,by omega,?_,by simp,by rw [show U'.length = V2.length by omega],by omega⟩
        rw [← he]; simp)
  obtain ⟨k,cs,hk⟩:=c_swapAt X U' [] V' Y _ (m - U'.length) m U'.length n rfl (by omega) (by simp; omega) rfl (by omega) (by simp only [List.length_append,List.length_nil]; omega) hl s.H (by rw [hrow]; simp)
  simp (maxSteps:=999999) only [E0,seval,-Int.reduceNatCast',h10,h11,h0,h2,h4,hd,hf,(i64_in (x:=((m - U'.length : Nat) : Int)) (by unfold I64; omega)),(show (m : Int) - (U'.length : Int) = ((m - U'.length : Nat) : Int) by omega),cs]
  refine ⟨k,?_,by omega⟩
  rw [hrow,upd_upd]
  simp only [List.nil_append] at *
  rw [he]
end S
namespace S
theorem take_more {α : Type} {l : List α} {j : Nat} (h : j < l.length) : l.take (j + 1) = l.take j ++ [l[j]]:=by simp
theorem drop_more {α : Type} {l : List α} {j : Nat} (h : j < l.length) : l.drop j = l[j] :: l.drop (j + 1):=by simp
theorem QS_ins {P Q : List Qu} {x : Qu} (h : QS (P ++ Q)) (hq : QB [x] Q) (hp : QB P [x]) : QS (P ++ x :: Q):=by
  obtain ⟨h1,h2,h3⟩:=QS_app.1 h
  refine QS_app.2 ⟨h1,List.pairwise_cons.2 ⟨fun y hy => hq x (by simp) y hy,h2⟩,?_⟩
  intro u hu v hv
  rcases List.mem_cons.1 hv with rfl | hv
  · exact hp u hu v (by simp)
  · exact h3 u hu v hv
abbrev QX (l : List Qu) : Prop:=l.Pairwise fun a b => a.ix < b.ix
theorem c_insertion (A S B : List Qu) (a b n : Nat) (ha : a = A.length) (hb : b = a + S.length) (hx : QX S) (hn : n = (A ++ (S ++ B)).length) (hl : n ≤ 1000000) (H : Heap) (hr : H.rows 2 = some (RW (A ++ (S ++ B)))) :
    ∃ S',S'.Perm S ∧ QS S' ∧ ∃ k,callF G Tryz.prog pol 75 [QG n,I a,I b,CF] H = some (.ret (.tup []),⟨upd H.rows 2 (some (RW (A ++ (S' ++ B)))),k⟩) ∧ H.next ≤ k:=by
  simp only [List.length_append] at hn
  rw [callF_eq _ _ Tryz.func75 rfl Tryz.ntmps75 Tryz.results75 (by kernel_rfl) rfl (by exact Nat.le_of_ble_eq_true rfl)]
  simp (maxSteps:=999999) only [E0,seval,-Int.reduceNatCast',i64_in (x:=(a : Int) + 1) (by unfold I64; omega)]
  generalize hL : W _ (.loop _) _ = L
  obtain ⟨ex,s,rfl,rfl,S',hp,hs,hrow,hd,hnx⟩:=loop_at hL (α:=Nat × List Qu) (fun p => S.length - p.1)
    (fun s0 p s => p.1 ≤ S.length ∧ p.2.Perm (S.take (p.1 + 1)) ∧ QS p.2 ∧ s.H.rows = upd H.rows 2 (some (RW (A ++ (p.2 ++ (S.drop (p.1 + 1) ++ B))))) ∧ s.tmps 8 = I (a + 1 + p.1) ∧ s.tmps 0 = QG n ∧ s.tmps 1 = I a ∧ s.tmps 2 = I b ∧ s.tmps 3 = CF ∧ s.defers = [] ∧ s.fid = H.next ∧ H.next ≤ s.H.next)
    (fun s0 ex s => ex = .exit 0 ∧ ∃ S',S'.Perm S ∧ QS S' ∧ s.H.rows = upd H.rows 2 (some (RW (A ++ (S' ++ B)))) ∧ s.defers = [] ∧ H.next ≤ s.H.next) (0,S.take 1)
    (by simp (maxSteps:=999999) only [E0,seval,-Int.reduceNatCast']
        refine ⟨Nat.zero_le _,.refl _,?_,?_,by simp,by omega⟩
        · cases S with
          | nil => simp
          | cons x S => simp
        · rw [← List.append_assoc (S.take (0 + 1)),List.take_append_drop,← hr,upd_same]) (by
      rintro ⟨j,S1⟩ s r hW ⟨hj,hp,hs,hrow,h8,h0,h1,h2,h3,hd,hf,hnx⟩
      dsimp only at hj hp hs hrow h8
      by_cases hlt : j + 1 < S.length
      rotate_left
      · simp (maxSteps:=999999) only [E0,seval,-Int.reduceNatCast',h8,h2,hd,hf,(show ¬ (a : Int) + 1 + j < b by omega)] at hW
        subst hW
        rw [List.drop_eq_nil_of_le (by omega),List.nil_append] at hrow
        rw [List.take_of_length_le (by omega)] at hp
        refine rd_exit ⟨rfl,S1,hp,hs,?_⟩
        simp (maxSteps:=999999) only [E0,seval,-Int.reduceNatCast',hrow,hd]
        exact hnx
      have e0 : S[j + 1]? = some S[j + 1]:=List.getElem?_eq_getElem hlt
      have e1:=drop_more hlt
      have e2:=take_more hlt
      have hxx : ∀ y ∈ S1,y.ix < S[j + 1].ix:=by
        intro y hy
        have hy':=hp.mem_iff.1 hy
        have hx' : QX (S.take (j + 1) ++ S.drop (j + 1)):=by rw [List.take_append_drop]; exact hx
        exact (List.pairwise_append.1 hx').2.2 y hy' _ (by rw [e1]; exact List.mem_cons_self)
      generalize S[j + 1] = x at *
      have hll : S1.length = j + 1:=by rw [hp.length_eq,List.length_take]; omega
      generalize hT : S.drop (j + 1 + 1) = T at *
      have hTl : T.length = S.length - (j + 1 + 1):=by rw [← hT]; simp
      rw [e1] at hrow
      simp (maxSteps:=999999) only [E0,seval,-Int.reduceNatCast',h8,h2,hd,hf,(show (a : Int) + 1 + j < b by omega)] at hW
      generalize hL2 : W _ (.loop _) _ = L2 at hW
      obtain ⟨ex,s2,rfl,rfl,P,Q,hPQ,hQ,hP,hrow2,z8,z0,z1,z2,z3,zd,zf,znx⟩:=loop_at hL2 (α:=List Qu × List Qu) (fun p => p.1.length)
        (fun s0 p s => p.1 ++ p.2 = S1 ∧ QB [x] p.2 ∧ s.H.rows = upd H.rows 2 (some (RW (A ++ (p.1 ++ x :: (p.2 ++ (T ++ B)))))) ∧ s.tmps 9 = I (a + p.1.length) ∧ s.tmps 8 = I (a + 1 + j) ∧ s.tmps 0 = QG n ∧ s.tmps 1 = I a ∧ s.tmps 2 = I b ∧ s.tmps 3 = CF ∧ s.defers = [] ∧ s.fid = H.next ∧ H.next ≤ s.H.next)
        (fun s0 ex s => ex = .exit 2 ∧ ∃ P Q,P ++ Q = S1 ∧ QB [x] Q ∧ QB P [x] ∧ s.H.rows = upd H.rows 2 (some (RW (A ++ (P ++ x :: (Q ++ (T ++ B)))))) ∧ s.tmps 8 = I (a + 1 + j) ∧ s.tmps 0 = QG n ∧ s.tmps 1 = I a ∧ s.tmps 2 = I b ∧ s.tmps 3 = CF ∧ s.defers = [] ∧ s.fid = H.next ∧ H.next ≤ s.H.next) (S1,[])
        (by simp (maxSteps:=999999) only [E0,seval,-Int.reduceNatCast',h8,h0,h1,h2,h3]
            refine ⟨fun u hu v hv => by simp at hv,by rw [hrow]; simp,?_,hnx⟩
            rw [hll]; simp; omega) (by
          rintro ⟨P,Q⟩ s r hW ⟨hPQ,hQ,hrow,h9,h8,h0,h1,h2,h3,hd,hf,hnx⟩
          dsimp only at hPQ hQ hrow h9
          have hlen : P.length + Q.length = S1.length:=by rw [← hPQ]; simp
          have r2 : s.H.rows 2 = some (RW (A ++ (P ++ x :: (Q ++ (T ++ B))))):=by rw [hrow]; simp
          rcases List.eq_nil_or_concat P with rfl | ⟨P',z,rfl⟩
          · simp (maxSteps:=999999) only [E0,seval,-Int.reduceNatCast',h9,h8,h0,h1,h2,h3,hd,hf,r2,List.length_nil,Int.add_zero,Int.natCast_zero,(show ¬ (a : Int) < a by omega)] at hW
            subst hW
            refine rd_exit ⟨rfl,[],Q,hPQ,hQ,fun u hu => by simp at hu,?_⟩
            simp (maxSteps:=999999) only [E0,seval,-Int.reduceNatCast',h8,h0,h1,h2,h3,hrow]
            exact hnx
          · rw [List.concat_eq_append] at *
            simp only [List.length_append,List.length_cons,List.length_nil,List.append_assoc,List.cons_append,List.nil_append] at *
            obtain ⟨q,hq⟩ : ∃ q,q = a + P'.length:=⟨_,rfl⟩
            have iz : (A ++ (P' ++ z :: x :: (Q ++ (T ++ B))))[q]? = some z:=by
              rw [← List.append_assoc]; exact at_app' (by simp; omega)
            have ix : (A ++ (P' ++ z :: x :: (Q ++ (T ++ B))))[q + 1]? = some x:=by
              have : A ++ (P' ++ z :: x :: (Q ++ (T ++ B))) = (A ++ P' ++ [z]) ++ x :: (Q ++ (T ++ B)):=by simp
              rw [this]; exact at_app' (by simp; omega)
            have sw : SWP (A ++ (P' ++ z :: x :: (Q ++ (T ++ B)))) (q + 1) q = A ++ (P' ++ x :: z :: (Q ++ (T ++ B))):=by
              have:=SWP_at' (A ++ P') [] (Q ++ (T ++ B)) z x (i:=q) (j:=q + 1) (by simp; omega) (by simp; omega)
              simpa using this
            have i1:=mget iz
            have i2:=mget ix
            have em:=mset ix iz
            obtain ⟨w,ew⟩:=mget2 ix iz
            have hDl : (A ++ (P' ++ z :: x :: (Q ++ (T ++ B)))).length = n:=by simp only [List.length_append,List.length_cons]; omega
            have h9' : s.tmps 9 = I ((q : Int) + 1):=by rw [h9]; congr 1; omega
            have hxz:=hxx z (by rw [← hPQ]; simp)
            generalize hD : A ++ (P' ++ z :: x :: (Q ++ (T ++ B))) = D at iz ix sw i1 i2 em ew hDl r2 hrow
            by_cases hc : z.r < x.r
            · have hcm : CMP x z < 0:=CMP_lt.2 hc
              simp (maxSteps:=999999) only [E0,seval,-Int.reduceNatCast',NUM,SQU,h9',h8,h0,h1,h2,h3,hd,hf,r2,i1,i2,ew,hDl,c_cmp,hcm,Nat.zero_add,Nat.zero_le,List.length_map,List.length_set,Int.toNat_natCast,Int.add_sub_cancel,(show ((q : Int) + 1).toNat = q + 1 by omega),(show (a : Int) < q + 1 by omega),(show (0 : Int) ≤ q by omega),(show (0 : Int) ≤ (q : Int) + 1 by omega),(show (q : Int) < n by omega),(show (q : Int) + 1 < n by omega),(i64_in (x:=(q : Int)) (by unfold I64; omega))] at hW
              subst hW
              rw [if_pos (by kernel_rfl)]
              refine rd_next (P',z :: Q) ?_ (by simp)
              simp (maxSteps:=999999) only [E0,seval,-Int.reduceNatCast',h8,h0,h1,h2,h3,em,sw,hrow]
              refine ⟨hPQ,?_,?_,by rw [hq]; simp,hnx⟩
              · intro u hu v hv
                rcases List.mem_cons.1 hv with rfl | hv
                · simp only [List.mem_singleton] at hu; subst hu
                  exact .inl hc
                · exact hQ u hu v hv
              · show upd (upd s.H.rows 2 _) 2 _ = _; rw [upd_upd,hrow,upd_upd]
            · have hcm : ¬ CMP x z < 0:=fun h => hc (CMP_lt.1 h)
              simp (maxSteps:=999999) only [E0,seval,-Int.reduceNatCast',NUM,SQU,h9',h8,h0,h1,h2,h3,hd,hf,r2,i1,i2,ew,hDl,c_cmp,hcm,Nat.zero_add,Nat.zero_le,List.length_map,List.length_set,Int.toNat_natCast,Int.add_sub_cancel,(show ((q : Int) + 1).toNat = q + 1 by omega),(show (a : Int) < q + 1 by omega),(show (0 : Int) ≤ q by omega),(show (0 : Int) ≤ (q : Int) + 1 by omega),(show (q : Int) < n by omega),(show (q : Int) + 1 < n by omega),(i64_in (x:=(q : Int)) (by unfold I64; omega))] at hW
              subst hW
              refine rd_exit ⟨rfl,P' ++ [z],Q,by simpa using hPQ,hQ,?_,?_⟩
              · have hs' : QS (P' ++ [z]):=by
                  rw [← hPQ] at hs
                  rw [show P' ++ z :: Q = (P' ++ [z]) ++ Q by simp] at hs
                  exact (QS_app.1 hs).1
                refine QB_last hs' (by simp) fun u v hu hv => ?_
                simp at hu hv
                subst hu hv
                exact QLT.of_not (fun h => hc ((QLT_iff hxz).1 h)) hxz
              · simp (maxSteps:=999999) only [E0,seval,-Int.reduceNatCast',h8,h0,h1,h2,h3,hrow,List.append_assoc]
                exact ⟨by rw [hD],hnx⟩)
      simp (maxSteps:=999999) only [E0,seval,-Int.reduceNatCast',z8,i64_in (x:=(a : Int) + 1 + j + 1) (by unfold I64; omega)] at hW
      subst hW
      refine rd_next (j + 1,P ++ x :: Q) ?_ (show S.length - (j + 1) < S.length - j by omega)
      simp (maxSteps:=999999) only [E0,seval,-Int.reduceNatCast',z0,z1,z2,z3,zd,hrow2]
      refine ⟨by omega,?_,QS_ins (by rw [hPQ]; exact hs) hQ hP,?_,?_,zf,znx⟩
      · rw [e2]
        rw [← hPQ] at hp
        exact (List.perm_middle.trans (hp.cons x)).trans (List.perm_append_comm (l₁:=[x]))
      · rw [hT]; simp
      · congr 1)
  simp (maxSteps:=999999) only [E0,seval,-Int.reduceNatCast',hd]
  exact ⟨S',hp,hs,s.H.next,by rw [← hrow],hnx⟩
end S
namespace S
theorem mid_u (a z : Nat) (h : a + z ≤ 4000000) : (IntKind.u64.wrap ((a : Int) + z)).fdiv (2 ^ min 1 IntKind.u64.bits) = ((a + z) / 2 : Nat):=by
  rw [u64_in (by unfold U64; omega),show (2 : Int) ^ min 1 IntKind.u64.bits = 2 by decide,Int.fdiv_eq_ediv_of_nonneg _ (by decide)]
  omega
theorem QB_head {l m : List Qu} (hm : QS m) (hl : QS l) (h : ∀ x y,l.getLast? = some x → m.head? = some y → QLT x y) : QB l m:=QB_last hl hm h
theorem one_parts {R : List Qu} {x : Qu} {i : Nat} (hi : i ≤ R.length) (sR : QS R) (hI : ∀ y ∈ R,x.ix < y.ix) (k1 : 0 < i → ∀ y,R[i - 1]? = some y → QLT y x) (k2 : i < R.length → ∀ y,R[i]? = some y → ¬ QLT y x) :
    ∃ R1 R2,R = R1 ++ R2 ∧ R1.length = i ∧ QB R1 [x] ∧ QB [x] R2:=by
  obtain ⟨R1,R2,rfl,l1⟩:=part_at R i hi
  obtain ⟨s1,s2,_⟩:=QS_app.1 sR
  refine ⟨R1,R2,rfl,l1,QB_last s1 (by simp) fun u v hu hv => ?_,QB_last (by simp) s2 fun u v hu hv => ?_⟩
  · simp at hv; subst hv
    obtain ⟨p,q⟩:=getLast_at hu
    exact k1 (by omega) u (by rw [List.getElem?_append_left (by omega),← l1]; exact q)
  · simp at hu; subst hu
    obtain ⟨p,q⟩:=head_at hv
    refine QLT.of_not (k2 (by simp; omega) v (by rw [List.getElem?_append_right (by omega),l1,Nat.sub_self]; exact q)) (hI v (by simp [List.mem_of_getElem? q]))
theorem c_sym1 (A R B : List Qu) (x : Qu) (a m b n : Nat) (ha : a = A.length) (hm : m = a + 1) (hb : b = m + R.length) (sR : QS R) (hI : ∀ y ∈ R,x.ix < y.ix) (hn : n = (A ++ (x :: (R ++ B))).length) (hl : n ≤ 1000000) (H : Heap)
    (hr : H.rows 2 = some (RW (A ++ (x :: (R ++ B))))) :
    ∃ M,M.Perm (x :: R) ∧ QS M ∧ ∃ k,callF G Tryz.prog pol 76 [QG n,I a,I m,I b,CF] H = some (.ret (.tup []),⟨upd H.rows 2 (some (RW (A ++ (M ++ B)))),k⟩) ∧ H.next ≤ k:=by
  simp only [List.length_append,List.length_cons] at hn
  have hDl : (A ++ (x :: (R ++ B))).length = n:=by simp only [List.length_append,List.length_cons]; omega
  have ix : (A ++ (x :: (R ++ B)))[a]? = some x:=at_app' ha
  have iR : ∀ k,k < R.length → (A ++ (x :: (R ++ B)))[m + k]? = R[k]?:=fun k hk => by
    rw [List.getElem?_append_right (by omega),show m + k - A.length = k + 1 by omega,List.getElem?_cons_succ,List.getElem?_append_left hk]
  rw [callF_eq _ _ Tryz.func76 rfl Tryz.ntmps76 Tryz.results76 (by kernel_rfl) rfl (by exact Nat.le_of_ble_eq_true rfl)]
  simp (maxSteps:=999999) only [E0,seval,-Int.reduceNatCast',(show (m : Int) - a = 1 by omega),NUM]
  generalize hL : W _ (.loop _) _ = L
  obtain ⟨ex,s,rfl,rfl,i,hi1,hi2,k1,k2,h10,h0,h1,hd,hf,hrow,hnx⟩:=loop_at hL (α:=Nat × Nat) (fun p => p.2 - p.1)
    (fun s0 p s => m ≤ p.1 ∧ p.1 ≤ p.2 ∧ p.2 ≤ b ∧ (m < p.1 → ∀ y,R[p.1 - m - 1]? = some y → QLT y x) ∧ (p.2 < b → ∀ y,R[p.2 - m]? = some y → ¬ QLT y x) ∧ s.tmps 10 = I p.1 ∧ s.tmps 11 = I p.2 ∧ s.tmps 0 = QG n ∧ s.tmps 1 = I a ∧ s.tmps 4 = CF ∧ s.defers = [] ∧ s.fid = H.next ∧ s.H.rows = H.rows ∧ H.next ≤ s.H.next)
    (fun s0 ex s => ex = .exit 0 ∧ ∃ i,m ≤ i ∧ i ≤ b ∧ (m < i → ∀ y,R[i - m - 1]? = some y → QLT y x) ∧ (i < b → ∀ y,R[i - m]? = some y → ¬ QLT y x) ∧ s.tmps 10 = I i ∧ s.tmps 0 = QG n ∧ s.tmps 1 = I a ∧ s.defers = [] ∧ s.fid = H.next ∧ s.H.rows = H.rows ∧ H.next ≤ s.H.next) (m,b)
    (by simp (maxSteps:=999999) only [E0,seval,-Int.reduceNatCast']
        exact ⟨Nat.le_refl _,by omega,Nat.le_refl _,fun h => by omega,fun h => by omega,by omega⟩) (by
      rintro ⟨i,j⟩ s r hW ⟨q1,q2,q3,k1,k2,h10,h11,h0,h1,h4,hd,hf,hrow,hnx⟩
      dsimp only at q1 q2 q3 k1 k2 h10 h11
      by_cases hp : i < j
      rotate_left
      · simp (maxSteps:=999999) only [E0,seval,-Int.reduceNatCast',h10,h11,hd,hf,(show ¬ (i : Int) < j by omega)] at hW
        subst hW
        obtain rfl : i = j:=by omega
        refine rd_exit ⟨rfl,i,q1,q3,k1,k2,?_⟩
        simp (maxSteps:=999999) only [E0,seval,-Int.reduceNatCast',h10,h0,h1,hrow]
        exact hnx
      obtain ⟨h,hh⟩ : ∃ h,h = (i + j) / 2:=⟨_,rfl⟩
      have mu:=mid_u i j (by omega)
      rw [← hh] at mu
      have eR:=iR (h - m) (by omega)
      rw [show m + (h - m) = h by omega] at eR
      have ey : R[h - m]? = some (R[h - m]'(by omega)):=List.getElem?_eq_getElem _
      have hyx:=hI _ (List.getElem_mem (show h - m < R.length by omega))
      generalize R[h - m]'(by omega) = y at *
      rw [ey] at eR
      have r2 : s.H.rows 2 = some (RW (A ++ (x :: (R ++ B)))):=by rw [hrow]; exact hr
      have i1:=mget ix
      have i2:=mget eR
      generalize A ++ (x :: (R ++ B)) = D at *
      by_cases hc : x.r < y.r
      · have hcm : CMP y x < 0:=CMP_lt.2 hc
        simp (maxSteps:=999999) only [E0,seval,-Int.reduceNatCast',NUM,SQU,h10,h11,h0,h1,h4,hd,hf,r2,i1,i2,hDl,mu,c_cmp,hcm,Nat.zero_add,Nat.zero_le,List.length_map,Int.toNat_natCast,(show (i : Int) < j by omega),i64_in (x:=(i : Int) + j) (by unfold I64; omega),i64_in (x:=(h : Int)) (by unfold I64; omega),i64_in (x:=(h : Int) + 1) (by unfold I64; omega),(show (0 : Int) ≤ h by omega),(show (0 : Int) ≤ a by omega),(show (h : Int) < n by omega),(show (a : Int) < n by omega)] at hW
        subst hW
        refine rd_next (h + 1,j) ?_ (show j - (h + 1) < j - i by omega)
        simp (maxSteps:=999999) only [E0,seval,-Int.reduceNatCast',h11,h0,h1,h4,hrow]
        refine ⟨by omega,by omega,by omega,fun _ z ez => ?_,k2,by simp,hnx⟩
        rw [show h + 1 - m - 1 = h - m by omega,ey] at ez; cases ez; exact .inl hc
      · have hcm : ¬ CMP y x < 0:=fun h => hc (CMP_lt.1 h)
        simp (maxSteps:=999999) only [E0,seval,-Int.reduceNatCast',NUM,SQU,h10,h11,h0,h1,h4,hd,hf,r2,i1,i2,hDl,mu,c_cmp,hcm,Nat.zero_add,Nat.zero_le,List.length_map,Int.toNat_natCast,(show (i : Int) < j by omega),i64_in (x:=(i : Int) + j) (by unfold I64; omega),i64_in (x:=(h : Int)) (by unfold I64; omega),i64_in (x:=(h : Int) + 1) (by unfold I64; omega),(show (0 : Int) ≤ h by omega),(show (0 : Int) ≤ a by omega),(show (h : Int) < n by omega),(show (a : Int) < n by omega)] at hW
        subst hW
        refine rd_next (i,h) ?_ (show h - i < j - i by omega)
        simp (maxSteps:=999999) only [E0,seval,-Int.reduceNatCast',h10,h0,h1,h4,hrow]
        refine ⟨by omega,by omega,by omega,k1,fun _ z ez => ?_,hnx⟩
        rw [ey] at ez; cases ez
        exact fun hq => hc ((QLT_iff hyx).1 hq))
  obtain ⟨R1,R2,rfl,l1,b1,b2⟩:=one_parts (i:=i - m) (by omega) sR hI (fun h => k1 (by omega)) (fun h => k2 (by omega))
  rw [List.length_append] at hn hb
  refine ⟨R1 ++ x :: R2,List.perm_middle,QS_ins sR b2 b1,?_⟩
  simp (maxSteps:=999999) only [E0,seval,-Int.reduceNatCast',h10,h0,h1,hd,hf]
  generalize hL2 : W _ (.loop _) _ = L2
  obtain ⟨ex,s2,rfl,rfl,hrow2,hd2,hnx2⟩:=loop_at hL2 (α:=List Qu × List Qu) (fun p => p.2.length)
    (fun s0 p s => p.1 ++ p.2 = R1 ∧ s.H.rows = upd H.rows 2 (some (RW (A ++ (p.1 ++ x :: (p.2 ++ (R2 ++ B)))))) ∧ s.tmps 13 = I (a + p.1.length) ∧ s.tmps 10 = I i ∧ s.tmps 0 = QG n ∧ s.defers = [] ∧ s.fid = H.next ∧ H.next ≤ s.H.next)
    (fun s0 ex s => ex = .exit 2 ∧ s.H.rows = upd H.rows 2 (some (RW (A ++ (R1 ++ x :: (R2 ++ B))))) ∧ s.defers = [] ∧ H.next ≤ s.H.next) ([],R1)
    (by simp (maxSteps:=999999) only [E0,seval,-Int.reduceNatCast',h10,h0]
        refine ⟨?_,by simp,hnx⟩
        rw [hrow,← List.append_assoc R1,← hr,upd_same]) (by
      rintro ⟨P,Q⟩ s r hW ⟨hPQ,hrow,h13,h10,h0,hd,hf,hnx⟩
      dsimp only at hPQ hrow h13
      have hlen : P.length + Q.length = R1.length:=by rw [← hPQ]; simp
      obtain ⟨q,hq⟩ : ∃ q,q = a + P.length:=⟨_,rfl⟩
      have h13' : s.tmps 13 = I q:=by rw [h13,hq]; simp
      cases Q with
      | nil =>
        simp only [List.length_nil,List.append_nil] at hlen hPQ
        simp (maxSteps:=999999) only [E0,seval,-Int.reduceNatCast',h13',h10,hd,hf,i64_in (x:=(i : Int) - 1) (by unfold I64; omega),(show ¬ (q : Int) < (i : Int) - 1 by omega)] at hW
        subst hW
        subst hPQ
        refine rd_exit ⟨rfl,?_⟩
        simp (maxSteps:=999999) only [E0,seval,-Int.reduceNatCast',hrow]
        simpa using hnx
      | cons z Q =>
        simp only [List.length_cons] at hlen
        have r2 : s.H.rows 2 = some (RW (A ++ (P ++ x :: (z :: Q ++ (R2 ++ B))))):=by rw [hrow]; simp
        have iz : (A ++ (P ++ x :: (z :: Q ++ (R2 ++ B))))[q]? = some x:=by
          rw [← List.append_assoc]; exact at_app' (by simp; omega)
        have ix : (A ++ (P ++ x :: (z :: Q ++ (R2 ++ B))))[q + 1]? = some z:=by
          have : A ++ (P ++ x :: (z :: Q ++ (R2 ++ B))) = (A ++ P ++ [x]) ++ z :: (Q ++ (R2 ++ B)):=by simp
          rw [this]; exact at_app' (by simp; omega)
        have sw : SWP (A ++ (P ++ x :: (z :: Q ++ (R2 ++ B)))) q (q + 1) = A ++ (P ++ z :: x :: (Q ++ (R2 ++ B))):=by
          have:=SWP_at (A ++ P) [] (Q ++ (R2 ++ B)) x z (i:=q) (j:=q + 1) (by simp; omega) (by simp; omega)
          simpa using this
        have i1:=mget iz
        have i2:=mget ix
        have em:=mset iz ix
        obtain ⟨w,ew⟩:=mget2 iz ix
        have hDl : (A ++ (P ++ x :: (z :: Q ++ (R2 ++ B)))).length = n:=by simp only [List.length_append,List.length_cons]; omega
        generalize hD : A ++ (P ++ x :: (z :: Q ++ (R2 ++ B))) = D at iz ix sw i1 i2 em ew hDl r2 hrow
        simp (maxSteps:=999999) only [E0,seval,-Int.reduceNatCast',NUM,SQU,h13',h10,h0,hd,hf,r2,i1,i2,ew,hDl,Nat.zero_add,Nat.zero_le,List.length_map,List.length_set,Int.toNat_natCast,(show ((q : Int) + 1).toNat = q + 1 by omega),(show (q : Int) < (i : Int) - 1 by omega),(show (0 : Int) ≤ q by omega),(show (0 : Int) ≤ (q : Int) + 1 by omega),(show (q : Int) < n by omega),(show (q : Int) + 1 < n by omega),i64_in (x:=(i : Int) - 1) (by unfold I64; omega),i64_in (x:=(q : Int) + 1) (by unfold I64; omega)] at hW
        subst hW
        rw [if_pos (by kernel_rfl)]
        refine rd_next (P ++ [z],Q) ?_ (show Q.length < (z :: Q).length by simp)
        simp (maxSteps:=999999) only [E0,seval,-Int.reduceNatCast',h10,h0,em,sw,hrow]
        refine ⟨by rw [← hPQ]; simp,?_,by rw [hq]; simp; omega,hnx⟩
        show upd (upd s.H.rows 2 _) 2 _ = _; rw [upd_upd,hrow,upd_upd]; simp only [List.append_assoc,List.cons_append,List.nil_append])
  simp (maxSteps:=999999) only [E0,seval,-Int.reduceNatCast',hd2]
  exact ⟨s2.H.next,by rw [← List.append_assoc,List.append_assoc,List.append_assoc,List.cons_append,← hrow2],hnx2⟩
end S
namespace S
theorem two_parts {L : List Qu} {y : Qu} {i : Nat} (hi : i ≤ L.length) (sL : QS L) (hI : ∀ x ∈ L,x.ix < y.ix) (k1 : 0 < i → ∀ x,L[i - 1]? = some x → ¬ QLT y x) (k2 : i < L.length → ∀ x,L[i]? = some x → QLT y x) :
    ∃ L1 L2,L = L1 ++ L2 ∧ L1.length = i ∧ QB L1 [y] ∧ QB [y] L2:=by
  obtain ⟨L1,L2,rfl,l1⟩:=part_at L i hi
  obtain ⟨s1,s2,_⟩:=QS_app.1 sL
  refine ⟨L1,L2,rfl,l1,QB_last s1 (by simp) fun u v hu hv => ?_,QB_last (by simp) s2 fun u v hu hv => ?_⟩
  · simp at hv; subst hv
    obtain ⟨p,q⟩:=getLast_at hu
    exact QLT.of_not (k1 (by omega) u (by rw [List.getElem?_append_left (by omega),← l1]; exact q)) (hI u (by simp [List.mem_of_getElem? q]))
  · simp at hu; subst hu
    obtain ⟨p,q⟩:=head_at hv
    exact k2 (by simp; omega) v (by rw [List.getElem?_append_right (by omega),l1,Nat.sub_self]; exact q)
theorem c_symr (A L B : List Qu) (y : Qu) (a m b n : Nat) (ha : a = A.length) (hm : m = a + L.length) (hb : b = m + 1) (h2 : 2 ≤ L.length) (sL : QS L) (hI : ∀ x ∈ L,x.ix < y.ix) (hn : n = (A ++ (L ++ (y :: B))).length) (hl : n ≤ 1000000) (H : Heap)
    (hr : H.rows 2 = some (RW (A ++ (L ++ (y :: B))))) :
    ∃ M,M.Perm (L ++ [y]) ∧ QS M ∧ ∃ k,callF G Tryz.prog pol 76 [QG n,I a,I m,I b,CF] H = some (.ret (.tup []),⟨upd H.rows 2 (some (RW (A ++ (M ++ B)))),k⟩) ∧ H.next ≤ k:=by
  simp only [List.length_append,List.length_cons] at hn
  have hDl : (A ++ (L ++ (y :: B))).length = n:=by simp only [List.length_append,List.length_cons]; omega
  have iy : (A ++ (L ++ (y :: B)))[m]? = some y:=by
    rw [← List.append_assoc]; exact at_app' (by simp; omega)
  have iL : ∀ k,k < L.length → (A ++ (L ++ (y :: B)))[a + k]? = L[k]?:=fun k hk => by
    rw [List.getElem?_append_right (by omega),show a + k - A.length = k by omega,List.getElem?_append_left hk]
  rw [callF_eq _ _ Tryz.func76 rfl Tryz.ntmps76 Tryz.results76 (by kernel_rfl) rfl (by exact Nat.le_of_ble_eq_true rfl)]
  simp (maxSteps:=999999) only [E0,seval,-Int.reduceNatCast',NUM,(show (b : Int) - m = 1 by omega),i64_in (x:=(m : Int) - a) (by unfold I64; omega),(show ¬ (m : Int) - a = 1 by omega)]
  generalize hL : W _ (.loop _) _ = L'
  obtain ⟨ex,s,rfl,rfl,i,hi1,hi2,k1,k2,h14,h0,h2',hd,hf,hrow,hnx⟩:=loop_at hL (α:=Nat × Nat) (fun p => p.2 - p.1)
    (fun s0 p s => a ≤ p.1 ∧ p.1 ≤ p.2 ∧ p.2 ≤ m ∧ (a < p.1 → ∀ x,L[p.1 - a - 1]? = some x → ¬ QLT y x) ∧ (p.2 < m → ∀ x,L[p.2 - a]? = some x → QLT y x) ∧ s.tmps 14 = I p.1 ∧ s.tmps 15 = I p.2 ∧ s.tmps 0 = QG n ∧ s.tmps 2 = I m ∧ s.tmps 4 = CF ∧ s.defers = [] ∧ s.fid = H.next ∧ s.H.rows = H.rows ∧ H.next ≤ s.H.next)
    (fun s0 ex s => ex = .exit 4 ∧ ∃ i,a ≤ i ∧ i ≤ m ∧ (a < i → ∀ x,L[i - a - 1]? = some x → ¬ QLT y x) ∧ (i < m → ∀ x,L[i - a]? = some x → QLT y x) ∧ s.tmps 14 = I i ∧ s.tmps 0 = QG n ∧ s.tmps 2 = I m ∧ s.defers = [] ∧ s.fid = H.next ∧ s.H.rows = H.rows ∧ H.next ≤ s.H.next) (a,m)
    (by simp (maxSteps:=999999) only [E0,seval,-Int.reduceNatCast']
        exact ⟨Nat.le_refl _,by omega,Nat.le_refl _,fun h => by omega,fun h => by omega,by omega⟩) (by
      rintro ⟨i,j⟩ s r hW ⟨q1,q2,q3,k1,k2,h14,h15,h0,h2',h4,hd,hf,hrow,hnx⟩
      dsimp only at q1 q2 q3 k1 k2 h14 h15
      by_cases hp : i < j
      rotate_left
      · simp (maxSteps:=999999) only [E0,seval,-Int.reduceNatCast',h14,h15,hd,hf,(show ¬ (i : Int) < j by omega)] at hW
        subst hW
        obtain rfl : i = j:=by omega
        refine rd_exit ⟨rfl,i,q1,q3,k1,k2,?_⟩
        simp (maxSteps:=999999) only [E0,seval,-Int.reduceNatCast',h14,h0,h2',hrow]
        exact hnx
      obtain ⟨h,hh⟩ : ∃ h,h = (i + j) / 2:=⟨_,rfl⟩
      have mu:=mid_u i j (by omega)
      rw [← hh] at mu
      have eL:=iL (h - a) (by omega)
      rw [show a + (h - a) = h by omega] at eL
      have ex : L[h - a]? = some (L[h - a]'(by omega)):=List.getElem?_eq_getElem _
      have hxy:=hI _ (List.getElem_mem (show h - a < L.length by omega))
      generalize L[h - a]'(by omega) = x at *
      rw [ex] at eL
      have r2 : s.H.rows 2 = some (RW (A ++ (L ++ (y :: B)))):=by rw [hrow]; exact hr
      have i1:=mget iy
      have i2:=mget eL
      generalize A ++ (L ++ (y :: B)) = D at *
      by_cases hc : x.r < y.r
      · have hcm : CMP y x < 0:=CMP_lt.2 hc
        simp (maxSteps:=999999) only [E0,seval,-Int.reduceNatCast',NUM,SQU,h14,h15,h0,h2',h4,hd,hf,r2,i1,i2,hDl,mu,c_cmp,hcm,Nat.zero_add,Nat.zero_le,List.length_map,Int.toNat_natCast,(show (i : Int) < j by omega),i64_in (x:=(i : Int) + j) (by unfold I64; omega),i64_in (x:=(h : Int)) (by unfold I64; omega),i64_in (x:=(h : Int) + 1) (by unfold I64; omega),(show (0 : Int) ≤ h by omega),(show (0 : Int) ≤ m by omega),(show (h : Int) < n by omega),(show (m : Int) < n by omega)] at hW
        subst hW
        refine rd_next (i,h) ?_ (show h - i < j - i by omega)
        simp (maxSteps:=999999) only [E0,seval,-Int.reduceNatCast',h14,h0,h2',h4,hrow]
        refine ⟨by omega,by omega,by omega,k1,fun _ z ez => ?_,hnx⟩
        rw [ex] at ez; cases ez; exact .inl hc
      · have hcm : ¬ CMP y x < 0:=fun h => hc (CMP_lt.1 h)
        simp (maxSteps:=999999) only [E0,seval,-Int.reduceNatCast',NUM,SQU,h14,h15,h0,h2',h4,hd,hf,r2,i1,i2,hDl,mu,c_cmp,hcm,Nat.zero_add,Nat.zero_le,List.length_map,Int.toNat_natCast,(show (i : Int) < j by omega),i64_in (x:=(i : Int) + j) (by unfold I64; omega),i64_in (x:=(h : Int)) (by unfold I64; omega),i64_in (x:=(h : Int) + 1) (by unfold I64; omega),(show (0 : Int) ≤ h by omega),(show (0 : Int) ≤ m by omega),(show (h : Int) < n by omega),(show (m : Int) < n by omega)] at hW
        subst hW
        refine rd_next (h + 1,j) ?_ (show j - (h + 1) < j - i by omega)
        simp (maxSteps:=999999) only [E0,seval,-Int.reduceNatCast',h15,h0,h2',h4,hrow]
        refine ⟨by omega,by omega,by omega,fun _ z ez => ?_,k2,by simp,hnx⟩
        rw [show h + 1 - a - 1 = h - a by omega,ex] at ez; cases ez
        exact fun hq => hc ((QLT_iff hxy).1 hq))
  obtain ⟨L1,L2,rfl,l1,b1,b2⟩:=two_parts (i:=i - a) (by omega) sL hI (fun h => k1 (by omega)) (fun h => k2 (by omega))
  rw [List.length_append] at hn hm
  refine ⟨L1 ++ y :: L2,?_,QS_ins sL b2 b1,?_⟩
  · rw [List.append_assoc]
    exact List.Perm.append_left L1 (List.perm_append_comm (l₁:=[y]))
  simp (maxSteps:=999999) only [E0,seval,-Int.reduceNatCast',h14,h0,h2',hd,hf]
  generalize hL2 : W _ (.loop _) _ = L2'
  obtain ⟨ex,s2,rfl,rfl,hrow2,hd2,hnx2⟩:=loop_at hL2 (α:=List Qu × List Qu) (fun p => p.1.length)
    (fun s0 p s => p.1 ++ p.2 = L2 ∧ s.H.rows = upd H.rows 2 (some (RW (A ++ (L1 ++ (p.1 ++ y :: (p.2 ++ B)))))) ∧ s.tmps 17 = I (a + L1.length + p.1.length) ∧ s.tmps 14 = I i ∧ s.tmps 0 = QG n ∧ s.defers = [] ∧ s.fid = H.next ∧ H.next ≤ s.H.next)
    (fun s0 ex s => ex = .exit 6 ∧ s.H.rows = upd H.rows 2 (some (RW (A ++ (L1 ++ (y :: (L2 ++ B)))))) ∧ s.defers = [] ∧ H.next ≤ s.H.next) (L2,[])
    (by simp (maxSteps:=999999) only [E0,seval,-Int.reduceNatCast',h14,h0]
        refine ⟨?_,by rw [hm]; simp; omega,hnx⟩
        rw [hrow,← List.append_assoc L1,← hr,upd_same]) (by
      rintro ⟨Q,P⟩ s r hW ⟨hPQ,hrow,h17,h14,h0,hd,hf,hnx⟩
      dsimp only at hPQ hrow h17
      have hlen : Q.length + P.length = L2.length:=by rw [← hPQ]; simp
      rcases List.eq_nil_or_concat Q with rfl | ⟨Q',z,rfl⟩
      · simp only [List.length_nil,List.nil_append,Int.add_zero,Int.natCast_zero] at hlen hPQ h17
        simp (maxSteps:=999999) only [E0,seval,-Int.reduceNatCast',h17,h14,hd,hf,(show ¬ (i : Int) < (a : Int) + L1.length by omega)] at hW
        subst hW
        subst hPQ
        refine rd_exit ⟨rfl,?_⟩
        simp (maxSteps:=999999) only [E0,seval,-Int.reduceNatCast',hrow]
        simpa using hnx
      · rw [List.concat_eq_append] at *
        simp only [List.length_append,List.length_cons,List.length_nil,List.append_assoc,List.cons_append,List.nil_append] at *
        obtain ⟨q,hq⟩ : ∃ q,q = a + L1.length + Q'.length:=⟨_,rfl⟩
        have h17' : s.tmps 17 = I ((q : Int) + 1):=by rw [h17]; congr 1; omega
        have r2 : s.H.rows 2 = some (RW (A ++ (L1 ++ (Q' ++ z :: y :: (P ++ B))))):=by rw [hrow]; simp
        have ez : (A ++ (L1 ++ (Q' ++ z :: y :: (P ++ B))))[q]? = some z:=by
          rw [← List.append_assoc,← List.append_assoc]; exact at_app' (by simp; omega)
        have ey : (A ++ (L1 ++ (Q' ++ z :: y :: (P ++ B))))[q + 1]? = some y:=by
          have : A ++ (L1 ++ (Q' ++ z :: y :: (P ++ B))) = (A ++ L1 ++ Q' ++ [z]) ++ y :: (P ++ B):=by simp
          rw [this]; exact at_app' (by simp; omega)
        have sw : SWP (A ++ (L1 ++ (Q' ++ z :: y :: (P ++ B)))) (q + 1) q = A ++ (L1 ++ (Q' ++ y :: z :: (P ++ B))):=by
          have:=SWP_at' (A ++ L1 ++ Q') [] (P ++ B) z y (i:=q) (j:=q + 1) (by simp; omega) (by simp; omega)
          simpa using this
        have i1:=mget ez
        have i2:=mget ey
        have em:=mset ey ez
        obtain ⟨w,ew⟩:=mget2 ey ez
        have hDl : (A ++ (L1 ++ (Q' ++ z :: y :: (P ++ B)))).length = n:=by simp only [List.length_append,List.length_cons]; omega
        generalize hD : A ++ (L1 ++ (Q' ++ z :: y :: (P ++ B))) = D at ez ey sw i1 i2 em ew hDl r2 hrow
        simp (maxSteps:=999999) only [E0,seval,-Int.reduceNatCast',NUM,SQU,h17',h14,h0,hd,hf,r2,i1,i2,ew,hDl,Nat.zero_add,Nat.zero_le,List.length_map,List.length_set,Int.toNat_natCast,Int.add_sub_cancel,(show ((q : Int) + 1).toNat = q + 1 by omega),(show (i : Int) < (q : Int) + 1 by omega),(show (0 : Int) ≤ q by omega),(show (0 : Int) ≤ (q : Int) + 1 by omega),(show (q : Int) < n by omega),(show (q : Int) + 1 < n by omega),i64_in (x:=(q : Int)) (by unfold I64; omega)] at hW
        subst hW
        rw [if_pos (by kernel_rfl)]
        refine rd_next (Q',z :: P) ?_ (by simp)
        simp (maxSteps:=999999) only [E0,seval,-Int.reduceNatCast',h14,h0,em,sw,hrow]
        refine ⟨hPQ,?_,by rw [hq]; simp,hnx⟩
        show upd (upd s.H.rows 2 _) 2 _ = _; rw [upd_upd,hrow,upd_upd])
  simp (maxSteps:=999999) only [E0,seval,-Int.reduceNatCast',hd2]
  exact ⟨s2.H.next,by rw [List.append_assoc,List.cons_append,← hrow2],hnx2⟩
end S
namespace S
def SYMP (sz : Nat) : Prop:=∀ (A L R B : List Qu) (a m b n : Nat) (ha : a = A.length) (hm : m = a + L.length) (hb : b = m + R.length) (hlL : 0 < L.length) (hlR : 0 < R.length) (sL : QS L) (sR : QS R) (hI : QI L R)
    (hn : n = (A ++ (L ++ (R ++ B))).length) (hl : n ≤ 1000000) (hsz : L.length + R.length ≤ sz) (H : Heap) (hr : H.rows 2 = some (RW (A ++ (L ++ (R ++ B))))),
    ∃ M,M.Perm (L ++ R) ∧ QS M ∧ ∃ k,callF G Tryz.prog pol 76 [QG n,I a,I m,I b,CF] H = some (.ret (.tup []),⟨upd H.rows 2 (some (RW (A ++ (M ++ B)))),k⟩) ∧ H.next ≤ k
set_option maxHeartbeats 2000000 in
theorem c_symS (sz : Nat) (ih : SYMP sz) : SYMP (sz + 1):=by
    intro A L R B a m b n ha hm hb hlL hlR sL sR hI hn hl hsz H hr
    by_cases o1 : L.length = 1
    · obtain ⟨x,rfl⟩:=List.length_eq_one_iff.1 o1
      exact c_sym1 A R B x a m b n ha hm hb sR (fun y hy => hI x (by simp) y hy) hn hl H hr
    by_cases o2 : R.length = 1
    · obtain ⟨y,rfl⟩:=List.length_eq_one_iff.1 o2
      exact c_symr A L B y a m b n ha hm hb (by omega) sL (fun x hx => hI x hx y (by simp)) hn hl H hr
    have iL : ∀ c,a ≤ c → c < m → ∃ x ∈ L,(A ++ (L ++ (R ++ B)))[c]? = some x:=fun c h1 h2 =>
      ⟨L[c - a]'(by omega),List.getElem_mem _,by rw [List.getElem?_append_right (by omega),List.getElem?_append_left (by omega),List.getElem?_eq_getElem (by omega)]; congr 2; omega⟩
    have iR : ∀ c,m ≤ c → c < b → ∃ y ∈ R,(A ++ (L ++ (R ++ B)))[c]? = some y:=fun c h1 h2 =>
      ⟨R[c - m]'(by omega),List.getElem_mem _,by rw [List.getElem?_append_right (by omega),List.getElem?_append_right (by omega),List.getElem?_append_left (by omega),List.getElem?_eq_getElem (by omega)]; congr 2; omega⟩
    have hDl : (A ++ (L ++ (R ++ B))).length = n:=hn.symm
    simp only [List.length_append] at hn
    obtain ⟨mid,hmid⟩ : ∃ mid,mid = (a + b) / 2:=⟨_,rfl⟩
    obtain ⟨nn,hnn⟩ : ∃ nn,nn = mid + m:=⟨_,rfl⟩
    obtain ⟨pp,hpp⟩ : ∃ pp,pp = nn - 1:=⟨_,rfl⟩
    have mab:=mid_u a b (by omega)
    rw [← hmid] at mab
    obtain ⟨D,hD⟩ : ∃ D,D = A ++ (L ++ (R ++ B)):=⟨_,rfl⟩
    rw [← hD] at iL iR hDl hr
    by_cases hmm : mid < m
    · obtain ⟨st0,hst⟩ : ∃ st0,st0 = mid + m - b:=⟨_,rfl⟩
      rw [callF_eq _ _ Tryz.func76 rfl Tryz.ntmps76 Tryz.results76 (by kernel_rfl) rfl (by exact Nat.le_of_ble_eq_true rfl)]
      simp (maxSteps:=999999) only [E0,seval,-Int.reduceNatCast',NUM,i64_in (x:=(m : Int) - a) (by unfold I64; omega),i64_in (x:=(b : Int) - m) (by unfold I64; omega),(show ¬ (m : Int) - a = 1 by omega),(show ¬ (b : Int) - m = 1 by omega),i64_in (x:=(a : Int) + b) (by unfold I64; omega),mab,i64_in (x:=(mid : Int)) (by unfold I64; omega),(show (mid : Int) + m = nn by omega),i64_in (x:=(nn : Int)) (by unfold I64; omega),(show (nn : Int) - 1 = pp by omega),i64_in (x:=(pp : Int)) (by unfold I64; omega),(show (mid : Int) < m by omega),(show (nn : Int) - b = st0 by omega),i64_in (x:=(st0 : Int)) (by unfold I64; omega)]
      generalize hL : W _ (.loop _) _ = L'
      obtain ⟨ex,s,rfl,rfl,st,b1,b2,k1,k2,h20,h19,h18,h0,h1,h2,h3,h4,hd,hf,hrow,hnx⟩:=loop_at hL (α:=Nat × Nat) (fun p => p.2 - p.1)
        (fun s0 p s => st0 ≤ p.1 ∧ p.1 ≤ p.2 ∧ p.2 ≤ mid ∧ (st0 < p.1 → ∀ x y,D[p.1 - 1]? = some x → D[mid + m - p.1]? = some y → ¬ QLT y x) ∧ (p.2 < mid → ∀ x y,D[p.2]? = some x → D[mid + m - 1 - p.2]? = some y → QLT y x) ∧
          s.tmps 20 = I p.1 ∧ s.tmps 21 = I p.2 ∧ s.tmps 22 = I pp ∧ s.tmps 19 = I nn ∧ s.tmps 18 = I mid ∧ s.tmps 0 = QG n ∧ s.tmps 1 = I a ∧ s.tmps 2 = I m ∧ s.tmps 3 = I b ∧ s.tmps 4 = CF ∧ s.defers = [] ∧ s.fid = H.next ∧ s.H.rows = H.rows ∧ H.next ≤ s.H.next)
        (fun s0 ex s => ex = .exit 8 ∧ ∃ st,st0 ≤ st ∧ st ≤ mid ∧ (st0 < st → ∀ x y,D[st - 1]? = some x → D[mid + m - st]? = some y → ¬ QLT y x) ∧ (st < mid → ∀ x y,D[st]? = some x → D[mid + m - 1 - st]? = some y → QLT y x) ∧
          s.tmps 20 = I st ∧ s.tmps 19 = I nn ∧ s.tmps 18 = I mid ∧ s.tmps 0 = QG n ∧ s.tmps 1 = I a ∧ s.tmps 2 = I m ∧ s.tmps 3 = I b ∧ s.tmps 4 = CF ∧ s.defers = [] ∧ s.fid = H.next ∧ s.H.rows = H.rows ∧ H.next ≤ s.H.next) (st0,mid)
        (by simp (maxSteps:=999999) only [E0,seval,-Int.reduceNatCast']
            exact ⟨Nat.le_refl _,by omega,Nat.le_refl _,fun h => by omega,fun h => by omega,by omega⟩) (by
          rintro ⟨i,j⟩ s r hW ⟨q1,q2,q3,k1,k2,h20,h21,h22,h19,h18,h0,h1,h2,h3,h4,hd,hf,hrow,hnx⟩
          dsimp only at q1 q2 q3 k1 k2 h20 h21
          by_cases hp : i < j
          rotate_left
          · simp (maxSteps:=999999) only [E0,seval,-Int.reduceNatCast',h20,h21,hd,hf,(show ¬ (i : Int) < j by omega)] at hW
            subst hW
            obtain rfl : i = j:=by omega
            refine rd_exit ⟨rfl,i,q1,q3,k1,k2,?_⟩
            simp (maxSteps:=999999) only [E0,seval,-Int.reduceNatCast',h20,h19,h18,h0,h1,h2,h3,h4,hrow]
            exact hnx
          obtain ⟨h,hh⟩ : ∃ h,h = (i + j) / 2:=⟨_,rfl⟩
          have mu:=mid_u i j (by omega)
          rw [← hh] at mu
          obtain ⟨x,mx,ex⟩:=iL h (by omega) (by omega)
          obtain ⟨g,hg⟩ : ∃ g,g = mid + m - 1 - h:=⟨_,rfl⟩
          obtain ⟨y,my,ey⟩:=iR g (by omega) (by omega)
          have hxy:=hI x mx y my
          have r2 : s.H.rows 2 = some (RW D):=by rw [hrow]; exact hr
          have i1:=mget ex
          have i2:=mget ey
          by_cases hc : x.r < y.r
          · have hcm : CMP y x < 0:=CMP_lt.2 hc
            simp (maxSteps:=999999) only [E0,seval,-Int.reduceNatCast',NUM,SQU,h20,h21,h22,h19,h18,h0,h1,h2,h3,h4,hd,hf,r2,i1,i2,hDl,mu,c_cmp,hcm,Nat.zero_add,Nat.zero_le,List.length_map,Int.toNat_natCast,(show (i : Int) < j by omega),i64_in (x:=(i : Int) + j) (by unfold I64; omega),i64_in (x:=(h : Int)) (by unfold I64; omega),i64_in (x:=(h : Int) + 1) (by unfold I64; omega),(show (pp : Int) - h = g by omega),i64_in (x:=(g : Int)) (by unfold I64; omega),(show (0 : Int) ≤ h by omega),(show (0 : Int) ≤ g by omega),(show (h : Int) < n by omega),(show (g : Int) < n by omega)] at hW
            subst hW
            refine rd_next (i,h) ?_ (show h - i < j - i by omega)
            simp (maxSteps:=999999) only [E0,seval,-Int.reduceNatCast',h20,h22,h19,h18,h0,h1,h2,h3,h4,hrow]
            refine ⟨by omega,by omega,by omega,k1,fun _ u v eu ev => ?_,hnx⟩
            rw [ex] at eu; cases eu
            rw [← hg,ey] at ev; cases ev; exact .inl hc
          · have hcm : ¬ CMP y x < 0:=fun h => hc (CMP_lt.1 h)
            simp (maxSteps:=999999) only [E0,seval,-Int.reduceNatCast',NUM,SQU,h20,h21,h22,h19,h18,h0,h1,h2,h3,h4,hd,hf,r2,i1,i2,hDl,mu,c_cmp,hcm,Nat.zero_add,Nat.zero_le,List.length_map,Int.toNat_natCast,(show (i : Int) < j by omega),i64_in (x:=(i : Int) + j) (by unfold I64; omega),i64_in (x:=(h : Int)) (by unfold I64; omega),i64_in (x:=(h : Int) + 1) (by unfold I64; omega),(show (pp : Int) - h = g by omega),i64_in (x:=(g : Int)) (by unfold I64; omega),(show (0 : Int) ≤ h by omega),(show (0 : Int) ≤ g by omega),(show (h : Int) < n by omega),(show (g : Int) < n by omega)] at hW
            subst hW
            refine rd_next (h + 1,j) ?_ (show j - (h + 1) < j - i by omega)
            simp (maxSteps:=999999) only [E0,seval,-Int.reduceNatCast',h21,h22,h19,h18,h0,h1,h2,h3,h4,hrow]
            refine ⟨by omega,by omega,by omega,fun _ u v eu ev => ?_,k2,by simp,hnx⟩
            try rw [show h + 1 - 1 = h by omega] at eu
            rw [ex] at eu; cases eu
            rw [show mid + m - (h + 1) = g by omega,ey] at ev; cases ev
            exact fun hq => hc ((QLT_iff hxy).1 hq))
      obtain ⟨e,he⟩ : ∃ e,e = mid + m - st:=⟨_,rfl⟩
      subst hD
      obtain ⟨L1,L2,R1,R2,rfl,rfl,z1,z2,z3,qb⟩:=sym_parts ha hm hb hmid sL sR hI (.inl ⟨by omega,hst,rfl⟩) b1 b2 he k1 k2
      obtain ⟨sL1,sL2,_⟩:=QS_app.1 sL
      obtain ⟨sR1,sR2,_⟩:=QS_app.1 sR
      simp only [List.length_append] at hm hb hn hlL hlR hsz
      obtain ⟨H1,g1,n1,f1,f1'⟩ : ∃ H1 : Heap,H1.rows = upd H.rows 2 (some (RW (A ++ (L1 ++ (R1 ++ (L2 ++ (R2 ++ B))))))) ∧ s.H.next ≤ H1.next ∧ (0 < L2.length ∧ 0 < R1.length → callF G Tryz.prog pol 88 [QG n,I st,I m,I e,CF] s.H = some (.ret (.tup []),H1)) ∧ (¬ (0 < L2.length ∧ 0 < R1.length) → H1 = s.H):=by
        by_cases c : 0 < L2.length ∧ 0 < R1.length
        · obtain ⟨k,cs,hk⟩:=c_rotate (A ++ L1) L2 R1 (R2 ++ B) st m e n (by simp; omega) (by omega) (by omega) (by simp; omega) c.1 c.2 hl s.H (by rw [hrow,hr]; simp)
          exact ⟨_,by rw [hrow]; simp,hk,fun _ => cs,fun h => absurd c h⟩
        · refine ⟨s.H,?_,Nat.le_refl _,fun h => absurd h c,fun _ => rfl⟩
          have : L2 = [] ∨ R1 = []:=by
            rcases Nat.eq_zero_or_pos L2.length with h | h
            · exact .inl (List.eq_nil_of_length_eq_zero h)
            · exact .inr (List.eq_nil_of_length_eq_zero (by omega))
          have e1 : A ++ (L1 ++ (R1 ++ (L2 ++ (R2 ++ B)))) = A ++ (L1 ++ L2 ++ (R1 ++ R2 ++ B)):=by rcases this with rfl | rfl <;> simp
          rw [e1,hrow,← hr,upd_same]
      obtain ⟨M1,p1,s1,H2,g2,n2,f2,f2'⟩ : ∃ M1,M1.Perm (L1 ++ R1) ∧ QS M1 ∧ ∃ H2 : Heap,H2.rows = upd H.rows 2 (some (RW (A ++ (M1 ++ (L2 ++ (R2 ++ B)))))) ∧ H1.next ≤ H2.next ∧ (0 < L1.length ∧ 0 < R1.length → callF G Tryz.prog pol 76 [QG n,I a,I st,I mid,CF] H1 = some (.ret (.tup []),H2)) ∧ (¬ (0 < L1.length ∧ 0 < R1.length) → H2 = H1):=by
        by_cases c : 0 < L1.length ∧ 0 < R1.length
        · obtain ⟨M1,p1,s1,k,cs,hk⟩:=ih A L1 R1 (L2 ++ (R2 ++ B)) a st mid n ha z1 (by omega) c.1 c.2 sL1 sR1 (fun u hu v hv => hI u (by simp [hu]) v (by simp [hv])) (by simp; omega) hl (by omega) H1 (by rw [g1]; simp)
          exact ⟨M1,p1,s1,_,by rw [g1,upd_upd],hk,fun _ => cs,fun h => absurd c h⟩
        · have : L1 = [] ∨ R1 = []:=by
            rcases Nat.eq_zero_or_pos L1.length with h | h
            · exact .inl (List.eq_nil_of_length_eq_zero h)
            · exact .inr (List.eq_nil_of_length_eq_zero (by omega))
          refine ⟨L1 ++ R1,.refl _,by rcases this with rfl | rfl <;> simpa,H1,by rw [g1]; simp,Nat.le_refl _,fun h => absurd h c,fun _ => rfl⟩
      have lm1:=p1.length_eq
      rw [List.length_append] at lm1
      obtain ⟨M2,p2,s2,H3,g3,n3,f3,f3'⟩ : ∃ M2,M2.Perm (L2 ++ R2) ∧ QS M2 ∧ ∃ H3 : Heap,H3.rows = upd H.rows 2 (some (RW (A ++ (M1 ++ (M2 ++ B))))) ∧ H2.next ≤ H3.next ∧ (0 < L2.length ∧ 0 < R2.length → callF G Tryz.prog pol 76 [QG n,I mid,I e,I b,CF] H2 = some (.ret (.tup []),H3)) ∧ (¬ (0 < L2.length ∧ 0 < R2.length) → H3 = H2):=by
        by_cases c : 0 < L2.length ∧ 0 < R2.length
        · obtain ⟨M2,p2,s2,k,cs,hk⟩:=ih (A ++ M1) L2 R2 B mid e b n (by simp; omega) (by omega) (by omega) c.1 c.2 sL2 sR2 (fun u hu v hv => hI u (by simp [hu]) v (by simp [hv])) (by simp; omega) hl (by omega) H2 (by rw [g2]; simp)
          exact ⟨M2,p2,s2,_,by rw [g2,upd_upd,List.append_assoc],hk,fun _ => cs,fun h => absurd c h⟩
        · have : L2 = [] ∨ R2 = []:=by
            rcases Nat.eq_zero_or_pos L2.length with h | h
            · exact .inl (List.eq_nil_of_length_eq_zero h)
            · exact .inr (List.eq_nil_of_length_eq_zero (by omega))
          refine ⟨L2 ++ R2,.refl _,by rcases this with rfl | rfl <;> simpa,H2,by rw [g2]; simp,Nat.le_refl _,fun h => absurd h c,fun _ => rfl⟩
      refine ⟨M1 ++ M2,?_,QS_app.2 ⟨s1,s2,qb.perm p1 p2⟩,H3.next,?_,by omega⟩
      · refine (p1.append p2).trans ?_
        rw [List.append_assoc,List.append_assoc]
        refine List.Perm.append_left L1 ?_
        rw [← List.append_assoc,← List.append_assoc]
        exact List.Perm.append_right R2 List.perm_append_comm
      have h24 : (nn : Int) - st = e:=by omega
      have w24:=i64_in (x:=(e : Int)) (by unfold I64; omega)
      rw [List.append_assoc M1,← g3]
      clear k1 k2 g1 g2 g3 hL
      rcases Nat.eq_zero_or_pos L1.length with x1 | x1 <;> rcases Nat.eq_zero_or_pos R1.length with y1 | y1 <;> rcases Nat.eq_zero_or_pos L2.length with x2 | x2 <;> rcases Nat.eq_zero_or_pos R2.length with y2 | y2
      · exfalso; omega
      · exfalso; omega
      · exfalso; omega
      · exfalso; omega
      · exfalso; omega
      · obtain rfl:=f1' (by omega)
        obtain rfl:=f2' (by omega)
        obtain rfl:=f3' (by omega)
        simp (maxSteps:=999999) only [E0,seval,-Int.reduceNatCast',NUM,h20,h19,h18,h0,h1,h2,h3,h4,hd,hf,h24,w24,(show ¬ (st : Int) < m by omega),(show (m : Int) < e by omega),(show ¬ (a : Int) < st by omega),(show (st : Int) < mid by omega),(show ¬ (mid : Int) < e by omega),(show (e : Int) < b by omega)]
      · have cs1:=f1 ⟨x2,y1⟩
        obtain rfl:=f2' (by omega)
        obtain rfl:=f3' (by omega)
        simp (maxSteps:=999999) only [E0,seval,-Int.reduceNatCast',NUM,h20,h19,h18,h0,h1,h2,h3,h4,hd,hf,h24,w24,(show (st : Int) < m by omega),(show (m : Int) < e by omega),(show ¬ (a : Int) < st by omega),(show (st : Int) < mid by omega),(show (mid : Int) < e by omega),(show ¬ (e : Int) < b by omega),cs1]
      · have cs1:=f1 ⟨x2,y1⟩
        obtain rfl:=f2' (by omega)
        have cs3:=f3 ⟨x2,y2⟩
        simp (maxSteps:=999999) only [E0,seval,-Int.reduceNatCast',NUM,h20,h19,h18,h0,h1,h2,h3,h4,hd,hf,h24,w24,(show (st : Int) < m by omega),(show (m : Int) < e by omega),(show ¬ (a : Int) < st by omega),(show (st : Int) < mid by omega),(show (mid : Int) < e by omega),(show (e : Int) < b by omega),cs1,cs3]
      · exfalso; omega
      · obtain rfl:=f1' (by omega)
        obtain rfl:=f2' (by omega)
        obtain rfl:=f3' (by omega)
        simp (maxSteps:=999999) only [E0,seval,-Int.reduceNatCast',NUM,h20,h19,h18,h0,h1,h2,h3,h4,hd,hf,h24,w24,(show ¬ (st : Int) < m by omega),(show ¬ (m : Int) < e by omega),(show (a : Int) < st by omega),(show ¬ (st : Int) < mid by omega),(show ¬ (mid : Int) < e by omega),(show (e : Int) < b by omega)]
      · obtain rfl:=f1' (by omega)
        obtain rfl:=f2' (by omega)
        obtain rfl:=f3' (by omega)
        simp (maxSteps:=999999) only [E0,seval,-Int.reduceNatCast',NUM,h20,h19,h18,h0,h1,h2,h3,h4,hd,hf,h24,w24,(show (st : Int) < m by omega),(show ¬ (m : Int) < e by omega),(show (a : Int) < st by omega),(show ¬ (st : Int) < mid by omega),(show (mid : Int) < e by omega),(show ¬ (e : Int) < b by omega)]
      · obtain rfl:=f1' (by omega)
        obtain rfl:=f2' (by omega)
        have cs3:=f3 ⟨x2,y2⟩
        simp (maxSteps:=999999) only [E0,seval,-Int.reduceNatCast',NUM,h20,h19,h18,h0,h1,h2,h3,h4,hd,hf,h24,w24,(show (st : Int) < m by omega),(show ¬ (m : Int) < e by omega),(show (a : Int) < st by omega),(show ¬ (st : Int) < mid by omega),(show (mid : Int) < e by omega),(show (e : Int) < b by omega),cs3]
      · exfalso; omega
      · obtain rfl:=f1' (by omega)
        have cs2:=f2 ⟨x1,y1⟩
        obtain rfl:=f3' (by omega)
        simp (maxSteps:=999999) only [E0,seval,-Int.reduceNatCast',NUM,h20,h19,h18,h0,h1,h2,h3,h4,hd,hf,h24,w24,(show ¬ (st : Int) < m by omega),(show (m : Int) < e by omega),(show (a : Int) < st by omega),(show (st : Int) < mid by omega),(show ¬ (mid : Int) < e by omega),(show (e : Int) < b by omega),cs2]
      · have cs1:=f1 ⟨x2,y1⟩
        have cs2:=f2 ⟨x1,y1⟩
        obtain rfl:=f3' (by omega)
        simp (maxSteps:=999999) only [E0,seval,-Int.reduceNatCast',NUM,h20,h19,h18,h0,h1,h2,h3,h4,hd,hf,h24,w24,(show (st : Int) < m by omega),(show (m : Int) < e by omega),(show (a : Int) < st by omega),(show (st : Int) < mid by omega),(show (mid : Int) < e by omega),(show ¬ (e : Int) < b by omega),cs1,cs2]
      · have cs1:=f1 ⟨x2,y1⟩
        have cs2:=f2 ⟨x1,y1⟩
        have cs3:=f3 ⟨x2,y2⟩
        simp (maxSteps:=999999) only [E0,seval,-Int.reduceNatCast',NUM,h20,h19,h18,h0,h1,h2,h3,h4,hd,hf,h24,w24,(show (st : Int) < m by omega),(show (m : Int) < e by omega),(show (a : Int) < st by omega),(show (st : Int) < mid by omega),(show (mid : Int) < e by omega),(show (e : Int) < b by omega),cs1,cs2,cs3]
    · rw [callF_eq _ _ Tryz.func76 rfl Tryz.ntmps76 Tryz.results76 (by kernel_rfl) rfl (by exact Nat.le_of_ble_eq_true rfl)]
      simp (maxSteps:=999999) only [E0,seval,-Int.reduceNatCast',NUM,i64_in (x:=(m : Int) - a) (by unfold I64; omega),i64_in (x:=(b : Int) - m) (by unfold I64; omega),(show ¬ (m : Int) - a = 1 by omega),(show ¬ (b : Int) - m = 1 by omega),i64_in (x:=(a : Int) + b) (by unfold I64; omega),mab,i64_in (x:=(mid : Int)) (by unfold I64; omega),(show (mid : Int) + m = nn by omega),i64_in (x:=(nn : Int)) (by unfold I64; omega),(show (nn : Int) - 1 = pp by omega),i64_in (x:=(pp : Int)) (by unfold I64; omega),(show ¬ (mid : Int) < m by omega)]
      generalize hL : W _ (.loop _) _ = L'
      obtain ⟨ex,s,rfl,rfl,st,b1,b2,k1,k2,h20,h19,h18,h0,h1,h2,h3,h4,hd,hf,hrow,hnx⟩:=loop_at hL (α:=Nat × Nat) (fun p => p.2 - p.1)
        (fun s0 p s => a ≤ p.1 ∧ p.1 ≤ p.2 ∧ p.2 ≤ m ∧ (a < p.1 → ∀ x y,D[p.1 - 1]? = some x → D[mid + m - p.1]? = some y → ¬ QLT y x) ∧ (p.2 < m → ∀ x y,D[p.2]? = some x → D[mid + m - 1 - p.2]? = some y → QLT y x) ∧
          s.tmps 20 = I p.1 ∧ s.tmps 21 = I p.2 ∧ s.tmps 22 = I pp ∧ s.tmps 19 = I nn ∧ s.tmps 18 = I mid ∧ s.tmps 0 = QG n ∧ s.tmps 1 = I a ∧ s.tmps 2 = I m ∧ s.tmps 3 = I b ∧ s.tmps 4 = CF ∧ s.defers = [] ∧ s.fid = H.next ∧ s.H.rows = H.rows ∧ H.next ≤ s.H.next)
        (fun s0 ex s => ex = .exit 8 ∧ ∃ st,a ≤ st ∧ st ≤ m ∧ (a < st → ∀ x y,D[st - 1]? = some x → D[mid + m - st]? = some y → ¬ QLT y x) ∧ (st < m → ∀ x y,D[st]? = some x → D[mid + m - 1 - st]? = some y → QLT y x) ∧
          s.tmps 20 = I st ∧ s.tmps 19 = I nn ∧ s.tmps 18 = I mid ∧ s.tmps 0 = QG n ∧ s.tmps 1 = I a ∧ s.tmps 2 = I m ∧ s.tmps 3 = I b ∧ s.tmps 4 = CF ∧ s.defers = [] ∧ s.fid = H.next ∧ s.H.rows = H.rows ∧ H.next ≤ s.H.next) (a,m)
        (by simp (maxSteps:=999999) only [E0,seval,-Int.reduceNatCast']
            exact ⟨Nat.le_refl _,by omega,Nat.le_refl _,fun h => by omega,fun h => by omega,by omega⟩) (by
          rintro ⟨i,j⟩ s r hW ⟨q1,q2,q3,k1,k2,h20,h21,h22,h19,h18,h0,h1,h2,h3,h4,hd,hf,hrow,hnx⟩
          dsimp only at q1 q2 q3 k1 k2 h20 h21
          by_cases hp : i < j
          rotate_left
          · simp (maxSteps:=999999) only [E0,seval,-Int.reduceNatCast',h20,h21,hd,hf,(show ¬ (i : Int) < j by omega)] at hW
            subst hW
            obtain rfl : i = j:=by omega
            refine rd_exit ⟨rfl,i,q1,q3,k1,k2,?_⟩
            simp (maxSteps:=999999) only [E0,seval,-Int.reduceNatCast',h20,h19,h18,h0,h1,h2,h3,h4,hrow]
            exact hnx
          obtain ⟨h,hh⟩ : ∃ h,h = (i + j) / 2:=⟨_,rfl⟩
          have mu:=mid_u i j (by omega)
          rw [← hh] at mu
          obtain ⟨x,mx,ex⟩:=iL h (by omega) (by omega)
          obtain ⟨g,hg⟩ : ∃ g,g = mid + m - 1 - h:=⟨_,rfl⟩
          obtain ⟨y,my,ey⟩:=iR g (by omega) (by omega)
          have hxy:=hI x mx y my
          have r2 : s.H.rows 2 = some (RW D):=by rw [hrow]; exact hr
          have i1:=mget ex
          have i2:=mget ey
          by_cases hc : x.r < y.r
          · have hcm : CMP y x < 0:=CMP_lt.2 hc
            simp (maxSteps:=999999) only [E0,seval,-Int.reduceNatCast',NUM,SQU,h20,h21,h22,h19,h18,h0,h1,h2,h3,h4,hd,hf,r2,i1,i2,hDl,mu,c_cmp,hcm,Nat.zero_add,Nat.zero_le,List.length_map,Int.toNat_natCast,(show (i : Int) < j by omega),i64_in (x:=(i : Int) + j) (by unfold I64; omega),i64_in (x:=(h : Int)) (by unfold I64; omega),i64_in (x:=(h : Int) + 1) (by unfold I64; omega),(show (pp : Int) - h = g by omega),i64_in (x:=(g : Int)) (by unfold I64; omega),(show (0 : Int) ≤ h by omega),(show (0 : Int) ≤ g by omega),(show (h : Int) < n by omega),(show (g : Int) < n by omega)] at hW
            subst hW
            refine rd_next (i,h) ?_ (show h - i < j - i by omega)
            simp (maxSteps:=999999) only [E0,seval,-Int.reduceNatCast',h20,h22,h19,h18,h0,h1,h2,h3,h4,hrow]
            refine ⟨by omega,by omega,by omega,k1,fun _ u v eu ev => ?_,hnx⟩
            rw [ex] at eu; cases eu
            rw [← hg,ey] at ev; cases ev; exact .inl hc
          · have hcm : ¬ CMP y x < 0:=fun h => hc (CMP_lt.1 h)
            simp (maxSteps:=999999) only [E0,seval,-Int.reduceNatCast',NUM,SQU,h20,h21,h22,h19,h18,h0,h1,h2,h3,h4,hd,hf,r2,i1,i2,hDl,mu,c_cmp,hcm,Nat.zero_add,Nat.zero_le,List.length_map,Int.toNat_natCast,(show (i : Int) < j by omega),i64_in (x:=(i : Int) + j) (by unfold I64; omega),i64_in (x:=(h : Int)) (by unfold I64; omega),i64_in (x:=(h : Int) + 1) (by unfold I64; omega),(show (pp : Int) - h = g by omega),i64_in (x:=(g : Int)) (by unfold I64; omega),(show (0 : Int) ≤ h by omega),(show (0 : Int) ≤ g by omega),(show (h : Int) < n by omega),(show (g : Int) < n by omega)] at hW
            subst hW
            refine rd_next (h + 1,j) ?_ (show j - (h + 1) < j - i by omega)
            simp (maxSteps:=999999) only [E0,seval,-Int.reduceNatCast',h21,h22,h19,h18,h0,h1,h2,h3,h4,hrow]
            refine ⟨by omega,by omega,by omega,fun _ u v eu ev => ?_,k2,by simp,hnx⟩
            try rw [show h + 1 - 1 = h by omega] at eu
            rw [ex] at eu; cases eu
            rw [show mid + m - (h + 1) = g by omega,ey] at ev; cases ev
            exact fun hq => hc ((QLT_iff hxy).1 hq))
      obtain ⟨e,he⟩ : ∃ e,e = mid + m - st:=⟨_,rfl⟩
      subst hD
      obtain ⟨L1,L2,R1,R2,rfl,rfl,z1,z2,z3,qb⟩:=sym_parts ha hm hb hmid sL sR hI (.inr ⟨by omega,rfl,rfl⟩) b1 b2 he k1 k2
      obtain ⟨sL1,sL2,_⟩:=QS_app.1 sL
      obtain ⟨sR1,sR2,_⟩:=QS_app.1 sR
      simp only [List.length_append] at hm hb hn hlL hlR hsz
      obtain ⟨H1,g1,n1,f1,f1'⟩ : ∃ H1 : Heap,H1.rows = upd H.rows 2 (some (RW (A ++ (L1 ++ (R1 ++ (L2 ++ (R2 ++ B))))))) ∧ s.H.next ≤ H1.next ∧ (0 < L2.length ∧ 0 < R1.length → callF G Tryz.prog pol 88 [QG n,I st,I m,I e,CF] s.H = some (.ret (.tup []),H1)) ∧ (¬ (0 < L2.length ∧ 0 < R1.length) → H1 = s.H):=by
        by_cases c : 0 < L2.length ∧ 0 < R1.length
        · obtain ⟨k,cs,hk⟩:=c_rotate (A ++ L1) L2 R1 (R2 ++ B) st m e n (by simp; omega) (by omega) (by omega) (by simp; omega) c.1 c.2 hl s.H (by rw [hrow,hr]; simp)
          exact ⟨_,by rw [hrow]; simp,hk,fun _ => cs,fun h => absurd c h⟩
        · refine ⟨s.H,?_,Nat.le_refl _,fun h => absurd h c,fun _ => rfl⟩
          have : L2 = [] ∨ R1 = []:=by
            rcases Nat.eq_zero_or_pos L2.length with h | h
            · exact .inl (List.eq_nil_of_length_eq_zero h)
            · exact .inr (List.eq_nil_of_length_eq_zero (by omega))
          have e1 : A ++ (L1 ++ (R1 ++ (L2 ++ (R2 ++ B)))) = A ++ (L1 ++ L2 ++ (R1 ++ R2 ++ B)):=by rcases this with rfl | rfl <;> simp
          rw [e1,hrow,← hr,upd_same]
      obtain ⟨M1,p1,s1,H2,g2,n2,f2,f2'⟩ : ∃ M1,M1.Perm (L1 ++ R1) ∧ QS M1 ∧ ∃ H2 : Heap,H2.rows = upd H.rows 2 (some (RW (A ++ (M1 ++ (L2 ++ (R2 ++ B)))))) ∧ H1.next ≤ H2.next ∧ (0 < L1.length ∧ 0 < R1.length → callF G Tryz.prog pol 76 [QG n,I a,I st,I mid,CF] H1 = some (.ret (.tup []),H2)) ∧ (¬ (0 < L1.length ∧ 0 < R1.length) → H2 = H1):=by
        by_cases c : 0 < L1.length ∧ 0 < R1.length
        · obtain ⟨M1,p1,s1,k,cs,hk⟩:=ih A L1 R1 (L2 ++ (R2 ++ B)) a st mid n ha z1 (by omega) c.1 c.2 sL1 sR1 (fun u hu v hv => hI u (by simp [hu]) v (by simp [hv])) (by simp; omega) hl (by omega) H1 (by rw [g1]; simp)
          exact ⟨M1,p1,s1,_,by rw [g1,upd_upd],hk,fun _ => cs,fun h => absurd c h⟩
        · have : L1 = [] ∨ R1 = []:=by
            rcases Nat.eq_zero_or_pos L1.length with h | h
            · exact .inl (List.eq_nil_of_length_eq_zero h)
            · exact .inr (List.eq_nil_of_length_eq_zero (by omega))
          refine ⟨L1 ++ R1,.refl _,by rcases this with rfl | rfl <;> simpa,H1,by rw [g1]; simp,Nat.le_refl _,fun h => absurd h c,fun _ => rfl⟩
      have lm1:=p1.length_eq
      rw [List.length_append] at lm1
      obtain ⟨M2,p2,s2,H3,g3,n3,f3,f3'⟩ : ∃ M2,M2.Perm (L2 ++ R2) ∧ QS M2 ∧ ∃ H3 : Heap,H3.rows = upd H.rows 2 (some (RW (A ++ (M1 ++ (M2 ++ B))))) ∧ H2.next ≤ H3.next ∧ (0 < L2.length ∧ 0 < R2.length → callF G Tryz.prog pol 76 [QG n,I mid,I e,I b,CF] H2 = some (.ret (.tup []),H3)) ∧ (¬ (0 < L2.length ∧ 0 < R2.length) → H3 = H2):=by
        by_cases c : 0 < L2.length ∧ 0 < R2.length
        · obtain ⟨M2,p2,s2,k,cs,hk⟩:=ih (A ++ M1) L2 R2 B mid e b n (by simp; omega) (by omega) (by omega) c.1 c.2 sL2 sR2 (fun u hu v hv => hI u (by simp [hu]) v (by simp [hv])) (by simp; omega) hl (by omega) H2 (by rw [g2]; simp)
          exact ⟨M2,p2,s2,_,by rw [g2,upd_upd,List.append_assoc],hk,fun _ => cs,fun h => absurd c h⟩
        · have : L2 = [] ∨ R2 = []:=by
            rcases Nat.eq_zero_or_pos L2.length with h | h
            · exact .inl (List.eq_nil_of_length_eq_zero h)
            · exact .inr (List.eq_nil_of_length_eq_zero (by omega))
          refine ⟨L2 ++ R2,.refl _,by rcases this with rfl | rfl <;> simpa,H2,by rw [g2]; simp,Nat.le_refl _,fun h => absurd h c,fun _ => rfl⟩
      refine ⟨M1 ++ M2,?_,QS_app.2 ⟨s1,s2,qb.perm p1 p2⟩,H3.next,?_,by omega⟩
      · refine (p1.append p2).trans ?_
        rw [List.append_assoc,List.append_assoc]
        refine List.Perm.append_left L1 ?_
        rw [← List.append_assoc,← List.append_assoc]
        exact List.Perm.append_right R2 List.perm_append_comm
      have h24 : (nn : Int) - st = e:=by omega
      have w24:=i64_in (x:=(e : Int)) (by unfold I64; omega)
      rw [List.append_assoc M1,← g3]
      clear k1 k2 g1 g2 g3 hL
      rcases Nat.eq_zero_or_pos L1.length with x1 | x1 <;> rcases Nat.eq_zero_or_pos R1.length with y1 | y1 <;> rcases Nat.eq_zero_or_pos L2.length with x2 | x2 <;> rcases Nat.eq_zero_or_pos R2.length with y2 | y2
      · exfalso; omega
      · exfalso; omega
      · exfalso; omega
      · exfalso; omega
      · exfalso; omega
      · obtain rfl:=f1' (by omega)
        obtain rfl:=f2' (by omega)
        obtain rfl:=f3' (by omega)
        simp (maxSteps:=999999) only [E0,seval,-Int.reduceNatCast',NUM,h20,h19,h18,h0,h1,h2,h3,h4,hd,hf,h24,w24,(show ¬ (st : Int) < m by omega),(show (m : Int) < e by omega),(show ¬ (a : Int) < st by omega),(show (st : Int) < mid by omega),(show ¬ (mid : Int) < e by omega),(show (e : Int) < b by omega)]
      · have cs1:=f1 ⟨x2,y1⟩
        obtain rfl:=f2' (by omega)
        obtain rfl:=f3' (by omega)
        simp (maxSteps:=999999) only [E0,seval,-Int.reduceNatCast',NUM,h20,h19,h18,h0,h1,h2,h3,h4,hd,hf,h24,w24,(show (st : Int) < m by omega),(show (m : Int) < e by omega),(show ¬ (a : Int) < st by omega),(show (st : Int) < mid by omega),(show (mid : Int) < e by omega),(show ¬ (e : Int) < b by omega),cs1]
      · have cs1:=f1 ⟨x2,y1⟩
        obtain rfl:=f2' (by omega)
        have cs3:=f3 ⟨x2,y2⟩
        simp (maxSteps:=999999) only [E0,seval,-Int.reduceNatCast',NUM,h20,h19,h18,h0,h1,h2,h3,h4,hd,hf,h24,w24,(show (st : Int) < m by omega),(show (m : Int) < e by omega),(show ¬ (a : Int) < st by omega),(show (st : Int) < mid by omega),(show (mid : Int) < e by omega),(show (e : Int) < b by omega),cs1,cs3]
      · exfalso; omega
      · obtain rfl:=f1' (by omega)
        obtain rfl:=f2' (by omega)
        obtain rfl:=f3' (by omega)
        simp (maxSteps:=999999) only [E0,seval,-Int.reduceNatCast',NUM,h20,h19,h18,h0,h1,h2,h3,h4,hd,hf,h24,w24,(show ¬ (st : Int) < m by omega),(show ¬ (m : Int) < e by omega),(show (a : Int) < st by omega),(show ¬ (st : Int) < mid by omega),(show ¬ (mid : Int) < e by omega),(show (e : Int) < b by omega)]
      · obtain rfl:=f1' (by omega)
        obtain rfl:=f2' (by omega)
        obtain rfl:=f3' (by omega)
        simp (maxSteps:=999999) only [E0,seval,-Int.reduceNatCast',NUM,h20,h19,h18,h0,h1,h2,h3,h4,hd,hf,h24,w24,(show (st : Int) < m by omega),(show ¬ (m : Int) < e by omega),(show (a : Int) < st by omega),(show ¬ (st : Int) < mid by omega),(show (mid : Int) < e by omega),(show ¬ (e : Int) < b by omega)]
      · obtain rfl:=f1' (by omega)
        obtain rfl:=f2' (by omega)
        have cs3:=f3 ⟨x2,y2⟩
        simp (maxSteps:=999999) only [E0,seval,-Int.reduceNatCast',NUM,h20,h19,h18,h0,h1,h2,h3,h4,hd,hf,h24,w24,(show (st : Int) < m by omega),(show ¬ (m : Int) < e by omega),(show (a : Int) < st by omega),(show ¬ (st : Int) < mid by omega),(show (mid : Int) < e by omega),(show (e : Int) < b by omega),cs3]
      · exfalso; omega
      · obtain rfl:=f1' (by omega)
        have cs2:=f2 ⟨x1,y1⟩
        obtain rfl:=f3' (by omega)
        simp (maxSteps:=999999) only [E0,seval,-Int.reduceNatCast',NUM,h20,h19,h18,h0,h1,h2,h3,h4,hd,hf,h24,w24,(show ¬ (st : Int) < m by omega),(show (m : Int) < e by omega),(show (a : Int) < st by omega),(show (st : Int) < mid by omega),(show ¬ (mid : Int) < e by omega),(show (e : Int) < b by omega),cs2]
      · have cs1:=f1 ⟨x2,y1⟩
        have cs2:=f2 ⟨x1,y1⟩
        obtain rfl:=f3' (by omega)
        simp (maxSteps:=999999) only [E0,seval,-Int.reduceNatCast',NUM,h20,h19,h18,h0,h1,h2,h3,h4,hd,hf,h24,w24,(show (st : Int) < m by omega),(show (m : Int) < e by omega),(show (a : Int) < st by omega),(show (st : Int) < mid by omega),(show (mid : Int) < e by omega),(show ¬ (e : Int) < b by omega),cs1,cs2]
      · have cs1:=f1 ⟨x2,y1⟩
        have cs2:=f2 ⟨x1,y1⟩
        have cs3:=f3 ⟨x2,y2⟩
        simp (maxSteps:=999999) only [E0,seval,-Int.reduceNatCast',NUM,h20,h19,h18,h0,h1,h2,h3,h4,hd,hf,h24,w24,(show (st : Int) < m by omega),(show (m : Int) < e by omega),(show (a : Int) < st by omega),(show (st : Int) < mid by omega),(show (mid : Int) < e by omega),(show (e : Int) < b by omega),cs1,cs2,cs3]
theorem c_sym : ∀ sz,SYMP sz
  | 0,_,L,_,_,_,_,_,_,_,_,_,hlL,hlR,_,_,_,_,_,hsz,_,_ => by omega
  | sz + 1,A,L,R,B,a,m,b,n,ha,hm,hb,hlL,hlR,sL,sR,hI,hn,hl,hsz,H,hr => c_symS sz (c_sym sz) A L R B a m b n ha hm hb hlL hlR sL sR hI hn hl hsz H hr
end S
namespace S
def QW (o k : Nat) (l : List Qu) : Prop:=∀ x ∈ l,(o : Int) ≤ x.ix ∧ x.ix < (o : Int) + k
inductive SB (s : Nat) : Nat → List Qu → Prop
  | last (o : Nat) (d : List Qu) : d.length ≤ s → QS d → QW o s d → SB s o d
  | more (o : Nat) (c d : List Qu) : c.length = s → QS c → QW o s c → SB s (o + s) d → SB s o (c ++ d)
theorem SB_split {s o : Nat} {d : List Qu} (h : SB s o d) (hl : s ≤ d.length) : ∃ c d',d = c ++ d' ∧ c.length = s ∧ QS c ∧ QW o s c ∧ SB s (o + s) d':=by
  cases h with
  | last _ _ h1 h2 h3 => exact ⟨d,[],by simp,by omega,h2,h3,.last _ _ (by simp) (by simp) (fun x hx => by simp at hx)⟩
  | more _ c d' h1 h2 h3 h4 => exact ⟨c,d',rfl,h1,h2,h3,h4⟩
theorem SB_last {s o : Nat} {d : List Qu} (h : SB s o d) (hl : d.length ≤ s) (hs : 0 < s) : QS d ∧ QW o s d:=by
  cases h with
  | last _ _ h1 h2 h3 => exact ⟨h2,h3⟩
  | more _ c d' h1 h2 h3 h4 =>
    have : d' = []:=List.eq_nil_of_length_eq_zero (by simp at hl; omega)
    subst this
    simpa using ⟨h2,h3⟩
theorem QW.wide {o k k' : Nat} {l : List Qu} (h : QW o k l) (hk : k ≤ k') : QW o k' l:=fun x hx => by have:=h x hx; omega
theorem QW.perm {o k : Nat} {l m : List Qu} (h : QW o k l) (p : m.Perm l) : QW o k m:=fun x hx => h x (p.mem_iff.1 hx)
theorem QW.two {o s k : Nat} {c d p : List Qu} (h : QW o s c) (h' : QW (o + s) k d) (q : p.Perm (c ++ d)) : QW o (s + k) p:=fun x hx => by
  rcases List.mem_append.1 (q.mem_iff.1 hx) with hx | hx
  · have:=h x hx; omega
  · have:=h' x hx; omega
theorem QW.before {o s k : Nat} {c d : List Qu} (h : QW o s c) (h' : QW (o + s) k d) : QI c d:=fun x hx y hy => by
  have:=h x hx; have:=h' y hy; omega
def OWN (o : Nat) (d : List Qu) : Prop:=∀ (i : Nat) (x : Qu),d[i]? = some x → x.ix = (o : Int) + i
theorem OWN.split {o : Nat} {c d : List Qu} (h : OWN o (c ++ d)) : OWN o c ∧ OWN (o + c.length) d:=
  ⟨fun i x e => h i x (by rw [List.getElem?_append_left (List.getElem?_eq_some_iff.1 e).1]; exact e),fun i x e => by
    have:=h (c.length + i) x (by rw [List.getElem?_append_right (by omega)]; simpa using e)
    omega⟩
theorem OWN.w {o : Nat} {d : List Qu} (h : OWN o d) : QW o d.length d:=fun x hx => by
  obtain ⟨i,e⟩:=List.mem_iff_getElem?.1 hx
  have:=h i x e
  have:=(List.getElem?_eq_some_iff.1 e).1
  omega
theorem OWN.x {o : Nat} {d : List Qu} (h : OWN o d) : QX d:=by
  refine List.pairwise_iff_getElem.2 fun i j hi hj hij => ?_
  have h1:=h i _ (List.getElem?_eq_getElem hi)
  have h2:=h j _ (List.getElem?_eq_getElem hj)
  omega
theorem perm_mid {A B X Y : List Qu} (h : X.Perm Y) : (A ++ (X ++ B)).Perm (A ++ (Y ++ B)):=List.Perm.append_left A (List.Perm.append_right B h)
theorem c_stable (S : List Qu) (n : Nat) (ho : OWN 0 S) (hn : n = S.length) (hl : n ≤ 1000000) (H : Heap) (hr : H.rows 2 = some (RW S)) :
    ∃ M,M.Perm S ∧ QS M ∧ ∃ k,callF G Tryz.prog pol 57 [QG n,I n,CF] H = some (.ret (.tup []),⟨upd H.rows 2 (some (RW M)),k⟩) ∧ H.next ≤ k:=by
  rw [callF_eq _ _ Tryz.func57 rfl Tryz.ntmps57 Tryz.results57 (by kernel_rfl) rfl (by exact Nat.le_of_ble_eq_true rfl)]
  simp (maxSteps:=999999) only [E0,seval,-Int.reduceNatCast']
  generalize hL : W _ (.loop _) _ = L
  obtain ⟨ex,s,rfl,rfl,M,d,h1,h2,h3,h4,h5,hrow,h6,h7,h0,h1',h2',hd,hf,hnx⟩:=loop_at hL (α:=List Qu × List Qu) (fun p => p.2.length)
    (fun s0 p s => (p.1 ++ p.2).Perm S ∧ OWN p.1.length p.2 ∧ (∀ d',SB 20 p.1.length d' → SB 20 0 (p.1 ++ d')) ∧ s.H.rows = upd H.rows 2 (some (RW (p.1 ++ p.2))) ∧ s.tmps 6 = I 20 ∧ s.tmps 7 = I p.1.length ∧ s.tmps 8 = I (p.1.length + 20) ∧ s.tmps 0 = QG n ∧ s.tmps 1 = I n ∧ s.tmps 2 = CF ∧ s.defers = [] ∧ s.fid = H.next ∧ H.next ≤ s.H.next)
    (fun s0 ex s => ex = .exit 0 ∧ ∃ M d : List Qu,(M ++ d).Perm S ∧ d.length < 20 ∧ OWN M.length d ∧ (∀ d',SB 20 M.length d' → SB 20 0 (M ++ d')) ∧ M.length + d.length = n ∧ s.H.rows = upd H.rows 2 (some (RW (M ++ d))) ∧ s.tmps 6 = I 20 ∧ s.tmps 7 = I M.length ∧ s.tmps 0 = QG n ∧ s.tmps 1 = I n ∧ s.tmps 2 = CF ∧ s.defers = [] ∧ s.fid = H.next ∧ H.next ≤ s.H.next) ([],S)
    (by simp (maxSteps:=999999) only [E0,seval,-Int.reduceNatCast']
        refine ⟨.refl _,ho,fun d' h => h,by rw [← hr,upd_same],by simp,by simp,by omega⟩) (by
      rintro ⟨M,d⟩ s r hW ⟨hp,hw,hb,hrow,h6,h7,h8,h0,h1,h2,hd,hf,hnx⟩
      dsimp only at hp hw hb hrow h7 h8
      have hlen:=hp.length_eq
      rw [List.length_append] at hlen
      by_cases hlt : M.length + 20 ≤ n
      rotate_left
      · simp (maxSteps:=999999) only [E0,seval,-Int.reduceNatCast',h8,h1,hd,hf,(show ¬ (M.length : Int) + 20 ≤ n by omega)] at hW
        subst hW
        refine rd_exit ⟨rfl,M,d,hp,by omega,hw,hb,by omega,?_⟩
        simp (maxSteps:=999999) only [E0,seval,-Int.reduceNatCast',hrow,h6,h7,h0,h1,h2]
        exact hnx
      obtain ⟨c,d',rfl,hc⟩:=part_at d 20 (by omega)
      obtain ⟨w1,w2⟩:=hw.split
      rw [List.length_append] at hlen
      obtain ⟨z,hz⟩ : ∃ z,z = M.length + 20:=⟨_,rfl⟩
      have h8' : s.tmps 8 = I z:=by rw [h8,hz]; simp
      obtain ⟨C,p1,s1,k,cs,hk⟩:=c_insertion M c d' M.length z n rfl (by omega) w1.x (by simp; omega) hl s.H (by rw [hrow]; simp)
      simp (maxSteps:=999999) only [E0,seval,-Int.reduceNatCast',NUM,h6,h7,h8',h0,h1,h2,hd,hf,(show (z : Int) ≤ n by omega),i64_in (x:=(z : Int) + 20) (by unfold I64; omega),cs] at hW
      subst hW
      have lC:=p1.length_eq
      refine rd_next (M ++ C,d') ?_ (show d'.length < (c ++ d').length by simp; omega)
      simp (maxSteps:=999999) only [E0,seval,-Int.reduceNatCast',h6,h0,h1,h2,hrow,List.length_append]
      refine ⟨?_,?_,fun e he => ?_,?_,?_,?_,by omega⟩
      · rw [List.append_assoc]; exact (perm_mid p1).trans hp
      · rw [lC]; exact w2
      · rw [List.append_assoc]
        refine hb _ (.more _ _ _ (by omega) s1 ?_ (by rw [show M.length + 20 = M.length + C.length by omega]; exact he))
        have:=w1.w.perm p1
        rw [hc] at this; exact this
      · rw [upd_upd,List.append_assoc]
      · rw [hz,lC,hc]
      · rw [hz,lC,hc])
  obtain ⟨C,p1,s1,k,cs,hk⟩:=c_insertion M d [] M.length n n rfl (by omega) h3.x (by simp; omega) hl s.H (by rw [hrow]; simp)
  have lC:=p1.length_eq
  have sb : SB 20 0 (M ++ C):=h4 _ (.last _ _ (by omega) s1 ((h3.w.perm p1).wide (by omega)))
  have pm : (M ++ C).Perm S:=(List.Perm.append_left M p1).trans h1
  simp (maxSteps:=999999) only [E0,seval,-Int.reduceNatCast',h6,h7,h0,h1',h2',hd,hf,cs]
  generalize hL2 : W _ (.loop _) _ = L2
  obtain ⟨ex,s2,rfl,rfl,M',pm',sm',hrow',hd',hnx'⟩:=loop_at hL2 (α:=Nat × List Qu) (fun p => n - p.1)
    (fun s0 p s => 20 ≤ p.1 ∧ p.1 ≤ 4000000 ∧ p.2.Perm S ∧ SB p.1 0 p.2 ∧ s.H.rows = upd H.rows 2 (some (RW p.2)) ∧ s.tmps 6 = I p.1 ∧ s.tmps 0 = QG n ∧ s.tmps 1 = I n ∧ s.tmps 2 = CF ∧ s.defers = [] ∧ s.fid = H.next ∧ H.next ≤ s.H.next)
    (fun s0 ex s => ex = .exit 2 ∧ ∃ M : List Qu,M.Perm S ∧ QS M ∧ s.H.rows = upd H.rows 2 (some (RW M)) ∧ s.defers = [] ∧ H.next ≤ s.H.next) (20,M ++ C)
    (by simp (maxSteps:=999999) only [E0,seval,-Int.reduceNatCast',h6,h0,h1',h2',hrow,List.append_nil]
        exact ⟨pm,sb,by rw [upd_upd],rfl,Nat.le_trans hnx hk⟩) (by
      rintro ⟨z,M⟩ s r hW ⟨hz,hz',pm,sb,hrow,h6,h0,h1,h2,hd,hf,hnx⟩
      dsimp only at hz hz' pm sb hrow h6
      have lM:=pm.length_eq
      by_cases hlt : z < n
      rotate_left
      · simp (maxSteps:=999999) only [E0,seval,-Int.reduceNatCast',h6,h1,hd,hf,(show ¬ (z : Int) < n by omega)] at hW
        subst hW
        refine rd_exit ⟨rfl,M,pm,(SB_last sb (by omega) (by omega)).1,?_⟩
        simp (maxSteps:=999999) only [E0,seval,-Int.reduceNatCast',hrow]
        exact hnx
      simp (maxSteps:=999999) only [E0,seval,-Int.reduceNatCast',h6,h1,hd,hf,(show (z : Int) < n by omega),i64_in (x:=2 * (z : Int)) (by unfold I64; omega)] at hW
      generalize hL3 : W _ (.loop _) _ = L3 at hW
      obtain ⟨ex,s3,rfl,rfl,P,d,pm,ld,sd,hb,hn,hrow,h6,h7,h0,h1,h2,hd,hf,hnx⟩:=loop_at hL3 (α:=List Qu × List Qu) (fun p => p.2.length)
        (fun s0 p s => (p.1 ++ p.2).Perm S ∧ SB z p.1.length p.2 ∧ (∀ d',SB (2 * z) p.1.length d' → SB (2 * z) 0 (p.1 ++ d')) ∧ s.H.rows = upd H.rows 2 (some (RW (p.1 ++ p.2))) ∧ s.tmps 6 = I z ∧ s.tmps 7 = I p.1.length ∧ s.tmps 8 = I (p.1.length + 2 * z) ∧ s.tmps 0 = QG n ∧ s.tmps 1 = I n ∧ s.tmps 2 = CF ∧ s.defers = [] ∧ s.fid = H.next ∧ H.next ≤ s.H.next)
        (fun s0 ex s => ex = .exit 4 ∧ ∃ P d : List Qu,(P ++ d).Perm S ∧ d.length < 2 * z ∧ SB z P.length d ∧ (∀ d',SB (2 * z) P.length d' → SB (2 * z) 0 (P ++ d')) ∧ P.length + d.length = n ∧ s.H.rows = upd H.rows 2 (some (RW (P ++ d))) ∧ s.tmps 6 = I z ∧ s.tmps 7 = I P.length ∧ s.tmps 0 = QG n ∧ s.tmps 1 = I n ∧ s.tmps 2 = CF ∧ s.defers = [] ∧ s.fid = H.next ∧ H.next ≤ s.H.next) ([],M)
        (by simp (maxSteps:=999999) only [E0,seval,-Int.reduceNatCast',h6,h0,h1,h2,hrow]
            exact ⟨pm,sb,fun d' h => h,by simp,by simp,hnx⟩) (by
          rintro ⟨P,d⟩ s r hW ⟨pm,sd,hb,hrow,h6,h7,h8,h0,h1,h2,hd,hf,hnx⟩
          dsimp only at pm sd hb hrow h7 h8
          have hlen:=pm.length_eq
          rw [List.length_append] at hlen
          by_cases hlt : P.length + 2 * z ≤ n
          rotate_left
          · simp (maxSteps:=999999) only [E0,seval,-Int.reduceNatCast',h8,h1,hd,hf,(show ¬ (P.length : Int) + 2 * z ≤ n by omega)] at hW
            subst hW
            refine rd_exit ⟨rfl,P,d,pm,by omega,sd,hb,by omega,?_⟩
            simp (maxSteps:=999999) only [E0,seval,-Int.reduceNatCast',hrow,h6,h7,h0,h1,h2]
            exact hnx
          obtain ⟨c,d1,rfl,lc,sc,wc,sd1⟩:=SB_split sd (by omega)
          rw [List.length_append] at hlen
          obtain ⟨c',d2,rfl,lc',sc',wc',sd2⟩:=SB_split sd1 (by omega)
          rw [List.length_append] at hlen
          obtain ⟨q,hq⟩ : ∃ q,q = P.length + z:=⟨_,rfl⟩
          obtain ⟨e,he⟩ : ∃ e,e = P.length + 2 * z:=⟨_,rfl⟩
          have h8' : s.tmps 8 = I e:=by rw [h8,he]; simp
          obtain ⟨C,p1,s1,k,cs,hk⟩:=c_sym (c.length + c'.length) P c c' d2 P.length q e n rfl (by omega) (by omega) (by omega) (by omega) sc sc' (wc.before wc') (by simp; omega) hl (Nat.le_refl _) s.H (by rw [hrow]; simp)
          have lC:=p1.length_eq
          rw [List.length_append] at lC
          simp (maxSteps:=999999) only [E0,seval,-Int.reduceNatCast',NUM,h6,h7,h8',h0,h1,h2,hd,hf,(show (e : Int) ≤ n by omega),i64_in (x:=2 * (z : Int)) (by unfold I64; omega),i64_in (x:=(e : Int) + 2 * z) (by unfold I64; omega),(show (P.length : Int) + z = q by omega),i64_in (x:=(q : Int)) (by unfold I64; omega),cs] at hW
          subst hW
          refine rd_next (P ++ C,d2) ?_ (show d2.length < (c ++ (c' ++ d2)).length by simp; omega)
          simp (maxSteps:=999999) only [E0,seval,-Int.reduceNatCast',h6,h0,h1,h2,hrow,List.length_append]
          refine ⟨?_,?_,fun f hf => ?_,?_,?_,?_,by omega⟩
          · rw [List.append_assoc]; exact (perm_mid (B:=d2) p1).trans (by simpa using pm)
          · rw [show P.length + C.length = P.length + z + z by omega]; exact sd2
          · rw [List.append_assoc]
            refine hb _ (.more _ _ _ (by omega) s1 ?_ (by rw [show P.length + 2 * z = P.length + C.length by omega]; exact hf))
            rw [show 2 * z = z + z by omega]; exact wc.two wc' p1
          · rw [upd_upd,List.append_assoc]
          · congr 1; omega
          · congr 1; omega)
      obtain ⟨m,hm⟩ : ∃ m,m = P.length + z:=⟨_,rfl⟩
      by_cases hmn : m < n
      rotate_left
      · simp (maxSteps:=999999) only [E0,seval,-Int.reduceNatCast',NUM,h6,h7,h0,h1,h2,hd,hf,(show (P.length : Int) + z = m by omega),i64_in (x:=(m : Int)) (by unfold I64; omega),(show ¬ (m : Int) < n by omega),i64_in (x:=(z : Int) * 2) (by unfold I64; omega)] at hW
        subst hW
        have:=SB_last sd (by omega) (by omega)
        refine rd_next (2 * z,P ++ d) ?_ (show n - 2 * z < n - z by omega)
        simp (maxSteps:=999999) only [E0,seval,-Int.reduceNatCast',h0,h1,h2,hrow]
        exact ⟨by omega,by omega,pm,hb _ (.last _ _ (by omega) this.1 (this.2.wide (by omega))),by congr 1; omega,hnx⟩
      obtain ⟨c,d1,rfl,lc,sc,wc,sd1⟩:=SB_split sd (by omega)
      rw [List.length_append] at hn ld
      obtain ⟨t1,t2⟩:=SB_last sd1 (by omega) (by omega)
      obtain ⟨C,p1,s1,k,cs,hk⟩:=c_sym (c.length + d1.length) P c d1 [] P.length m n n rfl (by omega) (by omega) (by omega) (by omega) sc t1 (wc.before t2) (by simp; omega) hl (Nat.le_refl _) s3.H (by rw [hrow]; simp)
      have lC:=p1.length_eq
      rw [List.length_append] at lC
      simp (maxSteps:=999999) only [E0,seval,-Int.reduceNatCast',NUM,h6,h7,h0,h1,h2,hd,hf,(show (P.length : Int) + z = m by omega),i64_in (x:=(m : Int)) (by unfold I64; omega),(show (m : Int) < n by omega),i64_in (x:=(z : Int) * 2) (by unfold I64; omega),cs] at hW
      subst hW
      refine rd_next (2 * z,P ++ C) ?_ (show n - 2 * z < n - z by omega)
      simp (maxSteps:=999999) only [E0,seval,-Int.reduceNatCast',h0,h1,h2,hrow]
      refine ⟨by omega,by omega,(List.Perm.append_left P p1).trans pm,hb _ (.last _ _ (by omega) s1 ?_),by rw [upd_upd],by congr 1; omega,by omega⟩
      rw [show 2 * z = z + z by omega]; exact wc.two t2 p1)
  simp (maxSteps:=999999) only [E0,seval,-Int.reduceNatCast',hd']
  exact ⟨M',pm',sm',s2.H.next,by rw [← hrow'],hnx'⟩
theorem c_sort (S : List Qu) (n : Nat) (ho : OWN 0 S) (hn : n = S.length) (hl : n ≤ 1000000) (H : Heap) (hr : H.rows 2 = some (RW S)) :
    ∃ M,M.Perm S ∧ QS M ∧ ∃ k,callF G Tryz.prog pol 39 [QG n,CF] H = some (.ret (.tup []),⟨upd H.rows 2 (some (RW M)),k⟩) ∧ H.next ≤ k:=by
  obtain ⟨M,pm,sm,k,cs,hk⟩:=c_stable S n ho hn hl ⟨H.rows,H.next + 1⟩ hr
  refine ⟨M,pm,sm,k,?_,by have : H.next + 1 ≤ k:=hk; omega⟩
  rw [callF_eq _ _ Tryz.func39 rfl Tryz.ntmps39 Tryz.results39 (by kernel_rfl) rfl (by exact Nat.le_of_ble_eq_true rfl)]
  simp (maxSteps:=999999) only [E0,seval,-Int.reduceNatCast',cs]
end S
namespace S
def LEN (n : Nat) : Nat:=if n = 0 then 0 else n.log2 + 1
theorem LEN_ok {n : Nat} (h : 0 < n) : n < 2 ^ LEN n ∧ 2 ^ LEN n ≤ 2 * n:=by
  unfold LEN; rw [if_neg (by omega)]
  have h1:=Nat.log2_self_le (n:=n) (by omega)
  have h2:=Nat.lt_log2_self (n:=n)
  exact ⟨h2,by rw [Nat.pow_succ]; omega⟩
theorem tab_ok (T : ByteArray) (h : ((List.range 256).all fun n => (T[n]?.map UInt8.toNat) == some (LEN n)) = true) (x : Int) (hx : 0 ≤ x ∧ x < 256) : ∃ b : UInt8,T[x.toNat]? = some b ∧ b.toNat = LEN x.toNat:=by
  have:=List.all_eq_true.1 h x.toNat (by simp; omega)
  simp only [beq_iff_eq,Option.map_eq_some_iff] at this
  exact this
theorem u8_in {x : Int} (h : 0 ≤ x ∧ x < 256) : IntKind.u8.wrap x = x:=by
  simp [IntKind.wrap,IntKind.bits,IntKind.signed]; omega
theorem shr_eq (x : Int) (k : Nat) (hk : k ≤ 64) : x.fdiv (2 ^ min k IntKind.u64.bits) = x / 2 ^ k:=by
  rw [show min k IntKind.u64.bits = k by simp [IntKind.bits]; omega,Int.fdiv_eq_ediv_of_nonneg _ (by exact Int.pow_nonneg (by decide))]
theorem LEN_up {x y : Nat} {k j : Nat} (e : y = x / 2 ^ j) (h : 0 < y ∧ y < 2 ^ k ∧ 2 ^ k ≤ 2 * y) : 0 < x ∧ x < 2 ^ (k + j) ∧ 2 ^ (k + j) ≤ 2 * x:=by
  subst e
  have hp : 0 < 2 ^ j:=Nat.pow_pos (by decide)
  obtain ⟨h0,h1,h2⟩:=h
  have a1 : x < 2 ^ k * 2 ^ j:=(Nat.div_lt_iff_lt_mul hp).1 h1
  have a2:=Nat.div_mul_le_self x (2 ^ j)
  have a3 : 2 ^ k * 2 ^ j ≤ 2 * (x / 2 ^ j) * 2 ^ j:=Nat.mul_le_mul_right _ h2
  rw [Nat.mul_assoc] at a3
  rw [Nat.pow_add]
  refine ⟨?_,a1,by omega⟩
  rcases Nat.eq_zero_or_pos x with rfl | h
  · simp at h0
  · exact h
theorem c_len64 (n : Nat) (hx : 0 < n ∧ n < 18446744073709551616) : ∃ k : Nat,ap Tryz.prog pol 74 [U n] = some (.ret (I k)) ∧ n < 2 ^ k ∧ 2 ^ k ≤ 2 * n:=by
  suffices h : ∃ k : Nat,ap Tryz.prog pol 74 [U n] = some (.ret (I k)) ∧ 0 < n ∧ n < 2 ^ k ∧ 2 ^ k ≤ 2 * n by
    obtain ⟨k,h1,h2,h3⟩:=h
    exact ⟨k,h1,h3⟩
  have up32 : ∀ {y k : Nat},y = n / 4294967296 → 0 < y ∧ y < 2 ^ k ∧ 2 ^ k ≤ 2 * y → 0 < n ∧ n < 2 ^ (k + 32) ∧ 2 ^ (k + 32) ≤ 2 * n:=fun e h => LEN_up (j:=32) e h
  have up16 : ∀ {x y k : Nat},y = x / 65536 → 0 < y ∧ y < 2 ^ k ∧ 2 ^ k ≤ 2 * y → 0 < x ∧ x < 2 ^ (k + 16) ∧ 2 ^ (k + 16) ≤ 2 * x:=fun e h => LEN_up (j:=16) e h
  have up8 : ∀ {x y k : Nat},y = x / 256 → 0 < y ∧ y < 2 ^ k ∧ 2 ^ k ≤ 2 * y → 0 < x ∧ x < 2 ^ (k + 8) ∧ 2 ^ (k + 8) ≤ 2 * x:=fun e h => LEN_up (j:=8) e h
  rw [ap_eq _ Tryz.func74 rfl Tryz.ntmps74 Tryz.results74 (by kernel_rfl) rfl (by exact Nat.le_of_ble_eq_true rfl)]
  by_cases h1 : 4294967296 ≤ n
  · obtain ⟨x1,e1⟩ : ∃ x1,x1 = n / 4294967296:=⟨_,rfl⟩
    have s1 : (n : Int).fdiv (2 ^ min 32 IntKind.u64.bits) = x1:=by rw [shr_eq _ _ (by decide)]; omega
    by_cases h2 : 65536 ≤ x1
    · obtain ⟨x2,e2⟩ : ∃ x2,x2 = x1 / 65536:=⟨_,rfl⟩
      have s2 : (x1 : Int).fdiv (2 ^ min 16 IntKind.u64.bits) = x2:=by rw [shr_eq _ _ (by decide)]; omega
      by_cases h3 : 256 ≤ x2
      · obtain ⟨x3,e3⟩ : ∃ x3,x3 = x2 / 256:=⟨_,rfl⟩
        have s3 : (x2 : Int).fdiv (2 ^ min 8 IntKind.u64.bits) = x3:=by rw [shr_eq _ _ (by decide)]; omega
        simp (maxSteps:=999999) only [E0,seval,-Int.reduceNatCast',NUM,(show (4294967296 : Int) ≤ n by omega),s1,(show (65536 : Int) ≤ x1 by omega),s2,(show (256 : Int) ≤ x2 by omega),s3,(show (32 : Int).toNat = 32 from rfl),(show (16 : Int).toNat = 16 from rfl),(show (8 : Int).toNat = 8 from rfl),u8_in (x:=(x3 : Int)) (by omega),Int.toNat_natCast,(show (0 : Int) ≤ x3 by omega),i64_in (x:=(32 : Int) + 16) (by unfold I64; omega),i64_in (x:=(48 : Int)) (by unfold I64; omega),i64_in (x:=(16 : Int)) (by unfold I64; omega),i64_in (x:=(8 : Int)) (by unfold I64; omega),i64_in (x:=(40 : Int)) (by unfold I64; omega),i64_in (x:=(24 : Int)) (by unfold I64; omega),i64_in (x:=(56 : Int)) (by unfold I64; omega),i64_in (x:=(0 : Int)) (by unfold I64; omega)]
        generalize hT : ByteArray.mk _ = T
        obtain ⟨b,eb,hb⟩:=tab_ok T (by rw [← hT]; kernel_rfl) x3 (by omega)
        rw [Int.toNat_natCast] at eb hb
        have l8 : LEN x3 ≤ 8:=by
          have:=b.toNat_lt
          rcases Nat.eq_zero_or_pos x3 with h | h
          · rw [h]; decide
          · have:=LEN_ok h
            rcases Nat.lt_or_ge 8 (LEN x3) with h' | h'
            · have : 2 ^ 9 ≤ 2 ^ LEN x3:=Nat.pow_le_pow_right (by decide) h'
              omega
            · exact h'
        simp (maxSteps:=999999) only [E0,seval,-Int.reduceNatCast',NUM,(show (4294967296 : Int) ≤ n by omega),s1,(show (65536 : Int) ≤ x1 by omega),s2,(show (256 : Int) ≤ x2 by omega),s3,(show (32 : Int).toNat = 32 from rfl),(show (16 : Int).toNat = 16 from rfl),(show (8 : Int).toNat = 8 from rfl),u8_in (x:=(x3 : Int)) (by omega),Int.toNat_natCast,(show (0 : Int) ≤ x3 by omega),i64_in (x:=(32 : Int) + 16) (by unfold I64; omega),i64_in (x:=(48 : Int)) (by unfold I64; omega),i64_in (x:=(16 : Int)) (by unfold I64; omega),i64_in (x:=(8 : Int)) (by unfold I64; omega),i64_in (x:=(40 : Int)) (by unfold I64; omega),i64_in (x:=(24 : Int)) (by unfold I64; omega),i64_in (x:=(56 : Int)) (by unfold I64; omega),i64_in (x:=(0 : Int)) (by unfold I64; omega),eb,hb,i64_in (x:=((LEN x3 : Nat) : Int)) (by unfold I64; omega),i64_in (x:=(56 : Int) + LEN x3) (by unfold I64; omega),Int.zero_add]
        exact ⟨LEN x3 + 8 + 16 + 32,by first | rfl | (congr 3; omega),up32 e1 (up16 e2 (up8 e3 ⟨by omega,LEN_ok (by omega)⟩))⟩
      · skip
        simp (maxSteps:=999999) only [E0,seval,-Int.reduceNatCast',NUM,(show (4294967296 : Int) ≤ n by omega),s1,(show (65536 : Int) ≤ x1 by omega),s2,(show ¬ (256 : Int) ≤ x2 by omega),(show (32 : Int).toNat = 32 from rfl),(show (16 : Int).toNat = 16 from rfl),(show (8 : Int).toNat = 8 from rfl),u8_in (x:=(x2 : Int)) (by omega),Int.toNat_natCast,(show (0 : Int) ≤ x2 by omega),i64_in (x:=(32 : Int) + 16) (by unfold I64; omega),i64_in (x:=(48 : Int)) (by unfold I64; omega),i64_in (x:=(16 : Int)) (by unfold I64; omega),i64_in (x:=(8 : Int)) (by unfold I64; omega),i64_in (x:=(40 : Int)) (by unfold I64; omega),i64_in (x:=(24 : Int)) (by unfold I64; omega),i64_in (x:=(56 : Int)) (by unfold I64; omega),i64_in (x:=(0 : Int)) (by unfold I64; omega)]
        generalize hT : ByteArray.mk _ = T
        obtain ⟨b,eb,hb⟩:=tab_ok T (by rw [← hT]; kernel_rfl) x2 (by omega)
        rw [Int.toNat_natCast] at eb hb
        have l8 : LEN x2 ≤ 8:=by
          have:=b.toNat_lt
          rcases Nat.eq_zero_or_pos x2 with h | h
          · rw [h]; decide
          · have:=LEN_ok h
            rcases Nat.lt_or_ge 8 (LEN x2) with h' | h'
            · have : 2 ^ 9 ≤ 2 ^ LEN x2:=Nat.pow_le_pow_right (by decide) h'
              omega
            · exact h'
        simp (maxSteps:=999999) only [E0,seval,-Int.reduceNatCast',NUM,(show (4294967296 : Int) ≤ n by omega),s1,(show (65536 : Int) ≤ x1 by omega),s2,(show ¬ (256 : Int) ≤ x2 by omega),(show (32 : Int).toNat = 32 from rfl),(show (16 : Int).toNat = 16 from rfl),(show (8 : Int).toNat = 8 from rfl),u8_in (x:=(x2 : Int)) (by omega),Int.toNat_natCast,(show (0 : Int) ≤ x2 by omega),i64_in (x:=(32 : Int) + 16) (by unfold I64; omega),i64_in (x:=(48 : Int)) (by unfold I64; omega),i64_in (x:=(16 : Int)) (by unfold I64; omega),i64_in (x:=(8 : Int)) (by unfold I64; omega),i64_in (x:=(40 : Int)) (by unfold I64; omega),i64_in (x:=(24 : Int)) (by unfold I64; omega),i64_in (x:=(56 : Int)) (by unfold I64; omega),i64_in (x:=(0 : Int)) (by unfold I64; omega),eb,hb,i64_in (x:=((LEN x2 : Nat) : Int)) (by unfold I64; omega),i64_in (x:=(48 : Int) + LEN x2) (by unfold I64; omega),Int.zero_add]
        exact ⟨LEN x2 + 16 + 32,by first | rfl | (congr 3; omega),up32 e1 (up16 e2 (⟨by omega,LEN_ok (by omega)⟩))⟩
    · skip
      by_cases h3 : 256 ≤ x1
      · obtain ⟨x3,e3⟩ : ∃ x3,x3 = x1 / 256:=⟨_,rfl⟩
        have s3 : (x1 : Int).fdiv (2 ^ min 8 IntKind.u64.bits) = x3:=by rw [shr_eq _ _ (by decide)]; omega
        simp (maxSteps:=999999) only [E0,seval,-Int.reduceNatCast',NUM,(show (4294967296 : Int) ≤ n by omega),s1,(show ¬ (65536 : Int) ≤ x1 by omega),(show (256 : Int) ≤ x1 by omega),s3,(show (32 : Int).toNat = 32 from rfl),(show (16 : Int).toNat = 16 from rfl),(show (8 : Int).toNat = 8 from rfl),u8_in (x:=(x3 : Int)) (by omega),Int.toNat_natCast,(show (0 : Int) ≤ x3 by omega),i64_in (x:=(32 : Int) + 16) (by unfold I64; omega),i64_in (x:=(48 : Int)) (by unfold I64; omega),i64_in (x:=(16 : Int)) (by unfold I64; omega),i64_in (x:=(8 : Int)) (by unfold I64; omega),i64_in (x:=(40 : Int)) (by unfold I64; omega),i64_in (x:=(24 : Int)) (by unfold I64; omega),i64_in (x:=(56 : Int)) (by unfold I64; omega),i64_in (x:=(0 : Int)) (by unfold I64; omega)]
        generalize hT : ByteArray.mk _ = T
        obtain ⟨b,eb,hb⟩:=tab_ok T (by rw [← hT]; kernel_rfl) x3 (by omega)
        rw [Int.toNat_natCast] at eb hb
        have l8 : LEN x3 ≤ 8:=by
          have:=b.toNat_lt
          rcases Nat.eq_zero_or_pos x3 with h | h
          · rw [h]; decide
          · have:=LEN_ok h
            rcases Nat.lt_or_ge 8 (LEN x3) with h' | h'
            · have : 2 ^ 9 ≤ 2 ^ LEN x3:=Nat.pow_le_pow_right (by decide) h'
              omega
            · exact h'
        simp (maxSteps:=999999) only [E0,seval,-Int.reduceNatCast',NUM,(show (4294967296 : Int) ≤ n by omega),s1,(show ¬ (65536 : Int) ≤ x1 by omega),(show (256 : Int) ≤ x1 by omega),s3,(show (32 : Int).toNat = 32 from rfl),(show (16 : Int).toNat = 16 from rfl),(show (8 : Int).toNat = 8 from rfl),u8_in (x:=(x3 : Int)) (by omega),Int.toNat_natCast,(show (0 : Int) ≤ x3 by omega),i64_in (x:=(32 : Int) + 16) (by unfold I64; omega),i64_in (x:=(48 : Int)) (by unfold I64; omega),i64_in (x:=(16 : Int)) (by unfold I64; omega),i64_in (x:=(8 : Int)) (by unfold I64; omega),i64_in (x:=(40 : Int)) (by unfold I64; omega),i64_in (x:=(24 : Int)) (by unfold I64; omega),i64_in (x:=(56 : Int)) (by unfold I64; omega),i64_in (x:=(0 : Int)) (by unfold I64; omega),eb,hb,i64_in (x:=((LEN x3 : Nat) : Int)) (by unfold I64; omega),i64_in (x:=(40 : Int) + LEN x3) (by unfold I64; omega),Int.zero_add]
        exact ⟨LEN x3 + 8 + 32,by first | rfl | (congr 3; omega),up32 e1 (up8 e3 ⟨by omega,LEN_ok (by omega)⟩)⟩
      · skip
        simp (maxSteps:=999999) only [E0,seval,-Int.reduceNatCast',NUM,(show (4294967296 : Int) ≤ n by omega),s1,(show ¬ (65536 : Int) ≤ x1 by omega),(show ¬ (256 : Int) ≤ x1 by omega),(show (32 : Int).toNat = 32 from rfl),(show (16 : Int).toNat = 16 from rfl),(show (8 : Int).toNat = 8 from rfl),u8_in (x:=(x1 : Int)) (by omega),Int.toNat_natCast,(show (0 : Int) ≤ x1 by omega),i64_in (x:=(32 : Int) + 16) (by unfold I64; omega),i64_in (x:=(48 : Int)) (by unfold I64; omega),i64_in (x:=(16 : Int)) (by unfold I64; omega),i64_in (x:=(8 : Int)) (by unfold I64; omega),i64_in (x:=(40 : Int)) (by unfold I64; omega),i64_in (x:=(24 : Int)) (by unfold I64; omega),i64_in (x:=(56 : Int)) (by unfold I64; omega),i64_in (x:=(0 : Int)) (by unfold I64; omega)]
        generalize hT : ByteArray.mk _ = T
        obtain ⟨b,eb,hb⟩:=tab_ok T (by rw [← hT]; kernel_rfl) x1 (by omega)
        rw [Int.toNat_natCast] at eb hb
        have l8 : LEN x1 ≤ 8:=by
          have:=b.toNat_lt
          rcases Nat.eq_zero_or_pos x1 with h | h
          · rw [h]; decide
          · have:=LEN_ok h
            rcases Nat.lt_or_ge 8 (LEN x1) with h' | h'
            · have : 2 ^ 9 ≤ 2 ^ LEN x1:=Nat.pow_le_pow_right (by decide) h'
              omega
            · exact h'
        simp (maxSteps:=999999) only [E0,seval,-Int.reduceNatCast',NUM,(show (4294967296 : Int) ≤ n by omega),s1,(show ¬ (65536 : Int) ≤ x1 by omega),(show ¬ (256 : Int) ≤ x1 by omega),(show (32 : Int).toNat = 32 from rfl),(show (16 : Int).toNat = 16 from rfl),(show (8 : Int).toNat = 8 from rfl),u8_in (x:=(x1 : Int)) (by omega),Int.toNat_natCast,(show (0 : Int) ≤ x1 by omega),i64_in (x:=(32 : Int) + 16) (by unfold I64; omega),i64_in (x:=(48 : Int)) (by unfold I64; omega),i64_in (x:=(16 : Int)) (by unfold I64; omega),i64_in (x:=(8 : Int)) (by unfold I64; omega),i64_in (x:=(40 : Int)) (by unfold I64; omega),i64_in (x:=(24 : Int)) (by unfold I64; omega),i64_in (x:=(56 : Int)) (by unfold I64; omega),i64_in (x:=(0 : Int)) (by unfold I64; omega),eb,hb,i64_in (x:=((LEN x1 : Nat) : Int)) (by unfold I64; omega),i64_in (x:=(32 : Int) + LEN x1) (by unfold I64; omega),Int.zero_add]
        exact ⟨LEN x1 + 32,by first | rfl | (congr 3; omega),up32 e1 (⟨by omega,LEN_ok (by omega)⟩)⟩
  · skip
    by_cases h2 : 65536 ≤ n
    · obtain ⟨x2,e2⟩ : ∃ x2,x2 = n / 65536:=⟨_,rfl⟩
      have s2 : (n : Int).fdiv (2 ^ min 16 IntKind.u64.bits) = x2:=by rw [shr_eq _ _ (by decide)]; omega
      by_cases h3 : 256 ≤ x2
      · obtain ⟨x3,e3⟩ : ∃ x3,x3 = x2 / 256:=⟨_,rfl⟩
        have s3 : (x2 : Int).fdiv (2 ^ min 8 IntKind.u64.bits) = x3:=by rw [shr_eq _ _ (by decide)]; omega
        simp (maxSteps:=999999) only [E0,seval,-Int.reduceNatCast',NUM,(show ¬ (4294967296 : Int) ≤ n by omega),(show (65536 : Int) ≤ n by omega),s2,(show (256 : Int) ≤ x2 by omega),s3,(show (32 : Int).toNat = 32 from rfl),(show (16 : Int).toNat = 16 from rfl),(show (8 : Int).toNat = 8 from rfl),u8_in (x:=(x3 : Int)) (by omega),Int.toNat_natCast,(show (0 : Int) ≤ x3 by omega),i64_in (x:=(32 : Int) + 16) (by unfold I64; omega),i64_in (x:=(48 : Int)) (by unfold I64; omega),i64_in (x:=(16 : Int)) (by unfold I64; omega),i64_in (x:=(8 : Int)) (by unfold I64; omega),i64_in (x:=(40 : Int)) (by unfold I64; omega),i64_in (x:=(24 : Int)) (by unfold I64; omega),i64_in (x:=(56 : Int)) (by unfold I64; omega),i64_in (x:=(0 : Int)) (by unfold I64; omega)]
        generalize hT : ByteArray.mk _ = T
        obtain ⟨b,eb,hb⟩:=tab_ok T (by rw [← hT]; kernel_rfl) x3 (by omega)
        rw [Int.toNat_natCast] at eb hb
        have l8 : LEN x3 ≤ 8:=by
          have:=b.toNat_lt
          rcases Nat.eq_zero_or_pos x3 with h | h
          · rw [h]; decide
          · have:=LEN_ok h
            rcases Nat.lt_or_ge 8 (LEN x3) with h' | h'
            · have : 2 ^ 9 ≤ 2 ^ LEN x3:=Nat.pow_le_pow_right (by decide) h'
              omega
            · exact h'
        simp (maxSteps:=999999) only [E0,seval,-Int.reduceNatCast',NUM,(show ¬ (4294967296 : Int) ≤ n by omega),(show (65536 : Int) ≤ n by omega),s2,(show (256 : Int) ≤ x2 by omega),s3,(show (32 : Int).toNat = 32 from rfl),(show (16 : Int).toNat = 16 from rfl),(show (8 : Int).toNat = 8 from rfl),u8_in (x:=(x3 : Int)) (by omega),Int.toNat_natCast,(show (0 : Int) ≤ x3 by omega),i64_in (x:=(32 : Int) + 16) (by unfold I64; omega),i64_in (x:=(48 : Int)) (by unfold I64; omega),i64_in (x:=(16 : Int)) (by unfold I64; omega),i64_in (x:=(8 : Int)) (by unfold I64; omega),i64_in (x:=(40 : Int)) (by unfold I64; omega),i64_in (x:=(24 : Int)) (by unfold I64; omega),i64_in (x:=(56 : Int)) (by unfold I64; omega),i64_in (x:=(0 : Int)) (by unfold I64; omega),eb,hb,i64_in (x:=((LEN x3 : Nat) : Int)) (by unfold I64; omega),i64_in (x:=(24 : Int) + LEN x3) (by unfold I64; omega),Int.zero_add]
        exact ⟨LEN x3 + 8 + 16,by first | rfl | (congr 3; omega),up16 e2 (up8 e3 ⟨by omega,LEN_ok (by omega)⟩)⟩
      · skip
        simp (maxSteps:=999999) only [E0,seval,-Int.reduceNatCast',NUM,(show ¬ (4294967296 : Int) ≤ n by omega),(show (65536 : Int) ≤ n by omega),s2,(show ¬ (256 : Int) ≤ x2 by omega),(show (32 : Int).toNat = 32 from rfl),(show (16 : Int).toNat = 16 from rfl),(show (8 : Int).toNat = 8 from rfl),u8_in (x:=(x2 : Int)) (by omega),Int.toNat_natCast,(show (0 : Int) ≤ x2 by omega),i64_in (x:=(32 : Int) + 16) (by unfold I64; omega),i64_in (x:=(48 : Int)) (by unfold I64; omega),i64_in (x:=(16 : Int)) (by unfold I64; omega),i64_in (x:=(8 : Int)) (by unfold I64; omega),i64_in (x:=(40 : Int)) (by unfold I64; omega),i64_in (x:=(24 : Int)) (by unfold I64; omega),i64_in (x:=(56 : Int)) (by unfold I64; omega),i64_in (x:=(0 : Int)) (by unfold I64; omega)]
        generalize hT : ByteArray.mk _ = T
        obtain ⟨b,eb,hb⟩:=tab_ok T (by rw [← hT]; kernel_rfl) x2 (by omega)
        rw [Int.toNat_natCast] at eb hb
        have l8 : LEN x2 ≤ 8:=by
          have:=b.toNat_lt
          rcases Nat.eq_zero_or_pos x2 with h | h
          · rw [h]; decide
          · have:=LEN_ok h
            rcases Nat.lt_or_ge 8 (LEN x2) with h' | h'
            · have : 2 ^ 9 ≤ 2 ^ LEN x2:=Nat.pow_le_pow_right (by decide) h'
              omega
            · exact h'
        simp (maxSteps:=999999) only [E0,seval,-Int.reduceNatCast',NUM,(show ¬ (4294967296 : Int) ≤ n by omega),(show (65536 : Int) ≤ n by omega),s2,(show ¬ (256 : Int) ≤ x2 by omega),(show (32 : Int).toNat = 32 from rfl),(show (16 : Int).toNat = 16 from rfl),(show (8 : Int).toNat = 8 from rfl),u8_in (x:=(x2 : Int)) (by omega),Int.toNat_natCast,(show (0 : Int) ≤ x2 by omega),i64_in (x:=(32 : Int) + 16) (by unfold I64; omega),i64_in (x:=(48 : Int)) (by unfold I64; omega),i64_in (x:=(16 : Int)) (by unfold I64; omega),i64_in (x:=(8 : Int)) (by unfold I64; omega),i64_in (x:=(40 : Int)) (by unfold I64; omega),i64_in (x:=(24 : Int)) (by unfold I64; omega),i64_in (x:=(56 : Int)) (by unfold I64; omega),i64_in (x:=(0 : Int)) (by unfold I64; omega),eb,hb,i64_in (x:=((LEN x2 : Nat) : Int)) (by unfold I64; omega),i64_in (x:=(16 : Int) + LEN x2) (by unfold I64; omega),Int.zero_add]
        exact ⟨LEN x2 + 16,by first | rfl | (congr 3; omega),up16 e2 (⟨by omega,LEN_ok (by omega)⟩)⟩
    · skip
      by_cases h3 : 256 ≤ n
      · obtain ⟨x3,e3⟩ : ∃ x3,x3 = n / 256:=⟨_,rfl⟩
        have s3 : (n : Int).fdiv (2 ^ min 8 IntKind.u64.bits) = x3:=by rw [shr_eq _ _ (by decide)]; omega
        simp (maxSteps:=999999) only [E0,seval,-Int.reduceNatCast',NUM,(show ¬ (4294967296 : Int) ≤ n by omega),(show ¬ (65536 : Int) ≤ n by omega),(show (256 : Int) ≤ n by omega),s3,(show (32 : Int).toNat = 32 from rfl),(show (16 : Int).toNat = 16 from rfl),(show (8 : Int).toNat = 8 from rfl),u8_in (x:=(x3 : Int)) (by omega),Int.toNat_natCast,(show (0 : Int) ≤ x3 by omega),i64_in (x:=(32 : Int) + 16) (by unfold I64; omega),i64_in (x:=(48 : Int)) (by unfold I64; omega),i64_in (x:=(16 : Int)) (by unfold I64; omega),i64_in (x:=(8 : Int)) (by unfold I64; omega),i64_in (x:=(40 : Int)) (by unfold I64; omega),i64_in (x:=(24 : Int)) (by unfold I64; omega),i64_in (x:=(56 : Int)) (by unfold I64; omega),i64_in (x:=(0 : Int)) (by unfold I64; omega)]
        generalize hT : ByteArray.mk _ = T
        obtain ⟨b,eb,hb⟩:=tab_ok T (by rw [← hT]; kernel_rfl) x3 (by omega)
        rw [Int.toNat_natCast] at eb hb
        have l8 : LEN x3 ≤ 8:=by
          have:=b.toNat_lt
          rcases Nat.eq_zero_or_pos x3 with h | h
          · rw [h]; decide
          · have:=LEN_ok h
            rcases Nat.lt_or_ge 8 (LEN x3) with h' | h'
            · have : 2 ^ 9 ≤ 2 ^ LEN x3:=Nat.pow_le_pow_right (by decide) h'
              omega
            · exact h'
        simp (maxSteps:=999999) only [E0,seval,-Int.reduceNatCast',NUM,(show ¬ (4294967296 : Int) ≤ n by omega),(show ¬ (65536 : Int) ≤ n by omega),(show (256 : Int) ≤ n by omega),s3,(show (32 : Int).toNat = 32 from rfl),(show (16 : Int).toNat = 16 from rfl),(show (8 : Int).toNat = 8 from rfl),u8_in (x:=(x3 : Int)) (by omega),Int.toNat_natCast,(show (0 : Int) ≤ x3 by omega),i64_in (x:=(32 : Int) + 16) (by unfold I64; omega),i64_in (x:=(48 : Int)) (by unfold I64; omega),i64_in (x:=(16 : Int)) (by unfold I64; omega),i64_in (x:=(8 : Int)) (by unfold I64; omega),i64_in (x:=(40 : Int)) (by unfold I64; omega),i64_in (x:=(24 : Int)) (by unfold I64; omega),i64_in (x:=(56 : Int)) (by unfold I64; omega),i64_in (x:=(0 : Int)) (by unfold I64; omega),eb,hb,i64_in (x:=((LEN x3 : Nat) : Int)) (by unfold I64; omega),i64_in (x:=(8 : Int) + LEN x3) (by unfold I64; omega),Int.zero_add]
        exact ⟨LEN x3 + 8,by first | rfl | (congr 3; omega),up8 e3 ⟨by omega,LEN_ok (by omega)⟩⟩
      · skip
        simp (maxSteps:=999999) only [E0,seval,-Int.reduceNatCast',NUM,(show ¬ (4294967296 : Int) ≤ n by omega),(show ¬ (65536 : Int) ≤ n by omega),(show ¬ (256 : Int) ≤ n by omega),(show (32 : Int).toNat = 32 from rfl),(show (16 : Int).toNat = 16 from rfl),(show (8 : Int).toNat = 8 from rfl),u8_in (x:=(n : Int)) (by omega),Int.toNat_natCast,(show (0 : Int) ≤ n by omega),i64_in (x:=(32 : Int) + 16) (by unfold I64; omega),i64_in (x:=(48 : Int)) (by unfold I64; omega),i64_in (x:=(16 : Int)) (by unfold I64; omega),i64_in (x:=(8 : Int)) (by unfold I64; omega),i64_in (x:=(40 : Int)) (by unfold I64; omega),i64_in (x:=(24 : Int)) (by unfold I64; omega),i64_in (x:=(56 : Int)) (by unfold I64; omega),i64_in (x:=(0 : Int)) (by unfold I64; omega)]
        generalize hT : ByteArray.mk _ = T
        obtain ⟨b,eb,hb⟩:=tab_ok T (by rw [← hT]; kernel_rfl) n (by omega)
        rw [Int.toNat_natCast] at eb hb
        have l8 : LEN n ≤ 8:=by
          have:=b.toNat_lt
          rcases Nat.eq_zero_or_pos n with h | h
          · rw [h]; decide
          · have:=LEN_ok h
            rcases Nat.lt_or_ge 8 (LEN n) with h' | h'
            · have : 2 ^ 9 ≤ 2 ^ LEN n:=Nat.pow_le_pow_right (by decide) h'
              omega
            · exact h'
        simp (maxSteps:=999999) only [E0,seval,-Int.reduceNatCast',NUM,(show ¬ (4294967296 : Int) ≤ n by omega),(show ¬ (65536 : Int) ≤ n by omega),(show ¬ (256 : Int) ≤ n by omega),(show (32 : Int).toNat = 32 from rfl),(show (16 : Int).toNat = 16 from rfl),(show (8 : Int).toNat = 8 from rfl),u8_in (x:=(n : Int)) (by omega),Int.toNat_natCast,(show (0 : Int) ≤ n by omega),i64_in (x:=(32 : Int) + 16) (by unfold I64; omega),i64_in (x:=(48 : Int)) (by unfold I64; omega),i64_in (x:=(16 : Int)) (by unfold I64; omega),i64_in (x:=(8 : Int)) (by unfold I64; omega),i64_in (x:=(40 : Int)) (by unfold I64; omega),i64_in (x:=(24 : Int)) (by unfold I64; omega),i64_in (x:=(56 : Int)) (by unfold I64; omega),i64_in (x:=(0 : Int)) (by unfold I64; omega),eb,hb,i64_in (x:=((LEN n : Nat) : Int)) (by unfold I64; omega),i64_in (x:=(0 : Int) + LEN n) (by unfold I64; omega),Int.zero_add]
        exact ⟨LEN n,by first | rfl | (congr 3; omega),⟨by omega,LEN_ok (by omega)⟩⟩
end S
namespace S
theorem kd_less {q rh un un1 y1 y0 v : Nat} (hv : v = y1 * 4294967296 + y0) (h0 : y0 < 4294967296) (hu : un < v) (h1 : un1 < 4294967296) (he : q * y1 + rh = un)
    (hc : 4294967296 ≤ q ∨ 4294967296 * rh + un1 < q * y0) (hq : (un * 4294967296 + un1) / v ≤ q) : 1 ≤ q ∧ (un * 4294967296 + un1) / v ≤ q - 1:=by
  have hlt : (un * 4294967296 + un1) / v < q:=by
    have hv0 : 0 < v:=by omega
    rcases hc with hc | hc
    · refine Nat.lt_of_lt_of_le ((Nat.div_lt_iff_lt_mul hv0).2 ?_) hc
      have : un + 1 ≤ v:=hu
      have:=Nat.mul_le_mul_right 4294967296 this
      rw [Nat.add_mul] at this
      rw [Nat.mul_comm 4294967296 v]; omega
    · refine (Nat.div_lt_iff_lt_mul hv0).2 ?_
      have e : q * v = q * y1 * 4294967296 + q * y0:=by rw [hv,Nat.mul_add,Nat.mul_assoc]
      rw [e,← he,Nat.add_mul]
      omega
  exact ⟨Nat.lt_of_le_of_lt (Nat.zero_le _) hlt,Nat.le_sub_one_of_lt hlt⟩
theorem kd_over {q rh un un1 y1 y0 v : Nat} (hv : v = y1 * 4294967296 + y0) (h0 : y0 < 4294967296) (hu : un < v) (he : q * y1 + rh = un)
    (hr : 4294967296 ≤ rh) (hq : (un * 4294967296 + un1) / v ≤ q) : q = (un * 4294967296 + un1) / v:=by
  refine Nat.le_antisymm ?_ hq
  have hv0 : 0 < v:=by omega
  rw [Nat.le_div_iff_mul_le hv0]
  have ql : q < 4294967296:=by
    rcases Nat.lt_or_ge q 4294967296 with h | h
    · exact h
    · have:=Nat.mul_le_mul_right y1 h
      omega
  have e : q * v = q * y1 * 4294967296 + q * y0:=by rw [hv,Nat.mul_add,Nat.mul_assoc]
  have b : q * y0 ≤ 4294967296 * 4294967296:=Nat.mul_le_mul (by omega) (by omega)
  rw [e,← he,Nat.add_mul]
  omega
theorem kd_done {q rh un un1 y1 y0 v : Nat} (hv : v = y1 * 4294967296 + y0) (hu : un < v) (he : q * y1 + rh = un)
    (hc : q * y0 ≤ 4294967296 * rh + un1) (hq : (un * 4294967296 + un1) / v ≤ q) : q = (un * 4294967296 + un1) / v:=by
  refine Nat.le_antisymm ?_ hq
  have hv0 : 0 < v:=by omega
  rw [Nat.le_div_iff_mul_le hv0]
  have e : q * v = q * y1 * 4294967296 + q * y0:=by rw [hv,Nat.mul_add,Nat.mul_assoc]
  rw [e,← he,Nat.add_mul]
  omega
theorem kd_first {un un1 y1 y0 v : Nat} (hv : v = y1 * 4294967296 + y0) (hy : 0 < y1) (h1 : un1 < 4294967296) : (un * 4294967296 + un1) / v ≤ un / y1:=by
  have e : un / y1 = (un * 4294967296 + un1) / (y1 * 4294967296):=by
    rw [Nat.mul_comm y1,← Nat.div_div_eq_div_mul]
    congr 1; omega
  rw [e]
  exact Nat.div_le_div_left (by omega) (Nat.mul_pos hy (by decide))
theorem kd_lt {un un1 v : Nat} (hu : un < v) (h1 : un1 < 4294967296) : (un * 4294967296 + un1) / v < 4294967296:=by
  have hv0 : 0 < v:=by omega
  refine (Nat.div_lt_iff_lt_mul hv0).2 ?_
  have : un + 1 ≤ v:=hu
  have:=Nat.mul_le_mul_right 4294967296 this
  rw [Nat.add_mul] at this
  rw [Nat.mul_comm 4294967296 v]; omega
theorem kd_two {N y s v A q1 r1 q0 r0 u0 : Nat} (hv : v = y * 2 ^ s) (hy : 0 < y) (hN : N * 2 ^ s = A * 4294967296 + u0) (e1 : v * q1 + r1 = A) (e2 : v * q0 + r0 = r1 * 4294967296 + u0) (l2 : r0 < v) :
    q1 * 4294967296 + q0 = N / y ∧ r0 / 2 ^ s = N % y:=by
  have hp : 0 < 2 ^ s:=Nat.pow_pos (by decide)
  have hv0 : 0 < v:=by rw [hv]; exact Nat.mul_pos hy hp
  have key : N * 2 ^ s = v * (q1 * 4294967296 + q0) + r0:=by
    rw [hN,← e1,Nat.add_mul,Nat.mul_add,← Nat.mul_assoc]
    omega
  have d1 : N * 2 ^ s / v = q1 * 4294967296 + q0:=by
    rw [key,Nat.mul_add_div hv0,Nat.div_eq_of_lt l2,Nat.add_zero]
  have d2 : N * 2 ^ s % v = r0:=by
    rw [key,Nat.mul_add_mod,Nat.mod_eq_of_lt l2]
  rw [hv] at d1 d2
  rw [Nat.mul_div_mul_right _ _ hp] at d1
  rw [Nat.mul_mod_mul_right] at d2
  exact ⟨d1.symm,by rw [← d2,Nat.mul_div_cancel _ hp]⟩
theorem kd_up {hi lo y s k : Nat} (hs : s + k = 64) (hh : hi < y) (hl : lo < 18446744073709551616) (hy : y * 2 ^ s < 18446744073709551616) :
    (hi * 18446744073709551616 + lo) * 2 ^ s = (hi * 2 ^ s + lo / 2 ^ k) * 18446744073709551616 + lo * 2 ^ s % 18446744073709551616 ∧ hi * 2 ^ s + lo / 2 ^ k < y * 2 ^ s ∧ lo / 2 ^ k < 2 ^ s:=by
  have hp : 0 < 2 ^ s:=Nat.pow_pos (by decide)
  have hk : 0 < 2 ^ k:=Nat.pow_pos (by decide)
  have e : 18446744073709551616 = 2 ^ s * 2 ^ k:=by rw [← Nat.pow_add,hs]
  have c : lo / 2 ^ k < 2 ^ s:=(Nat.div_lt_iff_lt_mul hk).2 (by omega)
  have a : lo * 2 ^ s / 18446744073709551616 = lo / 2 ^ k:=by
    rw [e,Nat.mul_comm (2 ^ s),Nat.mul_div_mul_right _ _ hp]
  have b:=Nat.div_add_mod (lo * 2 ^ s) 18446744073709551616
  rw [a] at b
  refine ⟨?_,?_,c⟩
  · rw [Nat.add_mul,Nat.add_mul,← b,Nat.mul_right_comm]
    omega
  · have : hi + 1 ≤ y:=hh
    have:=Nat.mul_le_mul_right (2 ^ s) this
    rw [Nat.add_mul] at this
    omega
theorem mul_halves {x y : Nat} (hy : y < 4294967296) : (x / 4294967296 * y + x % 4294967296 * y / 4294967296) / 4294967296 = x * y / 18446744073709551616:=by
  have e:=Nat.div_add_mod x 4294967296
  have h : x * y = x / 4294967296 * y * 4294967296 + x % 4294967296 * y:=by
    conv => lhs; rw [← e]
    rw [Nat.add_mul,Nat.mul_assoc,Nat.mul_comm 4294967296 (_ * y)]
  rw [h,show (18446744073709551616 : Nat) = 4294967296 * 4294967296 by decide,← Nat.div_div_eq_div_mul]
  congr 1
  generalize x / 4294967296 * y = a
  generalize x % 4294967296 * y = b
  omega
end S
end Go.Proofs.YtbmmbefgmhhciaaGreat
