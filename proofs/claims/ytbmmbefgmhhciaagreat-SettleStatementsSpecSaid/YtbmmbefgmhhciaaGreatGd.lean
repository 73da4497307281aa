/-
  Markets and their settling (part 4).
-/
import Derived.Test.YtbmmbefgmhhciaaGreatGc
set_option linter.unusedSimpArgs false
set_option linter.unusedVariables false
set_option linter.unusedSectionVars false
namespace Go.Proofs.YtbmmbefgmhhciaaGreat
open Go GoV
set_option maxRecDepth 100000
namespace S
theorem c_divide (T x S : Nat) (hT : T ≤ 1099511627776) (hx : x ≤ S) (hS : 0 < S) (hb : S ≤ 4398046511104) : ap Tryz.prog pol 45 [I T,I x,I S] = some (.ret (.tup [I ((T * x / S : Nat) : Int),I ((T * x % S : Nat) : Int)])):=by
  rw [ap_eq _ Tryz.func45 rfl Tryz.ntmps45 Tryz.results45 (by kernel_rfl) rfl (by exact Nat.le_of_ble_eq_true rfl)]
  simp (maxSteps:=999999) only [E0,seval,-Int.reduceNatCast']
  generalize hL : W _ (.loop _) _ = L
  obtain ⟨ex,s,rfl,rfl,h8,h9,hd⟩:=loop_at hL (α:=Nat × Nat × Nat) (fun p => p.1)
    (fun s0 p s => p.1 ≤ 41 ∧ p.2.1 * S + p.2.2 = T / 2 ^ p.1 * x ∧ p.2.2 < S ∧ s.tmps 10 = I ((p.1 : Int) - 1) ∧ s.tmps 8 = I p.2.1 ∧ s.tmps 9 = I p.2.2 ∧ s.tmps 0 = I T ∧ s.tmps 1 = I x ∧ s.tmps 2 = I S ∧ s.defers = [] ∧ s.fid = 0)
    (fun s0 ex s => ex = .exit 0 ∧ s.tmps 8 = I ((T * x / S : Nat) : Int) ∧ s.tmps 9 = I ((T * x % S : Nat) : Int) ∧ s.defers = []) (41,0,0)
    (by simp (maxSteps:=999999) only [E0,seval,-Int.reduceNatCast']
        have : T / 2 ^ 41 = 0:=by omega
        exact ⟨by rw [this]; simp,hS,by simp⟩) (by
      rintro ⟨k,q,r⟩ s r0 hW ⟨hk,he,hr,h10,h8,h9,h0,h1,h2,hd,hf⟩
      dsimp only at hk he hr h10 h8 h9
      cases k with
      | zero =>
        simp (maxSteps:=999999) only [E0,seval,-Int.reduceNatCast',h10,h8,h9,hd,hf,(show ¬ (0 : Int) ≤ ((0 : Nat) : Int) - 1 by omega)] at hW
        subst hW
        rw [Nat.pow_zero,Nat.div_one] at he
        have d1 : T * x / S = q:=by rw [← he,Nat.mul_comm q S,Nat.mul_add_div hS,Nat.div_eq_of_lt hr,Nat.add_zero]
        have d2 : T * x % S = r:=by rw [← he,Nat.mul_comm q S,Nat.mul_add_mod,Nat.mod_eq_of_lt hr]
        refine rd_exit ⟨rfl,?_⟩
        simp (maxSteps:=999999) only [E0,seval,-Int.reduceNatCast',h8,h9,d1,d2]
      | succ k =>
        have e2 : T / 2 ^ (k + 1) = T / 2 ^ k / 2:=by rw [Nat.pow_succ,Nat.div_div_eq_div_mul]
        have sh:=shr_i T k (by omega)
        have lt : T / 2 ^ k ≤ T:=Nat.div_le_self _ _
        rw [e2] at he
        obtain ⟨t,ht⟩ : ∃ t,t = T / 2 ^ k:=⟨_,rfl⟩
        rw [← ht] at sh lt he
        have an:=and_one t (by omega)
        have qb : q * S ≤ 1099511627776 * S:=by
          have : t / 2 * x ≤ 1099511627776 * S:=Nat.mul_le_mul (by omega) hx
          omega
        have qb' : q ≤ 1099511627776:=Nat.le_of_mul_le_mul_right qb hS
        have td : ∀ n : Nat,(n : Int).tdiv S = ((n / S : Nat) : Int):=fun n => by rw [Int.tdiv_eq_ediv_of_nonneg (by omega)]; simp
        have tm : ∀ n : Nat,(n : Int).tmod S = ((n % S : Nat) : Int):=fun n => by rw [Int.tmod_eq_emod_of_nonneg (by omega)]; simp
        have hk' : s.tmps 10 = I k:=by rw [h10]; congr 1; omega
        have key : ∀ m : Nat,m = 2 * r + (t % 2) * x → (2 * q + m / S) * S + m % S = t * x:=by
          intro m hm
          have:=Nat.div_add_mod m S
          rw [Nat.mul_comm] at this
          have e3 : t = 2 * (t / 2) + t % 2:=by omega
          rw [Nat.add_mul,Nat.mul_assoc]
          conv => rhs; rw [e3]
          rw [Nat.add_mul,Nat.mul_assoc,← he]
          omega
        rcases Nat.mod_two_eq_zero_or_one t with t2 | t2
        · have:=key (2 * r) (by rw [t2]; omega)
          have dl:=Nat.div_le_self (2 * r) S
          have td1:=td (2 * r)
          have tm1:=tm (2 * r)
          have ml:=Nat.mod_lt (2 * r) hS
          obtain ⟨d,hdd⟩ : ∃ d,d = (2 * r) / S:=⟨_,rfl⟩
          obtain ⟨e,hee⟩ : ∃ e,e = (2 * r) % S:=⟨_,rfl⟩
          rw [← hdd] at td1 dl this
          rw [← hee] at tm1 ml this
          rw [t2] at an
          simp (maxSteps:=999999) only [E0,seval,-Int.reduceNatCast',hk',h8,h9,h0,h1,h2,hd,hf,sh,an,td1,tm1,Int.toNat_natCast,(show (0 : Int) ≤ k by omega),(show ¬ (k : Int) < 0 by omega),(show (2 : Int) * q = ((2 * q : Nat) : Int) by omega),(show (2 : Int) * r = ((2 * r : Nat) : Int) by omega),i64_in (x:=((2 * q : Nat) : Int)) (by unfold I64; omega),i64_in (x:=((2 * r : Nat) : Int)) (by unfold I64; omega),Int.natCast_zero,(show ¬ (S : Int) = 0 by omega),i64_in (x:=(d : Int)) (by unfold I64; omega),(show ((2 * q : Nat) : Int) + (d : Int) = ((2 * q + d : Nat) : Int) by omega),i64_in (x:=((2 * q + d : Nat) : Int)) (by unfold I64; omega),i64_in (x:=(k : Int) - 1) (by unfold I64; omega)] at hW
          subst hW
          refine rd_next (k,2 * q + d,e) ?_ (Nat.lt_succ_self k)
          simp (maxSteps:=999999) only [E0,seval,-Int.reduceNatCast',h0,h1,h2,hd,hf]
          exact ⟨by omega,by rw [← ht]; exact this,ml⟩
        · have:=key (2 * r + x) (by rw [t2]; omega)
          have dl:=Nat.div_le_self (2 * r + x) S
          have td1:=td (2 * r + x)
          have tm1:=tm (2 * r + x)
          have ml:=Nat.mod_lt (2 * r + x) hS
          obtain ⟨d,hdd⟩ : ∃ d,d = (2 * r + x) / S:=⟨_,rfl⟩
          obtain ⟨e,hee⟩ : ∃ e,e = (2 * r + x) % S:=⟨_,rfl⟩
          rw [← hdd] at td1 dl this
          rw [← hee] at tm1 ml this
          rw [t2] at an
          simp (maxSteps:=999999) only [E0,seval,-Int.reduceNatCast',hk',h8,h9,h0,h1,h2,hd,hf,sh,an,td1,tm1,Int.toNat_natCast,(show (0 : Int) ≤ k by omega),(show ¬ (k : Int) < 0 by omega),(show (2 : Int) * q = ((2 * q : Nat) : Int) by omega),(show (2 : Int) * r = ((2 * r : Nat) : Int) by omega),i64_in (x:=((2 * q : Nat) : Int)) (by unfold I64; omega),i64_in (x:=((2 * r : Nat) : Int)) (by unfold I64; omega),(show ((2 * r : Nat) : Int) + x = ((2 * r + x : Nat) : Int) by omega),i64_in (x:=((2 * r + x : Nat) : Int)) (by unfold I64; omega),Int.natCast_one,(show ¬ (S : Int) = 0 by omega),i64_in (x:=(d : Int)) (by unfold I64; omega),(show ((2 * q : Nat) : Int) + (d : Int) = ((2 * q + d : Nat) : Int) by omega),i64_in (x:=((2 * q + d : Nat) : Int)) (by unfold I64; omega),i64_in (x:=(k : Int) - 1) (by unfold I64; omega)] at hW
          subst hW
          refine rd_next (k,2 * q + d,e) ?_ (Nat.lt_succ_self k)
          simp (maxSteps:=999999) only [E0,seval,-Int.reduceNatCast',h0,h1,h2,hd,hf]
          exact ⟨by omega,by rw [← ht]; exact this,ml⟩)
  simp (maxSteps:=999999) only [E0,seval,-Int.reduceNatCast',h8,h9,hd]
theorem c_rshare (T : Int) (w : List Int) (c : Option Nat) : ap Tryz.prog pol 43 [I T,.vs 1 (w.map I) c] = some (.ret (I (CKW T w))):=by
  rw [ap_eq _ Tryz.func43 rfl Tryz.ntmps43 Tryz.results43 (by kernel_rfl) rfl (by exact Nat.le_of_ble_eq_true rfl)]
  by_cases hl : 600 < w.length
  · rw [show CKW T w = 2 by unfold CKW; rw [if_pos hl]]
    simp (maxSteps:=999999) only [E0,seval,-Int.reduceNatCast',NUM,SIN,List.length_map,(show (600 : Int) < w.length by omega)]
  by_cases h1 : 0 ≤ T ∧ T ≤ 1099511627776
  rotate_left
  · rw [show CKW T w = 380 by unfold CKW; rw [if_neg hl,if_neg (fun h => h1 h.1)]]
    by_cases h2 : T < 0
    · simp (maxSteps:=999999) only [E0,seval,-Int.reduceNatCast',NUM,SIN,List.length_map,(show ¬ (600 : Int) < w.length by omega),h2]
    · simp (maxSteps:=999999) only [E0,seval,-Int.reduceNatCast',NUM,SIN,List.length_map,(show ¬ (600 : Int) < w.length by omega),h2,(show (1099511627776 : Int) < T by omega)]
  simp (maxSteps:=999999) only [E0,seval,-Int.reduceNatCast',NUM,SIN,List.length_map,(show ¬ (600 : Int) < w.length by omega),(show ¬ T < 0 by omega),(show ¬ (1099511627776 : Int) < T by omega)]
  generalize hL : W _ (.loop _) _ = L
  obtain ⟨ex,s,rfl,hex,hd⟩:=loop_at hL (α:=Nat) (fun j => w.length - j)
    (fun s0 j s => j ≤ w.length ∧ (∀ x ∈ w.take j,OKL x) ∧ s.tmps 5 = I j ∧ s.tmps 1 = .vs 1 (w.map I) c ∧ s.defers = [] ∧ s.fid = 0)
    (fun s0 ex s => ((ex = .exit 0 ∧ ∀ x ∈ w,OKL x) ∨ (ex = .ret ∧ (¬ ∀ x ∈ w,OKL x) ∧ s.tmps 4 = I 380)) ∧ s.defers = []) 0
    (by simp (maxSteps:=999999) only [E0,seval,-Int.reduceNatCast']; exact ⟨by omega,by simp,by simp⟩) (by
      rintro j s r hW ⟨hj,ht,h5,h1',hd,hf⟩
      by_cases hp : j < w.length
      · have e0 : w[j]? = some w[j]:=List.getElem?_eq_getElem hp
        have e1:=map_get (f:=I) e0
        have hm:=List.getElem_mem hp
        have at1:=all_take (P:=OKL) e0
        generalize w[j] = x at *
        have bad : ¬ OKL x → ¬ ∀ x ∈ w,OKL x:=fun h g => h (g x hm)
        unfold OKL at bad
        simp (maxSteps:=999999) only [E0,seval,-Int.reduceNatCast',NUM,h5,h1',hd,hf,e1,List.length_map,Int.toNat_natCast,(show (j : Int) < w.length by omega),(show (0 : Int) ≤ j by omega),(i64_in (x:=(j : Int) + 1) (by unfold I64; omega))] at hW
        subst hW
        refine rd_ite (fun q1 => ?_) (fun q1 => ?_)
        · exact rd_ret ⟨.inr ⟨rfl,bad (fun h => by omega),by simp (maxSteps:=999999) only [E0,seval,-Int.reduceNatCast']⟩,by simp (maxSteps:=999999) only [E0,seval,-Int.reduceNatCast',hd]⟩
        refine rd_ite (fun q2 => ?_) (fun q2 => ?_)
        · exact rd_ret ⟨.inr ⟨rfl,bad (fun h => by omega),by simp (maxSteps:=999999) only [E0,seval,-Int.reduceNatCast']⟩,by simp (maxSteps:=999999) only [E0,seval,-Int.reduceNatCast',hd]⟩
        refine rd_next (j + 1) ?_ (show w.length - (j + 1) < w.length - j by omega)
        simp (maxSteps:=999999) only [E0,seval,-Int.reduceNatCast',h1',hd]
        exact ⟨by omega,at1.2 ⟨ht,by unfold OKL; omega⟩,by simp⟩
      · simp (maxSteps:=999999) only [E0,seval,-Int.reduceNatCast',h5,h1',hd,hf,List.length_map,(show ¬ (j : Int) < w.length by omega)] at hW
        subst hW
        have : j = w.length:=by omega
        subst this
        rw [List.take_length] at ht
        exact rd_exit ⟨.inl ⟨rfl,ht⟩,by simp (maxSteps:=999999) only [E0,seval,-Int.reduceNatCast',hd]⟩)
  rcases hex with ⟨rfl,hh⟩ | ⟨rfl,hh,h2⟩
  · rw [show CKW T w = 0 by unfold CKW; rw [if_neg hl,if_pos ⟨h1,hh⟩]]; simp (maxSteps:=999999) only [E0,seval,-Int.reduceNatCast',hd]
  · rw [show CKW T w = 380 by unfold CKW; rw [if_neg hl,if_neg (fun h => hh h.2)]]; simp (maxSteps:=999999) only [E0,seval,-Int.reduceNatCast',hd,h2]
theorem c_sumV (w : List Int) (c : Option Nat) (hw : ∀ j,I64 (SUMI (w.take j))) (hl : w.length ≤ 1000000) (H : Heap) : callF G Tryz.prog pol 44 [.vs 1 (w.map I) c] H = some (.ret (I (SUMI w)),⟨H.rows,H.next + 1⟩):=by
  rw [callF_eq _ _ Tryz.func44 rfl Tryz.ntmps44 Tryz.results44 (by kernel_rfl) rfl (by exact Nat.le_of_ble_eq_true rfl)]
  simp (maxSteps:=999999) only [E0,seval,-Int.reduceNatCast']
  generalize hL : W _ (.loop _) _ = L
  obtain ⟨ex,s,rfl,rfl,h3,hrow,hd,hn⟩:=loop_at hL (α:=Nat) (fun j => w.length - j)
    (fun s0 j s => j ≤ w.length ∧ s.tmps 4 = I j ∧ s.tmps 3 = I (SUMI (w.take j)) ∧ s.tmps 0 = .vs 1 (w.map I) c ∧ s.H.rows = H.rows ∧ s.H.next = H.next + 1 ∧ s.defers = [] ∧ s.fid = H.next)
    (fun s0 ex s => ex = .exit 0 ∧ s.tmps 3 = I (SUMI w) ∧ s.H.rows = H.rows ∧ s.defers = [] ∧ s.H.next = H.next + 1) 0
    (by simp (maxSteps:=999999) only [E0,seval,-Int.reduceNatCast',List.take_zero]; exact ⟨by omega,by simp,by simp [SUMI]⟩) (by
      rintro j s r hW ⟨hj,h4,h3,h0,hrow,hn,hd,hf⟩
      by_cases hp : j < w.length
      · have e0 : w[j]? = some w[j]:=List.getElem?_eq_getElem hp
        have e1:=map_get (f:=I) e0
        have st:=SUMI_take e0
        have b1:=hw (j + 1)
        generalize w[j] = x at *
        simp (maxSteps:=999999) only [E0,seval,-Int.reduceNatCast',NUM,h4,h3,h0,hd,hf,e1,List.length_map,Int.toNat_natCast,(show (j : Int) < w.length by omega),(show (0 : Int) ≤ j by omega),← st,i64_in b1,i64_in (x:=(j : Int) + 1) (by unfold I64; omega)] at hW
        subst hW
        refine rd_next (j + 1) ?_ (show w.length - (j + 1) < w.length - j by omega)
        simp (maxSteps:=999999) only [E0,seval,-Int.reduceNatCast',h0,hrow]
        exact ⟨by omega,by simp,hn⟩
      · simp (maxSteps:=999999) only [E0,seval,-Int.reduceNatCast',h4,h0,hd,hf,List.length_map,(show ¬ (j : Int) < w.length by omega)] at hW
        subst hW
        rw [List.take_of_length_le (by omega)] at h3
        refine rd_exit ⟨rfl,?_⟩
        simp (maxSteps:=999999) only [E0,seval,-Int.reduceNatCast',h3,hrow]
        exact hn)
  simp (maxSteps:=999999) only [E0,seval,-Int.reduceNatCast',h3,hd]
  rw [← hrow,← hn]
theorem c_sumG (w : List Int) (id : Nat) (hw : ∀ j,I64 (SUMI (w.take j))) (hl : w.length ≤ 1000000) (H : Heap) (hr : H.rows id = some (.gro 1 (w.map I) 0)) : callF G Tryz.prog pol 44 [.gsl 1 id w.length 0 w.length] H = some (.ret (I (SUMI w)),⟨H.rows,H.next + 1⟩):=by
  rw [callF_eq _ _ Tryz.func44 rfl Tryz.ntmps44 Tryz.results44 (by kernel_rfl) rfl (by exact Nat.le_of_ble_eq_true rfl)]
  simp (maxSteps:=999999) only [E0,seval,-Int.reduceNatCast']
  generalize hL : W _ (.loop _) _ = L
  obtain ⟨ex,s,rfl,rfl,h3,hrow,hd,hn⟩:=loop_at hL (α:=Nat) (fun j => w.length - j)
    (fun s0 j s => j ≤ w.length ∧ s.tmps 4 = I j ∧ s.tmps 3 = I (SUMI (w.take j)) ∧ s.tmps 0 = .gsl 1 id w.length 0 w.length ∧ s.H.rows = H.rows ∧ s.H.next = H.next + 1 ∧ s.defers = [] ∧ s.fid = H.next)
    (fun s0 ex s => ex = .exit 0 ∧ s.tmps 3 = I (SUMI w) ∧ s.H.rows = H.rows ∧ s.defers = [] ∧ s.H.next = H.next + 1) 0
    (by simp (maxSteps:=999999) only [E0,seval,-Int.reduceNatCast',List.take_zero]; exact ⟨by omega,by simp,by simp [SUMI]⟩) (by
      rintro j s r hW ⟨hj,h4,h3,h0,hrow,hn,hd,hf⟩
      by_cases hp : j < w.length
      · have e0 : w[j]? = some w[j]:=List.getElem?_eq_getElem hp
        have e1:=map_get (f:=I) e0
        have st:=SUMI_take e0
        have b1:=hw (j + 1)
        have r2 : s.H.rows id = some (.gro 1 (w.map I) 0):=by rw [hrow]; exact hr
        generalize w[j] = x at *
        simp (maxSteps:=999999) only [E0,seval,-Int.reduceNatCast',NUM,h4,h3,h0,hd,hf,r2,e1,List.length_map,Int.toNat_natCast,Nat.zero_add,(show (j : Int) < w.length by omega),(show (0 : Int) ≤ j by omega),← st,i64_in b1,i64_in (x:=(j : Int) + 1) (by unfold I64; omega)] at hW
        subst hW
        refine rd_next (j + 1) ?_ (show w.length - (j + 1) < w.length - j by omega)
        simp (maxSteps:=999999) only [E0,seval,-Int.reduceNatCast',h0,hrow]
        exact ⟨by omega,by simp,hn⟩
      · simp (maxSteps:=999999) only [E0,seval,-Int.reduceNatCast',h4,h0,hd,hf,(show ¬ (j : Int) < w.length by omega)] at hW
        subst hW
        rw [List.take_of_length_le (by omega)] at h3
        refine rd_exit ⟨rfl,?_⟩
        simp (maxSteps:=999999) only [E0,seval,-Int.reduceNatCast',h3,hrow]
        exact hn)
  simp (maxSteps:=999999) only [E0,seval,-Int.reduceNatCast',h3,hd]
  rw [← hrow,← hn]
def GRT (R : List Int) (k : Nat) : Prop:=∃ x,R[k]? = some x ∧ ∀ (i : Nat) (y : Int),R[i]? = some y → y ≤ x ∧ (i < k → y < x)
theorem GRT_one {R : List Int} {k k' : Nat} (h : GRT R k) (h' : GRT R k') : k = k':=by
  obtain ⟨x,e,p⟩:=h
  obtain ⟨x',e',p'⟩:=h'
  have a:=p k' x' e'
  have b:=p' k x e
  rcases Nat.lt_trichotomy k k' with h | h | h
  · have:=b.2 h; omega
  · exact h
  · have:=a.2 h; omega
def GRTP (R : List Int) (n k : Nat) : Prop:=∃ x,R[k]? = some x ∧ ∀ (i : Nat) (y : Int),i < n → R[i]? = some y → y ≤ x ∧ (i < k → y < x)
theorem c_greatest (R : List Int) (id : Nat) (hR : 0 < R.length) (hl : R.length ≤ 1000000) (H : Heap) (hr : H.rows id = some (.gro 1 (R.map I) 0)) :
    ∃ g : Nat,callF G Tryz.prog pol 46 [.gsl 1 id R.length 0 R.length] H = some (.ret (I g),⟨H.rows,H.next + 1⟩) ∧ GRT R g:=by
  rw [callF_eq _ _ Tryz.func46 rfl Tryz.ntmps46 Tryz.results46 (by kernel_rfl) rfl (by exact Nat.le_of_ble_eq_true rfl)]
  simp (maxSteps:=999999) only [E0,seval,-Int.reduceNatCast']
  generalize hL : W _ (.loop _) _ = L
  obtain ⟨ex,s,rfl,rfl,g,hg,h3,hrow,hd,hn⟩:=loop_at hL (α:=Nat × Nat) (fun p => R.length - p.1)
    (fun s0 p s => p.1 ≤ R.length ∧ p.2 < p.1 ∧ GRTP R p.1 p.2 ∧ s.tmps 4 = I p.1 ∧ s.tmps 3 = I p.2 ∧ s.tmps 0 = .gsl 1 id R.length 0 R.length ∧ s.H.rows = H.rows ∧ s.H.next = H.next + 1 ∧ s.defers = [] ∧ s.fid = H.next)
    (fun s0 ex s => ex = .exit 0 ∧ ∃ g : Nat,GRT R g ∧ s.tmps 3 = I g ∧ s.H.rows = H.rows ∧ s.defers = [] ∧ s.H.next = H.next + 1) (1,0)
    (by simp (maxSteps:=999999) only [E0,seval,-Int.reduceNatCast']
        have e0 : R[0]? = some R[0]:=List.getElem?_eq_getElem hR
        have g0 : GRTP R 1 0:=⟨_,e0,fun i y hi ey => by
          obtain rfl : i = 0:=by omega
          rw [e0] at ey; cases ey; exact ⟨Int.le_refl _,fun h => absurd h (by omega)⟩⟩
        exact ⟨hR,g0,rfl,rfl⟩) (by
      rintro ⟨j,g⟩ s r hW ⟨hj,hgj,⟨x,ex,hx⟩,h4,h3,h0,hrow,hn,hd,hf⟩
      dsimp only at hj hgj ex hx h4 h3
      by_cases hp : j < R.length
      · have e0 : R[j]? = some R[j]:=List.getElem?_eq_getElem hp
        have e1:=map_get (f:=I) e0
        have e2:=map_get (f:=I) ex
        have r2 : s.H.rows id = some (.gro 1 (R.map I) 0):=by rw [hrow]; exact hr
        generalize R[j] = y at *
        by_cases hxy : x < y
        · simp (maxSteps:=999999) only [E0,seval,-Int.reduceNatCast',NUM,h4,h3,h0,hd,hf,r2,e1,e2,hxy,List.length_map,Int.toNat_natCast,Nat.zero_add,(show (j : Int) < R.length by omega),(show (g : Int) < R.length by omega),(show (0 : Int) ≤ j by omega),(show (0 : Int) ≤ g by omega),i64_in (x:=(j : Int) + 1) (by unfold I64; omega)] at hW
          subst hW
          refine rd_next (j + 1,j) ?_ (show R.length - (j + 1) < R.length - j by omega)
          simp (maxSteps:=999999) only [E0,seval,-Int.reduceNatCast',h0,hrow]
          refine ⟨by omega,by omega,?_,by simp,hn⟩
          refine ⟨y,e0,fun i z hi ez => ?_⟩
          by_cases hij : i = j
          · subst hij; rw [e0] at ez; cases ez; exact ⟨Int.le_refl _,fun h => absurd h (by omega)⟩
          · have:=hx i z (by omega) ez; exact ⟨by omega,fun _ => by omega⟩
        · simp (maxSteps:=999999) only [E0,seval,-Int.reduceNatCast',NUM,h4,h3,h0,hd,hf,r2,e1,e2,hxy,List.length_map,Int.toNat_natCast,Nat.zero_add,(show (j : Int) < R.length by omega),(show (g : Int) < R.length by omega),(show (0 : Int) ≤ j by omega),(show (0 : Int) ≤ g by omega),i64_in (x:=(j : Int) + 1) (by unfold I64; omega)] at hW
          subst hW
          refine rd_next (j + 1,g) ?_ (show R.length - (j + 1) < R.length - j by omega)
          simp (maxSteps:=999999) only [E0,seval,-Int.reduceNatCast',h0,h3,hrow]
          refine ⟨by omega,by omega,?_,by simp,hn⟩
          refine ⟨x,ex,fun i z hi ez => ?_⟩
          by_cases hij : i = j
          · subst hij; rw [e0] at ez; cases ez; exact ⟨by omega,fun h => absurd h (by omega)⟩
          · exact hx i z (by omega) ez
      · simp (maxSteps:=999999) only [E0,seval,-Int.reduceNatCast',h4,h0,hd,hf,(show ¬ (j : Int) < R.length by omega)] at hW
        subst hW
        refine rd_exit ⟨rfl,g,⟨x,ex,fun i y ey => hx i y ?_ ey⟩,?_⟩
        · have:=(List.getElem?_eq_some_iff.1 ey).1; omega
        simp (maxSteps:=999999) only [E0,seval,-Int.reduceNatCast',h3,hrow]
        exact hn)
  simp (maxSteps:=999999) only [E0,seval,-Int.reduceNatCast',h3,hd]
  exact ⟨g,by rw [← hrow,← hn],hg⟩
def NEG (ks R : List Int) : List Int:=ks.foldl (fun R k => R.set k.toNat (-1)) R
theorem NEG_snoc (ks : List Int) (k : Int) (R : List Int) : NEG (ks ++ [k]) R = (NEG ks R).set k.toNat (-1):=by simp [NEG]
theorem NEG_len (ks R : List Int) : (NEG ks R).length = R.length:=by
  induction ks generalizing R with
  | nil => rfl
  | cons k ks ih => show (NEG ks (R.set k.toNat (-1))).length = _; rw [ih,List.length_set]
theorem NEG_get (i : Nat) (x : Int) : ∀ (ks R : List Int),(∀ k ∈ ks,0 ≤ k) → R[i]? = some x → (NEG ks R)[i]? = some (if (i : Int) ∈ ks then -1 else x)
  | [],R,_,e => by simpa [NEG] using e
  | k :: ks,R,hk,e => by
    have k0:=hk k (by simp)
    have hi:=(List.getElem?_eq_some_iff.1 e).1
    show (NEG ks (R.set k.toNat (-1)))[i]? = _
    by_cases h : k.toNat = i
    · have e1 : (R.set k.toNat (-1))[i]? = some (-1):=by rw [h,List.getElem?_set_self hi]
      rw [NEG_get i (-1) ks _ (fun j hj => hk j (by simp [hj])) e1]
      have : (i : Int) = k:=by omega
      rw [this]; simp
    · have e1 : (R.set k.toNat (-1))[i]? = some x:=by rw [List.getElem?_set_ne h]; exact e
      rw [NEG_get i x ks _ (fun j hj => hk j (by simp [hj])) e1]
      have : (i : Int) ≠ k:=by omega
      simp [this]
def RSQ (T S : Int) (w : List Int) : List Int:=w.map fun x => T * x % S
theorem RSQ_len {T S : Int} {w : List Int} : (RSQ T S w).length = w.length:=by simp [RSQ]
theorem RSQ_take {T S : Int} {w : List Int} {j : Nat} {x : Int} (e : w[j]? = some x) : RSQ T S (w.take (j + 1)) = RSQ T S (w.take j) ++ [T * x % S]:=by
  rw [List.take_add_one,e]; simp [RSQ]
theorem SHA.next {T S : Int} {w : List Int} {M : List Qu} {left : Nat} (h : SHA T S w M left) (hS : 0 < S) {j : Nat} {q : Qu} (e : M[j]? = some q) {a : Nat} (ha : q.ix = a) : GRT (NEG ((M.take j).map Qu.ix) (RSQ T S w)) a:=by
  have nd : (M.map Qu.ix).Nodup:=by
    have h' : SHA T S w M left:=h
    have : (M.take M.length).map Qu.ix = M.map Qu.ix:=by rw [List.take_length]
    rw [(h.pm.map Qu.ix).nodup_iff]
    refine List.pairwise_iff_getElem.2 fun i j hi hj hij => ?_
    rw [List.length_map] at hi hj
    have hi':=hi; have hj':=hj
    rw [QUO_len] at hi' hj'
    have e1:=QUO_get T S w i
    have e2:=QUO_get T S w j
    rw [List.getElem?_eq_getElem hi,List.getElem?_eq_getElem hi'] at e1
    rw [List.getElem?_eq_getElem hj,List.getElem?_eq_getElem hj'] at e2
    simp only [Option.map_some,Option.some.injEq] at e1 e2
    rw [List.getElem_map,List.getElem_map,e1,e2]
    show (i : Int) ≠ j
    omega
  have hjl:=(List.getElem?_eq_some_iff.1 e).1
  have spl : M = M.take j ++ q :: M.drop (j + 1):=by
    have:=(List.take_append_drop j M).symm
    rw [List.drop_eq_getElem_cons hjl,(List.getElem?_eq_some_iff.1 e).2] at this
    exact this
  have k0 : ∀ k ∈ (M.take j).map Qu.ix,0 ≤ k:=by
    intro k hk
    obtain ⟨p,hp,rfl⟩:=List.mem_map.1 hk
    obtain ⟨i,x,_,rfl⟩:=QUO_mem (h.pm.mem_iff.1 (List.mem_of_mem_take hp))
    show (0 : Int) ≤ i; omega
  obtain ⟨a',x,ex,eq⟩:=QUO_mem (h.pm.mem_iff.1 (List.mem_of_getElem? e))
  have : a' = a:=by rw [eq] at ha; have : (a' : Int) = a:=ha; omega
  subst this
  have qx : q.ix = (a' : Int):=ha
  have rx : (RSQ T S w)[a']? = some (T * x % S):=by simp [RSQ,ex]
  have qn : (a' : Int) ∉ (M.take j).map Qu.ix:=by
    rw [spl,List.map_append,List.map_cons] at nd
    have:=(List.pairwise_append.1 nd).2.2
    intro hm
    exact this _ hm _ (by simp) qx.symm
  have v:=NEG_get a' _ _ _ k0 rx
  rw [if_neg qn] at v
  refine ⟨_,v,fun i y ey => ?_⟩
  have hi : i < w.length:=by
    have:=(List.getElem?_eq_some_iff.1 ey).1
    rw [NEG_len,RSQ_len] at this; exact this
  have ez : w[i]? = some w[i]:=List.getElem?_eq_getElem hi
  have rz : (RSQ T S w)[i]? = some (T * w[i] % S):=by simp [RSQ,ez]
  generalize w[i] = z at *
  have v':=NEG_get i _ _ _ k0 rz
  have r0:=Int.emod_nonneg (T * x) (show S ≠ 0 by omega)
  rw [ey] at v'
  injection v' with v'
  by_cases hm : (i : Int) ∈ (M.take j).map Qu.ix
  · rw [if_pos hm] at v'
    omega
  rw [if_neg hm] at v'
  subst v'
  have hM : (⟨i,T * z % S⟩ : Qu) ∈ M:=by
    rw [h.pm.mem_iff]
    refine List.mem_iff_getElem?.2 ⟨i,?_⟩
    rw [QUO_get,ez]; rfl
  rw [spl] at hM
  rcases List.mem_append.1 hM with h1 | h1
  · exact absurd (List.mem_map.2 ⟨_,h1,rfl⟩) hm
  rcases List.mem_cons.1 h1 with h1 | h1
  · have e1 : (i : Int) = a':=by rw [← qx,← h1]
    have : i = a':=by omega
    subst this
    rw [ex] at ez; cases ez
    exact ⟨Int.le_refl _,fun h => absurd h (by omega)⟩
  · have qs:=h.qs
    rw [spl] at qs
    have:=(List.pairwise_cons.1 (List.pairwise_append.1 qs).2.1).1 _ h1
    rw [eq] at this
    unfold QLT at this
    simp only at this
    omega
theorem c_rShareE (T : Int) (w : List Int) (c : Option Nat) (h : CKW T w ≠ 0) : ap Tryz.prog pol 26 [I T,.vs 1 (w.map I) c] = some (.ret (.tup [.nils,I 0,I (CKW T w)])):=by
  have cr:=c_rshare T w c
  rw [ap_eq _ Tryz.func26 rfl Tryz.ntmps26 Tryz.results26 (by kernel_rfl) rfl (by exact Nat.le_of_ble_eq_true rfl)]
  simp (maxSteps:=999999) only [E0,seval,-Int.reduceNatCast',NUM,SIN,cr,h]
theorem c_rShare0 (T : Int) (w : List Int) (c : Option Nat) (h : CKW T w = 0) (h0 : SUMI w = 0) : ap Tryz.prog pol 26 [I T,.vs 1 (w.map I) c] = some (.ret (.tup [.vs 1 ((List.replicate w.length 0).map I) none,I T,I 0])):=by
  have cr:=c_rshare T w c
  obtain ⟨hl,hT,hw⟩:=CKW_0 h
  have cs:=c_sumV w c (fun j => by have:=SUM_take_le hw j; unfold I64; omega) (by omega)
  obtain ⟨Z,hZ⟩ : ∃ Z,Z = PADZ [] w.length:=⟨_,rfl⟩
  have lZ : Z.length = w.length:=by rw [hZ]; exact PADZ_len (by simp)
  have zs : List.replicate w.length (I 0) = Z.map I:=by rw [hZ]; exact zeros _
  have zz : Z = List.replicate w.length 0:=by rw [hZ]; simp [PADZ]
  rw [ap_eq _ Tryz.func26 rfl Tryz.ntmps26 Tryz.results26 (by kernel_rfl) rfl (by exact Nat.le_of_ble_eq_true rfl)]
  simp (maxSteps:=999999) only [E0,seval,-Int.reduceNatCast',NUM,SIN,cr,h,cs,h0,List.length_map,Int.toNat_natCast,(show (0 : Int) ≤ w.length by omega),(show (w.length : Int) ≤ maxN by unfold maxN; omega),(show 8 ≤ maxB by decide),zs,lZ,Nat.zero_add,Nat.le_refl]
  rw [List.take_of_length_le (by simp [lZ]),SIN.2.2.1,zz]
set_option maxHeartbeats 1000000 in
theorem c_rShare1 (T : Int) (w : List Int) (c : Option Nat) (h : CKW T w = 0) (h0 : SUMI w ≠ 0) {M : List Qu} {left : Nat} (hs : SHA T (SUMI w) w M left) :
    ap Tryz.prog pol 26 [I T,.vs 1 (w.map I) c] = some (.ret (.tup [.vs 1 (hs.out.map I) none,I 0,I 0])):=by
  have cr:=c_rshare T w c
  obtain ⟨hl,hT,hw⟩:=CKW_0 h
  have cs:=c_sumV w c (fun j => by have:=SUM_take_le hw j; unfold I64; omega) (by omega)
  obtain ⟨S,hS⟩ : ∃ S,S = SUMI w:=⟨_,rfl⟩
  have bS:=SUM_take_le hw w.length
  rw [List.take_length,← hS] at bS
  rw [← hS] at h0 cs
  have S0 : 0 < S:=by omega
  obtain ⟨Z,hZ⟩ : ∃ Z,Z = PADZ [] w.length:=⟨_,rfl⟩
  have lZ : Z.length = w.length:=by rw [hZ]; exact PADZ_len (by simp)
  have zs : List.replicate w.length (I 0) = Z.map I:=by rw [hZ]; exact zeros _
  rw [ap_eq _ Tryz.func26 rfl Tryz.ntmps26 Tryz.results26 (by kernel_rfl) rfl (by exact Nat.le_of_ble_eq_true rfl)]
  simp (maxSteps:=999999) only [E0,seval,-Int.reduceNatCast',NUM,SIN,cr,h,cs,h0,List.length_map,Int.toNat_natCast,(show (0 : Int) ≤ w.length by omega),(show (w.length : Int) ≤ maxN by unfold maxN; omega),(show 8 ≤ maxB by decide),zs]
  generalize hL : W _ (.loop _) _ = L
  obtain ⟨ex,s,rfl,rfl,h0',h8,h10,r1,r3,hd,hf⟩:=loop_at hL (α:=Nat) (fun j => w.length - j)
    (fun s0 j s => j ≤ w.length ∧ s.tmps 11 = I j ∧ s.tmps 1 = .vs 1 (w.map I) c ∧ s.tmps 9 = I S ∧ s.tmps 0 = I T ∧ s.tmps 8 = .gsl 1 1 w.length 0 w.length ∧ s.tmps 10 = .gsl 1 3 w.length 0 w.length ∧
      s.H.rows 1 = some (.gro 1 ((PADZ (SHQ T S (w.take j)) w.length).map I) 0) ∧ s.H.rows 3 = some (.gro 1 ((PADZ (RSQ T S (w.take j)) w.length).map I) 0) ∧ s.defers = [] ∧ s.fid = 0)
    (fun s0 ex s => ex = .exit 0 ∧ s.tmps 0 = I T ∧ s.tmps 8 = .gsl 1 1 w.length 0 w.length ∧ s.tmps 10 = .gsl 1 3 w.length 0 w.length ∧ s.H.rows 1 = some (.gro 1 ((SHQ T S w).map I) 0) ∧ s.H.rows 3 = some (.gro 1 ((RSQ T S w).map I) 0) ∧ s.defers = [] ∧ s.fid = 0) 0
    (by simp (maxSteps:=999999) only [E0,seval,-Int.reduceNatCast',List.take_zero]
        refine ⟨Nat.zero_le _,rfl,?_,?_⟩
        · rw [hZ]; rfl
        · rw [hZ]; rfl) (by
      rintro j s r hW ⟨hj,h11,h1,h9,h0',h8,h10,r1,r3,hd,hf⟩
      by_cases hp : j < w.length
      · have e0 : w[j]? = some w[j]:=List.getElem?_eq_getElem hp
        have e1:=map_get (f:=I) e0
        have sq:=SHQ_take (T:=T) (S:=S) e0
        have rq:=RSQ_take (T:=T) (S:=S) e0
        have okx:=hw _ (List.mem_of_getElem? e0)
        unfold OKL at okx
        have ls : (SHQ T S (w.take j)).length = j:=by rw [SHQ_len,List.length_take]; omega
        have lr : (RSQ T S (w.take j)).length = j:=by rw [RSQ_len,List.length_take]; omega
        have p1:=PADZ_at (q:=SHQ T S (w.take j)) (n:=w.length) (by omega)
        have p2:=PADZ_set (q:=SHQ T S (w.take j)) (n:=w.length) (T * w[j] / S) (by omega)
        have p3:=PADZ_len (q:=SHQ T S (w.take j)) (n:=w.length) (by omega)
        have t1:=PADZ_at (q:=RSQ T S (w.take j)) (n:=w.length) (by omega)
        have t2:=PADZ_set (q:=RSQ T S (w.take j)) (n:=w.length) (T * w[j] % S) (by omega)
        have t3:=PADZ_len (q:=RSQ T S (w.take j)) (n:=w.length) (by omega)
        rw [ls] at p1 p2
        rw [lr] at t1 t2
        rw [← sq] at p2
        rw [← rq] at t2
        have a1 : w[j] ≤ S:=by
          have e1':=SUMI_take e0
          have b0':=(SUM_take_le hw j).1
          have e : SUMI w = SUMI (w.take (j + 1)) + SUMI (w.drop (j + 1)):=by rw [← SUMI_app,List.take_append_drop]
          have:=(SUMI_bounds (a:=0) (b:=1073741824) (w.drop (j + 1)) (fun x hx => hw x (List.mem_of_mem_drop hx))).1
          omega
        generalize w[j] = x at *
        obtain ⟨t,rfl⟩:=Int.eq_ofNat_of_zero_le hT.1
        obtain ⟨v,rfl⟩:=Int.eq_ofNat_of_zero_le okx.1
        obtain ⟨S',rfl⟩:=Int.eq_ofNat_of_zero_le (show 0 ≤ S by omega)
        have cd:=c_divide t v S' (by omega) (by omega) (by omega) (by omega)
        have k1 : ((t * v / S' : Nat) : Int) = (t : Int) * v / S':=by simp
        have k2 : ((t * v % S' : Nat) : Int) = (t : Int) * v % S':=by simp
        rw [k1,k2] at cd
        generalize hqq : (t : Int) * v / S' = Q at *
        generalize hrr : (t : Int) * v % S' = R at *
        obtain ⟨P,hP⟩ : ∃ P,P = PADZ (SHQ t S' (w.take j)) w.length:=⟨_,rfl⟩
        rw [← hP] at p1 p2 p3 r1
        have p2':=mapI_set P j Q
        rw [p2] at p2'
        have p1':=map_get (f:=I) p1
        obtain ⟨P',hP'⟩ : ∃ P',P' = PADZ (RSQ t S' (w.take j)) w.length:=⟨_,rfl⟩
        rw [← hP'] at t1 t2 t3 r3
        have t2':=mapI_set P' j R
        rw [t2] at t2'
        have t1':=map_get (f:=I) t1
        simp (maxSteps:=999999) only [E0,seval,-Int.reduceNatCast',NUM,h11,h1,h9,h0',h8,h10,hd,hf,r1,r3,e1,cd,p1',p3,t1',t3,List.length_map,List.length_set,Int.toNat_natCast,(show (j : Int) < w.length by omega),(show (0 : Int) ≤ j by omega),i64_in (x:=(j : Int) + 1) (by unfold I64; omega),Nat.zero_add,Nat.zero_le] at hW
        subst hW
        refine rd_next (j + 1) ?_ (show w.length - (j + 1) < w.length - j by omega)
        simp (maxSteps:=999999) only [E0,seval,-Int.reduceNatCast',h1,h9,h0',h8,h10,p2',t2']
        exact ⟨by omega,by simp⟩
      · simp (maxSteps:=999999) only [E0,seval,-Int.reduceNatCast',h11,h1,hd,hf,List.length_map,(show ¬ (j : Int) < w.length by omega)] at hW
        subst hW
        have : j = w.length:=by omega
        subst this
        rw [List.take_length] at r1 r3
        refine rd_exit ⟨rfl,?_⟩
        simp (maxSteps:=999999) only [E0,seval,-Int.reduceNatCast',h0',h8,h10,r1,r3]
        simp [PADZ,SHQ,RSQ])
  have lq : (SHQ T S w).length = w.length:=SHQ_len
  have cg:=c_sumG (SHQ T S w) 1 (fun j => by
    have e : (SHQ T S w).take j = SHQ T S (w.take j):=by simp [SHQ]
    have:=SHQ_take_sum hT S0 hS hw j
    rw [e]; unfold I64; omega) (by omega) s.H r1
  rw [lq] at cg
  have hlf:=hs.lf
  rw [← hS] at hlf
  have lM:=hs.len
  have ll:=hs.left_le rfl (by omega)
  simp (maxSteps:=999999) only [E0,seval,-Int.reduceNatCast',NUM,SIN,h0',h8,h10,hd,hf,cg,← hlf,i64_in (x:=(left : Int)) (by unfold I64; omega)]
  have lo:=hs.out_len
  have ki:=hs.k_in
  have ot : hs.out = BMP ((M.take left).map Qu.ix) (SHQ T (SUMI w) w):=rfl
  have kd : hs.K = (M.take left).map Qu.ix:=rfl
  rw [kd] at ki
  rw [ot] at lo ⊢
  subst hS
  clear hL
  generalize hL : W _ (.loop _) _ = L
  obtain ⟨ex,s2,rfl,rfl,h8,r1,hd⟩:=loop_at hL (α:=Nat) (fun j => left - j)
    (fun s0 j s => j ≤ left ∧ s.tmps 14 = I ((left : Int) - j) ∧ s.tmps 8 = .gsl 1 1 w.length 0 w.length ∧ s.tmps 10 = .gsl 1 3 w.length 0 w.length ∧
      s.H.rows 1 = some (.gro 1 ((BMP ((M.take j).map Qu.ix) (SHQ T (SUMI w) w)).map I) 0) ∧ s.H.rows 3 = some (.gro 1 ((NEG ((M.take j).map Qu.ix) (RSQ T (SUMI w) w)).map I) 0) ∧ s.defers = [] ∧ s.fid = 0)
    (fun s0 ex s => ex = .exit 2 ∧ s.tmps 8 = .gsl 1 1 w.length 0 w.length ∧ s.H.rows 1 = some (.gro 1 ((BMP ((M.take left).map Qu.ix) (SHQ T (SUMI w) w)).map I) 0) ∧ s.defers = []) 0
    (by simp (maxSteps:=999999) only [E0,seval,-Int.reduceNatCast',List.take_zero,r1,r3,h8,h10]
        exact ⟨Nat.zero_le _,by simp,rfl,rfl⟩) (by
      rintro j s r hW ⟨hj,h14,h8,h10,r1,r3,hd,hf⟩
      by_cases hp : j < left
      · have e0 : M[j]? = some (M[j]'(by omega)):=List.getElem?_eq_getElem _
        have tk : (M.take (j + 1)).map Qu.ix = (M.take j).map Qu.ix ++ [(M[j]'(by omega)).ix]:=by rw [List.take_add_one,e0,List.map_append]; rfl
        have hm : (M[j]'(by omega)).ix ∈ (M.take left).map Qu.ix:=List.mem_map.2 ⟨_,List.mem_iff_getElem?.2 ⟨j,by rw [List.getElem?_take,if_pos hp]; exact e0⟩,rfl⟩
        have kx:=ki _ hm
        generalize (M[j]'(by omega)) = x at *
        obtain ⟨a,ea⟩:=Int.eq_ofNat_of_zero_le kx.1
        have gt:=hs.next S0 e0 ea
        obtain ⟨B,hB⟩ : ∃ B,B = BMP ((M.take j).map Qu.ix) (SHQ T (SUMI w) w):=⟨_,rfl⟩
        have lB : B.length = w.length:=by rw [hB,BMP_len,lq]
        have bs : BMP ((M.take (j + 1)).map Qu.ix) (SHQ T (SUMI w) w) = BMP1 B x.ix:=by rw [tk,BMP_snoc,← hB]
        obtain ⟨N,hN⟩ : ∃ N,N = NEG ((M.take j).map Qu.ix) (RSQ T (SUMI w) w):=⟨_,rfl⟩
        have lN : N.length = w.length:=by rw [hN,NEG_len,RSQ_len]
        have ns : NEG ((M.take (j + 1)).map Qu.ix) (RSQ T (SUMI w) w) = N.set a (-1):=by rw [tk,NEG_snoc,← hN,ea,Int.toNat_natCast]
        rw [← hB] at r1
        rw [← hN] at r3 gt
        obtain ⟨g,cgr,hg⟩:=c_greatest N 3 (by omega) (by omega) s.H r3
        obtain rfl:=GRT_one hg gt
        rw [lN] at cgr
        have b0 : B[g]? = some (B[g]'(by omega)):=List.getElem?_eq_getElem _
        have n0 : N[g]? = some (N[g]'(by omega)):=List.getElem?_eq_getElem _
        have bb : 0 ≤ B[g]'(by omega) ∧ B[g]'(by omega) ≤ 1099511627776 + 1:=by
          have sb : ((M.take j).map Qu.ix).Sublist ((M.take left).map Qu.ix):=by
            rw [show M.take j = (M.take left).take j by rw [List.take_take,Nat.min_eq_left (by omega)]]
            exact (List.take_sublist _ _).map _
          have wa : w[g]? = some (w[g]'(by omega)):=List.getElem?_eq_getElem _
          have sq : (SHQ T (SUMI w) w)[g]? = some (T * w[g]'(by omega) / SUMI w):=by simp [SHQ,wa]
          have bg:=BMP_get g _ ((M.take j).map Qu.ix) _ (hs.k_nodup.sublist sb) (fun k hk => (ki k (sb.subset hk)).1) sq
          rw [← hB,b0] at bg
          have okx:=hw _ (List.mem_of_getElem? wa)
          unfold OKL at okx
          have q0 : 0 ≤ T * w[g]'(by omega) / SUMI w:=Int.ediv_nonneg (Int.mul_nonneg hT.1 okx.1) (by omega)
          have wS : w[g]'(by omega) ≤ SUMI w:=by
            have e1':=SUMI_take wa
            have b0':=(SUM_take_le hw g).1
            have e : SUMI w = SUMI (w.take (g + 1)) + SUMI (w.drop (g + 1)):=by rw [← SUMI_app,List.take_append_drop]
            have:=(SUMI_bounds (a:=0) (b:=1073741824) (w.drop (g + 1)) (fun x hx => hw x (List.mem_of_mem_drop hx))).1
            omega
          have q1 : T * w[g]'(by omega) / SUMI w ≤ T:=Int.ediv_le_of_le_mul S0 (Int.mul_le_mul_of_nonneg_left wS hT.1)
          injection bg with bg
          rw [bg]
          split <;> omega
        have b1 : BMP1 B x.ix = B.set g (B[g]'(by omega) + 1):=by
          rw [BMP1,ea,Int.toNat_natCast,List.getD_eq_getElem?_getD,b0]; rfl
        generalize B[g]'(by omega) = y at *
        generalize N[g]'(by omega) = z at *
        have b2:=map_get (f:=I) b0
        have n2:=map_get (f:=I) n0
        have ms:=mapI_set B g (y + 1)
        have ns':=mapI_set N g (-1)
        simp (maxSteps:=999999) only [E0,seval,-Int.reduceNatCast',NUM,SIN,h14,h8,h10,r1,r3,hd,hf,cgr,lB,lN,b2,n2,List.length_map,Int.toNat_natCast,Nat.zero_add,Nat.zero_le,(show (0 : Int) < (left : Int) - j by omega),(show (0 : Int) ≤ g by omega),(show (g : Int) < w.length by omega),i64_in (x:=y + 1) (by unfold I64; omega),i64_in (x:=(left : Int) - j - 1) (by unfold I64; omega)] at hW
        subst hW
        refine rd_next (j + 1) ?_ (show left - (j + 1) < left - j by omega)
        simp (maxSteps:=999999) only [E0,seval,-Int.reduceNatCast',h8,h10,bs,b1,ms,ns,ns']
        exact ⟨by omega,by congr 1; omega⟩
      · simp (maxSteps:=999999) only [E0,seval,-Int.reduceNatCast',h14,hd,hf,(show ¬ (0 : Int) < (left : Int) - j by omega)] at hW
        subst hW
        have : j = left:=by omega
        subst this
        refine rd_exit ⟨rfl,?_⟩
        simp (maxSteps:=999999) only [E0,seval,-Int.reduceNatCast',h8,r1])
  simp (maxSteps:=999999) only [E0,seval,-Int.reduceNatCast',NUM,SIN,h8,r1,hd,lo,List.length_map,Nat.zero_add,Nat.le_refl]
  rw [List.take_of_length_le (by rw [List.length_map,lo]; exact Nat.le_refl _),SIN.2.2.1]
theorem c_rShare (T : Int) (w : List Int) (c : Option Nat) : ap Tryz.prog pol 26 [I T,.vs 1 (w.map I) c] = some (.ret (SHV T w)):=by
  unfold SHV
  split
  · next h => exact c_rShareE T w c h
  · next h =>
    have h:=Decidable.not_not.1 h
    split
    · next h0 => exact c_rShare0 T w c h h0
    · next h0 =>
      obtain ⟨M,l,hs,_⟩:=c_share1 T w none h h0
      rw [c_rShare1 T w c h h0 hs,SHO_eq hs]
end S
theorem SPRT : (∀ l : List Prt,strip0L (l.map prt) = l.map prt) ∧ (∀ l : List Prt,(l.map prt).map strip0 = l.map prt) ∧ (∀ H (l : List Prt),(l.map prt).map (strip1 H) = l.map prt) ∧ (∀ H (l : List Prt),(l.map prt).map (strip2 H) = l.map prt) ∧ (∀ H (l : List Prt),strip1L H (l.map prt) = l.map prt) ∧ (∀ H (l : List Prt),strip2L H (l.map prt) = l.map prt):=STR prt (fun _ => rfl) (fun _ _ => rfl) (fun _ _ => rfl)
theorem SUMI_PVL (cl hs : List Int) : ∀ l : List Prt,S.SUMI (l.map (PVL cl hs)) = SUMP cl hs l
  | [] => rfl
  | p :: l => by simp only [List.map_cons,S.SUMI,SUMP,SUMI_PVL cl hs l]
theorem c_rsum (w : List Int) (c : Option Nat) (hw : ∀ j,I64 (S.SUMI (w.take j))) (hl : w.length ≤ 1000000) : ap Tryz.prog pol 102 [.vs 1 (w.map I) c] = some (.ret (I (S.SUMI w))):=by
  rw [ap_eq _ Tryz.func102 rfl Tryz.ntmps102 Tryz.results102 (by kernel_rfl) rfl (by exact Nat.le_of_ble_eq_true rfl)]
  simp (maxSteps:=999999) only [E0,seval,-Int.reduceNatCast']
  generalize hL : W _ (.loop _) _ = L
  obtain ⟨ex,s,rfl,rfl,h3,hd⟩:=loop_at hL (α:=Nat) (fun j => w.length - j)
    (fun s0 j s => j ≤ w.length ∧ s.tmps 4 = I j ∧ s.tmps 3 = I (S.SUMI (w.take j)) ∧ s.tmps 0 = .vs 1 (w.map I) c ∧ s.defers = [] ∧ s.fid = 0)
    (fun s0 ex s => ex = .exit 0 ∧ s.tmps 3 = I (S.SUMI w) ∧ s.defers = []) 0
    (by simp (maxSteps:=999999) only [E0,seval,-Int.reduceNatCast',List.take_zero]; exact ⟨by omega,by simp,by simp [S.SUMI]⟩) (by
      rintro j s r hW ⟨hj,h4,h3,h0,hd,hf⟩
      by_cases hp : j < w.length
      · obtain ⟨x,e0⟩ : ∃ x,w[j]? = some x:=⟨_,List.getElem?_eq_getElem hp⟩
        have e1:=map_get (f:=I) e0
        have st:=S.SUMI_take e0
        have b1:=hw (j + 1)
        simp (maxSteps:=999999) only [E0,seval,-Int.reduceNatCast',NUM,h4,h3,h0,hd,hf,e1,List.length_map,Int.toNat_natCast,(show (j : Int) < w.length by omega),(show (0 : Int) ≤ j by omega),← st,i64_in b1,i64_in (x:=(j : Int) + 1) (by unfold I64; omega)] at hW
        subst hW
        refine rd_next (j + 1) ?_ (show w.length - (j + 1) < w.length - j by omega)
        simp (maxSteps:=999999) only [E0,seval,-Int.reduceNatCast',h0]
        exact ⟨by omega,by simp⟩
      · simp (maxSteps:=999999) only [E0,seval,-Int.reduceNatCast',h4,h0,hd,hf,List.length_map,(show ¬ (j : Int) < w.length by omega)] at hW
        subst hW
        rw [List.take_of_length_le (by omega)] at h3
        exact rd_exit ⟨rfl,by simp (maxSteps:=999999) only [E0,seval,-Int.reduceNatCast',h3]⟩)
  simp (maxSteps:=999999) only [E0,seval,-Int.reduceNatCast',h3,hd]
theorem c_rclaims (D : Dis) (l : List Prt) (hl : ∀ p ∈ l,PIN D p) (cl hs : List Int) (lc : cl.length = D.fs.length) (lh : hs.length = D.rs.length) (ll : l.length ≤ 100000) (vc : PV) (hvc : RV cl vc) (h0 : Nat) (H : Heap) (hr0 : H.rows h0 = some (.gro 1 (hs.map I) 0)) (hn0 : h0 < H.next) (X : Option (CR × Heap))
    (hX : callF G Tryz.prog pol 103 [.vs 2 (l.map prt) none,vc,.gsl 1 h0 hs.length 0 hs.length] H = X) : ∃ H',X = some (.ret (.gsl 1 (H.next + 1) l.length 0 l.length),H') ∧ H'.rows (H.next + 1) = some (.gro 1 ((l.map (PVL cl hs)).map I) 0) ∧ (∀ i < H.next,H'.rows i = H.rows i) ∧ H.next < H'.next:=by
  subst hX
  rw [callF_eq _ _ Tryz.func103 rfl Tryz.ntmps103 Tryz.results103 (by kernel_rfl) rfl (by exact Nat.le_of_ble_eq_true rfl)]
  simp (maxSteps:=999999) only [E0,seval,-Int.reduceNatCast',NUM,SPRT]
  generalize hL : W _ (.loop _) _ = L
  obtain ⟨ex,s,rfl,rfl,h7,hr,hfr,hnx,hd,hf⟩:=loop_at hL (α:=Nat) (fun j => l.length - j)
    (fun s0 j s => j ≤ l.length ∧ s.tmps 8 = I j ∧ s.tmps 0 = .vs 2 (l.map prt) none ∧ s.tmps 1 = vc ∧ s.tmps 2 = .gsl 1 h0 hs.length 0 hs.length ∧ s.tmps 7 = .gsl 1 (H.next + 1) j 0 j ∧ s.H.rows (H.next + 1) = some (.gro 1 (((l.map (PVL cl hs)).take j).map I) 0) ∧ (∀ i < H.next,s.H.rows i = H.rows i) ∧ s.H.next = H.next + 2 ∧ s.defers = [] ∧ s.fid = H.next)
    (fun s0 ex s => ex = .exit 0 ∧ s.tmps 7 = .gsl 1 (H.next + 1) l.length 0 l.length ∧ s.H.rows (H.next + 1) = some (.gro 1 ((l.map (PVL cl hs)).map I) 0) ∧ (∀ i < H.next,s.H.rows i = H.rows i) ∧ s.H.next = H.next + 2 ∧ s.defers = [] ∧ s.fid = H.next) 0
    (by simp (maxSteps:=999999) only [E0,seval,-Int.reduceNatCast',List.take_zero]; exact ⟨Nat.zero_le _,by simp,fun i hi => if_neg (show ¬ i = H.next + 1 by omega)⟩) (by
      rintro j s r hW ⟨hj,h8,h0',h1,h2,h7,hr,hfr,hnx,hd,hf⟩
      by_cases hp : j < l.length
      rotate_left
      · simp (maxSteps:=999999) only [E0,seval,-Int.reduceNatCast',NUM,h8,h0',hd,hf,List.length_map,(show ¬ (j : Int) < l.length by omega)] at hW
        subst hW
        have : j = l.length:=by omega
        subst this
        rw [List.take_of_length_le (by simp)] at hr
        refine rd_exit ⟨rfl,?_⟩
        simp (maxSteps:=999999) only [E0,seval,-Int.reduceNatCast',h7,hr,hd,hnx]
        exact hfr
      obtain ⟨p,e0⟩ : ∃ p,l[j]? = some p:=⟨_,List.getElem?_eq_getElem hp⟩
      have e1:=map_get (f:=prt) e0
      have hin:=hl p (List.mem_of_getElem? e0)
      have tk : (l.map (PVL cl hs)).take (j + 1) = (l.map (PVL cl hs)).take j ++ [PVL cl hs p]:=by rw [List.take_add_one,List.getElem?_map,e0]; rfl
      have lt : ((l.map (PVL cl hs)).take j).length = j:=by rw [List.length_take,List.length_map]; omega
      have hr0' : s.H.rows h0 = some (.gro 1 (hs.map I) 0):=by rw [hfr h0 hn0]; exact hr0
      unfold PIN at hin
      obtain ⟨fm,ix⟩:=p
      cases fm with
      | true =>
        simp only [if_true] at hin
        obtain ⟨u,eu⟩ : ∃ u,cl[ix]? = some u:=⟨_,List.getElem?_eq_getElem (by omega)⟩
        have u1:=ints_get eu
        have pv : PVL cl hs ⟨true,ix⟩ = u:=by simp [PVL,eu]
        rw [pv] at tk
        rcases hvc with ⟨c,rfl⟩ | ⟨rfl,_⟩
        rotate_left
        · simp at eu
        simp (maxSteps:=999999) only [E0,seval,-Int.reduceNatCast',NUM,h8,h0',h1,h2,h7,hr,hd,hf,e1,u1,lt,hnx,List.length_map,Int.toNat_natCast,(show (j : Int) < l.length by omega),(show (0 : Int) ≤ j by omega),(show (0 : Int) ≤ ix by omega),(show (ix : Int) < cl.length by omega),(show j + 1 ≤ 67108864 by omega),(show j ≤ 67108863 by omega),(i64_in (x:=(j : Int) + 1) (by unfold I64; omega))] at hW
        subst hW
        refine rd_next (j + 1) ?_ (show l.length - (j + 1) < l.length - j by omega)
        simp (maxSteps:=999999) only [E0,seval,-Int.reduceNatCast',h0',h1,h2,hd,tk,hnx,List.map_append]
        exact ⟨by omega,by simp,fun i hi => by simp (maxSteps:=999999) only [E0,seval,-Int.reduceNatCast',(show ¬ i = H.next + 1 by omega)]; exact hfr i hi⟩
      | false =>
        simp only [Bool.false_eq_true,if_false] at hin
        obtain ⟨u,eu⟩ : ∃ u,hs[ix]? = some u:=⟨_,List.getElem?_eq_getElem (by omega)⟩
        have u1:=ints_get eu
        have pv : PVL cl hs ⟨false,ix⟩ = u:=by simp [PVL,eu]
        rw [pv] at tk
        simp (maxSteps:=999999) only [E0,seval,-Int.reduceNatCast',NUM,h8,h0',h1,h2,h7,hr,hr0',hd,hf,e1,u1,lt,hnx,List.length_map,Int.toNat_natCast,Nat.zero_add,(show (j : Int) < l.length by omega),(show (0 : Int) ≤ j by omega),(show (0 : Int) ≤ ix by omega),(show (ix : Int) < hs.length by omega),(show j + 1 ≤ 67108864 by omega),(show j ≤ 67108863 by omega),(i64_in (x:=(j : Int) + 1) (by unfold I64; omega))] at hW
        subst hW
        refine rd_next (j + 1) ?_ (show l.length - (j + 1) < l.length - j by omega)
        simp (maxSteps:=999999) only [E0,seval,-Int.reduceNatCast',h0',h1,h2,hd,tk,hnx,List.map_append]
        exact ⟨by omega,by simp,fun i hi => by simp (maxSteps:=999999) only [E0,seval,-Int.reduceNatCast',(show ¬ i = H.next + 1 by omega)]; exact hfr i hi⟩)
  simp (maxSteps:=999999) only [E0,seval,-Int.reduceNatCast',h7,hd,hf]
  exact ⟨_,rfl,hr,hfr,by omega⟩
theorem c_enough (x : Rch) (h : RIGHT x) (t : Int) (ht : 0 ≤ t) (hx : 0 ≤ x.si ∧ x.si ≤ 1073741824) : ap Tryz.prog pol 101 [rch x,I t] = some (.ret (I ((NEED x t).getD (-1)))):=by
  obtain ⟨r,hr,cr⟩:=c_refleast x h t false
  have hl : LST (fun v => t ≤ WO (los x) v) 1073741825 = r:=LST_eq hr
  rw [ap_eq _ Tryz.func101 rfl Tryz.ntmps101 Tryz.results101 (by kernel_rfl) rfl (by exact Nat.le_of_ble_eq_true rfl)]
  unfold NEED
  rw [hl]
  by_cases t0 : t = 0
  · rw [if_pos t0]
    simp (maxSteps:=999999) only [E0,seval,-Int.reduceNatCast',NUM,t0]
  rw [if_neg t0]
  by_cases t1 : 1073741824 < t
  · rw [if_pos t1]
    simp (maxSteps:=999999) only [E0,seval,-Int.reduceNatCast',NUM,t0,t1]
  rw [if_neg t1]
  have r0:=hr.lo
  by_cases r1 : r ≤ 1073741824
  · rw [if_pos r1]
    rw [if_pos r1] at cr
    simp (maxSteps:=999999) only [E0,seval,-Int.reduceNatCast',NUM,t0,t1,cr,(show ¬ r < 0 by omega)]
  · rw [if_neg r1]
    rw [if_neg r1] at cr
    simp (maxSteps:=999999) only [E0,seval,-Int.reduceNatCast',NUM,t0,t1,cr]
section
variable {D : Dis} (hr : ∀ x ∈ D.rs,x.OK) {ws : List PV} (hw : SWS ws)
include hw
theorem c_rparts (r : Int) (l1 : D.fs.length ≤ 10000) (l2 : D.rs.length ≤ 10000) : ap Tryz.prog pol 104 [.agg (dc D ws),I r] = some (.ret (.vs 2 ((PRT D r).map prt) none)):=by
  have pt : PRT D r = PRF D r D.fs.length ++ PRR D r D.rs.length:=rfl
  rw [pt]
  rw [ap_eq _ Tryz.func104 rfl Tryz.ntmps104 Tryz.results104 (by kernel_rfl) rfl (by exact Nat.le_of_ble_eq_true rfl)]
  simp (maxSteps:=999999) only [E0,seval,-Int.reduceNatCast',K2,hw]
  generalize hL : W _ (.loop _) _ = L
  obtain ⟨ex,s,rfl,rfl,h1,h2,hb2,h5,hr1,hnx,hd,hf⟩:=loop_at hL (α:=Nat) (fun j => D.fs.length - j)
    (fun s0 j s => j ≤ D.fs.length ∧ s.tmps 6 = I j ∧ s.tmps 1 = I r ∧ s.tmps 2 = .bptr 0 2 0 0 ∧ s.boxes 2 = some (0,dc D ws) ∧ s.tmps 5 = .gsl 2 1 (PRF D r j).length 0 (PRF D r j).length ∧ s.H.rows 1 = some (.gro 2 ((PRF D r j).map prt) 0) ∧ s.H.next = 2 ∧ s.defers = [] ∧ s.fid = 0)
    (fun s0 ex s => ex = .exit 0 ∧ s.tmps 1 = I r ∧ s.tmps 2 = .bptr 0 2 0 0 ∧ s.boxes 2 = some (0,dc D ws) ∧ s.tmps 5 = .gsl 2 1 (PRF D r D.fs.length).length 0 (PRF D r D.fs.length).length ∧ s.H.rows 1 = some (.gro 2 ((PRF D r D.fs.length).map prt) 0) ∧ s.H.next = 2 ∧ s.defers = [] ∧ s.fid = 0) 0
    (by simp (maxSteps:=999999) only [E0,seval,-Int.reduceNatCast',PRF,List.length_nil,List.map_nil]; exact ⟨by omega,by simp⟩) (by
      rintro j s r0 hW ⟨hj,h6,h1,h2,hb2,h5,hr1,hnx,hd,hf⟩
      by_cases hp : j < D.fs.length
      rotate_left
      · simp (maxSteps:=999999) only [E0,seval,-Int.reduceNatCast',K2,hw,h6,h2,hb2,hd,hf,(show ¬ (j : Int) < D.fs.length by omega)] at hW
        subst hW
        have : j = D.fs.length:=by omega
        subst this
        exact rd_exit ⟨rfl,by simp (maxSteps:=999999) only [E0,seval,-Int.reduceNatCast',h1,h2,hb2,h5,hr1,hnx,hd]⟩
      obtain ⟨x,e0⟩ : ∃ x,D.fs[j]? = some x:=⟨_,List.getElem?_eq_getElem hp⟩
      have e1:=map_get (f:=frm) e0
      have ss:=PRF_succ (r:=r) e0
      have sl:=PRF_len D r j
      by_cases hx : x.at_ = r
      · rw [if_pos hx] at ss
        simp (maxSteps:=999999) only [E0,seval,-Int.reduceNatCast',K2,hw,h6,h1,h2,hb2,h5,hr1,hd,hf,hnx,e1,hx,(show (j : Int) < D.fs.length by omega),(show (0 : Int) ≤ j by omega),(show (PRF D r j).length + 1 ≤ 67108864 by omega),(show (PRF D r j).length ≤ 67108863 by omega),(i64_in (x:=(j : Int) + 1) (by unfold I64; omega))] at hW
        subst hW
        refine rd_next (j + 1) ?_ (show D.fs.length - (j + 1) < D.fs.length - j by omega)
        simp (maxSteps:=999999) only [E0,seval,-Int.reduceNatCast',h1,h2,hb2,hd,hnx,ss,List.length_append,List.map_append]
        exact ⟨by omega,by simp⟩
      · rw [if_neg hx,List.append_nil] at ss
        simp (maxSteps:=999999) only [E0,seval,-Int.reduceNatCast',K2,hw,h6,h1,h2,hb2,h5,hr1,hd,hf,hnx,e1,hx,(show (j : Int) < D.fs.length by omega),(show (0 : Int) ≤ j by omega),(i64_in (x:=(j : Int) + 1) (by unfold I64; omega))] at hW
        subst hW
        refine rd_next (j + 1) ?_ (show D.fs.length - (j + 1) < D.fs.length - j by omega)
        simp (maxSteps:=999999) only [E0,seval,-Int.reduceNatCast',h1,h2,hb2,h5,hr1,hd,hnx,ss]
        exact ⟨by omega,by simp⟩)
  clear hL
  simp (maxSteps:=999999) only [E0,seval,-Int.reduceNatCast',K2,hw,h1,h2,hb2,h5,hr1,hnx,hd,hf]
  have sf:=PRF_len D r D.fs.length
  generalize PRF D r D.fs.length = A at *
  generalize hL : W _ (.loop _) _ = L
  obtain ⟨ex,s,rfl,rfl,h5,hr1,hd,hf⟩:=loop_at hL (α:=Nat) (fun j => D.rs.length - j)
    (fun s0 j s => j ≤ D.rs.length ∧ s.tmps 7 = I j ∧ s.tmps 1 = I r ∧ s.tmps 2 = .bptr 0 2 0 0 ∧ s.boxes 2 = some (0,dc D ws) ∧ s.tmps 5 = .gsl 2 1 (A ++ PRR D r j).length 0 (A ++ PRR D r j).length ∧ s.H.rows 1 = some (.gro 2 ((A ++ PRR D r j).map prt) 0) ∧ s.H.next = 2 ∧ s.defers = [] ∧ s.fid = 0)
    (fun s0 ex s => ex = .exit 2 ∧ s.tmps 5 = .gsl 2 1 (A ++ PRR D r D.rs.length).length 0 (A ++ PRR D r D.rs.length).length ∧ s.H.rows 1 = some (.gro 2 ((A ++ PRR D r D.rs.length).map prt) 0) ∧ s.defers = [] ∧ s.fid = 0) 0
    (by simp (maxSteps:=999999) only [E0,seval,-Int.reduceNatCast',h1,h2,hb2,h5,hr1,hnx,PRR]; exact ⟨by omega,by simp⟩) (by
      rintro j s r0 hW ⟨hj,h7,h1,h2,hb2,h5,hr1,hnx,hd,hf⟩
      by_cases hp : j < D.rs.length
      rotate_left
      · simp (maxSteps:=999999) only [E0,seval,-Int.reduceNatCast',K2,hw,h7,h2,hb2,hd,hf,(show ¬ (j : Int) < D.rs.length by omega)] at hW
        subst hW
        have : j = D.rs.length:=by omega
        subst this
        exact rd_exit ⟨rfl,by simp (maxSteps:=999999) only [E0,seval,-Int.reduceNatCast',h5,hr1,hd]⟩
      obtain ⟨x,e0⟩ : ∃ x,D.rs[j]? = some x:=⟨_,List.getElem?_eq_getElem hp⟩
      have e1:=map_get (f:=rch) e0
      have ss:=PRR_succ (r:=r) e0
      have sl:=PRR_len D r j
      have sa : (A ++ PRR D r j).length ≤ 20000:=by rw [List.length_append]; omega
      by_cases hx : x.up = r
      · rw [if_pos hx] at ss
        have sb : A ++ PRR D r (j + 1) = (A ++ PRR D r j) ++ [⟨false,j⟩]:=by rw [ss,List.append_assoc]
        generalize A ++ PRR D r j = B at *
        simp (maxSteps:=999999) only [E0,seval,-Int.reduceNatCast',K2,hw,h7,h1,h2,hb2,h5,hr1,hd,hf,hnx,e1,hx,(show (j : Int) < D.rs.length by omega),(show (0 : Int) ≤ j by omega),(show B.length + 1 ≤ 67108864 by omega),(show B.length ≤ 67108863 by omega),(i64_in (x:=(j : Int) + 1) (by unfold I64; omega))] at hW
        subst hW
        refine rd_next (j + 1) ?_ (show D.rs.length - (j + 1) < D.rs.length - j by omega)
        simp (maxSteps:=999999) only [E0,seval,-Int.reduceNatCast',h1,h2,hb2,hd,hnx,sb,List.length_append,List.map_append]
        exact ⟨by omega,by simp⟩
      · rw [if_neg hx,List.append_nil] at ss
        simp (maxSteps:=999999) only [E0,seval,-Int.reduceNatCast',K2,hw,h7,h1,h2,hb2,h5,hr1,hd,hf,hnx,e1,hx,(show (j : Int) < D.rs.length by omega),(show (0 : Int) ≤ j by omega),(i64_in (x:=(j : Int) + 1) (by unfold I64; omega))] at hW
        subst hW
        refine rd_next (j + 1) ?_ (show D.rs.length - (j + 1) < D.rs.length - j by omega)
        simp (maxSteps:=999999) only [E0,seval,-Int.reduceNatCast',h1,h2,hb2,h5,hr1,hd,hnx,ss]
        exact ⟨by omega,by simp⟩)
  generalize A ++ PRR D r D.rs.length = B at *
  have tk : (B.map prt).take B.length = B.map prt:=List.take_of_length_le (by simp)
  simp (maxSteps:=999999) only [E0,seval,-Int.reduceNatCast',SPRT,tk,h5,hr1,hd,hf,Nat.zero_add,Nat.le_refl,List.length_map]
end
section
variable {D : Dis} (hr : ∀ x ∈ D.rs,x.OK) {ws : List PV} (hw : SWS ws)
include hw
theorem c_rright (cl : List Int) (v : PV) (hcv : RV cl v) (lf : D.fs.length ≤ 100000) : ap Tryz.prog pol 100 [.agg (dc D ws),v] = some (.ret (.bool (decide (cl.length = D.fs.length ∧ LIT cl)))):=by
  have rv:=RVS hcv
  rw [ap_eq _ Tryz.func100 rfl Tryz.ntmps100 Tryz.results100 (by kernel_rfl) rfl (by exact Nat.le_of_ble_eq_true rfl)]
  by_cases hl : cl.length = D.fs.length
  rotate_left
  · rw [decide_eq_false (fun g => hl g.1)]
    simp (maxSteps:=999999) only [E0,seval,-Int.reduceNatCast',K2,hw,rv,(show ¬ (cl.length : Int) = D.fs.length by omega)]
  simp (maxSteps:=999999) only [E0,seval,-Int.reduceNatCast',K2,hw,rv,(show (cl.length : Int) = D.fs.length by omega)]
  generalize hL : W _ (.loop _) _ = L
  obtain ⟨ex,s,rfl,hex,hd⟩:=loop_at hL (α:=Nat) (fun j => cl.length - j)
    (fun s0 j s => j ≤ cl.length ∧ (∀ x ∈ cl.take j,0 ≤ x ∧ x ≤ 1073741824) ∧ s.tmps 5 = I j ∧ s.tmps 1 = v ∧ s.defers = [] ∧ s.fid = 0)
    (fun s0 ex s => ((ex = .exit 0 ∧ LIT cl) ∨ (ex = .ret ∧ ¬ LIT cl ∧ s.tmps 4 = .bool false)) ∧ s.defers = []) 0
    (by simp (maxSteps:=999999) only [E0,seval,-Int.reduceNatCast']; exact ⟨Nat.zero_le _,by simp,by simp⟩) (by
      rintro j s r hW ⟨hj,ht,h5,h1,hd,hf⟩
      by_cases hp : j < cl.length
      rotate_left
      · simp (maxSteps:=999999) only [E0,seval,-Int.reduceNatCast',K2,hw,rv,h5,h1,hd,hf,(show ¬ (j : Int) < cl.length by omega)] at hW
        subst hW
        rw [List.take_of_length_le (by omega)] at ht
        exact rd_exit ⟨.inl ⟨rfl,ht⟩,by simp (maxSteps:=999999) only [E0,seval,-Int.reduceNatCast',hd]⟩
      obtain ⟨x,e0⟩ : ∃ x,cl[j]? = some x:=⟨_,List.getElem?_eq_getElem hp⟩
      have e1:=ints_get e0
      have hm:=List.mem_of_getElem? e0
      obtain ⟨c,rfl⟩ : ∃ c,v = .vs 1 (cl.map I) c:=hcv.resolve_right fun g => by rw [g.1] at hp; simp at hp
      have tk : cl.take (j + 1) = cl.take j ++ [x]:=by rw [List.take_add_one,e0]; rfl
      by_cases a1 : x < 0
      · simp (maxSteps:=999999) only [E0,seval,-Int.reduceNatCast',K2,hw,h5,h1,hd,hf,e1,a1,(show (j : Int) < cl.length by omega),(show (0 : Int) ≤ j by omega)] at hW
        subst hW
        exact rd_ret ⟨.inr ⟨rfl,fun g => by have:=g x hm; omega,by simp (maxSteps:=999999) only [E0,seval,-Int.reduceNatCast']⟩,by simp (maxSteps:=999999) only [E0,seval,-Int.reduceNatCast',hd]⟩
      by_cases a2 : 1073741824 < x
      · simp (maxSteps:=999999) only [E0,seval,-Int.reduceNatCast',K2,hw,h5,h1,hd,hf,e1,a1,a2,(show (j : Int) < cl.length by omega),(show (0 : Int) ≤ j by omega)] at hW
        subst hW
        exact rd_ret ⟨.inr ⟨rfl,fun g => by have:=g x hm; omega,by simp (maxSteps:=999999) only [E0,seval,-Int.reduceNatCast']⟩,by simp (maxSteps:=999999) only [E0,seval,-Int.reduceNatCast',hd]⟩
      simp (maxSteps:=999999) only [E0,seval,-Int.reduceNatCast',K2,hw,h5,h1,hd,hf,e1,a1,a2,(show (j : Int) < cl.length by omega),(show (0 : Int) ≤ j by omega),(i64_in (x:=(j : Int) + 1) (by unfold I64; omega))] at hW
      subst hW
      refine rd_next (j + 1) ?_ (show cl.length - (j + 1) < cl.length - j by omega)
      simp (maxSteps:=999999) only [E0,seval,-Int.reduceNatCast',h1,hd]
      refine ⟨by omega,fun y hy => ?_,by simp⟩
      rw [tk] at hy
      rcases List.mem_append.1 hy with hy | hy
      · exact ht y hy
      · simp only [List.mem_singleton] at hy; subst hy; omega)
  rcases hex with ⟨rfl,hg⟩ | ⟨rfl,hg,h4⟩
  · rw [decide_eq_true ⟨hl,hg⟩]; simp (maxSteps:=999999) only [E0,seval,-Int.reduceNatCast',hd]
  · rw [decide_eq_false (fun g => hg g.2)]; simp (maxSteps:=999999) only [E0,seval,-Int.reduceNatCast',hd,h4]
include hr
theorem c_rcheck (cl : List Int) (v : PV) (hcv : RV cl v) : ap Tryz.prog pol 86 [.agg (dc D ws),v] = some (.ret (I (DVC D cl))):=by
  have rv:=RVS hcv
  obtain ⟨c,cc,hc⟩:=c_ref19check D ws hw hr
  have hc:=XC_cases D c hc
  subst hc
  rw [ap_eq _ Tryz.func86 rfl Tryz.ntmps86 Tryz.results86 (by kernel_rfl) rfl (by exact Nat.le_of_ble_eq_true rfl)]
  unfold DVC
  by_cases hX : XC D = 0
  rotate_left
  · rw [if_neg hX]
    simp (maxSteps:=999999) only [E0,seval,-Int.reduceNatCast',K2,hw,rv,cc,hX]
  rw [if_pos hX]
  have cr:=c_rright (D:=D) hw cl v hcv (by have:=(XC_0 hX).1.2.1; omega)
  rw [hX] at cc
  by_cases h : cl.length = D.fs.length ∧ LIT cl
  · rw [if_pos h]
    rw [decide_eq_true h] at cr
    simp (maxSteps:=999999) only [E0,seval,-Int.reduceNatCast',K2,hw,rv,cc,cr]
  · rw [if_neg h]
    rw [decide_eq_false h] at cr
    simp (maxSteps:=999999) only [E0,seval,-Int.reduceNatCast',K2,hw,rv,cc,cr]
set_option maxHeartbeats 4000000 in
theorem c_rneeds (hX0 : XC D = 0) (cl : List Int) (vc : PV) (hvc : RV cl vc) (lcl : cl.length = D.fs.length) (hc : LIT cl) : ap Tryz.prog pol 87 [.agg (dc D ws),vc] = some (.ret (match NDS D cl D.rs.length with
    | some hs => .tup [.vs 1 (hs.map I) none,.bool true]
    | none => .tup [.nils,.bool false])):=by
  obtain ⟨hL0,hK⟩:=XC_0 hX0
  have lr:=hL0.1
  have lf:=hL0.2.1
  have rv:=RVS hvc
  have zs : List.replicate D.rs.length (I 0) = (List.replicate D.rs.length (0 : Int)).map I:=by simp
  rw [ap_eq _ Tryz.func87 rfl Tryz.ntmps87 Tryz.results87 (by kernel_rfl) rfl (by exact Nat.le_of_ble_eq_true rfl)]
  simp (maxSteps:=999999) only [E0,seval,-Int.reduceNatCast',K2,hw,rv,zs,(show (0 : Int) ≤ D.rs.length by omega),(show (D.rs.length : Int) ≤ maxN by unfold maxN; omega),(show 8 ≤ maxB by decide),(show ¬ (D.rs.length : Int) < 0 by omega),(i64_in (x:=(D.rs.length : Int) - 1) (by unfold I64; omega))]
  generalize hL : W _ (.loop _) _ = L
  obtain ⟨ex,s,rfl,hex,hd,hf⟩:=loop_at hL (α:=Nat) (fun k => D.rs.length - k)
    (fun s0 k s => k ≤ D.rs.length ∧ (∃ hs,NDS D cl k = some hs ∧ s.H.rows 1 = some (.gro 1 (hs.map I) 0)) ∧ s.tmps 7 = I ((D.rs.length : Int) - 1 - k) ∧ s.tmps 6 = .gsl 1 1 D.rs.length 0 D.rs.length ∧ s.tmps 1 = vc ∧ s.tmps 2 = .bptr 0 2 0 0 ∧ s.boxes 2 = some (0,dc D ws) ∧ 1 < s.H.next ∧ s.defers = [] ∧ s.fid = 0)
    (fun s0 ex s => ((ex = .exit 0 ∧ ∃ hs,NDS D cl D.rs.length = some hs ∧ s.H.rows 1 = some (.gro 1 (hs.map I) 0) ∧ s.tmps 6 = .gsl 1 1 D.rs.length 0 D.rs.length) ∨ (ex = .ret ∧ NDS D cl D.rs.length = none ∧ s.tmps 4 = .nils ∧ s.tmps 5 = .bool false)) ∧ s.defers = [] ∧ s.fid = 0) 0
    (by simp (maxSteps:=999999) only [E0,seval,-Int.reduceNatCast']; exact ⟨Nat.zero_le _,⟨_,rfl,rfl⟩,by simp⟩) (by
      rintro k s r hW ⟨hk,⟨hs,hN,hrow⟩,h7,h6,h1,h2,hb2,hnx,hd,hf⟩
      by_cases hp : k < D.rs.length
      rotate_left
      · have : k = D.rs.length:=by omega
        subst this
        simp (maxSteps:=999999) only [E0,seval,-Int.reduceNatCast',K2,hw,h7,hd,hf,(show ¬ (0 : Int) ≤ (D.rs.length : Int) - 1 - D.rs.length by omega)] at hW
        subst hW
        exact rd_exit ⟨.inl ⟨rfl,hs,hN,by simp (maxSteps:=999999) only [E0,seval,-Int.reduceNatCast',hrow,h6]⟩,by simp (maxSteps:=999999) only [E0,seval,-Int.reduceNatCast',hd]⟩
      obtain ⟨i,hi⟩ : ∃ i,D.rs.length - 1 - k = i:=⟨_,rfl⟩
      have hii : ((D.rs.length : Int) - 1 - k) = (i : Int):=by omega
      have hil : i < D.rs.length:=by omega
      obtain ⟨x,x0⟩ : ∃ x,D.rs[i]? = some x:=⟨_,List.getElem?_eq_getElem hil⟩
      have x1:=map_get (f:=rch) x0
      have hxr:=hr _ (List.mem_of_getElem? x0)
      have hxi:=(hK.2.2.2.1 i _ x0).2
      have nok:=NDS_ok (D:=D) (RSI hX0) hk hN
      have ns:=NDS_succ hN (by rw [hi]; exact x0)
      rw [hi] at ns
      have pin:=PRT_in (D:=D) (r:=(i : Int))
      have plen:=PRT_len D (i : Int)
      have sb:=SUMP_bd hc nok.lit (PRT D (i : Int))
      have cp:=c_rparts (D:=D) hw (i : Int) (by omega) (by omega)
      have pb : ∀ y ∈ (PRT D (i : Int)).map (PVL cl hs),0 ≤ y ∧ y ≤ 1073741824:=fun y hy => by
        obtain ⟨p,_,rfl⟩:=List.mem_map.1 hy
        exact PVL_bd hc nok.lit p
      have cs:=c_rsum ((PRT D (i : Int)).map (PVL cl hs)) none (fun j => by
        have b:=S.SUMI_bounds (a:=0) (b:=1073741824) (((PRT D (i : Int)).map (PVL cl hs)).take j) (fun y hy => pb y (List.mem_of_mem_take hy))
        have l : (((PRT D (i : Int)).map (PVL cl hs)).take j).length ≤ 1000:=by rw [List.length_take,List.length_map]; omega
        unfold I64
        omega) (by rw [List.length_map]; omega)
      rw [SUMI_PVL] at cs
      have hsi:=RSI hX0 x (List.mem_of_getElem? x0)
      have ce:=c_enough x (RIN_right hxi) (SUMP cl hs (PRT D (i : Int))) sb.1 hsi
      rw [hii] at h7
      have lhs:=nok.len
      rw [← lhs] at h6
      simp (maxSteps:=999999) only [E0,seval,-Int.reduceNatCast',K2,hw,rv,h7,h6,h1,h2,hb2,hd,hf,x1,cp,SPRT,(show (0 : Int) ≤ i by omega),(show (i : Int) < D.rs.length by omega)] at hW
      generalize hE : callF _ _ _ _ _ _ = E at hW
      obtain ⟨H',rfl,hR,fr,nx⟩:=c_rclaims D (PRT D (i : Int)) pin cl hs lcl lhs (by omega) vc hvc 1 s.H hrow hnx _ hE
      clear hE
      have fr1:=fr 1 hnx
      rw [hrow] at fr1
      have tk : (((PRT D (i : Int)).map (PVL cl hs)).map I).take (PRT D (i : Int)).length = ((PRT D (i : Int)).map (PVL cl hs)).map I:=List.take_of_length_le (by simp)
      obtain ⟨nh,hnh⟩ : ∃ nh,NEED x (SUMP cl hs (PRT D (i : Int))) = nh:=⟨_,rfl⟩
      rw [hnh] at ns ce
      have Rn : ¬ 1 = s.H.next + 1:=by omega
      cases nh with
      | none =>
        simp (maxSteps:=999999) only [E0,seval,-Int.reduceNatCast',K2,hw,cs,ce,rv,h7,h6,h1,h2,hb2,hd,hf,hR,tk,fr1,Rn,Nat.zero_add,Nat.le_refl] at hW
        rw [if_pos (by kernel_rfl)] at hW
        subst hW
        have ns : NDS D cl (k + 1) = none:=ns
        exact rd_ret ⟨.inr ⟨rfl,NDS_none_le ns (by omega),by simp (maxSteps:=999999) only [E0,seval,-Int.reduceNatCast']⟩,by simp (maxSteps:=999999) only [E0,seval,-Int.reduceNatCast',hd]⟩
      | some v =>
        have vb:=NEED_bd hsi hnh
        have ns : NDS D cl (k + 1) = some (hs.set i v):=ns
        have hil' : i < hs.length:=by omega
        have hz:=nok.zero i (by omega)
        have hz1:=ints_get hz
        have ed : (i : Int) - 1 = (D.rs.length : Int) - 1 - ((k + 1 : Nat) : Int):=by omega
        simp only [Option.getD_some] at ce
        simp (maxSteps:=999999) only [E0,seval,-Int.reduceNatCast',K2,hw,cs,ce,rv,h7,h6,h1,h2,hb2,hd,hf,hR,tk,fr1,Rn,Nat.zero_add,Nat.le_refl,hil',hz1,(show (i : Int) < hs.length by omega),(show (0 : Int) ≤ i by omega),(show ¬ v < 0 by omega),(i64_in (x:=(i : Int) - 1) (by unfold I64; omega))] at hW
        rw [if_pos (by kernel_rfl)] at hW
        subst hW
        refine rd_next (k + 1) ?_ (show D.rs.length - (k + 1) < D.rs.length - k by omega)
        rw [lhs] at h6
        simp (maxSteps:=999999) only [E0,seval,-Int.reduceNatCast',h6,h1,h2,hb2,hd,Rn,NADD]
        exact ⟨by omega,⟨_,ns,by rw [List.map_set]⟩,by rw [ed],by omega⟩)
  clear hL
  rcases hex with ⟨rfl,hs,hN,hrow,h6⟩ | ⟨rfl,hN,h4,h5⟩
  · have nok:=NDS_ok (RSI hX0) (Nat.le_refl _) hN
    have tk : (hs.map I).take D.rs.length = hs.map I:=List.take_of_length_le (by simp [nok.len])
    rw [hN]
    simp (maxSteps:=999999) only [E0,seval,-Int.reduceNatCast',NUM,INTS,h6,hd,hf,hrow,nok.len,tk,Nat.zero_add,Nat.le_refl]
  · rw [hN]
    simp (maxSteps:=999999) only [E0,seval,-Int.reduceNatCast',NUM,h4,h5,hd,hf]
theorem c_rNeeds (cl : List Int) (v : PV) (hcv : RV cl v) : ap Tryz.prog pol 71 [.agg (dc D ws),v] = some (.ret (NDV D cl)):=by
  have ck:=c_rcheck hr hw cl v hcv
  have rv:=RVS hcv
  rw [ap_eq _ Tryz.func71 rfl Tryz.ntmps71 Tryz.results71 (by kernel_rfl) rfl (by exact Nat.le_of_ble_eq_true rfl)]
  unfold NDV
  by_cases h0 : DVC D cl = 0
  rotate_left
  · rw [if_neg h0]
    simp (maxSteps:=999999) only [E0,seval,-Int.reduceNatCast',K2,hw,rv,ck,h0]
  rw [if_pos h0]
  obtain ⟨hX,hl,hc⟩:=DVC_0 h0
  have cn:=c_rneeds hr hw hX cl v hcv hl hc
  rw [h0] at ck
  cases hN : NDS D cl D.rs.length with
  | none =>
    rw [hN] at cn
    simp (maxSteps:=999999) only [E0,seval,-Int.reduceNatCast',K2,hw,rv,ck,cn]
  | some hs =>
    rw [hN] at cn
    simp (maxSteps:=999999) only [E0,seval,-Int.reduceNatCast',K2,hw,rv,ck,cn]
end
theorem r_within44 (n lo hi : Int) : ap Tryz.prog pol 129 [I n,I lo,I hi] = some (.ret (.bool (decide (lo ≤ n ∧ n ≤ hi)))):=by
  rw [ap_eq _ Tryz.func129 rfl Tryz.ntmps129 Tryz.results129 (by kernel_rfl) rfl (by exact Nat.le_of_ble_eq_true rfl)]
  simp (maxSteps:=999999) only [E0,seval,-Int.reduceNatCast',b_and]
theorem PW_ge {l : List Lot} : ∀ j,ALLI (fun i y => LOTK (PW l i) y) (l.take j) → -1 ≤ PW l j
  | 0,_ => by simp [PW]
  | j + 1,h => by
    cases e : l[j]? with
    | none => simp [PW,e]
    | some y =>
      have h0 : ALLI (fun i y => LOTK (PW l i) y) (l.take j):=fun i z ez => h i z (by
        have hi:=(List.getElem?_eq_some_iff.1 ez).1
        rw [List.length_take] at hi
        rw [List.getElem?_take,if_pos (by omega)] at ez ⊢
        exact ez)
      have ih:=PW_ge j h0
      have k:=h j y (by rw [List.getElem?_take,if_pos (by omega)]; exact e)
      unfold LOTK at k
      rw [PW_succ e]
      omega
set_option maxHeartbeats 4000000 in
theorem c_rvalid44 (x : Ofr) (c : Option Nat) (hl : x.lots.length ≤ 1000) : ap Tryz.prog pol 119 [ofr c x] = some (.ret (.bool (decide (OFK x)))):=by
  have r0:=r_within44 x.no 0 1048576
  have r1:=r_within44 x.fm 0 599
  have r2:=r_within44 x.pr (-1073741824) 1073741824
  have r3:=r_within44 x.lo 0 x.hi
  rw [ap_eq _ Tryz.func119 rfl Tryz.ntmps119 Tryz.results119 (by kernel_rfl) rfl (by exact Nat.le_of_ble_eq_true rfl)]
  by_cases a0 : 0 ≤ x.no ∧ x.no ≤ 1048576
  rotate_left
  · rw [decide_eq_false (p:=OFK x) (fun g => a0 g.1)]
    rw [decide_eq_false a0] at r0
    simp (maxSteps:=999999) only [E0,seval,-Int.reduceNatCast',NUM,SLOT,r0]
  rw [decide_eq_true a0] at r0
  by_cases a1 : 0 ≤ x.fm ∧ x.fm ≤ 599
  rotate_left
  · rw [decide_eq_false (p:=OFK x) (fun g => a1 (by have:=g.2.1; omega))]
    rw [decide_eq_false a1] at r1
    simp (maxSteps:=999999) only [E0,seval,-Int.reduceNatCast',NUM,SLOT,r0,r1]
  rw [decide_eq_true a1] at r1
  by_cases a2 : -1073741824 ≤ x.pr ∧ x.pr ≤ 1073741824
  rotate_left
  · rw [decide_eq_false (p:=OFK x) (fun g => a2 g.2.2.1)]
    rw [decide_eq_false a2] at r2
    simp (maxSteps:=999999) only [E0,seval,-Int.reduceNatCast',NUM,SLOT,r0,r1,r2]
  rw [decide_eq_true a2] at r2
  by_cases a3 : 0 ≤ x.lo ∧ x.lo ≤ x.hi
  rotate_left
  · rw [decide_eq_false (p:=OFK x) (fun g => a3 (by have:=g.2.2.2.1; omega))]
    rw [decide_eq_false a3] at r3
    simp (maxSteps:=999999) only [E0,seval,-Int.reduceNatCast',NUM,SLOT,r0,r1,r2,r3]
  rw [decide_eq_true a3] at r3
  by_cases a4 : 10000 < x.hi
  · rw [decide_eq_false (p:=OFK x) (fun g => by have:=g.2.2.2.1; omega)]
    simp (maxSteps:=999999) only [E0,seval,-Int.reduceNatCast',NUM,SLOT,r0,r1,r2,r3,a4]
  have key : OFK x ↔ (0 < x.lots.length ∧ ALLI (fun i y => LOTK (PW x.lots i) y) x.lots):=by
    unfold OFK
    constructor
    · exact fun g => g.2.2.2.2
    · exact fun g => ⟨a0,by omega,a2,by omega,g⟩
  simp (maxSteps:=999999) only [E0,seval,-Int.reduceNatCast',NUM,SLOT,r0,r1,r2,r3,a4]
  generalize hL : W _ (.loop _) _ = L
  obtain ⟨ex,s,rfl,hex,hd,hf⟩:=loop_at hL (α:=Nat) (fun j => x.lots.length - j)
    (fun s0 j s => j ≤ x.lots.length ∧ ALLI (fun i y => LOTK (PW x.lots i) y) (x.lots.take j) ∧ s.tmps 3 = I j ∧ s.tmps 1 = .bptr 0 1 0 0 ∧ s.boxes 1 = some (0,[I x.no,I x.fm,I x.pr,I x.lo,I x.hi,.vs 2 (x.lots.map lot) c]) ∧ s.defers = [] ∧ s.fid = 0)
    (fun s0 ex s => ((ex = .exit 0 ∧ ALLI (fun i y => LOTK (PW x.lots i) y) x.lots ∧ s.tmps 1 = .bptr 0 1 0 0 ∧ s.boxes 1 = some (0,[I x.no,I x.fm,I x.pr,I x.lo,I x.hi,.vs 2 (x.lots.map lot) c])) ∨ (ex = .ret ∧ ¬ ALLI (fun i y => LOTK (PW x.lots i) y) x.lots ∧ s.tmps 2 = .bool false)) ∧ s.defers = [] ∧ s.fid = 0) 0
    (by simp (maxSteps:=999999) only [E0,seval,-Int.reduceNatCast']; exact ⟨by omega,fun i x h => by simp at h,by simp⟩) (by
      rintro j s r hW ⟨hj,ht,h3,h1,hb1,hd,hf⟩
      by_cases hp : j < x.lots.length
      rotate_left
      · simp (maxSteps:=999999) only [E0,seval,-Int.reduceNatCast',NUM,SLOT,h3,h1,hb1,hd,hf,List.length_map,(show ¬ (j : Int) < x.lots.length by omega)] at hW
        subst hW
        have ht:=ALLI_full ht (by omega)
        exact rd_exit ⟨.inl ⟨rfl,ht,by simp (maxSteps:=999999) only [E0,seval,-Int.reduceNatCast',h1,hb1]⟩,by simp (maxSteps:=999999) only [E0,seval,-Int.reduceNatCast',hd]⟩
      obtain ⟨y,e0⟩ : ∃ y,x.lots[j]? = some y:=⟨_,List.getElem?_eq_getElem hp⟩
      have e1:=map_get (f:=lot) e0
      have pg:=PW_ge j ht
      have w0:=r_within44 y.w 0 7
      have w1:=r_within44 y.n (-1073741824) 1073741824
      have bad : ¬ LOTK (PW x.lots j) y → ¬ ALLI (fun i y => LOTK (PW x.lots i) y) x.lots:=fun h g => h (g j y e0)
      unfold LOTK at bad
      rcases hb4 : s.boxes 4 with _ | ⟨v4,c4⟩
      all_goals
        by_cases b1 : 0 ≤ y.w ∧ y.w ≤ 7
        rotate_left
        · rw [decide_eq_false b1] at w0
          simp (maxSteps:=999999) only [E0,seval,-Int.reduceNatCast',NUM,SLOT,w0,h3,h1,hb1,hb4,hd,hf,e1,List.length_map,Int.toNat_natCast,(show (j : Int) < x.lots.length by omega),(show (0 : Int) ≤ j by omega)] at hW
          subst hW
          exact rd_ret ⟨.inr ⟨rfl,bad (fun g => by omega),by simp (maxSteps:=999999) only [E0,seval,-Int.reduceNatCast']⟩,by simp (maxSteps:=999999) only [E0,seval,-Int.reduceNatCast',hd]⟩
        rw [decide_eq_true b1] at w0
        obtain ⟨jz,hjz⟩ : ∃ jz : Bool,decide ((0 : Int) < j) = jz:=⟨_,rfl⟩
        have pw : j = 0 ∨ ∃ z k,j = k + 1 ∧ x.lots[k]? = some z ∧ PW x.lots j = z.w:=by
          cases j with
          | zero => exact .inl rfl
          | succ k =>
            obtain ⟨z,ez⟩ : ∃ z,x.lots[k]? = some z:=⟨_,List.getElem?_eq_getElem (by omega)⟩
            exact .inr ⟨z,k,rfl,ez,PW_succ ez⟩
        rcases pw with rfl | ⟨z,k,rfl,ez,pw⟩
        · have pz : PW x.lots 0 = -1:=rfl
          rw [pz] at bad
          by_cases b3 : -1073741824 ≤ y.n ∧ y.n ≤ 1073741824
          rotate_left
          · rw [decide_eq_false b3] at w1
            simp (maxSteps:=999999) only [E0,seval,-Int.reduceNatCast',NUM,SLOT,w0,w1,h3,h1,hb1,hb4,hd,hf,e1,Int.toNat_zero,(show ((0 : Nat) : Int) = 0 by omega),(show (0 : Int) < x.lots.length by omega),List.length_map] at hW
            subst hW
            exact rd_ret ⟨.inr ⟨rfl,bad (fun g => by omega),by simp (maxSteps:=999999) only [E0,seval,-Int.reduceNatCast']⟩,by simp (maxSteps:=999999) only [E0,seval,-Int.reduceNatCast',hd]⟩
          by_cases b4 : y.n = 0
          · rw [b4] at w1 b3
            rw [decide_eq_true b3] at w1
            simp (maxSteps:=999999) only [E0,seval,-Int.reduceNatCast',NUM,SLOT,w0,w1,b4,h3,h1,hb1,hb4,hd,hf,e1,Int.toNat_zero,(show ((0 : Nat) : Int) = 0 by omega),(show (0 : Int) < x.lots.length by omega),List.length_map] at hW
            subst hW
            exact rd_ret ⟨.inr ⟨rfl,bad (fun g => by omega),by simp (maxSteps:=999999) only [E0,seval,-Int.reduceNatCast']⟩,by simp (maxSteps:=999999) only [E0,seval,-Int.reduceNatCast',hd]⟩
          rw [decide_eq_true b3] at w1
          simp (maxSteps:=999999) only [E0,seval,-Int.reduceNatCast',NUM,SLOT,w0,w1,b4,h3,h1,hb1,hb4,hd,hf,e1,Int.toNat_zero,(show ((0 : Nat) : Int) = 0 by omega),(show (0 : Int) < x.lots.length by omega),List.length_map] at hW
          subst hW
          refine rd_next 1 ?_ (show x.lots.length - 1 < x.lots.length - 0 by omega)
          simp (maxSteps:=999999) only [E0,seval,-Int.reduceNatCast',h1,hb1,hd]
          exact ⟨by omega,ALLI_take ht e0 ⟨by rw [pz]; omega,b4,b3⟩,by simp⟩
        · rw [pw] at bad
          have e2:=map_get (f:=lot) ez
          have ek : ((k + 1 : Nat) : Int) = (k : Int) + 1:=by omega
          by_cases b2 : y.w ≤ z.w
          · simp (maxSteps:=999999) only [E0,seval,-Int.reduceNatCast',NUM,SLOT,w0,h3,h1,hb1,hb4,hd,hf,e1,e2,b2,Int.toNat_natCast,ek,(show (0 : Int) < (k : Int) + 1 by omega),(show (k : Int) + 1 < x.lots.length by omega),(show (0 : Int) ≤ (k : Int) + 1 by omega),(show (k : Int) + 1 - 1 = k by omega),(show (0 : Int) ≤ k by omega),(show (k : Int) < x.lots.length by omega),(show ((k : Int) + 1).toNat = k + 1 by omega),(i64_in (x:=(k : Int)) (by unfold I64; omega)),(i64_in (x:=(k : Int) + 1 + 1) (by unfold I64; omega)),List.length_map] at hW
            subst hW
            exact rd_ret ⟨.inr ⟨rfl,bad (fun g => by omega),by simp (maxSteps:=999999) only [E0,seval,-Int.reduceNatCast']⟩,by simp (maxSteps:=999999) only [E0,seval,-Int.reduceNatCast',hd]⟩
          by_cases b3 : -1073741824 ≤ y.n ∧ y.n ≤ 1073741824
          rotate_left
          · rw [decide_eq_false b3] at w1
            simp (maxSteps:=999999) only [E0,seval,-Int.reduceNatCast',NUM,SLOT,w0,w1,h3,h1,hb1,hb4,hd,hf,e1,e2,b2,Int.toNat_natCast,ek,(show (0 : Int) < (k : Int) + 1 by omega),(show (k : Int) + 1 < x.lots.length by omega),(show (0 : Int) ≤ (k : Int) + 1 by omega),(show (k : Int) + 1 - 1 = k by omega),(show (0 : Int) ≤ k by omega),(show (k : Int) < x.lots.length by omega),(show ((k : Int) + 1).toNat = k + 1 by omega),(i64_in (x:=(k : Int)) (by unfold I64; omega)),(i64_in (x:=(k : Int) + 1 + 1) (by unfold I64; omega)),List.length_map] at hW
            subst hW
            exact rd_ret ⟨.inr ⟨rfl,bad (fun g => by omega),by simp (maxSteps:=999999) only [E0,seval,-Int.reduceNatCast']⟩,by simp (maxSteps:=999999) only [E0,seval,-Int.reduceNatCast',hd]⟩
          by_cases b4 : y.n = 0
          · rw [b4] at w1 b3
            rw [decide_eq_true b3] at w1
            simp (maxSteps:=999999) only [E0,seval,-Int.reduceNatCast',NUM,SLOT,w0,w1,b4,h3,h1,hb1,hb4,hd,hf,e1,e2,b2,Int.toNat_natCast,ek,(show (0 : Int) < (k : Int) + 1 by omega),(show (k : Int) + 1 < x.lots.length by omega),(show (0 : Int) ≤ (k : Int) + 1 by omega),(show (k : Int) + 1 - 1 = k by omega),(show (0 : Int) ≤ k by omega),(show (k : Int) < x.lots.length by omega),(show ((k : Int) + 1).toNat = k + 1 by omega),(i64_in (x:=(k : Int)) (by unfold I64; omega)),(i64_in (x:=(k : Int) + 1 + 1) (by unfold I64; omega)),List.length_map] at hW
            subst hW
            exact rd_ret ⟨.inr ⟨rfl,bad (fun g => by omega),by simp (maxSteps:=999999) only [E0,seval,-Int.reduceNatCast']⟩,by simp (maxSteps:=999999) only [E0,seval,-Int.reduceNatCast',hd]⟩
          rw [decide_eq_true b3] at w1
          simp (maxSteps:=999999) only [E0,seval,-Int.reduceNatCast',NUM,SLOT,w0,w1,b4,h3,h1,hb1,hb4,hd,hf,e1,e2,b2,Int.toNat_natCast,ek,(show (0 : Int) < (k : Int) + 1 by omega),(show (k : Int) + 1 < x.lots.length by omega),(show (0 : Int) ≤ (k : Int) + 1 by omega),(show (k : Int) + 1 - 1 = k by omega),(show (0 : Int) ≤ k by omega),(show (k : Int) < x.lots.length by omega),(show ((k : Int) + 1).toNat = k + 1 by omega),(i64_in (x:=(k : Int)) (by unfold I64; omega)),(i64_in (x:=(k : Int) + 1 + 1) (by unfold I64; omega)),List.length_map] at hW
          subst hW
          refine rd_next (k + 1 + 1) ?_ (show x.lots.length - (k + 1 + 1) < x.lots.length - (k + 1) by omega)
          simp (maxSteps:=999999) only [E0,seval,-Int.reduceNatCast',h1,hb1,hd,ek]
          exact ⟨by omega,ALLI_take ht e0 ⟨by rw [pw]; omega,b4,b3⟩,by simp⟩)
  rcases hex with ⟨rfl,hg,h1,hb1⟩ | ⟨rfl,hg,h2⟩
  rotate_left
  · rw [decide_eq_false (fun g => hg (key.1 g).2)]
    simp (maxSteps:=999999) only [E0,seval,-Int.reduceNatCast',NUM,hd,h2]
  by_cases z : 0 < x.lots.length
  · rw [decide_eq_true (key.2 ⟨z,hg⟩)]
    simp (maxSteps:=999999) only [E0,seval,-Int.reduceNatCast',NUM,SLOT,h1,hb1,hd,hf,List.length_map,(show (0 : Int) < x.lots.length by omega)]
  · rw [decide_eq_false (fun g => z (key.1 g).1)]
    simp (maxSteps:=999999) only [E0,seval,-Int.reduceNatCast',NUM,SLOT,h1,hb1,hd,hf,List.length_map,(show ¬ (0 : Int) < x.lots.length by omega)]
theorem c_rcheck44 (x : Ofr) (c : Option Nat) : ap Tryz.prog pol 99 [ofr c x] = some (.ret (I (OC x))):=by
  rw [ap_eq _ Tryz.func99 rfl Tryz.ntmps99 Tryz.results99 (by kernel_rfl) rfl (by exact Nat.le_of_ble_eq_true rfl)]
  unfold OC
  by_cases h8 : 8 < x.lots.length
  · rw [if_pos h8]
    simp (maxSteps:=999999) only [E0,seval,-Int.reduceNatCast',NUM,SLOT,List.length_map,(show (8 : Int) < x.lots.length by omega)]
  rw [if_neg h8]
  have cv:=c_rvalid44 x c (by omega)
  by_cases h : OFK x
  · rw [if_pos h]
    rw [decide_eq_true h] at cv
    simp (maxSteps:=999999) only [E0,seval,-Int.reduceNatCast',NUM,SLOT,cv,List.length_map,(show ¬ (8 : Int) < x.lots.length by omega)]
  · rw [if_neg h]
    rw [decide_eq_false h] at cv
    simp (maxSteps:=999999) only [E0,seval,-Int.reduceNatCast',NUM,SLOT,cv,List.length_map,(show ¬ (8 : Int) < x.lots.length by omega)]
theorem RV_slF {l : List Int} {v : PV} (h : RV l v) : slF v = []:=by
  rcases h with ⟨c,rfl⟩ | ⟨_,rfl⟩ <;> rfl
theorem r_in (set : Int) (i : Nat) (hi : i ≤ 1000000) : ap Tryz.prog pol 25 [I set,I i] = some (.ret (.bool (decide (BIT set i = 1)))):=by
  rw [ap_eq _ Tryz.func25 rfl Tryz.ntmps25 Tryz.results25 (by kernel_rfl) rfl (by exact Nat.le_of_ble_eq_true rfl)]
  simp (maxSteps:=999999) only [E0,seval,-Int.reduceNatCast',NUM,INB,Int.toNat_natCast,(show ¬ (i : Int) < 0 by omega)]
section
variable {M : Mkt} (hr : ∀ x ∈ M.D.rs,x.OK) {Ws av : List PV} (hw : SWS Ws) (hA : AWV M.aw av)
include hw hA
set_option maxHeartbeats 4000000 in
theorem c_roffer (i : Nat) (x : Ofr) (e0 : M.os[i]? = some x) (li : M.os.length ≤ 1000) (la : M.aw.length ≤ 1000) : ∃ b,ap Tryz.prog pol 85 [.agg (mcl M (qq M.D Ws av)),I i] = some (.ret (.bool b)) ∧ (b = true ↔ MOF M (PO M.os i) x):=by
  have hlen:=SAV hA
  have e1:=map_get (f:=ofr none) e0
  have hi:=(List.getElem?_eq_some_iff.1 e0).1
  have co:=c_rcheck44 x none
  rw [ap_eq _ Tryz.func85 rfl Tryz.ntmps85 Tryz.results85 (by kernel_rfl) rfl (by exact Nat.le_of_ble_eq_true rfl)]
  by_cases a1 : OC x = 0
  rotate_left
  · simp (maxSteps:=999999) only [E0,seval,-Int.reduceNatCast',K2,hw,hlen,e1,co,a1,(show (i : Int) < M.os.length by omega),(show (0 : Int) ≤ i by omega)]
    exact ⟨_,rfl,by simp; exact fun g => a1 g.1⟩
  rw [a1] at co
  by_cases a2 : (M.D.fs.length : Int) ≤ x.fm
  · simp (maxSteps:=999999) only [E0,seval,-Int.reduceNatCast',K2,hw,hlen,e1,co,a2,(show (i : Int) < M.os.length by omega),(show (0 : Int) ≤ i by omega)]
    exact ⟨_,rfl,by simp; exact fun g => by have:=g.2.2.1; omega⟩
  have ok : OFK x ∧ x.lots.length ≤ 8:=by
    unfold OC at a1
    split at a1
    · omega
    · split at a1
      · exact ⟨by assumption,by omega⟩
      · omega
  have pw : (i = 0 ∧ PO M.os i < x.no) ∨ ∃ z k,i = k + 1 ∧ M.os[k]? = some z ∧ PO M.os i = z.no:=by
    cases i with
    | zero => exact .inl ⟨rfl,by show (-1 : Int) < x.no; have:=ok.1.1; omega⟩
    | succ k =>
      obtain ⟨z,ez⟩ : ∃ z,M.os[k]? = some z:=⟨_,List.getElem?_eq_getElem (by omega)⟩
      exact .inr ⟨z,k,rfl,ez,PO_succ ez⟩
  rcases pw with ⟨rfl,po⟩ | ⟨z,k,rfl,ez,po⟩
  · simp (maxSteps:=999999) only [E0,seval,-Int.reduceNatCast',K2,hw,hlen,e1,co,a2,Int.toNat_zero,(show ((0 : Nat) : Int) = 0 by omega),(show (0 : Int) < M.os.length by omega)]
    generalize hL : W _ (.loop _) _ = L
    obtain ⟨ex,s,rfl,hex,hd⟩:=loop_at hL (α:=Nat) (fun j => x.lots.length - j)
      (fun s0 j s => j ≤ x.lots.length ∧ (∀ y ∈ x.lots.take j,y.w < M.aw.length) ∧ s.tmps 6 = I j ∧ s.tmps 5 = .bptr 0 5 0 0 ∧ s.boxes 5 = some (0,[I x.no,I x.fm,I x.pr,I x.lo,I x.hi,.vs 2 (x.lots.map lot) none]) ∧ s.tmps 2 = .bptr 0 2 0 0 ∧ s.boxes 2 = some (0,(mcl M (qq M.D Ws av))) ∧ s.defers = [] ∧ s.fid = 0)
      (fun s0 ex s => ((ex = .exit 0 ∧ WKS M x.lots ∧ True) ∨ (ex = .ret ∧ ¬ WKS M x.lots ∧ s.tmps 4 = .bool false)) ∧ s.defers = []) 0
      (by simp (maxSteps:=999999) only [E0,seval,-Int.reduceNatCast']; exact ⟨by omega,by simp,by simp⟩) (by
        rintro j s r hW ⟨hj,ht,h6,h5,hb5,h2,hb2,hd,hf⟩
        by_cases hp : j < x.lots.length
        rotate_left
        · simp (maxSteps:=999999) only [E0,seval,-Int.reduceNatCast',K2,hw,hlen,h6,h5,hb5,h2,hb2,hd,hf,(show ¬ (j : Int) < x.lots.length by omega)] at hW
          subst hW
          rw [List.take_of_length_le (by omega)] at ht
          exact rd_exit ⟨.inl ⟨rfl,ht,trivial⟩,by simp (maxSteps:=999999) only [E0,seval,-Int.reduceNatCast',hd]⟩
        obtain ⟨y,e0⟩ : ∃ y,x.lots[j]? = some y:=⟨_,List.getElem?_eq_getElem hp⟩
        have e1:=map_get (f:=lot) e0
        have hm:=List.mem_of_getElem? e0
        have tk : x.lots.take (j + 1) = x.lots.take j ++ [y]:=by rw [List.take_add_one,e0]; rfl
        by_cases b1 : (M.aw.length : Int) ≤ y.w
        · simp (maxSteps:=999999) only [E0,seval,-Int.reduceNatCast',K2,hw,hlen,b1,h6,h5,hb5,h2,hb2,hd,hf,e1,(show (j : Int) < x.lots.length by omega),(show (0 : Int) ≤ j by omega)] at hW
          subst hW
          exact rd_ret ⟨.inr ⟨rfl,fun g => by have:=g y hm; omega,by simp (maxSteps:=999999) only [E0,seval,-Int.reduceNatCast']⟩,by simp (maxSteps:=999999) only [E0,seval,-Int.reduceNatCast',hd]⟩
        · simp (maxSteps:=999999) only [E0,seval,-Int.reduceNatCast',K2,hw,hlen,b1,h6,h5,hb5,h2,hb2,hd,hf,e1,(show (j : Int) < x.lots.length by omega),(show (0 : Int) ≤ j by omega),(i64_in (x:=(j : Int) + 1) (by unfold I64; omega))] at hW
          subst hW
          refine rd_next (j + 1) ?_ (show x.lots.length - (j + 1) < x.lots.length - j by omega)
          simp (maxSteps:=999999) only [E0,seval,-Int.reduceNatCast',h5,hb5,h2,hb2,hd]
          refine ⟨by omega,fun u hu => ?_,by simp⟩
          rw [tk] at hu
          rcases List.mem_append.1 hu with hu | hu
          · exact ht u hu
          · simp only [List.mem_singleton] at hu; subst hu; omega)
    rcases hex with ⟨rfl,hg,_⟩ | ⟨rfl,hg,h4⟩
    · simp (maxSteps:=999999) only [E0,seval,-Int.reduceNatCast',hd]
      exact ⟨_,rfl,fun _ => ⟨a1,po,by omega,hg⟩,fun _ => rfl⟩
    · simp (maxSteps:=999999) only [E0,seval,-Int.reduceNatCast',hd,h4]
      exact ⟨_,rfl,by simp; exact fun g => hg g.2.2.2⟩
  · have e2:=map_get (f:=ofr none) ez
    have ek : ((k + 1 : Nat) : Int) = (k : Int) + 1:=by omega
    by_cases a3 : x.no ≤ z.no
    · simp (maxSteps:=999999) only [E0,seval,-Int.reduceNatCast',K2,hw,hlen,e1,e2,co,a2,a3,ek,(show (0 : Int) < (k : Int) + 1 by omega),(show (k : Int) + 1 < M.os.length by omega),(show (0 : Int) ≤ (k : Int) + 1 by omega),(show (k : Int) + 1 - 1 = k by omega),(show (0 : Int) ≤ k by omega),(show (k : Int) < M.os.length by omega),(show ((k : Int) + 1).toNat = k + 1 by omega),(i64_in (x:=(k : Int)) (by unfold I64; omega))]
      exact ⟨_,rfl,by simp; exact fun g => by have:=g.2.1; omega⟩
    have po : PO M.os (k + 1) < x.no:=by omega
    simp (maxSteps:=999999) only [E0,seval,-Int.reduceNatCast',K2,hw,hlen,e1,e2,co,a2,a3,ek,(show (0 : Int) < (k : Int) + 1 by omega),(show (k : Int) + 1 < M.os.length by omega),(show (0 : Int) ≤ (k : Int) + 1 by omega),(show (k : Int) + 1 - 1 = k by omega),(show (0 : Int) ≤ k by omega),(show (k : Int) < M.os.length by omega),(show ((k : Int) + 1).toNat = k + 1 by omega),(i64_in (x:=(k : Int)) (by unfold I64; omega))]
    generalize hL : W _ (.loop _) _ = L
    obtain ⟨ex,s,rfl,hex,hd⟩:=loop_at hL (α:=Nat) (fun j => x.lots.length - j)
      (fun s0 j s => j ≤ x.lots.length ∧ (∀ y ∈ x.lots.take j,y.w < M.aw.length) ∧ s.tmps 6 = I j ∧ s.tmps 5 = .bptr 0 5 0 0 ∧ s.boxes 5 = some (0,[I x.no,I x.fm,I x.pr,I x.lo,I x.hi,.vs 2 (x.lots.map lot) none]) ∧ s.tmps 2 = .bptr 0 2 0 0 ∧ s.boxes 2 = some (0,(mcl M (qq M.D Ws av))) ∧ s.defers = [] ∧ s.fid = 0)
      (fun s0 ex s => ((ex = .exit 0 ∧ WKS M x.lots ∧ True) ∨ (ex = .ret ∧ ¬ WKS M x.lots ∧ s.tmps 4 = .bool false)) ∧ s.defers = []) 0
      (by simp (maxSteps:=999999) only [E0,seval,-Int.reduceNatCast']; exact ⟨by omega,by simp,by simp⟩) (by
        rintro j s r hW ⟨hj,ht,h6,h5,hb5,h2,hb2,hd,hf⟩
        by_cases hp : j < x.lots.length
        rotate_left
        · simp (maxSteps:=999999) only [E0,seval,-Int.reduceNatCast',K2,hw,hlen,h6,h5,hb5,h2,hb2,hd,hf,(show ¬ (j : Int) < x.lots.length by omega)] at hW
          subst hW
          rw [List.take_of_length_le (by omega)] at ht
          exact rd_exit ⟨.inl ⟨rfl,ht,trivial⟩,by simp (maxSteps:=999999) only [E0,seval,-Int.reduceNatCast',hd]⟩
        obtain ⟨y,e0⟩ : ∃ y,x.lots[j]? = some y:=⟨_,List.getElem?_eq_getElem hp⟩
        have e1:=map_get (f:=lot) e0
        have hm:=List.mem_of_getElem? e0
        have tk : x.lots.take (j + 1) = x.lots.take j ++ [y]:=by rw [List.take_add_one,e0]; rfl
        by_cases b1 : (M.aw.length : Int) ≤ y.w
        · simp (maxSteps:=999999) only [E0,seval,-Int.reduceNatCast',K2,hw,hlen,b1,h6,h5,hb5,h2,hb2,hd,hf,e1,(show (j : Int) < x.lots.length by omega),(show (0 : Int) ≤ j by omega)] at hW
          subst hW
          exact rd_ret ⟨.inr ⟨rfl,fun g => by have:=g y hm; omega,by simp (maxSteps:=999999) only [E0,seval,-Int.reduceNatCast']⟩,by simp (maxSteps:=999999) only [E0,seval,-Int.reduceNatCast',hd]⟩
        · simp (maxSteps:=999999) only [E0,seval,-Int.reduceNatCast',K2,hw,hlen,b1,h6,h5,hb5,h2,hb2,hd,hf,e1,(show (j : Int) < x.lots.length by omega),(show (0 : Int) ≤ j by omega),(i64_in (x:=(j : Int) + 1) (by unfold I64; omega))] at hW
          subst hW
          refine rd_next (j + 1) ?_ (show x.lots.length - (j + 1) < x.lots.length - j by omega)
          simp (maxSteps:=999999) only [E0,seval,-Int.reduceNatCast',h5,hb5,h2,hb2,hd]
          refine ⟨by omega,fun u hu => ?_,by simp⟩
          rw [tk] at hu
          rcases List.mem_append.1 hu with hu | hu
          · exact ht u hu
          · simp only [List.mem_singleton] at hu; subst hu; omega)
    rcases hex with ⟨rfl,hg,_⟩ | ⟨rfl,hg,h4⟩
    · simp (maxSteps:=999999) only [E0,seval,-Int.reduceNatCast',hd]
      exact ⟨_,rfl,fun _ => ⟨a1,po,by omega,hg⟩,fun _ => rfl⟩
    · simp (maxSteps:=999999) only [E0,seval,-Int.reduceNatCast',hd,h4]
      exact ⟨_,rfl,by simp; exact fun g => hg g.2.2.2⟩
include hr
set_option maxHeartbeats 8000000 in
theorem c_rmcheck : ap Tryz.prog pol 68 [.agg (mcl M (qq M.D Ws av))] = some (.ret (I (MC M))):=by
  have hlen:=SAV hA
  obtain ⟨c,cc,hc⟩:=c_ref19check M.D Ws hw hr
  have hc:=XC_cases M.D c hc
  subst hc
  rw [ap_eq _ Tryz.func68 rfl Tryz.ntmps68 Tryz.results68 (by kernel_rfl) rfl (by exact Nat.le_of_ble_eq_true rfl)]
  by_cases hX : XC M.D = 0
  rotate_left
  · have ed : MC M = XC M.D:=by unfold MC; rw [if_neg hX]
    rw [ed]
    simp (maxSteps:=999999) only [E0,seval,-Int.reduceNatCast',K2,hw,hlen,cc,hX]
  rw [hX] at cc
  by_cases h1 : (8 : Int) < M.aw.length
  · have ed : MC M = 2:=by unfold MC; rw [if_pos hX,if_pos (.inl (by omega))]
    rw [ed]
    simp (maxSteps:=999999) only [E0,seval,-Int.reduceNatCast',K2,hw,hlen,cc,h1]
  by_cases h2 : (12 : Int) < M.os.length
  · have ed : MC M = 2:=by unfold MC; rw [if_pos hX,if_pos (.inr (by omega))]
    rw [ed]
    simp (maxSteps:=999999) only [E0,seval,-Int.reduceNatCast',K2,hw,hlen,cc,h1,h2]
  have ep : (M.aw.length = 0 ∨ ¬ (0 ≤ M.room ∧ M.room ≤ 1099511627776) ∨ ¬ (0 ≤ M.rain ∧ M.rain ≤ 10000)) → MC M = 450:=fun g => by unfold MC; rw [if_pos hX,if_neg (by omega),if_pos g]
  by_cases h3 : (M.aw.length : Int) = 0
  · rw [ep (by omega)]
    simp (maxSteps:=999999) only [E0,seval,-Int.reduceNatCast',K2,hw,hlen,cc,h1,h2,h3]
  by_cases h4 : M.room < 0
  · rw [ep (by omega)]
    simp (maxSteps:=999999) only [E0,seval,-Int.reduceNatCast',K2,hw,hlen,cc,h1,h2,h3,h4]
  by_cases h5 : 1099511627776 < M.room
  · rw [ep (by omega)]
    simp (maxSteps:=999999) only [E0,seval,-Int.reduceNatCast',K2,hw,hlen,cc,h1,h2,h3,h4,h5]
  by_cases h6 : M.rain < 0
  · rw [ep (by omega)]
    simp (maxSteps:=999999) only [E0,seval,-Int.reduceNatCast',K2,hw,hlen,cc,h1,h2,h3,h4,h5,h6]
  by_cases h7 : 10000 < M.rain
  · rw [ep (by omega)]
    simp (maxSteps:=999999) only [E0,seval,-Int.reduceNatCast',K2,hw,hlen,cc,h1,h2,h3,h4,h5,h6,h7]
  have ed : MC M = if MKO M then 0 else 450:=by unfold MC; rw [if_pos hX,if_neg (by omega),if_neg (by omega)]
  rw [ed]
  simp (maxSteps:=999999) only [E0,seval,-Int.reduceNatCast',K2,hw,hlen,cc,h1,h2,h3,h4,h5,h6,h7]
  generalize hL : W _ (.loop _) _ = L
  obtain ⟨ex,s,rfl,hex,hd,hf⟩:=loop_at hL (α:=Nat) (fun j => M.aw.length - j)
    (fun s0 j s => j ≤ M.aw.length ∧ (∀ l ∈ M.aw.take j,NDO M.D l) ∧ s.tmps 4 = I j ∧ s.tmps 1 = .bptr 0 1 0 0 ∧ s.boxes 1 = some (0,(mcl M (qq M.D Ws av))) ∧ s.defers = [] ∧ s.fid = 0)
    (fun s0 ex s => ((ex = .exit 0 ∧ (∀ l ∈ M.aw,NDO M.D l) ∧ s.tmps 1 = .bptr 0 1 0 0 ∧ s.boxes 1 = some (0,(mcl M (qq M.D Ws av)))) ∨ (ex = .ret ∧ ¬ (∀ l ∈ M.aw,NDO M.D l) ∧ s.tmps 2 = I 450)) ∧ s.defers = [] ∧ s.fid = 0) 0
    (by simp (maxSteps:=999999) only [E0,seval,-Int.reduceNatCast']; exact ⟨by omega,by simp,by simp⟩) (by
      rintro j s r hW ⟨hj,ht,h4',h1',hb1,hd,hf⟩
      by_cases hp : j < M.aw.length
      rotate_left
      · simp (maxSteps:=999999) only [E0,seval,-Int.reduceNatCast',K2,hw,hlen,h4',h1',hb1,hd,hf,(show ¬ (j : Int) < M.aw.length by omega)] at hW
        subst hW
        rw [List.take_of_length_le (by omega)] at ht
        exact rd_exit ⟨.inl ⟨rfl,ht,by simp (maxSteps:=999999) only [E0,seval,-Int.reduceNatCast',h1',hb1]⟩,by simp (maxSteps:=999999) only [E0,seval,-Int.reduceNatCast',hd]⟩
      obtain ⟨l,e0⟩ : ∃ l,M.aw[j]? = some l:=⟨_,List.getElem?_eq_getElem hp⟩
      obtain ⟨v,e1,hrv⟩:=hA.get j _ e0
      have rv:=RVS hrv.rv
      have sf:=RV_slF hrv.rv
      have hm:=List.mem_of_getElem? e0
      have tk : M.aw.take (j + 1) = M.aw.take j ++ [l]:=by rw [List.take_add_one,e0]; rfl
      have cN:=c_rNeeds hr hw l v hrv.rv
      by_cases hd0 : DVC M.D l = 0
      · cases hN : NDS M.D l M.D.rs.length with
        | none =>
          have e : NDV M.D l = .tup [.nils,.bool false,I 0]:=by unfold NDV; rw [if_pos hd0,hN]
          rw [e] at cN
          simp (maxSteps:=999999) only [E0,seval,-Int.reduceNatCast',K2,hw,hlen,rv,sf,cN,h4',h1',hb1,hd,hf,e1,(show (j : Int) < M.aw.length by omega),(show (0 : Int) ≤ j by omega)] at hW
          subst hW
          exact rd_ret ⟨.inr ⟨rfl,fun g => (by obtain ⟨_,hs,e⟩:=g l hm; rw [hN] at e; cases e),by simp (maxSteps:=999999) only [E0,seval,-Int.reduceNatCast']⟩,by simp (maxSteps:=999999) only [E0,seval,-Int.reduceNatCast',hd]⟩
        | some hs =>
          have e : NDV M.D l = .tup [.vs 1 (hs.map I) none,.bool true,I 0]:=by unfold NDV; rw [if_pos hd0,hN]
          rw [e] at cN
          simp (maxSteps:=999999) only [E0,seval,-Int.reduceNatCast',K2,hw,hlen,rv,sf,cN,h4',h1',hb1,hd,hf,e1,(show (j : Int) < M.aw.length by omega),(show (0 : Int) ≤ j by omega),(i64_in (x:=(j : Int) + 1) (by unfold I64; omega))] at hW
          subst hW
          refine rd_next (j + 1) ?_ (show M.aw.length - (j + 1) < M.aw.length - j by omega)
          simp (maxSteps:=999999) only [E0,seval,-Int.reduceNatCast',h1',hb1,hd]
          refine ⟨by omega,fun y hy => ?_,by simp⟩
          rw [tk] at hy
          rcases List.mem_append.1 hy with hy | hy
          · exact ht y hy
          · simp only [List.mem_singleton] at hy; subst hy; exact ⟨hd0,hs,hN⟩
      · have e : NDV M.D l = .tup [.nils,.bool false,I (DVC M.D l)]:=by unfold NDV; rw [if_neg hd0]
        rw [e] at cN
        simp (maxSteps:=999999) only [E0,seval,-Int.reduceNatCast',K2,hw,hlen,rv,sf,cN,hd0,h4',h1',hb1,hd,hf,e1,(show (j : Int) < M.aw.length by omega),(show (0 : Int) ≤ j by omega)] at hW
        subst hW
        exact rd_ret ⟨.inr ⟨rfl,fun g => hd0 (g l hm).1,by simp (maxSteps:=999999) only [E0,seval,-Int.reduceNatCast']⟩,by simp (maxSteps:=999999) only [E0,seval,-Int.reduceNatCast',hd]⟩)
  clear hL
  rcases hex with ⟨rfl,hAw,h1',hb1⟩ | ⟨rfl,hAw,h2'⟩
  rotate_left
  · rw [if_neg (fun g => hAw g.1)]
    simp (maxSteps:=999999) only [E0,seval,-Int.reduceNatCast',hd,h2']
  simp (maxSteps:=999999) only [E0,seval,-Int.reduceNatCast',K2,hw,hlen,h1',hb1,hd,hf]
  generalize hL : W _ (.loop _) _ = L
  obtain ⟨ex,s2,rfl,hex,hd⟩:=loop_at hL (α:=Nat) (fun j => M.os.length - j)
    (fun s0 j s => j ≤ M.os.length ∧ ALLI (fun i x => MOF M (PO M.os i) x) (M.os.take j) ∧ s.tmps 8 = I j ∧ s.tmps 1 = .bptr 0 1 0 0 ∧ s.boxes 1 = some (0,(mcl M (qq M.D Ws av))) ∧ s.defers = [] ∧ s.fid = 0)
    (fun s0 ex s => ((ex = .exit 2 ∧ ALLI (fun i x => MOF M (PO M.os i) x) M.os) ∨ (ex = .ret ∧ ¬ ALLI (fun i x => MOF M (PO M.os i) x) M.os ∧ s.tmps 2 = I 450)) ∧ s.defers = []) 0
    (by simp (maxSteps:=999999) only [E0,seval,-Int.reduceNatCast',h1',hb1]; exact ⟨by omega,fun i x h => by simp at h,by simp⟩) (by
      rintro j s r hW ⟨hj,ht,h8,h1',hb1,hd,hf⟩
      by_cases hp : j < M.os.length
      rotate_left
      · simp (maxSteps:=999999) only [E0,seval,-Int.reduceNatCast',K2,hw,hlen,h8,h1',hb1,hd,hf,(show ¬ (j : Int) < M.os.length by omega)] at hW
        subst hW
        have ht:=ALLI_full ht (by omega)
        exact rd_exit ⟨.inl ⟨rfl,ht⟩,by simp (maxSteps:=999999) only [E0,seval,-Int.reduceNatCast',hd]⟩
      obtain ⟨x,e0⟩ : ∃ x,M.os[j]? = some x:=⟨_,List.getElem?_eq_getElem hp⟩
      obtain ⟨b,cb,hb⟩:=c_roffer hw hA j x e0 (by omega) (by omega)
      cases b with
      | true =>
        simp (maxSteps:=999999) only [E0,seval,-Int.reduceNatCast',K2,hw,hlen,cb,h8,h1',hb1,hd,hf,(show (j : Int) < M.os.length by omega),(show (0 : Int) ≤ j by omega),(i64_in (x:=(j : Int) + 1) (by unfold I64; omega))] at hW
        subst hW
        refine rd_next (j + 1) ?_ (show M.os.length - (j + 1) < M.os.length - j by omega)
        simp (maxSteps:=999999) only [E0,seval,-Int.reduceNatCast',h1',hb1,hd]
        exact ⟨by omega,ALLI_take ht e0 (hb.1 rfl),by simp⟩
      | false =>
        simp (maxSteps:=999999) only [E0,seval,-Int.reduceNatCast',K2,hw,hlen,cb,h8,h1',hb1,hd,hf,(show (j : Int) < M.os.length by omega),(show (0 : Int) ≤ j by omega)] at hW
        subst hW
        exact rd_ret ⟨.inr ⟨rfl,fun g => by have:=hb.2 (g j x e0); simp at this,by simp (maxSteps:=999999) only [E0,seval,-Int.reduceNatCast']⟩,by simp (maxSteps:=999999) only [E0,seval,-Int.reduceNatCast',hd]⟩)
  rcases hex with ⟨rfl,hg⟩ | ⟨rfl,hg,h2'⟩
  · rw [if_pos ⟨hAw,hg⟩]; simp (maxSteps:=999999) only [E0,seval,-Int.reduceNatCast',hd]
  · rw [if_neg (fun g => hg g.2)]; simp (maxSteps:=999999) only [E0,seval,-Int.reduceNatCast',hd,h2']
theorem c_rask (set : Int) : ap Tryz.prog pol 49 [.agg (mcl M (qq M.D Ws av)),I set] = some (.ret (I (ASK M set))):=by
  have hlen:=SAV hA
  have cm:=c_rmcheck hr hw hA
  rw [ap_eq _ Tryz.func49 rfl Tryz.ntmps49 Tryz.results49 (by kernel_rfl) rfl (by exact Nat.le_of_ble_eq_true rfl)]
  unfold ASK
  by_cases hM : MC M = 0
  rotate_left
  · rw [if_neg hM]
    simp (maxSteps:=999999) only [E0,seval,-Int.reduceNatCast',K2,hw,hlen,cm,hM]
  rw [if_pos hM]
  rw [hM] at cm
  have l12:=(MC_0 hM).2.2.1
  by_cases s0 : set < 0
  · rw [if_neg (by omega)]
    simp (maxSteps:=999999) only [E0,seval,-Int.reduceNatCast',K2,hw,hlen,cm,s0]
  have p1 : (2 : Int) ^ M.os.length ≤ 4096:=by
    have:=Nat.pow_le_pow_right (n:=2) (by decide) l12
    have e : ((2 ^ M.os.length : Nat) : Int) = (2 : Int) ^ M.os.length:=by rw [Int.natCast_pow]; rfl
    omega
  have p0 : (0 : Int) < 2 ^ M.os.length:=Int.pow_pos (by decide)
  have sh : IntKind.i64.wrap (1 * 2 ^ min M.os.length IntKind.i64.bits) = 2 ^ M.os.length:=by
    rw [show min M.os.length IntKind.i64.bits = M.os.length from Nat.min_eq_left (by show _ ≤ 64; omega),Int.one_mul,i64_in (by unfold I64; omega)]
  generalize (2 : Int) ^ M.os.length = p at *
  by_cases s1 : p ≤ set
  · rw [if_neg (by omega)]
    simp (maxSteps:=999999) only [E0,seval,-Int.reduceNatCast',K2,hw,hlen,cm,s0,s1,sh,(show ¬ (M.os.length : Int) < 0 by omega)]
  · rw [if_pos (by omega)]
    simp (maxSteps:=999999) only [E0,seval,-Int.reduceNatCast',K2,hw,hlen,cm,s0,s1,sh,(show ¬ (M.os.length : Int) < 0 by omega)]
end
open Classical in
noncomputable def LITB (l : List Int) : Bool:=decide (LIT l)
def ADDW (l : List Int) (f w : Nat) : List Lot → List Int
  | [] => l
  | y :: r => ADDW (if y.w.toNat = w then l.set f (l.getD f 0 + y.n) else l) f w r
theorem ADDW_app (f w : Nat) (a : List Lot) : ∀ (l : List Int) (y : Lot),ADDW l f w (a ++ [y]) = if y.w.toNat = w then (ADDW l f w a).set f ((ADDW l f w a).getD f 0 + y.n) else ADDW l f w a:=by
  induction a with
  | nil => intro l y; rfl
  | cons x a ih => intro l y; exact ih _ y
theorem ADDS_row (f w : Nat) : ∀ (r : List Lot) (T : List (List Int)) (l : List Int),T[w]? = some l → (ADDS T f r)[w]? = some (ADDW l f w r)
  | [],T,l,e => e
  | y :: r,T,l,e => by
    show (ADDS (ADDL T y.w.toNat f y.n) f r)[w]? = some (ADDW _ f w r)
    apply ADDS_row f w r
    unfold ADDL
    by_cases h : y.w.toNat = w
    · rw [if_pos h,h,e]
      exact List.getElem?_set_self (List.getElem?_eq_some_iff.1 e).1
    · rw [if_neg h]
      cases ew : T[y.w.toNat]? with
      | none => exact e
      | some l' =>
        dsimp only
        rw [List.getElem?_set_ne h]; exact e
section
variable {M : Mkt} (hr : ∀ x ∈ M.D.rs,x.OK) {Ws av : List PV} (hw : SWS Ws) (hA : AWV M.aw av)
include hw hA
set_option maxHeartbeats 4000000 in
theorem c_rrained (set : Int) (lo : M.os.length ≤ 1000) : ∃ b,ap Tryz.prog pol 69 [.agg (mcl M (qq M.D Ws av)),I set] = some (.ret (.bool b)) ∧ (b = true ↔ RNK M set M.os.length):=by
  have hlen:=SAV hA
  rw [ap_eq _ Tryz.func69 rfl Tryz.ntmps69 Tryz.results69 (by kernel_rfl) rfl (by exact Nat.le_of_ble_eq_true rfl)]
  simp (maxSteps:=999999) only [E0,seval,-Int.reduceNatCast',K2,hw,hlen]
  generalize hL : W _ (.loop _) _ = L
  obtain ⟨ex,s,rfl,hex,hd⟩:=loop_at hL (α:=Nat) (fun j => M.os.length - j)
    (fun s0 j s => j ≤ M.os.length ∧ RNK M set j ∧ s.tmps 5 = I j ∧ s.tmps 1 = I set ∧ s.tmps 2 = .bptr 0 2 0 0 ∧ s.boxes 2 = some (0,(mcl M (qq M.D Ws av))) ∧ s.defers = [] ∧ s.fid = 0)
    (fun s0 ex s => ((ex = .exit 0 ∧ RNK M set M.os.length) ∨ (ex = .ret ∧ ¬ RNK M set M.os.length ∧ s.tmps 4 = .bool false)) ∧ s.defers = []) 0
    (by simp (maxSteps:=999999) only [E0,seval,-Int.reduceNatCast']; exact ⟨by omega,fun j x hj => by omega,by simp⟩) (by
      rintro j s r hW ⟨hj,ht,h5,h1,h2,hb2,hd,hf⟩
      by_cases hp : j < M.os.length
      rotate_left
      · simp (maxSteps:=999999) only [E0,seval,-Int.reduceNatCast',K2,hw,hlen,h5,h2,hb2,hd,hf,(show ¬ (j : Int) < M.os.length by omega)] at hW
        subst hW
        have : j = M.os.length:=by omega
        subst this
        exact rd_exit ⟨.inl ⟨rfl,ht⟩,by simp (maxSteps:=999999) only [E0,seval,-Int.reduceNatCast',hd]⟩
      obtain ⟨x,e0⟩ : ∃ x,M.os[j]? = some x:=⟨_,List.getElem?_eq_getElem hp⟩
      have e1:=map_get (f:=ofr none) e0
      have ci:=r_in set j (by omega)
      have bad : ¬ (BIT set j = 1 → x.lo ≤ M.rain ∧ M.rain ≤ x.hi) → ¬ RNK M set M.os.length:=fun h g => h (g j x hp e0)
      rcases hb6 : s.boxes 6 with _ | ⟨v6,c6⟩
      all_goals
        by_cases hb : BIT set j = 1
        rotate_left
        · rw [decide_eq_false hb] at ci
          simp (maxSteps:=999999) only [E0,seval,-Int.reduceNatCast',K2,hw,hlen,ci,h5,h1,h2,hb2,hb6,hd,hf,e1,(show (j : Int) < M.os.length by omega),(show (0 : Int) ≤ j by omega),(i64_in (x:=(j : Int) + 1) (by unfold I64; omega))] at hW
          subst hW
          refine rd_next (j + 1) ?_ (show M.os.length - (j + 1) < M.os.length - j by omega)
          simp (maxSteps:=999999) only [E0,seval,-Int.reduceNatCast',h1,h2,hb2,hd]
          exact ⟨by omega,RNK_succ ht e0 (fun g => absurd g hb),by simp⟩
        rw [decide_eq_true hb] at ci
        by_cases a1 : M.rain < x.lo
        · simp (maxSteps:=999999) only [E0,seval,-Int.reduceNatCast',K2,hw,hlen,ci,a1,h5,h1,h2,hb2,hb6,hd,hf,e1,(show (j : Int) < M.os.length by omega),(show (0 : Int) ≤ j by omega)] at hW
          subst hW
          exact rd_ret ⟨.inr ⟨rfl,bad (fun g => by have:=g hb; omega),by simp (maxSteps:=999999) only [E0,seval,-Int.reduceNatCast']⟩,by simp (maxSteps:=999999) only [E0,seval,-Int.reduceNatCast',hd]⟩
        by_cases a2 : x.hi < M.rain
        · simp (maxSteps:=999999) only [E0,seval,-Int.reduceNatCast',K2,hw,hlen,ci,a1,a2,h5,h1,h2,hb2,hb6,hd,hf,e1,(show (j : Int) < M.os.length by omega),(show (0 : Int) ≤ j by omega)] at hW
          subst hW
          exact rd_ret ⟨.inr ⟨rfl,bad (fun g => by have:=g hb; omega),by simp (maxSteps:=999999) only [E0,seval,-Int.reduceNatCast']⟩,by simp (maxSteps:=999999) only [E0,seval,-Int.reduceNatCast',hd]⟩
        simp (maxSteps:=999999) only [E0,seval,-Int.reduceNatCast',K2,hw,hlen,ci,a1,a2,h5,h1,h2,hb2,hb6,hd,hf,e1,(show (j : Int) < M.os.length by omega),(show (0 : Int) ≤ j by omega),(i64_in (x:=(j : Int) + 1) (by unfold I64; omega))] at hW
        subst hW
        refine rd_next (j + 1) ?_ (show M.os.length - (j + 1) < M.os.length - j by omega)
        simp (maxSteps:=999999) only [E0,seval,-Int.reduceNatCast',h1,h2,hb2,hd]
        exact ⟨by omega,RNK_succ ht e0 (fun g => by omega),by simp⟩)
  rcases hex with ⟨rfl,hg⟩ | ⟨rfl,hg,h4⟩
  · simp (maxSteps:=999999) only [E0,seval,-Int.reduceNatCast',hd]
    exact ⟨_,rfl,fun _ => hg,fun _ => rfl⟩
  · simp (maxSteps:=999999) only [E0,seval,-Int.reduceNatCast',hd,h4]
    exact ⟨_,rfl,by simp [hg]⟩
set_option maxHeartbeats 16000000 in
theorem c_rmoved (hM : MC M = 0) (set : Int) (wk : Nat) (l0 : List Int) (e0 : M.aw[wk]? = some l0) (lf : List Int) (ef : (MOVT M set M.os.length)[wk]? = some lf) :
    ∃ v,RV lf v ∧ ap Tryz.prog pol 70 [.agg (mcl M (qq M.D Ws av)),I set,I wk] = some (.ret (if LITB lf then .tup [v,.bool true] else .tup [.nils,.bool false])):=by
  have hlen:=SAV hA
  have lo:=(MC_0 hM).2.2.1
  have hwk:=(List.getElem?_eq_some_iff.1 e0).1
  have la:=(MC_0 hM).2.1
  have lfs:=(XC_0 (MC_0 hM).1).1.2.1
  obtain ⟨v0,ev0,rv0⟩:=hA.get wk l0 e0
  have rw0:=RVS rv0.rv
  have arow : l0.length = M.D.fs.length:=(DVC_0 ((MC_0 hM).2.2.2.2.2.2.1 l0 (List.mem_of_getElem? e0)).1).2.1
  by_cases hl : l0 = []
  · subst hl
    have nf : M.D.fs.length = 0:=by simpa using arow.symm
    have no : M.os.length = 0:=by
      rcases Nat.eq_zero_or_pos M.os.length with h | h
      · exact h
      · obtain ⟨x,ex⟩ : ∃ x,M.os[0]? = some x:=⟨_,List.getElem?_eq_getElem h⟩
        have:=(MOF_ok hM ex).2.1
        omega
    have efl : lf = []:=by
      rw [no] at ef
      have : (MOVT M set 0)[wk]? = some ([] : List Int):=e0
      rw [this] at ef
      exact (Option.some.inj ef).symm
    subst efl
    refine ⟨.vs 1 [] (some 0),.inl ⟨some 0,rfl⟩,?_⟩
    rw [ap_eq _ Tryz.func70 rfl Tryz.ntmps70 Tryz.results70 (by kernel_rfl) rfl (by exact Nat.le_of_ble_eq_true rfl)]
    have lit0 : LIT ([] : List Int):=fun x hx => by simp at hx
    rcases rv0.rv with ⟨c,rfl⟩ | ⟨_,rfl⟩
    all_goals
      simp (maxSteps:=999999) only [E0,seval,-Int.reduceNatCast',K2,hw,hlen,rw0,ev0,WW_loop,no,LITB,or_true,true_or,or_self,lit0,decide_true,(show (wk : Int) < M.aw.length by omega),(show (0 : Int) ≤ wk by omega)]
  obtain ⟨c0,rfl⟩ : ∃ c,v0 = .vs 1 (l0.map I) c:=rv0.rv.resolve_right fun g => hl g.1
  have j0 : (l0.map I).isEmpty = false:=by cases l0 with
    | nil => exact absurd rfl hl
    | cons a b => rfl
  have fa : ∀ l : List Int,((l.map I).all fun e => e.fits 1) = true:=fun l => List.all_eq_true.2 fun e he => by obtain ⟨x,_,rfl⟩:=List.mem_map.1 he; rfl
  refine ⟨.vs 1 (lf.map I) none,.inl ⟨none,rfl⟩,?_⟩
  rw [ap_eq _ Tryz.func70 rfl Tryz.ntmps70 Tryz.results70 (by kernel_rfl) rfl (by exact Nat.le_of_ble_eq_true rfl)]
  simp (maxSteps:=999999) only [E0,seval,-Int.reduceNatCast',K2,hw,hlen,ev0,j0,fa,or_true,true_or,Nat.zero_add,(show (wk : Int) < M.aw.length by omega),(show (0 : Int) ≤ wk by omega),(show l0.length ≤ 67108864 by omega)]
  generalize hL : W _ (.loop _) _ = L
  obtain ⟨ex,s,rfl,rfl,h8,⟨l1,el1,hr1⟩,hd,hf⟩:=loop_at hL (α:=Nat) (fun k => M.os.length - k)
    (fun s0 k s => k ≤ M.os.length ∧ s.tmps 9 = I k ∧ s.tmps 1 = I set ∧ s.tmps 2 = I wk ∧ s.tmps 3 = .bptr 0 3 0 0 ∧ s.boxes 3 = some (0,(mcl M (qq M.D Ws av))) ∧ s.tmps 8 = .gsl 1 1 l0.length 0 l0.length ∧ (∃ l,(MOVT M set k)[wk]? = some l ∧ s.H.rows 1 = some (.gro 1 (l.map I) 0)) ∧ s.defers = [] ∧ s.fid = 0)
    (fun s0 ex s => ex = .exit 0 ∧ s.tmps 8 = .gsl 1 1 l0.length 0 l0.length ∧ (∃ l,(MOVT M set M.os.length)[wk]? = some l ∧ s.H.rows 1 = some (.gro 1 (l.map I) 0)) ∧ s.defers = [] ∧ s.fid = 0) 0
    (by simp (maxSteps:=999999) only [E0,seval,-Int.reduceNatCast']; exact ⟨Nat.zero_le _,by simp,⟨l0,e0,rfl⟩⟩) (by
      rintro k s r hW ⟨hk,h9,h1,h2,h3,hb3,h8,⟨l1,el1,hr1⟩,hd,hf⟩
      by_cases hp : k < M.os.length
      rotate_left
      · simp (maxSteps:=999999) only [E0,seval,-Int.reduceNatCast',K2,hw,hlen,h9,h3,hb3,hd,hf,(show ¬ (k : Int) < M.os.length by omega)] at hW
        subst hW
        have : k = M.os.length:=by omega
        subst this
        exact rd_exit ⟨rfl,by simp (maxSteps:=999999) only [E0,seval,-Int.reduceNatCast',h8]; exact ⟨l1,el1,hr1⟩⟩
      obtain ⟨x,ex⟩ : ∃ x,M.os[k]? = some x:=⟨_,List.getElem?_eq_getElem hp⟩
      have ex1:=map_get (f:=ofr none) ex
      have ok:=MOF_ok hM ex
      have ms:=MOVT_succ (set:=set) ex
      have sz:=MOVT_sz hM set (k:=k) (by omega)
      have ci:=r_in set k (by omega)
      have nx : (MOVT M set (k + 1))[wk]? = some (if BIT set k = 1 then ADDW l1 x.fm.toNat wk x.lots else l1):=by
        rw [ms]
        by_cases hb : BIT set k = 1
        · rw [if_pos hb,if_pos hb]; exact ADDS_row _ _ _ _ _ el1
        · rw [if_neg hb,if_neg hb]; exact el1
      obtain ⟨bv,hbv⟩ : ∃ bv,nextVer (s.boxes 10) = bv:=⟨_,rfl⟩
      simp (maxSteps:=999999) only [E0,seval,-Int.reduceNatCast',K2,hw,hlen,h9,h1,h2,h3,hb3,h8,hbv,ex1,hd,hf,(show (k : Int) < M.os.length by omega),(show (0 : Int) ≤ k by omega)] at hW
      generalize hC : W _ (.loop _) _ = LC at hW
      obtain ⟨exC,sC,rfl,rfl,k9,k1,k2,k3,kb3,k8,kr1,kd,kf⟩:=loop_at hC (α:=Nat) (fun i => x.lots.length - i)
        (fun s0 i s => i ≤ x.lots.length ∧ s.tmps 11 = I i ∧ s.tmps 10 = .bptr 0 10 bv 0 ∧ s.boxes 10 = some (bv,[I x.no,I x.fm,I x.pr,I x.lo,I x.hi,.vs 2 (x.lots.map lot) none]) ∧ s.tmps 9 = I k ∧ s.tmps 1 = I set ∧ s.tmps 2 = I wk ∧ s.tmps 3 = .bptr 0 3 0 0 ∧ s.boxes 3 = some (0,(mcl M (qq M.D Ws av))) ∧ s.tmps 8 = .gsl 1 1 l0.length 0 l0.length ∧ s.H.rows 1 = some (.gro 1 ((if BIT set k = 1 then ADDW l1 x.fm.toNat wk (x.lots.take i) else l1).map I) 0) ∧ s.defers = [] ∧ s.fid = 0)
        (fun s0 ex s => ex = .exit 2 ∧ s.tmps 9 = I k ∧ s.tmps 1 = I set ∧ s.tmps 2 = I wk ∧ s.tmps 3 = .bptr 0 3 0 0 ∧ s.boxes 3 = some (0,(mcl M (qq M.D Ws av))) ∧ s.tmps 8 = .gsl 1 1 l0.length 0 l0.length ∧ s.H.rows 1 = some (.gro 1 ((if BIT set k = 1 then ADDW l1 x.fm.toNat wk x.lots else l1).map I) 0) ∧ s.defers = [] ∧ s.fid = 0) 0
        (by simp (maxSteps:=999999) only [E0,seval,-Int.reduceNatCast',h9,h1,h2,h3,hb3,h8,hr1,List.take_zero,ADDW,ite_self]; exact ⟨Nat.zero_le _,by simp⟩) (by
          rintro i sC r2 hW2 ⟨hi,z11,z10,zb10,k9,k1,k2,k3,kb3,k8,kr1,kd,kf⟩
          by_cases hpi : i < x.lots.length
          rotate_left
          · simp (maxSteps:=999999) only [E0,seval,-Int.reduceNatCast',K2,hw,hlen,z11,z10,zb10,kd,kf,(show ¬ (i : Int) < x.lots.length by omega)] at hW2
            subst hW2
            rw [List.take_of_length_le (by omega)] at kr1
            exact rd_exit ⟨rfl,by simp (maxSteps:=999999) only [E0,seval,-Int.reduceNatCast',k9,k1,k2,k3,kb3,k8,kr1,kd]⟩
          obtain ⟨y,ey⟩ : ∃ y,x.lots[i]? = some y:=⟨_,List.getElem?_eq_getElem hpi⟩
          have ey1:=map_get (f:=lot) ey
          have oy:=ok.2.2 _ (List.mem_of_getElem? ey)
          have tk : x.lots.take (i + 1) = x.lots.take i ++ [y]:=by rw [List.take_add_one,ey]; rfl
          by_cases hb : BIT set k = 1
          rotate_left
          · rw [if_neg hb] at kr1
            rw [decide_eq_false hb] at ci
            simp (maxSteps:=999999) only [E0,seval,-Int.reduceNatCast',K2,hw,hlen,ci,z11,z10,zb10,k9,k1,k2,k3,kb3,k8,kr1,ey1,kd,kf,(show (i : Int) < x.lots.length by omega),(show (0 : Int) ≤ i by omega),(i64_in (x:=(i : Int) + 1) (by unfold I64; omega))] at hW2
            subst hW2
            refine rd_next (i + 1) ?_ (show x.lots.length - (i + 1) < x.lots.length - i by omega)
            rw [if_neg hb]
            simp (maxSteps:=999999) only [E0,seval,-Int.reduceNatCast',z10,zb10,k9,k1,k2,k3,kb3,k8,kr1,kd]
            exact ⟨by omega,by simp⟩
          rw [if_pos hb] at kr1
          rw [decide_eq_true hb] at ci
          have nxt:=ADDW_app x.fm.toNat wk (x.lots.take i) l1 y
          rw [← tk] at nxt
          have tsz:=sz.adds (f:=x.fm.toNat) (l:=x.lots.take i) (by omega) (fun y hy => (ok.2.2 y (List.mem_of_mem_take hy)).2)
          have er:=ADDS_row x.fm.toNat wk (x.lots.take i) _ _ el1
          have tl8 : (x.lots.take i).length ≤ 8:=by simp; omega
          have row:=tsz.row _ (List.mem_of_getElem? er)
          have bd:=tsz.bd _ (List.mem_of_getElem? er)
          generalize ADDW l1 x.fm.toNat wk (x.lots.take i) = lc at *
          by_cases hy : y.w = wk
          rotate_left
          · rw [if_neg (show ¬ y.w.toNat = wk by omega)] at nxt
            simp (maxSteps:=999999) only [E0,seval,-Int.reduceNatCast',K2,hw,hlen,ci,hy,z11,z10,zb10,k9,k1,k2,k3,kb3,k8,kr1,ey1,kd,kf,(show (i : Int) < x.lots.length by omega),(show (0 : Int) ≤ i by omega),(i64_in (x:=(i : Int) + 1) (by unfold I64; omega))] at hW2
            subst hW2
            refine rd_next (i + 1) ?_ (show x.lots.length - (i + 1) < x.lots.length - i by omega)
            rw [if_pos hb,nxt]
            simp (maxSteps:=999999) only [E0,seval,-Int.reduceNatCast',z10,zb10,k9,k1,k2,k3,kb3,k8,kr1,kd]
            exact ⟨by omega,by simp⟩
          rw [if_pos (show y.w.toNat = wk by omega)] at nxt
          obtain ⟨fy,hfy⟩ : ∃ fy : Nat,x.fm = fy:=⟨x.fm.toNat,by omega⟩
          have efy : x.fm.toNat = fy:=by omega
          rw [efy] at nxt
          have hfl : fy < lc.length:=by omega
          obtain ⟨u,eu⟩ : ∃ u,lc[fy]? = some u:=⟨_,List.getElem?_eq_getElem hfl⟩
          have u1:=ints_get eu
          have ug : lc.getD fy 0 = u:=by simp [List.getD_eq_getElem?_getD,eu]
          rw [ug] at nxt
          have ub:=bd u (List.mem_of_getElem? eu)
          have l0l : l0.length = lc.length:=by rw [row,arow]
          simp (maxSteps:=999999) only [E0,seval,-Int.reduceNatCast',K2,hw,hlen,ci,hy,hfy,l0l,z11,z10,zb10,k9,k1,k2,k3,kb3,k8,kr1,ey1,u1,kd,kf,Nat.zero_add,Nat.zero_le,hfl,(show (fy : Int) < lc.length by omega),(show (0 : Int) ≤ fy by omega),(show (i : Int) < x.lots.length by omega),(show (0 : Int) ≤ i by omega),(i64_in (x:=u + y.n) (by unfold I64; omega)),(i64_in (x:=(i : Int) + 1) (by unfold I64; omega))] at hW2
          rw [if_pos (by kernel_rfl)] at hW2
          subst hW2
          refine rd_next (i + 1) ?_ (show x.lots.length - (i + 1) < x.lots.length - i by omega)
          rw [if_pos hb,efy,nxt]
          simp (maxSteps:=999999) only [E0,seval,-Int.reduceNatCast',z10,zb10,k9,k1,k2,k3,kb3,k8,kd,l0l]
          exact ⟨by omega,by simp,by rw [List.map_set]⟩)
      obtain ⟨fC,tC,bC,dC,HC,rC⟩:=sC
      dsimp only at k9 k1 k2 k3 kb3 k8 kr1 kd kf
      subst kd
      simp (maxSteps:=999999) only [E0,seval,-Int.reduceNatCast',NUM,k9,kf,(i64_in (x:=(k : Int) + 1) (by unfold I64; omega))] at hW
      subst hW
      refine rd_next (k + 1) ?_ (show M.os.length - (k + 1) < M.os.length - k by omega)
      simp (maxSteps:=999999) only [E0,seval,-Int.reduceNatCast',k1,k2,k3,kb3,k8]
      exact ⟨by omega,by simp,⟨_,nx,kr1⟩⟩)
  clear hL
  rw [ef] at el1
  cases el1
  have sz:=MOVT_sz hM set (k:=M.os.length) (Nat.le_refl _)
  have l0l : l0.length = lf.length:=by rw [sz.row _ (List.mem_of_getElem? ef),arow]
  rw [l0l] at h8
  simp (maxSteps:=999999) only [E0,seval,-Int.reduceNatCast',K2,hw,hlen,h8,hr1,hd,hf]
  generalize hL : W _ (.loop _) _ = L
  obtain ⟨ex,s,rfl,hex,hd,hf⟩:=loop_at hL (α:=Nat) (fun j => lf.length - j)
    (fun s0 j s => j ≤ lf.length ∧ (∀ x ∈ lf.take j,0 ≤ x ∧ x ≤ 1073741824) ∧ s.tmps 12 = I j ∧ s.tmps 8 = .gsl 1 1 lf.length 0 lf.length ∧ s.H.rows 1 = some (.gro 1 (lf.map I) 0) ∧ s.defers = [] ∧ s.fid = 0)
    (fun s0 ex s => ((ex = .exit 4 ∧ LIT lf ∧ s.tmps 8 = .gsl 1 1 lf.length 0 lf.length ∧ s.H.rows 1 = some (.gro 1 (lf.map I) 0)) ∨ (ex = .ret ∧ ¬ LIT lf ∧ s.tmps 6 = .nils ∧ s.tmps 7 = .bool false)) ∧ s.defers = [] ∧ s.fid = 0) 0
    (by simp (maxSteps:=999999) only [E0,seval,-Int.reduceNatCast',h8,hr1]; exact ⟨Nat.zero_le _,by simp,by simp⟩) (by
      rintro j s r hW ⟨hj,ht,h12,h8,hr1,hd,hf⟩
      by_cases hp : j < lf.length
      rotate_left
      · simp (maxSteps:=999999) only [E0,seval,-Int.reduceNatCast',NUM,h12,h8,hd,hf,(show ¬ (j : Int) < lf.length by omega)] at hW
        subst hW
        rw [List.take_of_length_le (by omega)] at ht
        exact rd_exit ⟨.inl ⟨rfl,ht,by simp (maxSteps:=999999) only [E0,seval,-Int.reduceNatCast',h8,hr1]⟩,by simp (maxSteps:=999999) only [E0,seval,-Int.reduceNatCast',hd]⟩
      obtain ⟨x,ex⟩ : ∃ x,lf[j]? = some x:=⟨_,List.getElem?_eq_getElem hp⟩
      have e1:=ints_get ex
      have hm:=List.mem_of_getElem? ex
      have tk : lf.take (j + 1) = lf.take j ++ [x]:=by rw [List.take_add_one,ex]; rfl
      by_cases a1 : x < 0
      · simp (maxSteps:=999999) only [E0,seval,-Int.reduceNatCast',NUM,h12,h8,hr1,hd,hf,e1,a1,List.length_map,Nat.zero_add,Int.toNat_natCast,(show (j : Int) < lf.length by omega),(show (0 : Int) ≤ j by omega)] at hW
        subst hW
        exact rd_ret ⟨.inr ⟨rfl,fun g => by have:=g x hm; omega,by simp (maxSteps:=999999) only [E0,seval,-Int.reduceNatCast']⟩,by simp (maxSteps:=999999) only [E0,seval,-Int.reduceNatCast',hd]⟩
      by_cases a2 : 1073741824 < x
      · simp (maxSteps:=999999) only [E0,seval,-Int.reduceNatCast',NUM,h12,h8,hr1,hd,hf,e1,a1,a2,List.length_map,Nat.zero_add,Int.toNat_natCast,(show (j : Int) < lf.length by omega),(show (0 : Int) ≤ j by omega)] at hW
        subst hW
        exact rd_ret ⟨.inr ⟨rfl,fun g => by have:=g x hm; omega,by simp (maxSteps:=999999) only [E0,seval,-Int.reduceNatCast']⟩,by simp (maxSteps:=999999) only [E0,seval,-Int.reduceNatCast',hd]⟩
      simp (maxSteps:=999999) only [E0,seval,-Int.reduceNatCast',NUM,h12,h8,hr1,hd,hf,e1,a1,a2,List.length_map,Nat.zero_add,Int.toNat_natCast,(show (j : Int) < lf.length by omega),(show (0 : Int) ≤ j by omega),(i64_in (x:=(j : Int) + 1) (by unfold I64; omega))] at hW
      subst hW
      refine rd_next (j + 1) ?_ (show lf.length - (j + 1) < lf.length - j by omega)
      simp (maxSteps:=999999) only [E0,seval,-Int.reduceNatCast',h8,hr1,hd]
      refine ⟨by omega,fun u hu => ?_,by simp⟩
      rw [tk] at hu
      rcases List.mem_append.1 hu with hu | hu
      · exact ht u hu
      · simp only [List.mem_singleton] at hu; subst hu; omega)
  clear hL
  rcases hex with ⟨rfl,hg,h8,hr1⟩ | ⟨rfl,hg,h6,h7⟩
  · have tk : (lf.map I).take lf.length = lf.map I:=List.take_of_length_le (by simp)
    rw [show LITB lf = true from decide_eq_true hg,if_pos rfl]
    simp (maxSteps:=999999) only [E0,seval,-Int.reduceNatCast',NUM,INTS,h8,hr1,hd,hf,tk,List.length_map,Nat.zero_add,Nat.le_refl]
  · rw [show LITB lf = false from decide_eq_false hg,if_neg (by simp)]
    simp (maxSteps:=999999) only [E0,seval,-Int.reduceNatCast',NUM,h6,h7,hd,hf]
end
theorem RV_st {l : List Int} {v : PV} (h : RV l v) : ∀ H,strip1 H v = v:=(RVS h).1.2.1
theorem TVL_snoc {T : List (List Int)} {es : List PV} {l : List Int} {v : PV} (h : TVL T es) (hv : RV l v) : TVL (T ++ [l]) (es ++ [v]):=by
  refine ⟨by simp [h.len],fun w m e => ?_⟩
  by_cases hw : w < T.length
  · rw [List.getElem?_append_left hw] at e
    rw [List.getElem?_append_left (by rw [h.len]; exact hw)]
    exact h.get w m e
  · rw [List.getElem?_append_right (by omega)] at e
    rw [List.getElem?_append_right (by rw [h.len]; omega),h.len]
    have hz : w - T.length = 0:=by
      rcases Nat.eq_zero_or_pos (w - T.length) with g | g
      · exact g
      · rw [List.getElem?_eq_none (by simp; omega)] at e; cases e
    rw [hz] at e ⊢
    simp only [List.getElem?_cons_zero,Option.some.injEq] at e ⊢
    subst e
    exact ⟨v,rfl,hv⟩
noncomputable def AFW (M : Mkt) (set : Int) (tv : List PV) : PV:=if AFT M set = none then .tup [.nils,.bool false] else .tup [.vs 1 tv none,.bool true]
section
variable {M : Mkt} (hr : ∀ x ∈ M.D.rs,x.OK) {Ws av : List PV} (hw : SWS Ws) (hA : AWV M.aw av)
include hw hA
set_option maxHeartbeats 4000000 in
theorem c_rprice (set : Int) (hp : PRB M.os) (lo : M.os.length ≤ 12) : ap Tryz.prog pol 42 [.agg (mcl M (qq M.D Ws av)),I set] = some (.ret (I (PRC M.os set M.os.length))):=by
  have hlen:=SAV hA
  rw [ap_eq _ Tryz.func42 rfl Tryz.ntmps42 Tryz.results42 (by kernel_rfl) rfl (by exact Nat.le_of_ble_eq_true rfl)]
  simp (maxSteps:=999999) only [E0,seval,-Int.reduceNatCast',K2,hw,hlen]
  generalize hL : W _ (.loop _) _ = L
  obtain ⟨ex,s,rfl,rfl,h5,hd,hf⟩:=loop_at hL (α:=Nat) (fun k => M.os.length - k)
    (fun s0 k s => k ≤ M.os.length ∧ s.tmps 6 = I k ∧ s.tmps 5 = I (PRC M.os set k) ∧ s.tmps 1 = I set ∧ s.tmps 2 = .bptr 0 2 0 0 ∧ s.boxes 2 = some (0,(mcl M (qq M.D Ws av))) ∧ s.defers = [] ∧ s.fid = 0)
    (fun s0 ex s => ex = .exit 0 ∧ s.tmps 5 = I (PRC M.os set M.os.length) ∧ s.defers = [] ∧ s.fid = 0) 0
    (by simp (maxSteps:=999999) only [E0,seval,-Int.reduceNatCast',PRC]; exact ⟨Nat.zero_le _,by simp⟩) (by
      rintro k s r hW ⟨hk,h6,h5,h1,h2,hb2,hd,hf⟩
      by_cases hp' : k < M.os.length
      rotate_left
      · simp (maxSteps:=999999) only [E0,seval,-Int.reduceNatCast',K2,hw,hlen,h6,h2,hb2,hd,hf,(show ¬ (k : Int) < M.os.length by omega)] at hW
        subst hW
        have : k = M.os.length:=by omega
        subst this
        exact rd_exit ⟨rfl,by simp (maxSteps:=999999) only [E0,seval,-Int.reduceNatCast',h5,hd]⟩
      obtain ⟨x,e0⟩ : ∃ x,M.os[k]? = some x:=⟨_,List.getElem?_eq_getElem hp'⟩
      have e1:=map_get (f:=ofr none) e0
      have xb:=hp x (List.mem_of_getElem? e0)
      have ps:=PRC_succ (set:=set) e0
      have pb:=PRC_bd hp set k
      have ci:=r_in set k (by omega)
      by_cases hb : BIT set k = 1
      · rw [if_pos hb] at ps
        rw [decide_eq_true hb] at ci
        simp (maxSteps:=999999) only [E0,seval,-Int.reduceNatCast',K2,hw,hlen,ci,h6,h5,h1,h2,hb2,hd,hf,e1,(show (k : Int) < M.os.length by omega),(show (0 : Int) ≤ k by omega),(i64_in (x:=PRC M.os set k + x.pr) (by unfold I64; omega)),(i64_in (x:=(k : Int) + 1) (by unfold I64; omega))] at hW
        subst hW
        refine rd_next (k + 1) ?_ (show M.os.length - (k + 1) < M.os.length - k by omega)
        simp (maxSteps:=999999) only [E0,seval,-Int.reduceNatCast',h1,h2,hb2,hd,ps]
        exact ⟨by omega,by simp⟩
      · rw [if_neg hb,Int.add_zero] at ps
        rw [decide_eq_false hb] at ci
        simp (maxSteps:=999999) only [E0,seval,-Int.reduceNatCast',K2,hw,hlen,ci,h6,h5,h1,h2,hb2,hd,hf,e1,(show (k : Int) < M.os.length by omega),(show (0 : Int) ≤ k by omega),(i64_in (x:=(k : Int) + 1) (by unfold I64; omega))] at hW
        subst hW
        refine rd_next (k + 1) ?_ (show M.os.length - (k + 1) < M.os.length - k by omega)
        simp (maxSteps:=999999) only [E0,seval,-Int.reduceNatCast',h5,h1,h2,hb2,hd,ps]
        exact ⟨by omega,by simp⟩)
  simp (maxSteps:=999999) only [E0,seval,-Int.reduceNatCast',h5,hd,hf]
include hr
set_option maxHeartbeats 16000000 in
theorem c_rafter (hM : MC M = 0) (set : Int) : ∃ tv,ap Tryz.prog pol 50 [.agg (mcl M (qq M.D Ws av)),I set] = some (.ret (AFW M set tv)) ∧ ∀ T,AFT M set = some T → TVL T tv:=by
  have hlen:=SAV hA
  have lo:=(MC_0 hM).2.2.1
  have la:=(MC_0 hM).2.1
  have hroom:=(MC_0 hM).2.2.2.2.1
  have hX:=(MC_0 hM).1
  have hMK:=(MC_0 hM).2.2.2.2.2.2
  have sz:=MOVT_sz hM set (k:=M.os.length) (Nat.le_refl _)
  obtain ⟨b,cr,hb⟩:=c_rrained (M:=M) hw hA set (by omega)
  cases b with
  | false =>
    refine ⟨[],?_,fun T h => ?_⟩
    · have ha : AFT M set = none:=by unfold AFT; rw [if_neg (fun g => by have:=hb.2 g; simp at this)]
      unfold AFW
      rw [if_pos ha]
      rw [ap_eq _ Tryz.func50 rfl Tryz.ntmps50 Tryz.results50 (by kernel_rfl) rfl (by exact Nat.le_of_ble_eq_true rfl)]
      simp (maxSteps:=999999) only [E0,seval,-Int.reduceNatCast',K2,hw,hlen,cr]
    · have ha : AFT M set = none:=by unfold AFT; rw [if_neg (fun g => by have:=hb.2 g; simp at this)]
      rw [ha] at h; cases h
  | true =>
  have hrn:=hb.1 rfl
  have key : AFT M set = match KPT M (MOVT M set M.os.length) M.aw.length with
    | some _ => some (MOVT M set M.os.length)
    | none => none:=by
    unfold AFT
    rw [if_pos hrn]
    cases KPT M (MOVT M set M.os.length) M.aw.length <;> rfl
  obtain ⟨T,hT⟩ : ∃ T,MOVT M set M.os.length = T:=⟨_,rfl⟩
  have mv:=fun wk l0 e0 lf ef => c_rmoved (M:=M) hw hA hM set wk l0 e0 lf ef
  rw [hT] at key sz mv
  suffices hs : (KPT M T M.aw.length = none ∧ ap Tryz.prog pol 50 [.agg (mcl M (qq M.D Ws av)),I set] = some (.ret (.tup [.nils,.bool false]))) ∨ ((∃ kp,KPT M T M.aw.length = some kp) ∧ ∃ tv,ap Tryz.prog pol 50 [.agg (mcl M (qq M.D Ws av)),I set] = some (.ret (.tup [.vs 1 tv none,.bool true])) ∧ TVL T tv) by
    rcases hs with ⟨hk,hs⟩ | ⟨⟨kp,hk⟩,tv,hs,ht⟩
    · rw [hk] at key
      refine ⟨[],?_,fun T h => by rw [key] at h; cases h⟩
      unfold AFW
      rw [if_pos key]
      exact hs
    · rw [hk] at key
      refine ⟨tv,?_,fun T' h => by rw [key] at h; cases h; exact ht⟩
      unfold AFW
      rw [if_neg (by rw [key]; simp)]
      exact hs
  rw [ap_eq _ Tryz.func50 rfl Tryz.ntmps50 Tryz.results50 (by kernel_rfl) rfl (by exact Nat.le_of_ble_eq_true rfl)]
  simp (maxSteps:=999999) only [E0,seval,-Int.reduceNatCast',K2,hw,hlen,cr]
  generalize hL : W _ (.loop _) _ = L
  obtain ⟨ex,s,rfl,hex,hd,hf⟩:=loop_at hL (α:=Nat) (fun k => M.aw.length - k)
    (fun s0 k s => k ≤ M.aw.length ∧ s.tmps 8 = I k ∧ s.tmps 1 = I set ∧ s.tmps 2 = .bptr 0 2 0 0 ∧ s.boxes 2 = some (0,(mcl M (qq M.D Ws av))) ∧ s.tmps 6 = .gsl 1 1 k 0 k ∧ (∃ es,s.H.rows 1 = some (.gro 1 es 0) ∧ TVL (T.take k) es) ∧ (∃ kp,KPT M T k = some kp ∧ s.tmps 7 = I kp ∧ 0 ≤ kp ∧ kp ≤ M.room) ∧ s.defers = [] ∧ s.fid = 0)
    (fun s0 ex s => ((ex = .exit 0 ∧ s.tmps 6 = .gsl 1 1 M.aw.length 0 M.aw.length ∧ (∃ es,s.H.rows 1 = some (.gro 1 es 0) ∧ TVL T es) ∧ (∃ kp,KPT M T M.aw.length = some kp)) ∨ (ex = .ret ∧ KPT M T M.aw.length = none ∧ s.tmps 4 = .nils ∧ s.tmps 5 = .bool false)) ∧ s.defers = [] ∧ s.fid = 0) 0
    (by simp (maxSteps:=999999) only [E0,seval,-Int.reduceNatCast']; exact ⟨Nat.zero_le _,by simp,⟨[],rfl,⟨rfl,fun w l e => by simp at e⟩⟩,⟨0,rfl,by simp,Int.le_refl _,hroom.1⟩⟩) (by
      rintro k s r hW ⟨hk,h8,h1,h2,hb2,h6,⟨es,hr1,ht⟩,⟨kp,hkp,h7,kp0,kp1⟩,hd,hf⟩
      by_cases hp : k < M.aw.length
      rotate_left
      · simp (maxSteps:=999999) only [E0,seval,-Int.reduceNatCast',K2,hw,hlen,h8,h2,hb2,hd,hf,(show ¬ (k : Int) < M.aw.length by omega)] at hW
        subst hW
        have : k = M.aw.length:=by omega
        subst this
        rw [List.take_of_length_le (by rw [sz.len]; exact Nat.le_refl _)] at ht
        exact rd_exit ⟨.inl ⟨rfl,by simp (maxSteps:=999999) only [E0,seval,-Int.reduceNatCast',h6]; exact ⟨⟨es,hr1,ht⟩,⟨kp,hkp⟩⟩⟩,by simp (maxSteps:=999999) only [E0,seval,-Int.reduceNatCast',hd]⟩
      obtain ⟨l0,e0⟩ : ∃ l,M.aw[k]? = some l:=⟨_,List.getElem?_eq_getElem hp⟩
      obtain ⟨l1,el⟩ : ∃ l,T[k]? = some l:=⟨_,List.getElem?_eq_getElem (by rw [sz.len]; exact hp)⟩
      obtain ⟨v0,ev0,rv0⟩:=hA.get k l0 e0
      have rw0:=RVS rv0.rv
      have sf0:=RV_slF rv0.rv
      obtain ⟨v1,rv1,cm⟩:=mv k l0 e0 l1 el
      have rw1:=RVS rv1
      have sf1:=RV_slF rv1
      have ks:=KPT_succ hkp e0 el
      have tk : T.take (k + 1) = T.take k ++ [l1]:=by rw [List.take_add_one,el]; rfl
      have no : ∀ {g : Prop},KPT M T (k + 1) = none → KPT M T M.aw.length = none:=fun h => KPT_none h (by omega)
      have esl : es.length = k:=by rw [ht.len,List.length_take,sz.len]; omega
      unfold STEPW at ks
      by_cases hl1 : LIT l1
      rotate_left
      · rw [if_neg hl1] at ks
        rw [show LITB l1 = false from decide_eq_false hl1,if_neg (by simp)] at cm
        simp (maxSteps:=999999) only [E0,seval,-Int.reduceNatCast',K2,hw,hlen,cm,h8,h1,h2,hb2,hd,hf,(show (k : Int) < M.aw.length by omega),(show (0 : Int) ≤ k by omega)] at hW
        subst hW
        exact rd_ret ⟨.inr ⟨rfl,KPT_none ks (by omega),by simp (maxSteps:=999999) only [E0,seval,-Int.reduceNatCast']⟩,by simp (maxSteps:=999999) only [E0,seval,-Int.reduceNatCast',hd]⟩
      rw [if_pos hl1] at ks
      rw [show LITB l1 = true from decide_eq_true hl1,if_pos rfl] at cm
      obtain ⟨d0,h0,hN0⟩:=hMK.1 l0 (List.mem_of_getElem? e0)
      have c0:=c_rNeeds hr hw l0 v0 rv0.rv
      have e : NDV M.D l0 = .tup [.vs 1 (h0.map I) none,.bool true,I 0]:=by unfold NDV; rw [if_pos d0,hN0]
      rw [e] at c0
      have d1 : DVC M.D l1 = 0:=by unfold DVC; rw [if_pos hX,if_pos ⟨sz.row l1 (List.mem_of_getElem? el),hl1⟩]
      have c1:=c_rNeeds hr hw l1 v1 rv1
      rw [hN0] at ks
      cases hN1 : NDS M.D l1 M.D.rs.length with
      | none =>
        rw [hN1] at ks
        have ks : KPT M T (k + 1) = none:=ks
        have e : NDV M.D l1 = .tup [.nils,.bool false,I 0]:=by unfold NDV; rw [if_pos d1,hN1]
        rw [e] at c1
        simp (maxSteps:=999999) only [E0,seval,-Int.reduceNatCast',K2,hw,hlen,cm,c0,c1,rw0,rw1,sf0,sf1,ev0,h8,h1,h2,hb2,h6,h7,hd,hf,(show (k : Int) < M.aw.length by omega),(show (0 : Int) ≤ k by omega)] at hW
        subst hW
        exact rd_ret ⟨.inr ⟨rfl,KPT_none ks (by omega),by simp (maxSteps:=999999) only [E0,seval,-Int.reduceNatCast']⟩,by simp (maxSteps:=999999) only [E0,seval,-Int.reduceNatCast',hd]⟩
      | some h1s =>
      rw [hN1] at ks
      have ks : KPT M T (k + 1) = if CAP M.D.rs h0 h1s M.D.rs.length then (if 0 ≤ kp + (h0.headD 0 - h1s.headD 0) ∧ kp + (h0.headD 0 - h1s.headD 0) ≤ M.room then some (kp + (h0.headD 0 - h1s.headD 0)) else none) else none:=ks
      have e : NDV M.D l1 = .tup [.vs 1 (h1s.map I) none,.bool true,I 0]:=by unfold NDV; rw [if_pos d1,hN1]
      rw [e] at c1
      have nok0:=NDS_ok (RSI hX) (Nat.le_refl _) hN0
      have nok1:=NDS_ok (RSI hX) (Nat.le_refl _) hN1
      have lrs:=(XC_0 hX).1.1
      have prs : 0 < M.D.rs.length:=(XC_0 hX).2.2.2.1
      simp (maxSteps:=999999) only [E0,seval,-Int.reduceNatCast',K2,hw,hlen,cm,c0,c1,rw0,rw1,sf0,sf1,ev0,h8,h1,h2,hb2,h6,h7,hd,hf,(show (k : Int) < M.aw.length by omega),(show (0 : Int) ≤ k by omega)] at hW
      generalize hC : W _ (.loop _) _ = LC at hW
      obtain ⟨exC,sC,rfl,hexC,k8,k1,k2,kb2,k6,kr1,k7,k9,k11,k14,kd,kf⟩:=loop_at hC (α:=Nat) (fun i => M.D.rs.length - i)
        (fun s0 i s => i ≤ M.D.rs.length ∧ CAP M.D.rs h0 h1s i ∧ s.tmps 17 = I i ∧ s.tmps 8 = I k ∧ s.tmps 1 = I set ∧ s.tmps 2 = .bptr 0 2 0 0 ∧ s.boxes 2 = some (0,(mcl M (qq M.D Ws av))) ∧ s.tmps 6 = .gsl 1 1 k 0 k ∧ s.H.rows 1 = some (.gro 1 es 0) ∧ s.tmps 7 = I kp ∧ s.tmps 9 = v1 ∧ s.tmps 11 = .vs 1 (h0.map I) none ∧ s.tmps 14 = .vs 1 (h1s.map I) none ∧ s.defers = [] ∧ s.fid = 0)
        (fun s0 ex s => ((ex = .exit 2 ∧ CAP M.D.rs h0 h1s M.D.rs.length) ∨ (ex = .ret ∧ ¬ CAP M.D.rs h0 h1s M.D.rs.length ∧ s.tmps 4 = .nils ∧ s.tmps 5 = .bool false)) ∧ s.tmps 8 = I k ∧ s.tmps 1 = I set ∧ s.tmps 2 = .bptr 0 2 0 0 ∧ s.boxes 2 = some (0,(mcl M (qq M.D Ws av))) ∧ s.tmps 6 = .gsl 1 1 k 0 k ∧ s.H.rows 1 = some (.gro 1 es 0) ∧ s.tmps 7 = I kp ∧ s.tmps 9 = v1 ∧ s.tmps 11 = .vs 1 (h0.map I) none ∧ s.tmps 14 = .vs 1 (h1s.map I) none ∧ s.defers = [] ∧ s.fid = 0) 0
        (by simp (maxSteps:=999999) only [E0,seval,-Int.reduceNatCast',h8,h1,h2,hb2,h6,h7,hr1]; exact ⟨Nat.zero_le _,fun i x y z hi => by omega,by simp⟩) (by
          rintro i sC r2 hW2 ⟨hi,hc,k17,k8,k1,k2,kb2,k6,kr1,k7,k9,k11,k14,kd,kf⟩
          by_cases hpi : i < M.D.rs.length
          rotate_left
          · simp (maxSteps:=999999) only [E0,seval,-Int.reduceNatCast',K2,hw,hlen,k17,k14,nok1.len,kd,kf,(show ¬ (i : Int) < M.D.rs.length by omega)] at hW2
            subst hW2
            have : i = M.D.rs.length:=by omega
            subst this
            exact rd_exit ⟨.inl ⟨rfl,hc⟩,by simp (maxSteps:=999999) only [E0,seval,-Int.reduceNatCast',k8,k1,k2,kb2,k6,kr1,k7,k9,k11,k14,kd]⟩
          obtain ⟨z,ez⟩ : ∃ z,M.D.rs[i]? = some z:=⟨_,List.getElem?_eq_getElem hpi⟩
          have ez1:=map_get (f:=rch) ez
          obtain ⟨a,ea⟩ : ∃ a,h0[i]? = some a:=⟨_,List.getElem?_eq_getElem (by rw [nok0.len]; exact hpi)⟩
          obtain ⟨b,eb⟩ : ∃ b,h1s[i]? = some b:=⟨_,List.getElem?_eq_getElem (by rw [nok1.len]; exact hpi)⟩
          have a1:=ints_get ea
          have b1:=ints_get eb
          by_cases q1 : a < b
          · by_cases q2 : z.cp < b
            · simp (maxSteps:=999999) only [E0,seval,-Int.reduceNatCast',K2,hw,hlen,q1,q2,k17,k2,kb2,k11,k14,a1,b1,ez1,nok0.len,nok1.len,kd,kf,(show (i : Int) < M.D.rs.length by omega),(show (0 : Int) ≤ i by omega)] at hW2
              subst hW2
              refine rd_ret ⟨.inr ⟨rfl,fun g => ?_,by simp (maxSteps:=999999) only [E0,seval,-Int.reduceNatCast']⟩,by simp (maxSteps:=999999) only [E0,seval,-Int.reduceNatCast',k8,k1,k2,kb2,k6,kr1,k7,k9,k11,k14,kd]⟩
              have:=g i a b z hpi ea eb ez
              unfold CAP1 at this
              omega
            · simp (maxSteps:=999999) only [E0,seval,-Int.reduceNatCast',K2,hw,hlen,q1,q2,k17,k2,kb2,k11,k14,a1,b1,ez1,nok0.len,nok1.len,kd,kf,(show (i : Int) < M.D.rs.length by omega),(show (0 : Int) ≤ i by omega),(i64_in (x:=(i : Int) + 1) (by unfold I64; omega))] at hW2
              subst hW2
              refine rd_next (i + 1) ?_ (show M.D.rs.length - (i + 1) < M.D.rs.length - i by omega)
              simp (maxSteps:=999999) only [E0,seval,-Int.reduceNatCast',k8,k1,k2,kb2,k6,kr1,k7,k9,k11,k14,kd]
              exact ⟨by omega,CAP_succ hc ea eb ez (.inr (by omega)),by simp⟩
          · simp (maxSteps:=999999) only [E0,seval,-Int.reduceNatCast',K2,hw,hlen,q1,k17,k2,kb2,k11,k14,a1,b1,ez1,nok0.len,nok1.len,kd,kf,(show (i : Int) < M.D.rs.length by omega),(show (0 : Int) ≤ i by omega),(i64_in (x:=(i : Int) + 1) (by unfold I64; omega))] at hW2
            subst hW2
            refine rd_next (i + 1) ?_ (show M.D.rs.length - (i + 1) < M.D.rs.length - i by omega)
            simp (maxSteps:=999999) only [E0,seval,-Int.reduceNatCast',k8,k1,k2,kb2,k6,kr1,k7,k9,k11,k14,kd]
            exact ⟨by omega,CAP_succ hc ea eb ez (.inl (by omega)),by simp⟩)
      obtain ⟨fC,tC,bC,dC,HC,rC⟩:=sC
      dsimp only at hexC k8 k1 k2 kb2 k6 kr1 k7 k9 k11 k14 kd kf
      subst kd
      rcases hexC with ⟨rfl,hcap⟩ | ⟨rfl,hcap,k4,k5⟩
      rotate_left
      · rw [if_neg hcap] at ks
        simp (maxSteps:=999999) only [E0,seval,-Int.reduceNatCast',NUM,kf] at hW
        subst hW
        exact rd_ret ⟨.inr ⟨rfl,KPT_none ks (by omega),by simp (maxSteps:=999999) only [E0,seval,-Int.reduceNatCast',k4,k5]⟩,by simp (maxSteps:=999999) only [E0,seval,-Int.reduceNatCast',kf]⟩
      rw [if_pos hcap] at ks
      obtain ⟨a,ea⟩ : ∃ a,h0[0]? = some a:=⟨_,List.getElem?_eq_getElem (by rw [nok0.len]; exact prs)⟩
      obtain ⟨b,eb⟩ : ∃ b,h1s[0]? = some b:=⟨_,List.getElem?_eq_getElem (by rw [nok1.len]; exact prs)⟩
      have a1:=ints_get ea
      have b1:=ints_get eb
      have ha0 : h0.headD 0 = a:=by cases h0 with
        | nil => simp at ea
        | cons x y => simpa using ea
      have hb0 : h1s.headD 0 = b:=by cases h1s with
        | nil => simp at eb
        | cons x y => simpa using eb
      rw [ha0,hb0] at ks
      have ab:=nok0.lit a (List.mem_of_getElem? ea)
      have bb:=nok1.lit b (List.mem_of_getElem? eb)
      have ee : kp + a - b = kp + (a - b):=by omega
      by_cases q1 : kp + a - b < 0
      · rw [if_neg (by omega)] at ks
        simp (maxSteps:=999999) only [E0,seval,-Int.reduceNatCast',K2,hw,hlen,q1,k8,k1,k2,kb2,k6,kr1,k7,k9,k11,k14,a1,b1,nok0.len,nok1.len,kf,Int.toNat_zero,(show (0 : Int) < M.D.rs.length by omega),(i64_in (x:=kp + a) (by unfold I64; omega)),(i64_in (x:=kp + a - b) (by unfold I64; omega))] at hW
        subst hW
        exact rd_ret ⟨.inr ⟨rfl,KPT_none ks (by omega),by simp (maxSteps:=999999) only [E0,seval,-Int.reduceNatCast']⟩,by simp (maxSteps:=999999) only [E0,seval,-Int.reduceNatCast']⟩
      by_cases q2 : M.room < kp + a - b
      · rw [if_neg (by omega)] at ks
        simp (maxSteps:=999999) only [E0,seval,-Int.reduceNatCast',K2,hw,hlen,q1,q2,k8,k1,k2,kb2,k6,kr1,k7,k9,k11,k14,a1,b1,nok0.len,nok1.len,kf,Int.toNat_zero,(show (0 : Int) < M.D.rs.length by omega),(i64_in (x:=kp + a) (by unfold I64; omega)),(i64_in (x:=kp + a - b) (by unfold I64; omega))] at hW
        subst hW
        exact rd_ret ⟨.inr ⟨rfl,KPT_none ks (by omega),by simp (maxSteps:=999999) only [E0,seval,-Int.reduceNatCast']⟩,by simp (maxSteps:=999999) only [E0,seval,-Int.reduceNatCast']⟩
      rw [if_pos (by omega)] at ks
      simp (maxSteps:=999999) only [E0,seval,-Int.reduceNatCast',K2,hw,hlen,q1,q2,k8,k1,k2,kb2,k6,kr1,k7,k9,k11,k14,a1,b1,esl,rw1,nok0.len,nok1.len,kf,Int.toNat_zero,(show (0 : Int) < M.D.rs.length by omega),(show k + 1 ≤ 67108864 by omega),(show k ≤ 67108863 by omega),(i64_in (x:=kp + a) (by unfold I64; omega)),(i64_in (x:=kp + a - b) (by unfold I64; omega)),(i64_in (x:=(k : Int) + 1) (by unfold I64; omega))] at hW
      subst hW
      refine rd_next (k + 1) ?_ (show M.aw.length - (k + 1) < M.aw.length - k by omega)
      simp (maxSteps:=999999) only [E0,seval,-Int.reduceNatCast',k1,k2,kb2]
      refine ⟨by omega,by simp,⟨_,rfl,by rw [tk]; exact TVL_snoc ht rv1⟩,⟨_,ks,by rw [ee],by omega,by omega⟩⟩)
  clear hL
  rcases hex with ⟨rfl,h6,⟨es,hr1,ht⟩,⟨kp,hkp⟩⟩ | ⟨rfl,hk,h4,h5⟩
  · have esl : es.length = M.aw.length:=by rw [ht.len,sz.len]
    have tk : es.take M.aw.length = es:=List.take_of_length_le (by omega)
    have st:=STV ht
    refine .inr ⟨⟨kp,hkp⟩,es,?_,ht⟩
    simp (maxSteps:=999999) only [E0,seval,-Int.reduceNatCast',NUM,h6,hr1,esl,tk,st,hd,hf,Nat.zero_add,Nat.le_refl]
  · refine .inl ⟨hk,?_⟩
    simp (maxSteps:=999999) only [E0,seval,-Int.reduceNatCast',NUM,h4,h5,hd,hf]
end
def MNK (g : Nat → Ofr → Int) (os : List Ofr) (n k : Nat) : List Int:=(List.range n).map fun f : Nat => MON g os f k
theorem MNK_len (g : Nat → Ofr → Int) (os : List Ofr) (n k : Nat) : (MNK g os n k).length = n:=by simp [MNK]
theorem MNK_get {g : Nat → Ofr → Int} {os : List Ofr} {n k f : Nat} (h : f < n) : (MNK g os n k)[f]? = some (MON g os f k):=by
  unfold MNK
  rw [List.getElem?_map,List.getElem?_range h]; rfl
theorem MNK_0 (g : Nat → Ofr → Int) (os : List Ofr) (n : Nat) : MNK g os n 0 = List.replicate n 0:=by
  apply List.ext_getElem?
  intro f
  by_cases h : f < n
  · rw [MNK_get h,List.getElem?_replicate,if_pos h]; rfl
  · rw [List.getElem?_eq_none (by rw [MNK_len]; omega),List.getElem?_eq_none (by simp; omega)]
theorem MNK_succ {g : Nat → Ofr → Int} {os : List Ofr} {n k fm : Nat} {x : Ofr} (e : os[k]? = some x) (hx : x.fm = fm) (hf : fm < n) : MNK g os n (k + 1) = (MNK g os n k).set fm (MON g os fm k + g k x):=by
  apply List.ext_getElem?
  intro f
  by_cases h : f < n
  · rw [MNK_get h,MON_succ e]
    by_cases hh : fm = f
    · subst hh
      rw [List.getElem?_set_self (by rw [MNK_len]; exact hf),if_pos hx]
    · rw [List.getElem?_set_ne hh,MNK_get h,if_neg (by omega),Int.add_zero]
  · rw [List.getElem?_eq_none (by rw [MNK_len]; omega),List.getElem?_eq_none (by rw [List.length_set,MNK_len]; omega)]
section
variable {M : Mkt} (hr : ∀ x ∈ M.D.rs,x.OK) {Ws av : List PV} (hw : SWS Ws) (hA : AWV M.aw av)
include hr hw hA
theorem c_rAfter (set : Int) : ∃ tv,ap Tryz.prog pol 28 [.agg (mcl M (qq M.D Ws av)),I set] = some (.ret (AFV M set tv)) ∧ ∀ T,ASK M set = 0 → AFT M set = some T → TVL T tv:=by
  have hlen:=SAV hA
  have ca:=c_rask hr hw hA set
  unfold AFV
  by_cases h0 : ASK M set = 0
  rotate_left
  · refine ⟨[],?_,fun T h => absurd h h0⟩
    rw [if_pos h0]
    rw [ap_eq _ Tryz.func28 rfl Tryz.ntmps28 Tryz.results28 (by kernel_rfl) rfl (by exact Nat.le_of_ble_eq_true rfl)]
    simp (maxSteps:=999999) only [E0,seval,-Int.reduceNatCast',K2,hw,hlen,ca,h0]
  obtain ⟨tv,ct,ht⟩:=c_rafter hr hw hA (ASK_0 h0).1 set
  refine ⟨tv,?_,fun T _ h => ht T h⟩
  rw [if_neg (fun g => g h0)]
  unfold AFW at ct
  rw [h0] at ca
  rw [ap_eq _ Tryz.func28 rfl Tryz.ntmps28 Tryz.results28 (by kernel_rfl) rfl (by exact Nat.le_of_ble_eq_true rfl)]
  by_cases ha : AFT M set = none
  · rw [if_pos ha] at ct ⊢
    simp (maxSteps:=999999) only [E0,seval,-Int.reduceNatCast',K2,hw,hlen,ca,ct]
  · rw [if_neg ha] at ct ⊢
    obtain ⟨T,hT⟩ : ∃ T,AFT M set = some T:=Option.ne_none_iff_exists'.1 ha
    have st:=STV (ht T hT)
    simp (maxSteps:=999999) only [E0,seval,-Int.reduceNatCast',K2,hw,hlen,ca,ct,st]
theorem c_rValue (set : Int) : ap Tryz.prog pol 24 [.agg (mcl M (qq M.D Ws av)),I set] = some (.ret (VALV M set)):=by
  have hlen:=SAV hA
  obtain ⟨tv,ct,ht⟩:=c_rAfter hr hw hA set
  unfold AFV at ct
  unfold VALV
  rw [ap_eq _ Tryz.func24 rfl Tryz.ntmps24 Tryz.results24 (by kernel_rfl) rfl (by exact Nat.le_of_ble_eq_true rfl)]
  by_cases h0 : ASK M set = 0
  rotate_left
  · rw [if_pos h0] at ct ⊢
    simp (maxSteps:=999999) only [E0,seval,-Int.reduceNatCast',K2,hw,hlen,ct,h0]
  rw [if_neg (fun g => g h0)] at ct ⊢
  by_cases ha : AFT M set = none
  · rw [if_pos ha] at ct ⊢
    simp (maxSteps:=999999) only [E0,seval,-Int.reduceNatCast',K2,hw,hlen,ct]
  · rw [if_neg ha] at ct ⊢
    obtain ⟨T,hT⟩ : ∃ T,AFT M set = some T:=Option.ne_none_iff_exists'.1 ha
    have st:=STV (ht T h0 hT)
    have cp:=c_rprice (M:=M) hw hA set (MC_prb (ASK_0 h0).1) (MC_0 (ASK_0 h0).1).2.2.1
    simp (maxSteps:=999999) only [E0,seval,-Int.reduceNatCast',K2,hw,hlen,ct,st,cp]
theorem c_rasked (set : Int) : ap Tryz.prog pol 23 [.agg (mcl M (qq M.D Ws av)),I set] = some (.ret (I (PE M set))):=by
  have hlen:=SAV hA
  obtain ⟨tv,ct,ht⟩:=c_rAfter hr hw hA set
  have cv:=c_rValue hr hw hA set
  unfold AFV at ct
  unfold VALV at cv
  unfold PE
  rw [ap_eq _ Tryz.func23 rfl Tryz.ntmps23 Tryz.results23 (by kernel_rfl) rfl (by exact Nat.le_of_ble_eq_true rfl)]
  by_cases h0 : ASK M set = 0
  rotate_left
  · rw [if_pos h0] at ct cv ⊢
    simp (maxSteps:=999999) only [E0,seval,-Int.reduceNatCast',K2,hw,hlen,ct,h0]
  rw [if_neg (fun g => g h0)] at ct cv ⊢
  by_cases ha : AFT M set = none
  · rw [if_pos ha] at ct cv
    rw [if_pos (.inl ha)]
    simp (maxSteps:=999999) only [E0,seval,-Int.reduceNatCast',K2,hw,hlen,ct,cv]
  · rw [if_neg ha] at ct cv
    obtain ⟨T,hT⟩ : ∃ T,AFT M set = some T:=Option.ne_none_iff_exists'.1 ha
    have st:=STV (ht T h0 hT)
    by_cases hp : PRC M.os set M.os.length < 0
    · rw [if_pos (.inr hp)]
      simp (maxSteps:=999999) only [E0,seval,-Int.reduceNatCast',K2,hw,hlen,ct,cv,st,hp]
    · rw [if_neg (fun g => g.elim ha hp)]
      simp (maxSteps:=999999) only [E0,seval,-Int.reduceNatCast',K2,hw,hlen,ct,cv,st,hp]
set_option maxHeartbeats 16000000 in
theorem c_rPay (set : Int) : ap Tryz.prog pol 8 [.agg (mcl M (qq M.D Ws av)),I set] = some (.ret (PAYV M set)):=by
  have hlen:=SAV hA
  have ca:=c_rasked hr hw hA set
  have cv:=c_rValue hr hw hA set
  unfold PAYV
  unfold VALV at cv
  rw [ap_eq _ Tryz.func8 rfl Tryz.ntmps8 Tryz.results8 (by kernel_rfl) rfl (by exact Nat.le_of_ble_eq_true rfl)]
  by_cases h : PE M set = 0
  rotate_left
  · rw [if_pos h]
    simp (maxSteps:=999999) only [E0,seval,-Int.reduceNatCast',K2,hw,hlen,ca,h]
  rw [if_neg (fun g => g h)]
  rw [h] at ca
  obtain ⟨h0,ha,hp⟩:=PE_0 h
  rw [if_neg (fun g => g h0),if_neg ha] at cv
  have prb:=MC_prb (ASK_0 h0).1
  have lo:=(MC_0 (ASK_0 h0).1).2.2.1
  have ck:=CKW_ok prb set lo hp
  have cs:=S.c_rShare (PRC M.os set M.os.length) (WGS M.os set) none
  rw [S.SHV_ok ck] at cs
  have rl:=REB_len prb set lo hp
  have rb:=REB_bd prb set lo hp
  have wl : (WGS M.os set).length = M.os.length:=PART_len _ _ _
  have wg : ∀ k x,M.os[k]? = some x → (WGS M.os set)[k]? = some (WGT set k x):=fun k x e => by
    unfold WGS
    rw [PART_get,e,Option.map_some,if_pos (List.getElem?_eq_some_iff.1 e).1]
  have eR : S.OUTS (PRC M.os set M.os.length) (WGS M.os set) = REB M.os set:=rfl
  rw [eR] at cs
  simp (maxSteps:=999999) only [E0,seval,-Int.reduceNatCast',K2,hw,hlen,ca,cv]
  generalize hL : W _ (.loop _) _ = L
  obtain ⟨ex,s,rfl,rfl,h1,h2,hb2,h7,h10,hr1,hnx,hd,hf⟩:=loop_at hL (α:=Nat) (fun k => M.os.length - k)
    (fun s0 k s => k ≤ M.os.length ∧ s.tmps 11 = I k ∧ s.tmps 1 = I set ∧ s.tmps 2 = .bptr 0 2 0 0 ∧ s.boxes 2 = some (0,(mcl M (qq M.D Ws av))) ∧ s.tmps 7 = I (PRC M.os set M.os.length) ∧ s.tmps 10 = .gsl 1 1 k 0 k ∧ s.H.rows 1 = some (.gro 1 (((WGS M.os set).take k).map I) 0) ∧ s.H.next = 2 ∧ s.defers = [] ∧ s.fid = 0)
    (fun s0 ex s => ex = .exit 0 ∧ s.tmps 1 = I set ∧ s.tmps 2 = .bptr 0 2 0 0 ∧ s.boxes 2 = some (0,(mcl M (qq M.D Ws av))) ∧ s.tmps 7 = I (PRC M.os set M.os.length) ∧ s.tmps 10 = .gsl 1 1 M.os.length 0 M.os.length ∧ s.H.rows 1 = some (.gro 1 ((WGS M.os set).map I) 0) ∧ s.H.next = 2 ∧ s.defers = [] ∧ s.fid = 0) 0
    (by simp (maxSteps:=999999) only [E0,seval,-Int.reduceNatCast',List.take_zero]; exact ⟨Nat.zero_le _,by simp⟩) (by
      rintro k s r hW ⟨hk,h11,h1,h2,hb2,h7,h10,hr1,hnx,hd,hf⟩
      by_cases hp' : k < M.os.length
      rotate_left
      · simp (maxSteps:=999999) only [E0,seval,-Int.reduceNatCast',K2,hw,hlen,h11,h2,hb2,hd,hf,(show ¬ (k : Int) < M.os.length by omega)] at hW
        subst hW
        have : k = M.os.length:=by omega
        subst this
        rw [List.take_of_length_le (by omega)] at hr1
        exact rd_exit ⟨rfl,by simp (maxSteps:=999999) only [E0,seval,-Int.reduceNatCast',h1,h2,hb2,h7,h10,hr1,hnx,hd]⟩
      obtain ⟨x,e0⟩ : ∃ x,M.os[k]? = some x:=⟨_,List.getElem?_eq_getElem hp'⟩
      have e1:=map_get (f:=ofr none) e0
      have xb:=prb x (List.mem_of_getElem? e0)
      have w0:=wg k x e0
      have tk : (WGS M.os set).take (k + 1) = (WGS M.os set).take k ++ [WGT set k x]:=by rw [List.take_add_one,w0]; rfl
      have lt : ((WGS M.os set).take k).length = k:=by rw [List.length_take]; omega
      have ci:=r_in set k (by omega)
      have ea : max x.pr (-x.pr) = ABS x.pr:=rfl
      unfold WGT at tk
      by_cases hb : BIT set k = 1
      · rw [if_pos hb] at tk
        rw [decide_eq_true hb] at ci
        simp (maxSteps:=999999) only [E0,seval,-Int.reduceNatCast',K2,hw,hlen,ci,ea,Int.zero_sub,h11,h1,h2,hb2,h7,h10,hr1,hnx,hd,hf,e1,lt,(show (k : Int) < M.os.length by omega),(show (0 : Int) ≤ k by omega),(show k + 1 ≤ 67108864 by omega),(show k ≤ 67108863 by omega),(i64_in (x:=-x.pr) (by unfold I64; omega)),(i64_in (x:=(k : Int) + 1) (by unfold I64; omega))] at hW
        subst hW
        refine rd_next (k + 1) ?_ (show M.os.length - (k + 1) < M.os.length - k by omega)
        simp (maxSteps:=999999) only [E0,seval,-Int.reduceNatCast',h1,h2,hb2,h7,hnx,hd,tk,List.map_append]
        exact ⟨by omega,by simp⟩
      · rw [if_neg hb] at tk
        rw [decide_eq_false hb] at ci
        simp (maxSteps:=999999) only [E0,seval,-Int.reduceNatCast',K2,hw,hlen,ci,h11,h1,h2,hb2,h7,h10,hr1,hnx,hd,hf,lt,(show (k : Int) < M.os.length by omega),(show (0 : Int) ≤ k by omega),(show k + 1 ≤ 67108864 by omega),(show k ≤ 67108863 by omega),(i64_in (x:=(k : Int) + 1) (by unfold I64; omega))] at hW
        subst hW
        refine rd_next (k + 1) ?_ (show M.os.length - (k + 1) < M.os.length - k by omega)
        simp (maxSteps:=999999) only [E0,seval,-Int.reduceNatCast',h1,h2,hb2,h7,hnx,hd,tk,List.map_append]
        exact ⟨by omega,by simp⟩)
  clear hL
  have wt : ((WGS M.os set).map I).take M.os.length = (WGS M.os set).map I:=List.take_of_length_le (by rw [List.length_map,wl]; exact Nat.le_refl _)
  simp (maxSteps:=999999) only [E0,seval,-Int.reduceNatCast',K2,hw,hlen,cs,wl,wt,h1,h2,hb2,h7,h10,hr1,hnx,hd,hf,Nat.zero_add,Nat.le_refl]
  generalize hL : W _ (.loop _) _ = L
  obtain ⟨ex,s,rfl,rfl,h16,hr2,hd,hf⟩:=loop_at hL (α:=Nat) (fun k => M.os.length - k)
    (fun s0 k s => k ≤ M.os.length ∧ s.tmps 17 = I k ∧ s.tmps 1 = I set ∧ s.tmps 2 = .bptr 0 2 0 0 ∧ s.boxes 2 = some (0,(mcl M (qq M.D Ws av))) ∧ s.tmps 13 = .vs 1 ((REB M.os set).map I) none ∧ s.tmps 16 = .gsl 1 2 k 0 k ∧ s.H.rows 2 = some (.gro 1 (((PAYS M.os set).take k).map I) 0) ∧ s.defers = [] ∧ s.fid = 0)
    (fun s0 ex s => ex = .exit 2 ∧ s.tmps 16 = .gsl 1 2 M.os.length 0 M.os.length ∧ s.H.rows 2 = some (.gro 1 ((PAYS M.os set).map I) 0) ∧ s.defers = [] ∧ s.fid = 0) 0
    (by simp (maxSteps:=999999) only [E0,seval,-Int.reduceNatCast',h1,h2,hb2,hnx,List.take_zero]; exact ⟨Nat.zero_le _,by simp⟩) (by
      rintro k s r hW ⟨hk,h17,h1,h2,hb2,h13,h16,hr2,hd,hf⟩
      by_cases hp' : k < M.os.length
      rotate_left
      · simp (maxSteps:=999999) only [E0,seval,-Int.reduceNatCast',K2,hw,hlen,h17,h2,hb2,hd,hf,(show ¬ (k : Int) < M.os.length by omega)] at hW
        subst hW
        have : k = M.os.length:=by omega
        subst this
        rw [List.take_of_length_le (by rw [PAYS_len]; exact Nat.le_refl _)] at hr2
        exact rd_exit ⟨rfl,by simp (maxSteps:=999999) only [E0,seval,-Int.reduceNatCast',h16,hr2,hd]⟩
      obtain ⟨x,e0⟩ : ∃ x,M.os[k]? = some x:=⟨_,List.getElem?_eq_getElem hp'⟩
      have e1:=map_get (f:=ofr none) e0
      have xb:=prb x (List.mem_of_getElem? e0)
      obtain ⟨u,eu⟩ : ∃ u,(REB M.os set)[k]? = some u:=⟨_,List.getElem?_eq_getElem (by omega)⟩
      have u1:=ints_get eu
      have ub:=rb u (List.mem_of_getElem? eu)
      have ug : (REB M.os set).getD k 0 = u:=by simp [List.getD_eq_getElem?_getD,eu]
      have tk : (PAYS M.os set).take (k + 1) = (PAYS M.os set).take k ++ [PAY M.os set k x]:=by rw [List.take_add_one,PAYS_get e0]; rfl
      have lt : ((PAYS M.os set).take k).length = k:=by rw [List.length_take,PAYS_len]; omega
      have ci:=r_in set k (by omega)
      unfold PAY at tk
      by_cases hb : BIT set k = 1
      · rw [if_pos hb,ug] at tk
        rw [decide_eq_true hb] at ci
        simp (maxSteps:=999999) only [E0,seval,-Int.reduceNatCast',K2,hw,hlen,ci,h17,h1,h2,hb2,h13,h16,hr2,hd,hf,e1,u1,lt,rl,(show (k : Int) < M.os.length by omega),(show (0 : Int) ≤ k by omega),(show k + 1 ≤ 67108864 by omega),(show k ≤ 67108863 by omega),(i64_in (x:=x.pr - u) (by unfold I64; omega)),(i64_in (x:=(k : Int) + 1) (by unfold I64; omega))] at hW
        subst hW
        refine rd_next (k + 1) ?_ (show M.os.length - (k + 1) < M.os.length - k by omega)
        simp (maxSteps:=999999) only [E0,seval,-Int.reduceNatCast',h1,h2,hb2,h13,hd,tk,List.map_append]
        exact ⟨by omega,by simp⟩
      · rw [if_neg hb] at tk
        rw [decide_eq_false hb] at ci
        simp (maxSteps:=999999) only [E0,seval,-Int.reduceNatCast',K2,hw,hlen,ci,h17,h1,h2,hb2,h13,h16,hr2,hd,hf,lt,(show (k : Int) < M.os.length by omega),(show (0 : Int) ≤ k by omega),(show k + 1 ≤ 67108864 by omega),(show k ≤ 67108863 by omega),(i64_in (x:=(k : Int) + 1) (by unfold I64; omega))] at hW
        subst hW
        refine rd_next (k + 1) ?_ (show M.os.length - (k + 1) < M.os.length - k by omega)
        simp (maxSteps:=999999) only [E0,seval,-Int.reduceNatCast',h1,h2,hb2,h13,hd,tk,List.map_append]
        exact ⟨by omega,by simp⟩)
  clear hL
  have pt : ((PAYS M.os set).map I).take M.os.length = (PAYS M.os set).map I:=List.take_of_length_le (by rw [List.length_map,PAYS_len]; exact Nat.le_refl _)
  simp (maxSteps:=999999) only [E0,seval,-Int.reduceNatCast',NUM,INTS,h16,hr2,hd,hf,PAYS_len,pt,List.length_map,Nat.zero_add,Nat.le_refl]
end
section
variable {M : Mkt} (hr : ∀ x ∈ M.D.rs,x.OK) {Ws av : List PV} (hw : SWS Ws) (hA : AWV M.aw av)
include hr hw hA
noncomputable def RBK (M : Mkt) (set : Int) (tv : List PV) : PV:=if PE M set ≠ 0 then .tup [.nils,.nils,I (PE M set)] else .tup [.vs 1 ((MONS M set).map I) none,.vs 1 tv none,I 0]
set_option maxHeartbeats 8000000 in
theorem c_rBooks (set : Int) : ∃ tv,ap Tryz.prog pol 10 [.agg (mcl M (qq M.D Ws av)),I set] = some (.ret (RBK M set tv)) ∧ ∀ T,ASK M set = 0 → AFT M set = some T → TVL T tv:=by
  have hlen:=SAV hA
  have cp:=c_rPay hr hw hA set
  obtain ⟨tv,ct,ht⟩:=c_rAfter hr hw hA set
  refine ⟨tv,?_,ht⟩
  unfold PAYV at cp
  unfold AFV at ct
  unfold RBK
  rw [ap_eq _ Tryz.func10 rfl Tryz.ntmps10 Tryz.results10 (by kernel_rfl) rfl (by exact Nat.le_of_ble_eq_true rfl)]
  by_cases h : PE M set = 0
  rotate_left
  · rw [if_pos h] at cp ⊢
    simp (maxSteps:=999999) only [E0,seval,-Int.reduceNatCast',K2,hw,hlen,cp,h]
  rw [if_neg (fun g => g h)] at cp ⊢
  obtain ⟨h0,ha,hp⟩:=PE_0 h
  rw [if_neg (fun g => g h0),if_neg ha] at ct
  obtain ⟨T,hT⟩ : ∃ T,AFT M set = some T:=Option.ne_none_iff_exists'.1 ha
  have st:=STV (ht T h0 hT)
  have hM:=(ASK_0 h0).1
  have lo:=(MC_0 hM).2.2.1
  have lfs:=(XC_0 (MC_0 hM).1).1.2.1
  have pl:=PAYS_len M.os set
  have zs : List.replicate M.D.fs.length (I 0) = (MNK (PAY M.os set) M.os M.D.fs.length 0).map I:=by rw [MNK_0]; simp
  simp (maxSteps:=999999) only [E0,seval,-Int.reduceNatCast',K2,hw,hlen,cp,zs,(show (0 : Int) ≤ M.D.fs.length by omega),(show (M.D.fs.length : Int) ≤ maxN by unfold maxN; omega),(show 8 ≤ maxB by decide),(show ¬ (M.D.fs.length : Int) < 0 by omega)]
  generalize hL : W _ (.loop _) _ = L
  obtain ⟨ex,s,rfl,rfl,h1,h2,hb2,h9,hr1,hd,hf⟩:=loop_at hL (α:=Nat) (fun k => M.os.length - k)
    (fun s0 k s => k ≤ M.os.length ∧ s.tmps 10 = I k ∧ s.tmps 1 = I set ∧ s.tmps 2 = .bptr 0 2 0 0 ∧ s.boxes 2 = some (0,(mcl M (qq M.D Ws av))) ∧ s.tmps 7 = .vs 1 ((PAYS M.os set).map I) none ∧ s.tmps 9 = .gsl 1 1 M.D.fs.length 0 M.D.fs.length ∧ s.H.rows 1 = some (.gro 1 ((MNK (PAY M.os set) M.os M.D.fs.length k).map I) 0) ∧ s.defers = [] ∧ s.fid = 0)
    (fun s0 ex s => ex = .exit 0 ∧ s.tmps 1 = I set ∧ s.tmps 2 = .bptr 0 2 0 0 ∧ s.boxes 2 = some (0,(mcl M (qq M.D Ws av))) ∧ s.tmps 9 = .gsl 1 1 M.D.fs.length 0 M.D.fs.length ∧ s.H.rows 1 = some (.gro 1 ((MONS M set).map I) 0) ∧ s.defers = [] ∧ s.fid = 0) 0
    (by simp (maxSteps:=999999) only [E0,seval,-Int.reduceNatCast']; exact ⟨Nat.zero_le _,by simp⟩) (by
      rintro k s r hW ⟨hk,h10,h1,h2,hb2,h7,h9,hr1,hd,hf⟩
      by_cases hp' : k < M.os.length
      rotate_left
      · simp (maxSteps:=999999) only [E0,seval,-Int.reduceNatCast',K2,hw,hlen,h10,h2,hb2,hd,hf,(show ¬ (k : Int) < M.os.length by omega)] at hW
        subst hW
        have : k = M.os.length:=by omega
        subst this
        exact rd_exit ⟨rfl,by simp (maxSteps:=999999) only [E0,seval,-Int.reduceNatCast',h1,h2,hb2,h9,hr1,hd]; rfl⟩
      obtain ⟨x,e0⟩ : ∃ x,M.os[k]? = some x:=⟨_,List.getElem?_eq_getElem hp'⟩
      have e1:=map_get (f:=ofr none) e0
      have y1:=ints_get (PAYS_get (set:=set) e0)
      have yb:=PAY_bd h e0
      have ok:=(MOF_ok hM e0).2.1
      obtain ⟨fm,hfm⟩ : ∃ fm : Nat,x.fm = fm:=⟨x.fm.toNat,by omega⟩
      have hl : fm < M.D.fs.length:=by omega
      have ms:=MNK_succ (g:=PAY M.os set) (n:=M.D.fs.length) e0 hfm hl
      have m1:=ints_get (MNK_get (g:=PAY M.os set) (os:=M.os) (k:=k) hl)
      have mb:=MON_bd12 h fm (k:=k) (by omega)
      have ml:=MNK_len (PAY M.os set) M.os M.D.fs.length k
      generalize PAY M.os set k x = y at *
      generalize MON (PAY M.os set) M.os fm k = z at *
      generalize MNK (PAY M.os set) M.os M.D.fs.length k = Q at *
      simp (maxSteps:=999999) only [E0,seval,-Int.reduceNatCast',K2,hw,hlen,hfm,h10,h1,h2,hb2,h7,h9,hr1,hd,hf,e1,y1,m1,ml,pl,hl,Nat.zero_add,Nat.zero_le,(show (k : Int) < M.os.length by omega),(show (0 : Int) ≤ k by omega),(show (fm : Int) < M.D.fs.length by omega),(show (0 : Int) ≤ fm by omega),(i64_in (x:=z + y) (by unfold I64; omega)),(i64_in (x:=(k : Int) + 1) (by unfold I64; omega))] at hW
      rw [if_pos (by kernel_rfl)] at hW
      subst hW
      refine rd_next (k + 1) ?_ (show M.os.length - (k + 1) < M.os.length - k by omega)
      simp (maxSteps:=999999) only [E0,seval,-Int.reduceNatCast',h1,h2,hb2,h7,h9,hd,ms]
      exact ⟨by omega,by simp,by rw [List.map_set]⟩)
  clear hL
  have ml:=MONS_len M set
  have tk : ((MONS M set).map I).take M.D.fs.length = (MONS M set).map I:=List.take_of_length_le (by rw [List.length_map,ml]; exact Nat.le_refl _)
  simp (maxSteps:=999999) only [E0,seval,-Int.reduceNatCast',K2,hw,hlen,ct,st,h1,h2,hb2,h9,hr1,hd,hf,ml,tk,Nat.zero_add,Nat.le_refl]
set_option maxHeartbeats 8000000 in
theorem c_rStatements (set f : Int) : ap Tryz.prog pol 14 [.agg (mcl M (qq M.D Ws av)),I set,I f] = some (.ret (STMV M set f)):=by
  have hlen:=SAV hA
  have cp:=c_rPay hr hw hA set
  unfold PAYV at cp
  unfold STMV
  rw [ap_eq _ Tryz.func14 rfl Tryz.ntmps14 Tryz.results14 (by kernel_rfl) rfl (by exact Nat.le_of_ble_eq_true rfl)]
  by_cases h : PE M set = 0
  rotate_left
  · rw [if_pos h] at cp ⊢
    simp (maxSteps:=999999) only [E0,seval,-Int.reduceNatCast',K2,hw,hlen,cp,h]
  rw [if_neg (fun g => g h)] at cp ⊢
  obtain ⟨h0,ha,hp⟩:=PE_0 h
  have lo:=(MC_0 (ASK_0 h0).1).2.2.1
  by_cases f0 : f < 0
  · rw [if_pos (.inl f0)]
    simp (maxSteps:=999999) only [E0,seval,-Int.reduceNatCast',K2,hw,hlen,cp,f0]
  by_cases f1 : (M.D.fs.length : Int) ≤ f
  · rw [if_pos (.inr f1)]
    simp (maxSteps:=999999) only [E0,seval,-Int.reduceNatCast',K2,hw,hlen,cp,f0,f1]
  rw [if_neg (fun g => g.elim f0 f1)]
  have pl:=PAYS_len M.os set
  simp (maxSteps:=999999) only [E0,seval,-Int.reduceNatCast',K2,hw,hlen,cp,f0,f1]
  generalize hL : W _ (.loop _) _ = L
  obtain ⟨ex,s,rfl,rfl,h10,hr1,hd,hf⟩:=loop_at hL (α:=Nat) (fun k => M.os.length - k)
    (fun s0 k s => k ≤ M.os.length ∧ s.tmps 11 = I k ∧ s.tmps 1 = I set ∧ s.tmps 2 = I f ∧ s.tmps 3 = .bptr 0 3 0 0 ∧ s.boxes 3 = some (0,(mcl M (qq M.D Ws av))) ∧ s.tmps 8 = .vs 1 ((PAYS M.os set).map I) none ∧ s.tmps 10 = .gsl 4 1 (STS (PAY M.os set) M.os set f k).length 0 (STS (PAY M.os set) M.os set f k).length ∧ s.H.rows 1 = some (.gro 4 ((STS (PAY M.os set) M.os set f k).map stm) 0) ∧ s.defers = [] ∧ s.fid = 0)
    (fun s0 ex s => ex = .exit 0 ∧ s.tmps 10 = .gsl 4 1 (STS (PAY M.os set) M.os set f M.os.length).length 0 (STS (PAY M.os set) M.os set f M.os.length).length ∧ s.H.rows 1 = some (.gro 4 ((STS (PAY M.os set) M.os set f M.os.length).map stm) 0) ∧ s.defers = [] ∧ s.fid = 0) 0
    (by simp (maxSteps:=999999) only [E0,seval,-Int.reduceNatCast',STS,List.length_nil,List.map_nil]; exact ⟨Nat.zero_le _,by simp⟩) (by
      rintro k s r hW ⟨hk,h11,h1,h2,h3,hb3,h8,h10,hr1,hd,hf⟩
      by_cases hp' : k < M.os.length
      rotate_left
      · simp (maxSteps:=999999) only [E0,seval,-Int.reduceNatCast',K2,hw,hlen,h11,h3,hb3,hd,hf,(show ¬ (k : Int) < M.os.length by omega)] at hW
        subst hW
        have : k = M.os.length:=by omega
        subst this
        exact rd_exit ⟨rfl,by simp (maxSteps:=999999) only [E0,seval,-Int.reduceNatCast',h10,hr1,hd]⟩
      obtain ⟨x,e0⟩ : ∃ x,M.os[k]? = some x:=⟨_,List.getElem?_eq_getElem hp'⟩
      have e1:=map_get (f:=ofr none) e0
      have y1:=ints_get (PAYS_get (set:=set) e0)
      have ss:=STS_succ (g:=PAY M.os set) (set:=set) (f:=f) e0
      have sl:=STS_len (PAY M.os set) M.os set f k
      have ci:=r_in set k (by omega)
      obtain ⟨bv,hbv⟩ : ∃ bv,nextVer (s.boxes 12) = bv:=⟨_,rfl⟩
      have sn : stm (STN (PAY M.os set) set k x) = .agg [I x.no,I (PAY M.os set k x),I x.pr,.bool (decide (BIT set k = 1))]:=rfl
      generalize STN (PAY M.os set) set k x = st at *
      generalize PAY M.os set k x = y at *
      generalize STS (PAY M.os set) M.os set f k = S at *
      by_cases hfm : x.fm = f
      · rw [if_pos hfm] at ss
        simp (maxSteps:=999999) only [E0,seval,-Int.reduceNatCast',K2,hw,hlen,ci,hfm,h11,h1,h2,h3,hb3,h8,h10,hr1,hbv,hd,hf,e1,y1,pl,(show (k : Int) < M.os.length by omega),(show (0 : Int) ≤ k by omega),(show S.length + 1 ≤ 67108864 by omega),(show S.length ≤ 67108863 by omega),(i64_in (x:=(k : Int) + 1) (by unfold I64; omega))] at hW
        rw [if_pos (by kernel_rfl)] at hW
        subst hW
        refine rd_next (k + 1) ?_ (show M.os.length - (k + 1) < M.os.length - k by omega)
        simp (maxSteps:=999999) only [E0,seval,-Int.reduceNatCast',h1,h2,h3,hb3,h8,hd,ss,List.length_append,List.map_append,sn]
        exact ⟨by omega,by simp⟩
      · rw [if_neg hfm,List.append_nil] at ss
        simp (maxSteps:=999999) only [E0,seval,-Int.reduceNatCast',K2,hw,hlen,hfm,h11,h1,h2,h3,hb3,h8,h10,hr1,hbv,hd,hf,e1,(show (k : Int) < M.os.length by omega),(show (0 : Int) ≤ k by omega),(i64_in (x:=(k : Int) + 1) (by unfold I64; omega))] at hW
        subst hW
        refine rd_next (k + 1) ?_ (show M.os.length - (k + 1) < M.os.length - k by omega)
        simp (maxSteps:=999999) only [E0,seval,-Int.reduceNatCast',h1,h2,h3,hb3,h8,h10,hr1,hd,ss]
        exact ⟨by omega,by simp⟩)
  have tk : ((STS (PAY M.os set) M.os set f M.os.length).map stm).take (STS (PAY M.os set) M.os set f M.os.length).length = (STS (PAY M.os set) M.os set f M.os.length).map stm:=List.take_of_length_le (by simp)
  simp (maxSteps:=999999) only [E0,seval,-Int.reduceNatCast',NUM,SSTM,h10,hr1,hd,hf,tk,List.length_map,Nat.zero_add,Nat.le_refl]
end
def NN (t : Nat) : Bool:=t == 38
theorem wf_bd {k : IntKind} {n : Int} (h : (Lit.int k n).wf = true) : k.min ≤ n ∧ n ≤ k.max:=by
  simpa only [Lit.wf,Bool.and_eq_true,decide_eq_true_eq] using h
theorem wf_i64 {n : Int} (h : (Lit.int .i64 n).wf = true) : I64 n:=by
  have:=wf_bd h
  simp [IntKind.min,IntKind.max,IntKind.bits,IntKind.signed] at this
  exact this
theorem sh_int {g : Nat} {cs : List PV} (h : Sh NN Tryz.prog (g + 1) 3 cs) : ∃ n,cs = [I n] ∧ I64 n:=by
  simp only [Sh,Tryz.underlying3] at h
  obtain ⟨n,rfl,w⟩:=h
  exact ⟨n,rfl,wf_i64 w⟩
theorem agg_int : aggB Tryz.prog 3 = false:=by kernel_rfl
theorem agg_ints : aggB Tryz.prog 38 = false:=by kernel_rfl
theorem agg_well : aggB Tryz.prog 211 = true:=by kernel_rfl
theorem els_map {α : Type} {P : PV → Prop} (f : α → PV) (Q : α → Prop) (hP : ∀ x,P x → ∃ a,x = f a ∧ Q a) : ∀ (es : List PV),(∀ x ∈ es,P x) → ∃ l : List α,es = l.map f ∧ ∀ a ∈ l,Q a
  | [],_ => ⟨[],rfl,by simp⟩
  | e :: r,h => by
    obtain ⟨a,rfl,ha⟩:=hP e (h e (by simp))
    obtain ⟨l,rfl,hl⟩:=els_map f Q hP r fun x hx => h x (by simp [hx])
    refine ⟨a :: l,rfl,?_⟩
    intro b hb
    rcases List.mem_cons.1 hb with rfl | hb
    · exact ha
    · exact hl b hb
theorem sh_str {g : Nat} {cs : List PV} (h : Sh NN Tryz.prog (g + 1) 9 cs) : ∃ s,cs = [.str s]:=by
  simp only [Sh,Tryz.underlying9] at h
  obtain ⟨s,rfl,_⟩:=h
  exact ⟨s,rfl⟩
theorem sh_rat {g : Nat} {cs : List PV} (h : Sh NN Tryz.prog (g + 2) 76 cs) : ∃ a b,cs = [I a,I b] ∧ I64 a ∧ I64 b:=by
  unfold Sh at h
  simp only [Tryz.underlying76,ShF] at h
  obtain ⟨_,_,rfl,h1,_,_,rfl,h2,rfl⟩:=h
  obtain ⟨a,rfl,ha⟩:=sh_int h1
  obtain ⟨b,rfl,hb⟩:=sh_int h2
  exact ⟨a,b,rfl,ha,hb⟩
theorem sh_range {g : Nat} {cs : List PV} (h : Sh NN Tryz.prog (g + 2) 61 cs) : ∃ a b,cs = [I a,I b] ∧ I64 a ∧ I64 b:=by
  unfold Sh at h
  simp only [Tryz.underlying61,ShF] at h
  obtain ⟨_,_,rfl,h1,_,_,rfl,h2,rfl⟩:=h
  obtain ⟨a,rfl,ha⟩:=sh_int h1
  obtain ⟨b,rfl,hb⟩:=sh_int h2
  exact ⟨a,b,rfl,ha,hb⟩
theorem sh_tank {g : Nat} {cs : List PV} (h : Sh NN Tryz.prog (g + 2) 23 cs) : ∃ a b,cs = [I a,I b] ∧ I64 a ∧ I64 b:=by
  unfold Sh at h
  simp only [Tryz.underlying23,ShF] at h
  obtain ⟨_,_,rfl,h1,_,_,rfl,h2,rfl⟩:=h
  obtain ⟨a,rfl,ha⟩:=sh_int h1
  obtain ⟨b,rfl,hb⟩:=sh_int h2
  exact ⟨a,b,rfl,ha,hb⟩
theorem sh_seep {g : Nat} {cs : List PV} (h : Sh NN Tryz.prog (g + 3) 77 cs) : ∃ a b c d,cs = [I a,I b,I c,I d] ∧ I64 a ∧ I64 b ∧ I64 c ∧ I64 d:=by
  unfold Sh at h
  simp only [Tryz.underlying77,ShA] at h
  obtain ⟨_,_,rfl,h1,_,_,rfl,h2,rfl⟩:=h
  obtain ⟨a,b,rfl,ha,hb⟩:=sh_rat h1
  obtain ⟨c,d,rfl,hc,hd⟩:=sh_rat h2
  exact ⟨a,b,c,d,rfl,ha,hb,hc,hd⟩
theorem sh_rch {g : Nat} {cs : List PV} (h : Sh NN Tryz.prog (g + 4) 79 cs) : ∃ x : Rch,PV.agg cs = rch x ∧ x.OK:=by
  unfold Sh at h
  simp only [Tryz.underlying79,ShF] at h
  obtain ⟨_,_,rfl,h1,_,_,rfl,h2,_,_,rfl,h3,_,_,rfl,h4,_,_,rfl,h5,_,_,rfl,h6,_,_,rfl,h7,_,_,rfl,h8,rfl⟩:=h
  obtain ⟨nm,rfl⟩:=sh_str h1
  obtain ⟨up,rfl,_⟩:=sh_int h2
  obtain ⟨dl,rfl,_⟩:=sh_int h3
  obtain ⟨cp,rfl,_⟩:=sh_int h4
  obtain ⟨bk,rfl,_⟩:=sh_int h5
  obtain ⟨si,rfl,_⟩:=sh_int h6
  obtain ⟨e0,e1,rfl,_⟩:=sh_range h7
  obtain ⟨s0,s1,s2,s3,rfl,a,b,c,d⟩:=sh_seep h8
  exact ⟨⟨nm,up,dl,cp,bk,si,e0,e1,s0,s1,s2,s3⟩,rfl,a,b,c,d⟩
theorem sh_frm {g : Nat} {cs : List PV} (h : Sh NN Tryz.prog (g + 2) 81 cs) : ∃ x : Frm,PV.agg cs = frm x:=by
  unfold Sh at h
  simp only [Tryz.underlying81,ShF] at h
  obtain ⟨_,_,rfl,h1,_,_,rfl,h2,_,_,rfl,h3,_,_,rfl,h4,rfl⟩:=h
  obtain ⟨nm,rfl⟩:=sh_str h1
  obtain ⟨a,rfl,_⟩:=sh_int h2
  obtain ⟨b,rfl,_⟩:=sh_int h3
  obtain ⟨c,rfl,_⟩:=sh_int h4
  exact ⟨⟨nm,a,b,c⟩,rfl⟩
theorem sh_crp {g : Nat} {cs : List PV} (h : Sh NN Tryz.prog (g + 2) 160 cs) : ∃ x : Crp,PV.agg cs = crp x:=by
  unfold Sh at h
  simp only [Tryz.underlying160,ShF] at h
  obtain ⟨_,_,rfl,h1,_,_,rfl,h2,rfl⟩:=h
  obtain ⟨nm,rfl⟩:=sh_str h1
  obtain ⟨a,rfl,_⟩:=sh_int h2
  exact ⟨⟨nm,a⟩,rfl⟩
theorem sh_rgt {g : Nat} {cs : List PV} (h : Sh NN Tryz.prog (g + 2) 162 cs) : ∃ x : Rgt,PV.agg cs = rgt x:=by
  unfold Sh at h
  simp only [Tryz.underlying162,ShF] at h
  obtain ⟨_,_,rfl,h1,_,_,rfl,h2,_,_,rfl,h3,_,_,rfl,h4,_,_,rfl,h5,_,_,rfl,h6,_,_,rfl,h7,_,_,rfl,h8,_,_,rfl,h9,_,_,rfl,h10,rfl⟩:=h
  obtain ⟨nm,rfl⟩:=sh_str h1
  obtain ⟨a2,rfl,_⟩:=sh_int h2
  obtain ⟨a3,rfl,_⟩:=sh_int h3
  obtain ⟨a4,rfl,_⟩:=sh_int h4
  obtain ⟨a5,rfl,_⟩:=sh_int h5
  obtain ⟨a6,rfl,_⟩:=sh_int h6
  obtain ⟨a7,rfl,_⟩:=sh_int h7
  obtain ⟨a8,rfl,_⟩:=sh_int h8
  obtain ⟨a9,rfl,_⟩:=sh_int h9
  obtain ⟨a10,rfl,_⟩:=sh_int h10
  exact ⟨⟨nm,a2,a3,a4,a5,a6,a7,a8,a9,a10⟩,rfl⟩
theorem sh_dty {g : Nat} {cs : List PV} (h : Sh NN Tryz.prog (g + 2) 165 cs) : ∃ x : Dty,PV.agg cs = dty x:=by
  unfold Sh at h
  simp only [Tryz.underlying165,ShF] at h
  obtain ⟨_,_,rfl,h1,_,_,rfl,h2,_,_,rfl,h3,_,_,rfl,h4,rfl⟩:=h
  obtain ⟨nm,rfl⟩:=sh_str h1
  obtain ⟨a,rfl,_⟩:=sh_int h2
  obtain ⟨b,rfl,_⟩:=sh_int h3
  obtain ⟨c,rfl,_⟩:=sh_int h4
  exact ⟨⟨nm,a,b,c⟩,rfl⟩
theorem agg_rch : aggB Tryz.prog 79 = true:=by kernel_rfl
theorem agg_frm : aggB Tryz.prog 81 = true:=by kernel_rfl
theorem agg_crp : aggB Tryz.prog 160 = true:=by kernel_rfl
theorem agg_rgt : aggB Tryz.prog 162 = true:=by kernel_rfl
theorem agg_dty : aggB Tryz.prog 165 = true:=by kernel_rfl
theorem sh_list {α : Type} {g : Nat} {t e : Nat} (f : α → PV) (Q : α → Prop) (he : Tryz.prog.underlying t = some (.slice e)) (hN : NN t = false) (ha : aggB Tryz.prog e = true) (hP : ∀ cs,Sh NN Tryz.prog g e cs → ∃ a,PV.agg cs = f a ∧ Q a) {cs : List PV} (h : Sh NN Tryz.prog (g + 1) t cs) :
    ∃ l : List α,cs = [.vs (Tryz.prog.cellsOf e) (l.map f) none] ∧ ∀ a ∈ l,Q a:=by
  obtain ⟨es,rfl,_,hx⟩:=Sh_slice he hN h
  obtain ⟨l,rfl,hl⟩:=els_map f Q (P:=fun x => ∃ ps,x = elOf (aggB Tryz.prog e) ps ∧ Sh NN Tryz.prog g e ps) (by
    rintro x ⟨ps,rfl,hs⟩
    obtain ⟨a,ea,qa⟩:=hP ps hs
    exact ⟨a,by rw [ha]; exact ea,qa⟩) es hx
  exact ⟨l,rfl,hl⟩
theorem sh_nints {g : Nat} {cs : List PV} (h : Sh NN Tryz.prog (g + 2) 38 cs) : ∃ l v,cs = [v] ∧ RVN l v:=by
  unfold Sh at h
  simp only [Tryz.underlying38] at h
  rcases h with ⟨_,rfl | ⟨c,rfl⟩⟩ | ⟨es,rfl,hn,_,hx⟩
  · exact ⟨[],_,rfl,.inr ⟨rfl,.inl rfl⟩⟩
  · exact ⟨[],_,rfl,.inr ⟨rfl,.inr ⟨c,rfl⟩⟩⟩
  · have hne:=hn rfl
    obtain ⟨l,rfl,hl⟩:=els_map I I64 (P:=fun x => ∃ ps,x = elOf (aggB Tryz.prog 3) ps ∧ Sh NN Tryz.prog (g + 1) 3 ps) (by
      rintro x ⟨ps,rfl,hs⟩
      obtain ⟨n,rfl,hn⟩:=sh_int hs
      exact ⟨n,by rw [agg_int]; rfl,hn⟩) es hx
    exact ⟨l,_,rfl,.inl ⟨fun e => hne (by rw [e]; rfl),none,rfl⟩⟩
def WLV (x : PV) : Prop:=∃ a b c l v,RVN l v ∧ x = .agg [I a,I b,I c,v]
theorem sh_wells {g : Nat} {cs : List PV} (h : Sh NN Tryz.prog (g + 4) 29 cs) : ∃ Ws,cs = [.vs 4 Ws none] ∧ ∀ x ∈ Ws,WLV x:=by
  obtain ⟨es,rfl,_,hx⟩:=Sh_slice Tryz.underlying29 rfl h
  refine ⟨es,rfl,fun x hxm => ?_⟩
  obtain ⟨ps,rfl,hs⟩:=hx x hxm
  unfold Sh at hs
  simp only [Tryz.underlying211,ShF] at hs
  obtain ⟨_,_,rfl,h1,_,_,rfl,h2,_,_,rfl,h3,_,_,rfl,h4,rfl⟩:=hs
  obtain ⟨a,rfl,_⟩:=sh_int h1
  obtain ⟨b,rfl,_⟩:=sh_int h2
  obtain ⟨c,rfl,_⟩:=sh_int h3
  obtain ⟨l,v,rfl,hv⟩:=sh_nints h4
  exact ⟨a,b,c,l,v,hv,by rw [agg_well]; rfl⟩
theorem WLV.st {x : PV} (h : WLV x) : strip0 x = x ∧ (∀ H,strip1 H x = x) ∧ (∀ H,strip2 H x = x):=by
  obtain ⟨a,b,c,l,v,hv,rfl⟩:=h
  obtain ⟨⟨s0,s1,s2⟩,_⟩:=RVS hv.rv
  refine ⟨?_,fun H => ?_,fun H => ?_⟩
  · show PV.agg [I a,I b,I c,strip0 v] = _
    rw [s0]
  · show PV.agg [I a,I b,I c,strip1 H v] = _
    rw [s1]
  · show PV.agg [I a,I b,I c,strip2 H v] = _
    rw [s2]
theorem opened_dv (D : Dis) {Ws : List PV} (hw : ∀ x ∈ Ws,WLV x) (av : List PV) : DV D (qq D Ws av).cs (qq D Ws av).gs (qq D Ws av).ds (qq D Ws av).ws:=by
  have w0 : Ws.map strip0 = Ws:=map_id_of fun x hx => (hw x hx).st.1
  have w1 : ∀ H,Ws.map (strip1 H) = Ws:=fun H => map_id_of fun x hx => (hw x hx).st.2.1 H
  have w2 : ∀ H,Ws.map (strip2 H) = Ws:=fun H => map_id_of fun x hx => (hw x hx).st.2.2 H
  have e0 : strip0 (.vs 4 Ws none) = .vs 4 Ws none:=by show PV.vs 4 (strip0L Ws) none = _; rw [strip0L_map,w0]
  have e1 : ∀ H,strip1 H (.vs 4 Ws none) = .vs 4 Ws none:=fun H => by show PV.vs 4 (strip1L H Ws) none = _; rw [strip1L_map,w1]
  have e2 : ∀ H,strip2 H (.vs 4 Ws none) = .vs 4 Ws none:=fun H => by show PV.vs 4 (strip2L H Ws) none = _; rw [strip2L_map,w2]
  have c0:=SCRP
  have g0:=SRGT
  have d0:=SDTY
  have a0 : strip0 (.vs 2 (D.cs.map crp) none) = .vs 2 (D.cs.map crp) none:=by show PV.vs 2 (strip0L _) none = _; simp only [c0]
  have a1 : strip0 (.vs 10 (D.gs.map rgt) none) = .vs 10 (D.gs.map rgt) none:=by show PV.vs 10 (strip0L _) none = _; simp only [g0]
  have a2 : strip0 (.vs 4 (D.ds.map dty) none) = .vs 4 (D.ds.map dty) none:=by show PV.vs 4 (strip0L _) none = _; simp only [d0]
  refine ⟨SL_vs _ _ _,SL_vs _ _ _,SL_vs _ _ _,⟨a0,a1,a2,e0⟩,fun H => ⟨?_,?_,?_,e1 H⟩,fun H => ⟨?_,?_,?_,e2 H⟩,fun H => ⟨?_,?_,?_,?_⟩⟩
  · show PV.vs 2 (strip1L H _) none = _; simp only [c0]
  · show PV.vs 10 (strip1L H _) none = _; simp only [g0]
  · show PV.vs 4 (strip1L H _) none = _; simp only [d0]
  · show PV.vs 2 (strip2L H _) none = _; simp only [c0]
  · show PV.vs 10 (strip2L H _) none = _; simp only [g0]
  · show PV.vs 4 (strip2L H _) none = _; simp only [d0]
  · show (strip0 (.vs 2 (D.cs.map crp) none),H) = _; rw [a0]
  · show (strip0 (.vs 10 (D.gs.map rgt) none),H) = _; rw [a1]
  · show (strip0 (.vs 4 (D.ds.map dty) none),H) = _; rw [a2]
  · show (strip0 (.vs 4 Ws none),H) = _; rw [e0]
theorem sh_lot {g : Nat} {cs : List PV} (h : Sh NN Tryz.prog (g + 2) 104 cs) : ∃ x : Lot,PV.agg cs = lot x:=by
  unfold Sh at h
  simp only [Tryz.underlying104,ShF] at h
  obtain ⟨_,_,rfl,h1,_,_,rfl,h2,rfl⟩:=h
  obtain ⟨a,rfl,_⟩:=sh_int h1
  obtain ⟨b,rfl,_⟩:=sh_int h2
  exact ⟨⟨a,b⟩,rfl⟩
theorem agg_lot : aggB Tryz.prog 104 = true:=by kernel_rfl
theorem agg_ofr : aggB Tryz.prog 64 = true:=by kernel_rfl
theorem sh_ofr {g : Nat} {cs : List PV} (h : Sh NN Tryz.prog (g + 4) 64 cs) : ∃ x : Ofr,PV.agg cs = ofr none x:=by
  unfold Sh at h
  simp only [Tryz.underlying64,ShF] at h
  obtain ⟨_,_,rfl,h1,_,_,rfl,h2,_,_,rfl,h3,_,_,rfl,h4,_,_,rfl,h5,rfl⟩:=h
  obtain ⟨a,rfl,_⟩:=sh_int h1
  obtain ⟨b,rfl,_⟩:=sh_int h2
  obtain ⟨c,rfl,_⟩:=sh_int h3
  obtain ⟨lo,hi,rfl,_⟩:=sh_range h4
  obtain ⟨l,rfl,_⟩:=sh_list lot (fun _ => True) Tryz.underlying62 rfl agg_lot (fun cs h => by obtain ⟨x,e⟩:=sh_lot h; exact ⟨x,e,trivial⟩) h5
  exact ⟨⟨a,b,c,lo,hi,l⟩,rfl⟩
theorem av_of : ∀ {av : List PV},(∀ x ∈ av,∃ l,RVN l x) → ∃ aw,AWV aw av
  | [],_ => ⟨[],rfl,fun i l e => by simp at e⟩
  | v :: r,h => by
    obtain ⟨l,hl⟩:=h v (by simp)
    obtain ⟨aw,hw⟩:=av_of fun x hx => h x (List.mem_cons_of_mem v hx)
    refine ⟨l :: aw,by simp [hw.len],fun i m e => ?_⟩
    match i with
    | 0 =>
      simp only [List.getElem?_cons_zero,Option.some.injEq] at e
      subst e
      exact ⟨v,rfl,hl⟩
    | i + 1 =>
      simp only [List.getElem?_cons_succ] at e ⊢
      exact hw.get i m e
theorem sh_awards {g : Nat} {cs : List PV} (h : Sh NN Tryz.prog (g + 3) 32 cs) : ∃ aw av,cs = [.vs 1 av none] ∧ AWV aw av:=by
  obtain ⟨es,rfl,_,hx⟩:=Sh_slice Tryz.underlying32 rfl h
  obtain ⟨aw,ha⟩:=av_of (av:=es) fun x hxm => by
    obtain ⟨ps,rfl,hs⟩:=hx x hxm
    obtain ⟨l,v,rfl,hv⟩:=sh_nints hs
    exact ⟨l,by rw [agg_ints]; exact hv⟩
  exact ⟨aw,es,rfl,ha⟩
theorem sh_mkt {g : Nat} {cs : List PV} (h : Sh NN Tryz.prog (g + 7) 35 cs) : ∃ (M : Mkt) (Ws av : List PV),PV.agg cs = .agg (mcl M (qq M.D Ws av)) ∧ (∀ x ∈ M.D.rs,x.OK) ∧ (∀ x ∈ Ws,WLV x) ∧ AWV M.aw av:=by
  unfold Sh at h
  simp only [Tryz.underlying35,ShF] at h
  obtain ⟨_,_,rfl,h0,_,_,rfl,ha,_,_,rfl,hroom,_,_,rfl,hrain,_,_,rfl,ho,rfl⟩:=h
  obtain ⟨aw,av,rfl,hA⟩:=sh_awards ha
  obtain ⟨room,rfl,_⟩:=sh_int hroom
  obtain ⟨rain,rfl,_⟩:=sh_int hrain
  obtain ⟨os,rfl,_⟩:=sh_list (ofr none) (fun _ => True) Tryz.underlying33 rfl agg_ofr (fun cs h => by obtain ⟨x,e⟩:=sh_ofr h; exact ⟨x,e,trivial⟩) ho
  unfold Sh at h0
  simp only [Tryz.underlying31,ShF] at h0
  obtain ⟨_,_,rfl,h1,_,_,rfl,h2,_,_,rfl,h3,_,_,rfl,h4,_,_,rfl,h5,_,_,rfl,h6,_,_,rfl,h7,_,_,rfl,h8,_,_,rfl,h9,rfl⟩:=h0
  obtain ⟨nm,rfl⟩:=sh_str h1
  obtain ⟨hours,rfl,_⟩:=sh_int h2
  obtain ⟨cap,start,rfl,_⟩:=sh_tank h3
  obtain ⟨rs,rfl,hr⟩:=sh_list rch Rch.OK Tryz.underlying24 rfl agg_rch (fun cs h => sh_rch h) h4
  obtain ⟨fs,rfl,_⟩:=sh_list frm (fun _ => True) Tryz.underlying25 rfl agg_frm (fun cs h => by obtain ⟨x,e⟩:=sh_frm h; exact ⟨x,e,trivial⟩) h5
  obtain ⟨cs,rfl,_⟩:=sh_list crp (fun _ => True) Tryz.underlying26 rfl agg_crp (fun cs h => by obtain ⟨x,e⟩:=sh_crp h; exact ⟨x,e,trivial⟩) h6
  obtain ⟨gs,rfl,_⟩:=sh_list rgt (fun _ => True) Tryz.underlying27 rfl agg_rgt (fun cs h => by obtain ⟨x,e⟩:=sh_rgt h; exact ⟨x,e,trivial⟩) h7
  obtain ⟨ds,rfl,_⟩:=sh_list dty (fun _ => True) Tryz.underlying28 rfl agg_dty (fun cs h => by obtain ⟨x,e⟩:=sh_dty h; exact ⟨x,e,trivial⟩) h8
  obtain ⟨Ws,rfl,hw⟩:=sh_wells h9
  exact ⟨⟨⟨nm,hours,cap,start,rs,fs,cs,gs,ds⟩,aw,room,rain,os⟩,Ws,av,rfl,hr,hw,hA⟩
theorem agg_mkt : aggB Tryz.prog 35 = true:=by kernel_rfl
theorem opened_sws {Ws : List PV} (hw : ∀ x ∈ Ws,WLV x) : SWS Ws:=by
  have w0 : Ws.map strip0 = Ws:=map_id_of fun x hx => (hw x hx).st.1
  have w1 : ∀ H,Ws.map (strip1 H) = Ws:=fun H => map_id_of fun x hx => (hw x hx).st.2.1 H
  have w2 : ∀ H,Ws.map (strip2 H) = Ws:=fun H => map_id_of fun x hx => (hw x hx).st.2.2 H
  exact ⟨by rw [strip0L_map,w0],w0,w1,w2,fun H => by rw [strip1L_map,w1],fun H => by rw [strip2L_map,w2]⟩
end Go.Proofs.YtbmmbefgmhhciaaGreat
