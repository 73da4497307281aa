/-
  Evidence, suspects and probes (part 3).
-/
import Derived.Test.YtofkhhokaalknaaGreatDoorGb
set_option linter.unusedSimpArgs false
set_option linter.unusedVariables false
set_option linter.unusedSectionVars false
namespace Go.Proofs.YtofkhhokaalknaaGreatDoor
open Go GoV
set_option maxRecDepth 100000
def PQ (L : List (List Int)) (H : Heap) (a b lim : Nat) (s : St) : Prop:=(∃ L',L'.Perm L ∧ s.H.rows 1 = some (RW L') ∧ QS H s.H) ∧ s.tmps 0 = QG L.length ∧ s.tmps 1 = I a ∧ s.tmps 2 = I b ∧ s.tmps 3 = I lim ∧ s.tmps 4 = CF ∧ s.defers = [] ∧ s.fid = H.next
set_option maxHeartbeats 16000000 in
theorem q_pdq (N : Nat) : ∀ (L : List (List Int)) (_ : LB L) (n a b lim : Nat) (_ : n = L.length) (_ : n < 50) (_ : b ≤ n) (_ : a ≤ b) (_ : b - a ≤ N) (_ : lim ≤ 100) (H : Heap) (_ : H.rows 1 = some (RW L)) (_ : 1 < H.next),
    ∃ H' L',callF G Tryz.prog pol 44 [QG n,I a,I b,I lim,CF] H = some (.ret (.tup []),H') ∧ L'.Perm L ∧ H'.rows 1 = some (RW L') ∧ QS H H':=by
  induction N using Nat.strongRecOn with
  | ind N ih =>
  intro L hB n a b lim hn hl hb hab hN hlim H hr h1
  subst hn
  rw [callF_eq _ _ Tryz.func44 rfl Tryz.ntmps44 Tryz.results44 (by kernel_rfl) rfl (by exact Nat.le_of_ble_eq_true rfl)]
  simp (maxSteps:=999999) only [E0,seval,-Int.reduceNatCast',NUM]
  generalize hL : W _ (.loop _) _ = L0
  obtain ⟨ex,s,rfl,rfl,⟨L1,hp,hrow,hQ⟩,hd,hf⟩:=loop_at hL (α:=Nat × Nat × Nat) (fun k => k.2.1 - k.1)
    (fun s0 k s => (a ≤ k.1 ∧ k.1 ≤ k.2.1 ∧ k.2.1 ≤ b ∧ k.2.2 ≤ 100) ∧ PQ L H k.1 k.2.1 k.2.2 s ∧ (∃ x,s.tmps 10 = .bool x) ∧ (∃ x,s.tmps 11 = .bool x))
    (fun s0 ex s => ex = .ret ∧ (∃ L',L'.Perm L ∧ s.H.rows 1 = some (RW L') ∧ QS H s.H) ∧ s.defers = [] ∧ s.fid = H.next) (a,b,lim)
    (by refine ⟨⟨Nat.le_refl _,hab,Nat.le_refl _,hlim⟩,?_,⟨true,by simp (maxSteps:=999999) only [E0,seval,-Int.reduceNatCast']⟩,⟨true,by simp (maxSteps:=999999) only [E0,seval,-Int.reduceNatCast']⟩⟩
        unfold PQ
        simp (maxSteps:=999999) only [E0,seval,-Int.reduceNatCast']
        exact ⟨L,.refl _,hr,⟨fun _ _ _ => rfl,by simp⟩⟩) (by
      clear hL
      rintro ⟨a1,b1,l1⟩ s r hW ⟨⟨ha1,hab1,hb1,hl1⟩,⟨⟨L1,hp,hrow,hQ⟩,h0,h1',h2,h3,h4,hd,hf⟩,⟨w10,h10⟩,⟨w11,h11⟩⟩
      dsimp only at ha1 hab1 hb1 hl1 h1' h2 h3
      obtain ⟨m,hm⟩ : ∃ m,b1 - a1 = m:=⟨_,rfl⟩
      have hmi : (b1 : Int) - a1 = (m : Int):=by omega
      have h1n : 1 < s.H.next:=by have:=hQ.nx; omega
      by_cases hm12 : m ≤ 12
      · obtain ⟨H2,L2,e2,p2,r2,Q2⟩:=q_insertion L1 (hB.perm hp) L.length a1 b1 hp.length_eq.symm (by omega) (by omega) (by omega) s.H hrow h1n
        simp (maxSteps:=999999) only [E0,seval,-Int.reduceNatCast',NUM,h0,h1',h2,h3,h4,hd,hf,hmi,e2,(show (m : Int) ≤ 12 by omega),(i64_in (x:=(m : Int)) (by unfold I64; omega))] at hW
        subst hW
        refine rd_ret ⟨rfl,⟨L2,p2.trans hp,?_,?_⟩,?_⟩ <;> simp (maxSteps:=999999) only [E0,seval,-Int.reduceNatCast',hd,hf]
        · exact r2
        · exact hQ.trans Q2
      by_cases hl0 : l1 = 0
      · obtain ⟨H2,L2,e2,p2,r2,Q2⟩:=q_heap L1 (hB.perm hp) L.length a1 b1 hp.length_eq.symm (by omega) (by omega) (by omega) s.H hrow h1n
        subst hl0
        simp (maxSteps:=999999) only [E0,seval,-Int.reduceNatCast',NUM,h0,h1',h2,h3,h4,hd,hf,hmi,e2,(show ¬ (m : Int) ≤ 12 by omega),(i64_in (x:=(m : Int)) (by unfold I64; omega))] at hW
        subst hW
        refine rd_ret ⟨rfl,⟨L2,p2.trans hp,?_,?_⟩,?_⟩ <;> simp (maxSteps:=999999) only [E0,seval,-Int.reduceNatCast',hd,hf]
        · exact r2
        · exact hQ.trans Q2
      rw [WW_block] at hW
      rw [WW_seq] at hW
      generalize hA : W _ _ s = A at hW
      obtain ⟨s,rfl,⟨L1,hp,hrow,hQ⟩,h0,h1',h2,h3,h4,hd,hf,h10,h11,h12⟩ : ∃ s,A = some (.normal,s) ∧ (∃ L',L'.Perm L ∧ s.H.rows 1 = some (RW L') ∧ QS H s.H) ∧ s.tmps 0 = QG L.length ∧ s.tmps 1 = I a1 ∧ s.tmps 2 = I b1 ∧ s.tmps 3 = I l1 ∧ s.tmps 4 = CF ∧ s.defers = [] ∧ s.fid = H.next ∧ s.tmps 10 = .bool w10 ∧ s.tmps 11 = .bool w11 ∧ s.tmps 12 = I m:=by
        subst hA
        simp (maxSteps:=999999) only [E0,seval,-Int.reduceNatCast',NUM,h1',h2,hmi,(i64_in (x:=(m : Int)) (by unfold I64; omega))]
        refine ⟨_,rfl,⟨L1,hp,hrow,hQ⟩,?_⟩
        simp (maxSteps:=999999) only [E0,seval,-Int.reduceNatCast',h0,h1',h2,h3,h4,hd,hf,h10,h11]
      rw [seqK_normal] at hW
      rw [WW_seq] at hW
      generalize hA : W _ _ s = A at hW
      obtain ⟨s,rfl,⟨L1,hp,hrow,hQ⟩,h0,h1',h2,h3,h4,hd,hf,h10,h11,h12⟩ : ∃ s,A = some (.normal,s) ∧ (∃ L',L'.Perm L ∧ s.H.rows 1 = some (RW L') ∧ QS H s.H) ∧ s.tmps 0 = QG L.length ∧ s.tmps 1 = I a1 ∧ s.tmps 2 = I b1 ∧ s.tmps 3 = I l1 ∧ s.tmps 4 = CF ∧ s.defers = [] ∧ s.fid = H.next ∧ s.tmps 10 = .bool w10 ∧ s.tmps 11 = .bool w11 ∧ s.tmps 12 = I m:=by
        subst hA
        simp (maxSteps:=999999) only [E0,seval,-Int.reduceNatCast',NUM,h12,(show ¬ (m : Int) ≤ 12 by omega)]
        refine ⟨_,rfl,⟨L1,hp,hrow,hQ⟩,?_⟩
        simp (maxSteps:=999999) only [E0,seval,-Int.reduceNatCast',h0,h1',h2,h3,h4,hd,hf,h10,h11,h12]
      rw [seqK_normal] at hW
      rw [WW_seq] at hW
      generalize hA : W _ _ s = A at hW
      obtain ⟨s,rfl,⟨L1,hp,hrow,hQ⟩,h0,h1',h2,h3,h4,hd,hf,h10,h11,h12⟩ : ∃ s,A = some (.normal,s) ∧ (∃ L',L'.Perm L ∧ s.H.rows 1 = some (RW L') ∧ QS H s.H) ∧ s.tmps 0 = QG L.length ∧ s.tmps 1 = I a1 ∧ s.tmps 2 = I b1 ∧ s.tmps 3 = I l1 ∧ s.tmps 4 = CF ∧ s.defers = [] ∧ s.fid = H.next ∧ s.tmps 10 = .bool w10 ∧ s.tmps 11 = .bool w11 ∧ s.tmps 12 = I m:=by
        subst hA
        simp (maxSteps:=999999) only [E0,seval,-Int.reduceNatCast',NUM,h3,(show ¬ (l1 : Int) = 0 by omega)]
        refine ⟨_,rfl,⟨L1,hp,hrow,hQ⟩,?_⟩
        simp (maxSteps:=999999) only [E0,seval,-Int.reduceNatCast',h0,h1',h2,h3,h4,hd,hf,h10,h11,h12]
      rw [seqK_normal] at hW
      rw [WW_seq] at hW
      generalize hA : W _ _ s = A at hW
      obtain ⟨l2,s,hl2,rfl,⟨L1,hp,hrow,hQ⟩,h0,h1',h2,h3,h4,hd,hf,h10,h11,h12⟩ : ∃ l2 : Nat,∃ s,l2 ≤ 100 ∧ A = some (.normal,s) ∧ (∃ L',L'.Perm L ∧ s.H.rows 1 = some (RW L') ∧ QS H s.H) ∧ s.tmps 0 = QG L.length ∧ s.tmps 1 = I a1 ∧ s.tmps 2 = I b1 ∧ s.tmps 3 = I l2 ∧ s.tmps 4 = CF ∧ s.defers = [] ∧ s.fid = H.next ∧ s.tmps 10 = .bool w10 ∧ s.tmps 11 = .bool w11 ∧ s.tmps 12 = I m:=by
        subst hA
        cases w10 with
        | true =>
          simp (maxSteps:=999999) only [E0,seval,-Int.reduceNatCast',NUM,h10]
          refine ⟨l1,_,hl1,rfl,⟨L1,hp,hrow,hQ⟩,?_⟩
          simp (maxSteps:=999999) only [E0,seval,-Int.reduceNatCast',h0,h1',h2,h3,h4,hd,hf,h10,h11,h12]
        | false =>
          have h1n : 1 < s.H.next:=by have:=hQ.nx; omega
          obtain ⟨H2,L2,e2,p2,r2,Q2⟩:=q_break L1 L.length a1 b1 hp.length_eq.symm (by omega) (by omega) (by omega) (by omega) s.H hrow h1n
          simp (maxSteps:=999999) only [E0,seval,-Int.reduceNatCast',NUM,h10,h0,h1',h2,h3,h4,e2,(i64_in (x:=(l1 : Int) - 1) (by unfold I64; omega))]
          refine ⟨l1 - 1,_,by omega,rfl,⟨L2,p2.trans hp,r2,hQ.trans Q2⟩,?_⟩
          simp (maxSteps:=999999) only [E0,seval,-Int.reduceNatCast',h0,h1',h2,h3,h4,hd,hf,h10,h11,h12]
          congr 1; omega
      rw [seqK_normal] at hW
      rw [WW_seq] at hW
      generalize hA : W _ _ s = A at hW
      obtain ⟨p,h,s,hpp,rfl,⟨L1,hp,hrow,hQ⟩,h0,h1',h2,h3,h4,hd,hf,h10,h11,h12,h13,h14⟩ : ∃ p : Nat,∃ h : Int,∃ s,(a1 ≤ p ∧ p < b1) ∧ A = some (.normal,s) ∧ (∃ L',L'.Perm L ∧ s.H.rows 1 = some (RW L') ∧ QS H s.H) ∧ s.tmps 0 = QG L.length ∧ s.tmps 1 = I a1 ∧ s.tmps 2 = I b1 ∧ s.tmps 3 = I l2 ∧ s.tmps 4 = CF ∧ s.defers = [] ∧ s.fid = H.next ∧ s.tmps 10 = .bool w10 ∧ s.tmps 11 = .bool w11 ∧ s.tmps 12 = I m ∧ s.tmps 13 = I p ∧ s.tmps 14 = I h:=by
        subst hA
        have h1n : 1 < s.H.next:=by have:=hQ.nx; omega
        obtain ⟨H2,d,h,e2,hd2,f2,n2⟩:=q_choose L1 (hB.perm hp) L.length a1 b1 hp.length_eq.symm (by omega) (by omega) (by omega) (by omega) s.H hrow h1n
        simp (maxSteps:=999999) only [E0,seval,-Int.reduceNatCast',NUM,h0,h1',h2,h3,h4,e2]
        refine ⟨d,h,_,hd2,rfl,⟨L1,hp,(f2 1 h1n).trans hrow,hQ.trans ⟨fun i hi _ => f2 i hi,n2⟩⟩,?_⟩
        simp (maxSteps:=999999) only [E0,seval,-Int.reduceNatCast',h0,h1',h2,h3,h4,hd,hf,h10,h11,h12]
      rw [seqK_normal] at hW
      rw [WW_seq] at hW
      generalize hA : W _ _ s = A at hW
      obtain ⟨p,h,s,hpp,rfl,⟨L1,hp,hrow,hQ⟩,h0,h1',h2,h3,h4,hd,hf,h10,h11,h12,h13,h14⟩ : ∃ p : Nat,∃ h : Int,∃ s,(a1 ≤ p ∧ p < b1) ∧ A = some (.normal,s) ∧ (∃ L',L'.Perm L ∧ s.H.rows 1 = some (RW L') ∧ QS H s.H) ∧ s.tmps 0 = QG L.length ∧ s.tmps 1 = I a1 ∧ s.tmps 2 = I b1 ∧ s.tmps 3 = I l2 ∧ s.tmps 4 = CF ∧ s.defers = [] ∧ s.fid = H.next ∧ s.tmps 10 = .bool w10 ∧ s.tmps 11 = .bool w11 ∧ s.tmps 12 = I m ∧ s.tmps 13 = I p ∧ s.tmps 14 = I h:=by
        subst hA
        by_cases hh : h = 2
        rotate_left
        · simp (maxSteps:=999999) only [E0,seval,-Int.reduceNatCast',NUM,h14,hh]
          refine ⟨p,h,_,hpp,rfl,⟨L1,hp,hrow,hQ⟩,?_⟩
          simp (maxSteps:=999999) only [E0,seval,-Int.reduceNatCast',h0,h1',h2,h3,h4,hd,hf,h10,h11,h12,h13,h14]
        have h1n : 1 < s.H.next:=by have:=hQ.nx; omega
        obtain ⟨H2,L2,e2,p2,r2,Q2⟩:=q_reverse L1 L.length a1 b1 hp.length_eq.symm (by omega) (by omega) (by omega) s.H hrow h1n
        subst hh
        simp (maxSteps:=999999) only [E0,seval,-Int.reduceNatCast',NUM,h14,h13,h0,h1',h2,h3,h4,e2,(i64_in (x:=(b1 : Int) - 1) (by unfold I64; omega)),(i64_in (x:=(p : Int) - a1) (by unfold I64; omega)),(i64_in (x:=(b1 : Int) - 1 - ((p : Int) - a1)) (by unfold I64; omega))]
        refine ⟨b1 - 1 - (p - a1),1,_,by omega,rfl,⟨L2,p2.trans hp,r2,hQ.trans Q2⟩,?_⟩
        simp (maxSteps:=999999) only [E0,seval,-Int.reduceNatCast',h0,h1',h2,h3,h4,hd,hf,h10,h11,h12]
        congr 1; omega
      rw [seqK_normal] at hW
      have hpart : ∀ x : Prop,(w10 = true ∧ w11 = true ∧ h = 1) ∨ ¬ (w10 = true ∧ w11 = true ∧ h = 1):=fun _ => Classical.em _
      rw [WW_seq] at hW
      generalize hA : W _ _ s = A at hW
      have hA2 : (∃ s,A = some (.ret,s) ∧ (∃ L',L'.Perm L ∧ s.H.rows 1 = some (RW L') ∧ QS H s.H) ∧ s.defers = [] ∧ s.fid = H.next) ∨ (∃ s,A = some (.normal,s) ∧ (∃ L',L'.Perm L ∧ s.H.rows 1 = some (RW L') ∧ QS H s.H) ∧ s.tmps 0 = QG L.length ∧ s.tmps 1 = I a1 ∧ s.tmps 2 = I b1 ∧ s.tmps 3 = I l2 ∧ s.tmps 4 = CF ∧ s.defers = [] ∧ s.fid = H.next ∧ s.tmps 10 = .bool w10 ∧ s.tmps 11 = .bool w11 ∧ s.tmps 12 = I m ∧ s.tmps 13 = I p ∧ s.tmps 14 = I h):=by
        subst hA
        by_cases hc : w10 = true ∧ w11 = true ∧ h = 1
        · obtain ⟨rfl,rfl,rfl⟩:=hc
          have h1n : 1 < s.H.next:=by have:=hQ.nx; omega
          obtain ⟨H2,d,e2,f2,n2⟩:=q_partial L1 (hB.perm hp) L.length a1 b1 hp.length_eq.symm (by omega) (by omega) (by omega) (by omega) s.H hrow h1n
          cases d with
          | true =>
            left
            simp (maxSteps:=999999) only [E0,seval,-Int.reduceNatCast',NUM,h0,h1',h2,h3,h4,h10,h11,h14,e2]
            refine ⟨_,rfl,⟨L1,hp,(f2 1 h1n).trans hrow,hQ.trans ⟨fun i hi _ => f2 i hi,n2⟩⟩,?_⟩
            simp (maxSteps:=999999) only [E0,seval,-Int.reduceNatCast',hd,hf]
          | false =>
            right
            simp (maxSteps:=999999) only [E0,seval,-Int.reduceNatCast',NUM,h0,h1',h2,h3,h4,h10,h11,h14,e2]
            refine ⟨_,rfl,⟨L1,hp,(f2 1 h1n).trans hrow,hQ.trans ⟨fun i hi _ => f2 i hi,n2⟩⟩,?_⟩
            simp (maxSteps:=999999) only [E0,seval,-Int.reduceNatCast',h0,h1',h2,h3,h4,hd,hf,h10,h11,h12,h13,h14]
        · right
          cases w10 with
          | false =>
            simp (maxSteps:=999999) only [E0,seval,-Int.reduceNatCast',NUM,h10,h11,h14]
            refine ⟨_,rfl,⟨L1,hp,hrow,hQ⟩,?_⟩
            simp (maxSteps:=999999) only [E0,seval,-Int.reduceNatCast',h0,h1',h2,h3,h4,hd,hf,h10,h11,h12,h13,h14]
          | true =>
            cases w11 with
            | false =>
              simp (maxSteps:=999999) only [E0,seval,-Int.reduceNatCast',NUM,h10,h11,h14]
              refine ⟨_,rfl,⟨L1,hp,hrow,hQ⟩,?_⟩
              simp (maxSteps:=999999) only [E0,seval,-Int.reduceNatCast',h0,h1',h2,h3,h4,hd,hf,h10,h11,h12,h13,h14]
            | true =>
              have hh1 : ¬ h = 1:=fun g => hc ⟨rfl,rfl,g⟩
              simp (maxSteps:=999999) only [E0,seval,-Int.reduceNatCast',NUM,h10,h11,h14,hh1]
              refine ⟨_,rfl,⟨L1,hp,hrow,hQ⟩,?_⟩
              simp (maxSteps:=999999) only [E0,seval,-Int.reduceNatCast',h0,h1',h2,h3,h4,hd,hf,h10,h11,h12,h13,h14]
      rcases hA2 with ⟨s,rfl,hs,hsd,hsf⟩ | ⟨s,rfl,⟨L1,hp,hrow,hQ⟩,h0,h1',h2,h3,h4,hd,hf,h10,h11,h12,h13,h14⟩
      · rw [seqK_ret,blockK_ret] at hW
        subst hW
        exact rd_ret ⟨rfl,hs,hsd,hsf⟩
      rw [seqK_normal] at hW
      clear hpart
      have ll:=hp.length_eq
      have h1n : 1 < s.H.next:=by have:=hQ.nx; omega
      obtain ⟨x,x0,x1⟩:=get_nat (L:=L1) (i:=p) (by omega)
      have hcase : (∃ k y e,a1 = k + 1 ∧ L1[k]? = some y ∧ (L1.map elt)[k]? = some (elt y) ∧ ap Tryz.prog pol 25 [elt y,elt x] = some (.ret (I e)) ∧ ¬ e < 0) ∨ (a1 = 0 ∨ ∃ k y e,a1 = k + 1 ∧ L1[k]? = some y ∧ (L1.map elt)[k]? = some (elt y) ∧ ap Tryz.prog pol 25 [elt y,elt x] = some (.ret (I e)) ∧ e < 0):=by
        cases a1 with
        | zero => exact .inr (.inl rfl)
        | succ k =>
          obtain ⟨y,y0,y1⟩:=get_nat (L:=L1) (i:=k) (by omega)
          obtain ⟨e,he⟩:=(hB.perm hp).cmp y0 x0
          by_cases h0 : e < 0
          · exact .inr (.inr ⟨k,y,e,rfl,y0,y1,he,h0⟩)
          · exact .inl ⟨k,y,e,rfl,y0,y1,he,h0⟩
      rw [WW_seq] at hW
      rcases hcase with ⟨k,y,e,rfl,y0,y1,he,he0⟩ | hcase
      · obtain ⟨H2,L2,d,e2,hd2,p2,r2,Q2⟩:=q_parteq L1 (hB.perm hp) L.length (k + 1) b1 p hp.length_eq.symm (by omega) (by omega) (by omega) (by omega) s.H hrow h1n
        have h1s : s.tmps 1 = I ((k : Int) + 1):=by rw [h1']; congr 1
        have e2' : callF G Tryz.prog pol 70 [QG L.length,I ((k : Int) + 1),I b1,I p,CF] s.H = some (.ret (I d),H2):=by rw [← e2]; rfl
        simp (maxSteps:=999999) only [E0,seval,-Int.reduceNatCast',NUM,SELT,INTS,Nat.zero_add,Nat.zero_le,List.length_map,List.length_set,Int.toNat_natCast,Int.add_sub_cancel,h0,h1s,h2,h3,h4,hd,hf,hrow,h13,x1,y1,he,he0,ll,e2',(show (0 : Int) < (k : Int) + 1 by omega),(show (0 : Int) ≤ k by omega),(show (k : Int) < L.length by omega),(show (0 : Int) ≤ p by omega),(show (p : Int) < L.length by omega),(i64_in (x:=(k : Int)) (by unfold I64; omega))] at hW
        subst hW
        refine rd_next (d,b1,l2) ?_ (show b1 - d < b1 - (k + 1) by omega)
        refine ⟨by dsimp only; omega,?_,⟨w10,by simp (maxSteps:=999999) only [E0,seval,-Int.reduceNatCast',h10]⟩,⟨w11,by simp (maxSteps:=999999) only [E0,seval,-Int.reduceNatCast',h11]⟩⟩
        unfold PQ
        refine ⟨⟨L2,p2.trans hp,r2,hQ.trans Q2⟩,?_⟩
        simp (maxSteps:=999999) only [E0,seval,-Int.reduceNatCast',h0,h2,h3,h4,hd,hf]
      generalize hA : W _ _ s = A at hW
      obtain ⟨s,rfl,⟨L1,hp,hrow,hQ⟩,h0,h1',h2,h3,h4,hd,hf,h10,h11,h12,h13,h14⟩ : ∃ s,A = some (.normal,s) ∧ (∃ L',L'.Perm L ∧ s.H.rows 1 = some (RW L') ∧ QS H s.H) ∧ s.tmps 0 = QG L.length ∧ s.tmps 1 = I a1 ∧ s.tmps 2 = I b1 ∧ s.tmps 3 = I l2 ∧ s.tmps 4 = CF ∧ s.defers = [] ∧ s.fid = H.next ∧ s.tmps 10 = .bool w10 ∧ s.tmps 11 = .bool w11 ∧ s.tmps 12 = I m ∧ s.tmps 13 = I p ∧ s.tmps 14 = I h:=by
        subst hA
        rcases hcase with rfl | ⟨k,y,e,rfl,y0,y1,he,he0⟩
        · simp (maxSteps:=999999) only [E0,seval,-Int.reduceNatCast',NUM,SELT,INTS,Nat.zero_add,Nat.zero_le,List.length_map,List.length_set,Int.toNat_natCast,Int.add_sub_cancel,h0,h1',h2,h3,h4,hd,hf,hrow,h13,x1,ll]
          refine ⟨_,rfl,⟨L1,hp,hrow,hQ⟩,?_⟩
          simp (maxSteps:=999999) only [E0,seval,-Int.reduceNatCast',h0,h1',h2,h3,h4,hd,hf,h10,h11,h12,h13,h14]
          rfl
        · have h1s : s.tmps 1 = I ((k : Int) + 1):=by rw [h1']; congr 1
          simp (maxSteps:=999999) only [E0,seval,-Int.reduceNatCast',NUM,SELT,INTS,Nat.zero_add,Nat.zero_le,List.length_map,List.length_set,Int.toNat_natCast,Int.add_sub_cancel,h0,h1s,h2,h3,h4,hd,hf,hrow,h13,x1,y1,he,he0,ll,(show (0 : Int) < (k : Int) + 1 by omega),(show (0 : Int) ≤ k by omega),(show (k : Int) < L.length by omega),(show (0 : Int) ≤ p by omega),(show (p : Int) < L.length by omega),(i64_in (x:=(k : Int)) (by unfold I64; omega))]
          refine ⟨_,rfl,⟨L1,hp,hrow,hQ⟩,?_⟩
          simp (maxSteps:=999999) only [E0,seval,-Int.reduceNatCast',h0,h1',h2,h3,h4,hd,hf,h10,h11,h12,h13,h14]
      rw [seqK_normal] at hW
      have h1n : 1 < s.H.next:=by have:=hQ.nx; omega
      obtain ⟨H2,L2,d,o,e2,hd2,p2,r2,Q2⟩:=q_part L1 (hB.perm hp) L.length a1 b1 p hp.length_eq.symm (by omega) (by omega) (by omega) (by omega) s.H hrow h1n
      have hq : (m : Int).tdiv 8 = ((m / 8 : Nat) : Int):=by
        rw [Int.tdiv_eq_ediv_of_nonneg (by omega)]
        omega
      have m8 : m / 8 ≤ m:=Nat.div_le_self _ _
      by_cases hlr : (d : Int) - a1 < (b1 : Int) - d
      · obtain ⟨H3,L3,e3,p3,r3,Q3⟩:=ih (d - a1) (by omega) L2 ((hB.perm hp).perm p2) L.length a1 d l2 (by rw [p2.length_eq,hp.length_eq]) (by omega) (by omega) (by omega) (Nat.le_refl _) hl2 H2 r2 (by have:=Q2.nx; omega)
        simp (maxSteps:=999999) only [E0,seval,-Int.reduceNatCast',NUM,h0,h1',h2,h3,h4,hd,hf,h12,h13,e2,hlr,hq,e3,(show ¬ (8 : Int) = 0 by decide),(show ¬ (8 : Int) = -1 by decide),(i64_in (x:=(d : Int) - a1) (by unfold I64; omega)),(i64_in (x:=(b1 : Int) - d) (by unfold I64; omega)),(i64_in (x:=((m / 8 : Nat) : Int)) (by unfold I64; omega)),(i64_in (x:=(d : Int) + 1) (by unfold I64; omega))] at hW
        subst hW
        refine rd_next (d + 1,b1,l2) ?_ (show b1 - (d + 1) < b1 - a1 by omega)
        refine ⟨by dsimp only; omega,?_,⟨_,by simp (maxSteps:=999999) only [E0,seval,-Int.reduceNatCast']; rfl⟩,⟨_,by simp (maxSteps:=999999) only [E0,seval,-Int.reduceNatCast']; rfl⟩⟩
        unfold PQ
        refine ⟨⟨L3,p3.trans (p2.trans hp),r3,hQ.trans (Q2.trans Q3)⟩,?_⟩
        simp (maxSteps:=999999) only [E0,seval,-Int.reduceNatCast',h0,h2,h3,h4,hd,hf]
        simp
      · obtain ⟨H3,L3,e3,p3,r3,Q3⟩:=ih (b1 - (d + 1)) (by omega) L2 ((hB.perm hp).perm p2) L.length (d + 1) b1 l2 (by rw [p2.length_eq,hp.length_eq]) (by omega) (by omega) (by omega) (Nat.le_refl _) hl2 H2 r2 (by have:=Q2.nx; omega)
        have e3' : callF G Tryz.prog pol 44 [QG L.length,I ((d : Int) + 1),I b1,I l2,CF] H2 = some (.ret (.tup []),H3):=by rw [← e3]; rfl
        simp (maxSteps:=999999) only [E0,seval,-Int.reduceNatCast',NUM,h0,h1',h2,h3,h4,hd,hf,h12,h13,e2,hlr,hq,e3',(show ¬ (8 : Int) = 0 by decide),(show ¬ (8 : Int) = -1 by decide),(i64_in (x:=(d : Int) - a1) (by unfold I64; omega)),(i64_in (x:=(b1 : Int) - d) (by unfold I64; omega)),(i64_in (x:=((m / 8 : Nat) : Int)) (by unfold I64; omega)),(i64_in (x:=(d : Int) + 1) (by unfold I64; omega))] at hW
        subst hW
        refine rd_next (a1,d,l2) ?_ (show d - a1 < b1 - a1 by omega)
        refine ⟨by dsimp only; omega,?_,⟨_,by simp (maxSteps:=999999) only [E0,seval,-Int.reduceNatCast']; rfl⟩,⟨_,by simp (maxSteps:=999999) only [E0,seval,-Int.reduceNatCast']; rfl⟩⟩
        unfold PQ
        refine ⟨⟨L3,p3.trans (p2.trans hp),r3,hQ.trans (Q2.trans Q3)⟩,?_⟩
        simp (maxSteps:=999999) only [E0,seval,-Int.reduceNatCast',h0,h1',h2,h3,h4,hd,hf])
  simp (maxSteps:=999999) only [E0,seval,-Int.reduceNatCast',hd,hf]
  exact ⟨_,L1,rfl,hp,hrow,hQ⟩
theorem q_sort (L : List (List Int)) (hB : LB L) (n : Nat) (hn : n = L.length) (hl : n < 50) (H : Heap) (hr : H.rows 1 = some (RW L)) (h1 : 1 < H.next) :
    ∃ H' L',callF G Tryz.prog pol 24 [QG n,CF] H = some (.ret (.tup []),H') ∧ L'.Perm L ∧ H'.rows 1 = some (RW L') ∧ QS H H':=by
  have hln : LN n ≤ 6:=by
    unfold LN; repeat' split
    all_goals omega
  obtain ⟨H2,L2,e2,p2,r2,Q2⟩:=q_pdq n L hB n 0 n (LN n) hn hl (Nat.le_refl _) (Nat.zero_le _) (by omega) (by omega) ⟨H.rows,H.next + 1⟩ hr (by show 1 < H.next + 1; omega)
  simp (maxSteps:=999999) only [E0,seval,-Int.reduceNatCast',NUM] at e2
  rw [callF_eq _ _ Tryz.func24 rfl Tryz.ntmps24 Tryz.results24 (by kernel_rfl) rfl (by exact Nat.le_of_ble_eq_true rfl)]
  simp (maxSteps:=999999) only [E0,seval,-Int.reduceNatCast',NUM,IntWalk.u64_in (n : Int) (by omega),c_len n hl,e2]
  exact ⟨_,L2,rfl,p2,r2,⟨fun i hi h => Q2.fr i (by show i < H.next + 1; omega) h,by have:=Q2.nx; simp only at this; omega⟩⟩
theorem BITS_stop {n i : Nat} (h : n / 2 ^ i = 0) : ∀ {m : Nat},i ≤ m → BITS n m = BITS n i
  | 0,hm => by
    have : i = 0:=by omega
    rw [this]
  | m + 1,hm => by
    by_cases e : i = m + 1
    · rw [e]
    · have hz : n / 2 ^ m = 0:=by
        have : n / 2 ^ m ≤ n / 2 ^ i:=Nat.div_le_div_left (Nat.pow_le_pow_right (by decide) (by omega)) (Nat.pow_pos (by decide))
        rw [h] at this
        exact Nat.le_zero.1 this
      rw [BITS,BITS_stop h (by omega),hz]
      simp
set_option maxHeartbeats 4000000 in
theorem c_members (n m : Nat) (hm : m ≤ 12) (hn : n < 2 ^ m) : ap Tryz.prog pol 23 [I n] = some (.ret (elt (BITS n m))):=by
  have p0 : 2 ^ m ≤ 2 ^ 12:=Nat.pow_le_pow_right (by decide) hm
  have p1 : (2 : Nat) ^ 12 = 4096:=by decide
  rw [ap_eq _ Tryz.func23 rfl Tryz.ntmps23 Tryz.results23 (by kernel_rfl) rfl (by exact Nat.le_of_ble_eq_true rfl)]
  simp (maxSteps:=999999) only [E0,seval,-Int.reduceNatCast',NUM]
  generalize hL : W _ (.loop _) _ = L
  obtain ⟨ex,s,rfl,rfl,i,him,hz,⟨r2,h2,hr2⟩,hd,hf⟩:=loop_at hL (α:=Nat) (fun i => m - i)
    (fun s0 i s => i ≤ m ∧ (∃ r2,s.tmps 2 = .gsl 1 r2 (BITS n i).length 0 (BITS n i).length ∧ s.H.rows r2 = some (.gro 1 ((BITS n i).map I) 0) ∧ r2 < s.H.next) ∧ s.tmps 3 = I i ∧ s.tmps 0 = I n ∧ s.defers = [] ∧ s.fid = 0)
    (fun s0 ex s => ex = .exit 0 ∧ ∃ i,i ≤ m ∧ n / 2 ^ i = 0 ∧ (∃ r2,s.tmps 2 = .gsl 1 r2 (BITS n i).length 0 (BITS n i).length ∧ s.H.rows r2 = some (.gro 1 ((BITS n i).map I) 0)) ∧ s.defers = [] ∧ s.fid = 0) 0
    (by simp (maxSteps:=999999) only [E0,seval,-Int.reduceNatCast',NUM]
        exact ⟨Nat.zero_le _,_,rfl,by simp (maxSteps:=999999) only [E0,seval,-Int.reduceNatCast']; rfl,by decide⟩) (by
      rintro i s r hW ⟨hi,⟨r2,h2,hr2,hl2⟩,h3,h0,hd,hf⟩
      have sh:=SHRn n i (by omega)
      by_cases hz : n / 2 ^ i = 0
      · simp (maxSteps:=999999) only [E0,seval,-Int.reduceNatCast',NUM,h3,h0,hd,hf,sh,hz,Int.toNat_natCast,(show ¬ (i : Int) < 0 by omega)] at hW
        subst hW
        refine rd_exit ⟨rfl,i,hi,hz,⟨r2,?_,?_⟩,?_,?_⟩ <;> simp (maxSteps:=999999) only [E0,seval,-Int.reduceNatCast',h2,hr2,hd,hf]
      have him : i < m:=by
        rcases Nat.lt_or_ge i m with h | h
        · exact h
        · exfalso
          apply hz
          have : 2 ^ m ≤ 2 ^ i:=Nat.pow_le_pow_right (by decide) h
          exact Nat.div_eq_of_lt (by omega)
      have nn : n / 2 ^ i < 9223372036854775808:=Nat.lt_of_le_of_lt (Nat.div_le_self _ _) (by omega)
      have an:=AND1 (n / 2 ^ i) nn
      have bb:=BITS_len n i
      have hpos : (0 : Int) < ((n / 2 ^ i : Nat) : Int):=Int.natCast_pos.2 (Nat.pos_of_ne_zero hz)
      by_cases hbit : n / 2 ^ i % 2 = 1
      · have al : ([I (i : Int)].all fun e => e.fits 1) = true:=by simp [PV.fits,PV.cells]
        simp (maxSteps:=999999) only [E0,seval,-Int.reduceNatCast',NUM,h2,hr2,h3,h0,hd,hf,sh,an,hpos,hbit,al,List.length_map,Int.toNat_natCast,(show ¬ (i : Int) < 0 by omega),(show (0 : Int) ≤ i by omega),(i64_in (x:=(i : Int) + 1) (by unfold I64; omega)),Nat.zero_add,(show (BITS n i).length + 1 ≤ 67108864 by omega),(show (BITS n i).length ≤ 67108863 by omega)] at hW
        subst hW
        refine rd_next (i + 1) ?_ (show m - (i + 1) < m - i by omega)
        simp (maxSteps:=999999) only [E0,seval,-Int.reduceNatCast',h0,hd]
        have eB : BITS n (i + 1) = BITS n i ++ [(i : Int)]:=by rw [BITS,if_pos hbit]
        rw [eB]
        exact ⟨by omega,⟨r2,by simp,by simp (maxSteps:=999999) only [E0,seval,-Int.reduceNatCast',List.map_append,List.map_cons,List.map_nil],hl2⟩,by simp⟩
      · simp (maxSteps:=999999) only [E0,seval,-Int.reduceNatCast',NUM,h2,hr2,h3,h0,hd,hf,sh,an,hpos,List.length_map,Int.toNat_natCast,(show ¬ ((n / 2 ^ i % 2 : Nat) : Int) = 1 by omega),(show ¬ (i : Int) < 0 by omega),(show (0 : Int) ≤ i by omega),(i64_in (x:=(i : Int) + 1) (by unfold I64; omega))] at hW
        subst hW
        refine rd_next (i + 1) ?_ (show m - (i + 1) < m - i by omega)
        simp (maxSteps:=999999) only [E0,seval,-Int.reduceNatCast',h2,h0,hd]
        have eB : BITS n (i + 1) = BITS n i:=by rw [BITS,if_neg hbit,List.append_nil]
        rw [eB]
        exact ⟨by omega,⟨r2,rfl,hr2,hl2⟩,by simp⟩)
  rw [← BITS_stop hz him] at h2 hr2
  have mp : ((BITS n m).map I).map (strip1 s.H) = (BITS n m).map I:=INTS.2.2.2.1 s.H _
  simp (maxSteps:=999999) only [E0,seval,-Int.reduceNatCast',hd,hf,h2,hr2,List.take_of_length_le,List.length_map,Nat.le_refl,List.drop_zero,Nat.zero_add,mp]
set_option maxHeartbeats 8000000 in
theorem c_cp10 : ap Tryz.prog pol 25 [.vs 1 [I 1] none,.vs 1 [I 0] none] = some (.ret (I 1)):=by
  rw [ap_eq _ Tryz.func25 rfl Tryz.ntmps25 Tryz.results25 (by kernel_rfl) rfl (by exact Nat.le_of_ble_eq_true rfl)]
  have c1 : CMP 1 0 = 1:=by decide
  simp (maxSteps:=999999) only [E0,seval,-Int.reduceNatCast',NUM,WW_loop,List.map_cons,List.map_nil,c_compare,c1]
section
variable {M : List PV} (f0 : M[0]? = some (elt [0])) (f1 : M[1]? = some (elt [1])) (hl : M.length = 2)
include f0 f1 hl
set_option maxHeartbeats 8000000 in
theorem q_two1 (H : Heap) (hr : H.rows 1 = some (.gro 1 M 0)) (R : Option (CR × Heap)) (hX : callF G Tryz.prog pol 64 [QG 2,I 0,I 2,CF] H = R) :
    R = some (.ret (.tup []),⟨H.rows,H.next + 1⟩):=by
  rw [callF_eq _ _ Tryz.func64 rfl Tryz.ntmps64 Tryz.results64 (by kernel_rfl) rfl (by exact Nat.le_of_ble_eq_true rfl)] at hX
  simp (maxSteps:=999999) only [E0,seval,-Int.reduceNatCast',NUM,SELT,INTS,WW_loop,hr,hl,f0,f1,c_cp10] at hX
  exact hX.symm
set_option maxHeartbeats 8000000 in
theorem q_two2 (H : Heap) (hr : H.rows 1 = some (.gro 1 M 0)) (R : Option (CR × Heap)) (hX : callF G Tryz.prog pol 44 [QG 2,I 0,I 2,I 2,CF] H = R) :
    R = some (.ret (.tup []),⟨H.rows,H.next + 1 + 1⟩):=by
  have e1:=q_two1 f0 f1 hl ⟨H.rows,H.next + 1⟩ hr _ rfl
  rw [callF_eq _ _ Tryz.func44 rfl Tryz.ntmps44 Tryz.results44 (by kernel_rfl) rfl (by exact Nat.le_of_ble_eq_true rfl)] at hX
  simp (maxSteps:=999999) only [E0,seval,-Int.reduceNatCast',NUM] at hX
  rw [WW_loop] at hX
  simp (maxSteps:=999999) only [E0,seval,-Int.reduceNatCast',NUM,e1] at hX
  exact hX.symm
set_option maxHeartbeats 8000000 in
theorem q_two (H : Heap) (hr : H.rows 1 = some (.gro 1 M 0)) : callF G Tryz.prog pol 24 [QG 2,CF] H = some (.ret (.tup []),⟨H.rows,H.next + 1 + 1 + 1⟩):=by
  have e2 : ap Tryz.prog pol 45 [U 2] = some (.ret (I 2)):=c_len 2 (by decide)
  have w2 : IntKind.u64.wrap 2 = 2:=IntWalk.u64_in 2 (by decide)
  have e1:=q_two2 f0 f1 hl ⟨H.rows,H.next + 1⟩ hr _ rfl
  rw [callF_eq _ _ Tryz.func24 rfl Tryz.ntmps24 Tryz.results24 (by kernel_rfl) rfl (by exact Nat.le_of_ble_eq_true rfl)]
  simp (maxSteps:=999999) only [E0,seval,-Int.reduceNatCast',NUM,e2,w2,e1]
end
def SETB : Int → Nat → List Int → Nat × Bool
  | _,s,[] => (s,true)
  | last,s,x :: r => if x ≤ last ∨ 12 ≤ x then (0,false) else SETB x (s ||| 2 ^ x.toNat) r
theorem SETB_lt : ∀ (l : List Int) (last : Int) (s : Nat),-1 ≤ last → s < 4096 → (SETB last s l).1 < 4096
  | [],_,s,_,h => h
  | x :: r,last,s,hl,h => by
    unfold SETB
    split
    · decide
    · next hx =>
      refine SETB_lt r x _ (by omega) (Nat.or_lt_two_pow (n:=12) h ?_)
      exact Nat.pow_lt_pow_right (by decide) (by omega)
theorem SETB_mem : ∀ (l : List Int) (last : Int) (s : Nat),-1 ≤ last → (SETB last s l).2 = true → ∀ i : Nat,(SETB last s l).1.testBit i = true ↔ s.testBit i = true ∨ (i : Int) ∈ l
  | [],_,s,_,_,i => by simp [SETB]
  | x :: r,last,s,hl,h,i => by
    unfold SETB at h ⊢
    split at h
    · cases h
    · next hx =>
      rw [if_neg hx,SETB_mem r x _ (by omega) h i,Nat.testBit_or,Nat.testBit_two_pow]
      simp only [Bool.or_eq_true,decide_eq_true_eq,List.mem_cons]
      constructor
      · rintro ((h | h) | h)
        · exact .inl h
        · exact .inr (.inl (by omega))
        · exact .inr (.inr h)
      · rintro (h | h | h)
        · exact .inl (.inl h)
        · exact .inl (.inr (by omega))
        · exact .inr h
theorem SETB_ok : ∀ (l : List Int) (last : Int) (s : Nat),SOK 12 last l → (SETB last s l).2 = true
  | [],_,_,_ => rfl
  | x :: r,last,s,h => by
    unfold SETB
    rw [if_neg (by have:=h.1; have:=h.2.1; omega)]
    exact SETB_ok r x _ h.2.2
set_option maxHeartbeats 4000000 in
theorem c_set (l : List Int) (v : PV) (hv : RV l v) (hl : l.length ≤ 9223372036854775807) : ap Tryz.prog pol 35 [v] = some (.ret (.tup [I (SETB (-1) 0 l).1,.bool (SETB (-1) 0 l).2])):=by
  have rv:=RVS hv
  rw [ap_eq _ Tryz.func35 rfl Tryz.ntmps35 Tryz.results35 (by kernel_rfl) rfl (by exact Nat.le_of_ble_eq_true rfl)]
  simp (maxSteps:=999999) only [E0,seval,-Int.reduceNatCast',NUM,rv]
  generalize hL : W _ (.loop _) _ = L
  obtain ⟨ex,s,rfl,hex,hd,hf⟩:=loop_at hL (α:=Nat × Int × Nat) (fun k => l.length - k.1)
    (fun s0 k s => k.1 ≤ l.length ∧ (SETB (-1) 0 l = SETB k.2.1 k.2.2 (l.drop k.1) ∧ -1 ≤ k.2.1 ∧ k.2.2 < 4096) ∧ s.tmps 9 = I k.1 ∧ s.tmps 8 = I l.length ∧ s.tmps 7 = v ∧ s.tmps 4 = I k.2.1 ∧ s.tmps 2 = I k.2.2 ∧ s.defers = [] ∧ s.fid = 0)
    (fun s0 ex s => ((ex = .exit 0 ∧ (SETB (-1) 0 l).2 = true ∧ s.tmps 2 = I (SETB (-1) 0 l).1) ∨ (ex = .ret ∧ SETB (-1) 0 l = (0,false) ∧ s.tmps 2 = I 0 ∧ s.tmps 3 = .bool false)) ∧ s.defers = [] ∧ s.fid = 0) (0,-1,0)
    (by simp (maxSteps:=999999) only [E0,seval,-Int.reduceNatCast',NUM]
        exact Nat.zero_le _) (by
      rintro ⟨j,last,b⟩ s r hW ⟨hj,⟨hS,hla,hb⟩,h9,h8,h7,h4,h2,hd,hf⟩
      dsimp only at hj hS hla hb h9 h4 h2
      by_cases hp : j < l.length
      rotate_left
      · simp (maxSteps:=999999) only [E0,seval,-Int.reduceNatCast',NUM,h9,h8,hd,hf,(show ¬ (j : Int) < l.length by omega)] at hW
        subst hW
        rw [List.drop_eq_nil_of_le (by omega)] at hS
        refine rd_exit ⟨.inl ⟨rfl,by rw [hS]; rfl,?_⟩,?_⟩
        · simp (maxSteps:=999999) only [E0,seval,-Int.reduceNatCast',h2,hS,SETB]
        · simp (maxSteps:=999999) only [E0,seval,-Int.reduceNatCast',hd,hf]
      have e0 : l[j]? = some l[j]:=List.getElem?_eq_getElem hp
      have e1:=ints_get e0
      generalize l[j] = x at *
      obtain ⟨cc,hc⟩ : ∃ cc,v = .vs 1 (l.map I) cc:=by
        rcases hv with h | ⟨h,_⟩
        · exact h
        · rw [h] at hp; simp at hp
      rw [hc] at h7
      rw [drop_cons e0] at hS
      by_cases hx1 : x ≤ last
      · simp (maxSteps:=999999) only [E0,seval,-Int.reduceNatCast',NUM,h9,h8,h7,h4,h2,hd,hf,e1,hx1,List.length_map,Int.toNat_natCast,(show (j : Int) < l.length by omega),(show (0 : Int) ≤ j by omega)] at hW
        subst hW
        refine rd_ret ⟨.inr ⟨rfl,by rw [hS,SETB,if_pos (.inl hx1)],?_⟩,?_⟩ <;> simp (maxSteps:=999999) only [E0,seval,-Int.reduceNatCast',hd,hf]
      by_cases hx2 : 12 ≤ x
      · simp (maxSteps:=999999) only [E0,seval,-Int.reduceNatCast',NUM,h9,h8,h7,h4,h2,hd,hf,e1,hx1,hx2,List.length_map,Int.toNat_natCast,(show (j : Int) < l.length by omega),(show (0 : Int) ≤ j by omega)] at hW
        subst hW
        refine rd_ret ⟨.inr ⟨rfl,by rw [hS,SETB,if_pos (.inr hx2)],?_⟩,?_⟩ <;> simp (maxSteps:=999999) only [E0,seval,-Int.reduceNatCast',hd,hf]
      obtain ⟨i,rfl⟩:=Int.eq_ofNat_of_zero_le (show 0 ≤ x by omega)
      have hi : i < 12:=by omega
      have sl:=SHLn i (by omega)
      have pi : 2 ^ i ≤ 2 ^ 11:=Nat.pow_le_pow_right (by decide) (by omega)
      have oc:=ORc b (2 ^ i) (by omega) (by omega)
      simp (maxSteps:=999999) only [E0,seval,-Int.reduceNatCast',NUM,h9,h8,h7,h4,h2,hd,hf,e1,hx1,hx2,sl,oc,List.length_map,Int.toNat_natCast,(show (j : Int) < l.length by omega),(show (0 : Int) ≤ j by omega),(show ¬ (i : Int) < 0 by omega),(i64_in (x:=(j : Int) + 1) (by unfold I64; omega))] at hW
      subst hW
      refine rd_next (j + 1,(i : Int),b ||| 2 ^ i) ?_ (show l.length - (j + 1) < l.length - j by omega)
      simp (maxSteps:=999999) only [E0,seval,-Int.reduceNatCast',h8,hd]
      refine ⟨by omega,⟨?_,by omega,Nat.or_lt_two_pow (n:=12) hb (Nat.pow_lt_pow_right (by decide) (by omega))⟩,by simp,h7.trans hc.symm⟩
      rw [hS,SETB,if_neg (by omega)]
      rfl)
  rcases hex with ⟨rfl,hg,h2⟩ | ⟨rfl,hg,h2,h3⟩
  · simp (maxSteps:=999999) only [E0,seval,-Int.reduceNatCast',hd,hf,h2,hg]
  · simp (maxSteps:=999999) only [E0,seval,-Int.reduceNatCast',hd,hf,h2,h3,hg]
    rfl
def TZ (s : Nat) : Nat:=((List.range 12).find? fun i => s / 2 ^ i % 2 = 1).getD 0
theorem TZ_list (s : Nat) (h : s < 4096) (h0 : s ≠ 0) : BITS s 12 = (TZ s : Int) :: BITS (s &&& (s - 1)) 12 ∧ TZ s < 12 ∧ s &&& (s - 1) < s:=by
  have k : (List.range 4096).all (fun s => s == 0 || (decide (BITS s 12 = (TZ s : Int) :: BITS (s &&& (s - 1)) 12) && decide (TZ s < 12) && decide (s &&& (s - 1) < s))) = true:=by kernel_rfl
  have:=List.all_eq_true.1 k s (List.mem_range.2 h)
  simpa [h0,and_assoc] using this
def GLN : List Nat:=(globs 1).map fun v => match v with
  | .int _ n => n.toNat
  | _ => 0
abbrev GL : List PV:=GLN.map fun (n : Nat) => PV.int .u8 n
theorem GLOB (s : St) : evS s (.global 1) = .rop GL:=by kernel_rfl
def TZK (s : Nat) : Int:=(IntKind.u64.wrap (IntKind.u64.wrap ↑(BitVec.ofInt IntKind.u64.bits (s : Int) &&& BitVec.ofInt IntKind.u64.bits (IntKind.u64.wrap (0 - (s : Int)))).toNat * 285870213051353865)).fdiv (2 ^ min 58 IntKind.u64.bits)
theorem TZK_ok (s : Nat) (h : s < 4096) (h0 : s ≠ 0) : ∃ k : Nat,TZK s = (k : Int) ∧ k < 64 ∧ GLN[k]? = some (TZ s):=by
  have k : (List.range 4096).all (fun s => s == 0 || (decide (0 ≤ TZK s) && decide ((TZK s).toNat < 64) && decide (GLN[(TZK s).toNat]? = some (TZ s)))) = true:=by kernel_rfl
  have:=List.all_eq_true.1 k s (List.mem_range.2 h)
  have h3 : (0 ≤ TZK s ∧ (TZK s).toNat < 64) ∧ GLN[(TZK s).toNat]? = some (TZ s):=by simpa [h0] using this
  exact ⟨(TZK s).toNat,(Int.toNat_of_nonneg h3.1.1).symm,h3.1.2,h3.2⟩
theorem c_tz (s : Nat) (h : s < 4096) (h0 : s ≠ 0) : ap Tryz.prog pol 102 [U s] = some (.ret (I (TZ s))):=by
  obtain ⟨k,hk,hk64,hg⟩:=TZK_ok s h h0
  unfold TZK at hk
  have tz:=(TZ_list s h h0).2.1
  have gl : GL.length = 64:=by kernel_rfl
  have hg' : GL.drop k = PV.int .u8 (TZ s : Nat) :: GL.drop (k + 1):=by
    have e : GL[k]? = some (PV.int .u8 (TZ s : Nat)):=by rw [List.getElem?_map,hg]; rfl
    obtain ⟨h1,h2⟩:=List.getElem?_eq_some_iff.1 e
    rw [List.drop_eq_getElem_cons h1,h2]
  generalize GL.drop (k + 1) = G1 at hg'
  rw [ap_eq _ Tryz.func102 rfl Tryz.ntmps102 Tryz.results102 (by kernel_rfl) rfl (by exact Nat.le_of_ble_eq_true rfl)]
  simp (maxSteps:=999999) only [E0,seval,-Int.reduceNatCast',NUM,(show ¬ (s : Int) = 0 by omega),GLOB,hk,hg',gl,Nat.zero_add,Nat.mul_one,Int.toNat_natCast,(show (0 : Int) ≤ k by omega),(show (k : Int) < 64 by omega),IntWalk.i64_in (TZ s : Int) (by omega)]
  rw [if_pos (show (k : Int) < ((64 : Nat) : Int) by omega)]
theorem c_tz0 (s : Nat) (h : s < 4096) (h0 : s ≠ 0) : ap Tryz.prog pol 81 [U s] = some (.ret (I (TZ s))):=by
  rw [ap_eq _ Tryz.func81 rfl Tryz.ntmps81 Tryz.results81 (by kernel_rfl) rfl (by exact Nat.le_of_ble_eq_true rfl)]
  simp (maxSteps:=999999) only [E0,seval,-Int.reduceNatCast',NUM,c_tz s h h0]
set_option maxHeartbeats 4000000 in
theorem c_list (n : Nat) (hn : n < 4096) : ap Tryz.prog pol 56 [I n] = some (.ret (elt (BITS n 12))):=by
  rw [ap_eq _ Tryz.func56 rfl Tryz.ntmps56 Tryz.results56 (by kernel_rfl) rfl (by exact Nat.le_of_ble_eq_true rfl)]
  simp (maxSteps:=999999) only [E0,seval,-Int.reduceNatCast',NUM]
  generalize hL : W _ (.loop _) _ = L
  obtain ⟨ex,s,rfl,rfl,⟨r2,h2,hr2⟩,hd,hf⟩:=loop_at hL (α:=Nat × List Int) (fun k => k.1)
    (fun s0 k s => (k.1 < 4096 ∧ k.2 ++ BITS k.1 12 = BITS n 12) ∧ (∃ r2,s.tmps 2 = .gsl 1 r2 k.2.length 0 k.2.length ∧ s.H.rows r2 = some (.gro 1 (k.2.map I) 0) ∧ r2 < s.H.next) ∧ s.tmps 0 = I k.1 ∧ s.defers = [] ∧ s.fid = 0)
    (fun s0 ex s => ex = .exit 0 ∧ (∃ r2,s.tmps 2 = .gsl 1 r2 (BITS n 12).length 0 (BITS n 12).length ∧ s.H.rows r2 = some (.gro 1 ((BITS n 12).map I) 0)) ∧ s.defers = [] ∧ s.fid = 0) (n,[])
    (by simp (maxSteps:=999999) only [E0,seval,-Int.reduceNatCast',NUM]
        exact ⟨hn,_,rfl,by simp (maxSteps:=999999) only [E0,seval,-Int.reduceNatCast',List.map_nil],by decide⟩) (by
      rintro ⟨m,l⟩ s r hW ⟨⟨hm,hl⟩,⟨r2,h2,hr2,hl2⟩,h0,hd,hf⟩
      dsimp only at hm hl h2 hr2 h0
      by_cases hz : m = 0
      · subst hz
        have e0 : BITS 0 12 = []:=by decide
        rw [e0,List.append_nil] at hl
        simp (maxSteps:=999999) only [E0,seval,-Int.reduceNatCast',NUM,h0,hd,hf] at hW
        subst hW
        rw [← hl]
        refine rd_exit ⟨rfl,⟨r2,?_,?_⟩,?_,?_⟩ <;> simp (maxSteps:=999999) only [E0,seval,-Int.reduceNatCast',h2,hr2,hd,hf]
      obtain ⟨hb,ht,hlt⟩:=TZ_list m hm hz
      have hll : l.length ≤ 12:=by
        have:=congrArg List.length hl
        rw [List.length_append] at this
        have:=BITS_len n 12
        omega
      have ac:=ANDc m (m - 1) (by omega) (by omega)
      have em : ((m : Int) - 1) = ((m - 1 : Nat) : Int):=by omega
      have w1:=i64_in (x:=((m - 1 : Nat) : Int)) (by unfold I64; omega)
      have al : ([I (TZ m : Int)].all fun e => e.fits 1) = true:=by simp [PV.fits,PV.cells]
      simp (maxSteps:=999999) only [E0,seval,-Int.reduceNatCast',NUM,h2,hr2,h0,hd,hf,em,w1,ac,al,c_tz0 m hm hz,IntWalk.u64_in (m : Int) (by omega),List.length_map,Nat.zero_add,(show ¬ (m : Int) = 0 by omega),(show l.length + 1 ≤ 67108864 by omega),(show l.length ≤ 67108863 by omega)] at hW
      subst hW
      refine rd_next (m &&& (m - 1),l ++ [(TZ m : Int)]) ?_ hlt
      simp (maxSteps:=999999) only [E0,seval,-Int.reduceNatCast',hd]
      refine ⟨⟨by omega,?_⟩,⟨r2,by simp,by simp (maxSteps:=999999) only [E0,seval,-Int.reduceNatCast',List.map_append,List.map_cons,List.map_nil],hl2⟩⟩
      rw [List.append_assoc]
      rw [hb] at hl
      exact hl)
  have mp : ((BITS n 12).map I).map (strip1 s.H) = (BITS n 12).map I:=INTS.2.2.2.1 s.H _
  simp (maxSteps:=999999) only [E0,seval,-Int.reduceNatCast',hd,hf,h2,hr2,List.take_of_length_le,List.length_map,Nat.le_refl,List.drop_zero,Nat.zero_add,mp]
set_option maxHeartbeats 4000000 in
theorem c_equal1 (l : List Int) (c : Option Nat) (hl : l.length ≤ 1000) : ap Tryz.prog pol 59 [.vs 1 (l.map I) c,elt l] = some (.ret (.bool true)):=by
  rw [ap_eq _ Tryz.func59 rfl Tryz.ntmps59 Tryz.results59 (by kernel_rfl) rfl (by exact Nat.le_of_ble_eq_true rfl)]
  simp (maxSteps:=999999) only [E0,seval,-Int.reduceNatCast',NUM,List.length_map]
  generalize hL : W _ (.loop _) _ = L
  obtain ⟨ex,s,rfl,rfl,hd,hf⟩:=loop_at hL (α:=Nat) (fun j => l.length - j)
    (fun s0 j s => j ≤ l.length ∧ s.tmps 13 = I j ∧ s.tmps 12 = I l.length ∧ s.tmps 0 = .vs 1 (l.map I) c ∧ s.tmps 1 = elt l ∧ s.defers = [] ∧ s.fid = 0)
    (fun s0 ex s => ex = .exit 0 ∧ s.defers = [] ∧ s.fid = 0) 0
    (by simp (maxSteps:=999999) only [E0,seval,-Int.reduceNatCast',NUM]; exact Nat.zero_le _) (by
      rintro j s r hW ⟨hj,h13,h12,h0,h1,hd,hf⟩
      by_cases hp : j < l.length
      rotate_left
      · simp (maxSteps:=999999) only [E0,seval,-Int.reduceNatCast',NUM,h13,h12,hd,hf,(show ¬ (j : Int) < l.length by omega)] at hW
        subst hW
        refine rd_exit ⟨rfl,?_,?_⟩ <;> simp (maxSteps:=999999) only [E0,seval,-Int.reduceNatCast',hd,hf]
      have e0 : l[j]? = some l[j]:=List.getElem?_eq_getElem hp
      have e1:=ints_get e0
      generalize l[j] = x at *
      simp (maxSteps:=999999) only [E0,seval,-Int.reduceNatCast',NUM,h13,h12,h0,h1,hd,hf,e1,List.length_map,Int.toNat_natCast,(show (j : Int) < l.length by omega),(show (0 : Int) ≤ j by omega),(i64_in (x:=(j : Int) + 1) (by unfold I64; omega))] at hW
      subst hW
      refine rd_next (j + 1) ?_ (show l.length - (j + 1) < l.length - j by omega)
      simp (maxSteps:=999999) only [E0,seval,-Int.reduceNatCast',h12,h0,h1,hd]
      exact ⟨by omega,by simp⟩)
  simp (maxSteps:=999999) only [E0,seval,-Int.reduceNatCast',hd,hf]
set_option maxHeartbeats 4000000 in
theorem c_index1 (l : List Int) (x : Int) (c : Option Nat) (hl : l.length ≤ 1000) : ∃ i,ap Tryz.prog pol 80 [.vs 1 (l.map I) c,I x] = some (.ret (I i)):=by
  rw [ap_eq _ Tryz.func80 rfl Tryz.ntmps80 Tryz.results80 (by kernel_rfl) rfl (by exact Nat.le_of_ble_eq_true rfl)]
  simp (maxSteps:=999999) only [E0,seval,-Int.reduceNatCast',NUM,List.length_map]
  generalize hL : W _ (.loop _) _ = L
  obtain ⟨ex,s,rfl,hex,hd,hf⟩:=loop_at hL (α:=Nat) (fun j => l.length - j)
    (fun s0 j s => j ≤ l.length ∧ s.tmps 8 = I j ∧ s.tmps 7 = I l.length ∧ s.tmps 0 = .vs 1 (l.map I) c ∧ s.tmps 1 = I x ∧ s.defers = [] ∧ s.fid = 0)
    (fun s0 ex s => (ex = .exit 0 ∨ (ex = .ret ∧ ∃ i : Int,s.tmps 4 = I i)) ∧ s.defers = [] ∧ s.fid = 0) 0
    (by simp (maxSteps:=999999) only [E0,seval,-Int.reduceNatCast',NUM]; exact Nat.zero_le _) (by
      rintro j s r hW ⟨hj,h8,h7,h0,h1,hd,hf⟩
      by_cases hp : j < l.length
      rotate_left
      · simp (maxSteps:=999999) only [E0,seval,-Int.reduceNatCast',NUM,h8,h7,hd,hf,(show ¬ (j : Int) < l.length by omega)] at hW
        subst hW
        refine rd_exit ⟨.inl rfl,?_,?_⟩ <;> simp (maxSteps:=999999) only [E0,seval,-Int.reduceNatCast',hd,hf]
      have e0 : l[j]? = some l[j]:=List.getElem?_eq_getElem hp
      have e1:=ints_get e0
      generalize l[j] = y at *
      by_cases hxy : x = y
      · simp (maxSteps:=999999) only [E0,seval,-Int.reduceNatCast',NUM,h8,h7,h0,h1,hd,hf,e1,hxy,List.length_map,Int.toNat_natCast,(show (j : Int) < l.length by omega),(show (0 : Int) ≤ j by omega)] at hW
        subst hW
        refine rd_ret ⟨.inr ⟨rfl,j,?_⟩,?_,?_⟩ <;> simp (maxSteps:=999999) only [E0,seval,-Int.reduceNatCast',hd,hf]
      · simp (maxSteps:=999999) only [E0,seval,-Int.reduceNatCast',NUM,h8,h7,h0,h1,hd,hf,e1,hxy,List.length_map,Int.toNat_natCast,(show (j : Int) < l.length by omega),(show (0 : Int) ≤ j by omega),(i64_in (x:=(j : Int) + 1) (by unfold I64; omega))] at hW
        subst hW
        refine rd_next (j + 1) ?_ (show l.length - (j + 1) < l.length - j by omega)
        simp (maxSteps:=999999) only [E0,seval,-Int.reduceNatCast',h7,h0,h1,hd]
        exact ⟨by omega,by simp⟩)
  rcases hex with rfl | ⟨rfl,i,h4⟩
  · simp (maxSteps:=999999) only [E0,seval,-Int.reduceNatCast',hd,hf]
    exact ⟨_,rfl⟩
  · simp (maxSteps:=999999) only [E0,seval,-Int.reduceNatCast',hd,hf,h4]
    exact ⟨i,rfl⟩
theorem c_contains1 (l : List Int) (x : Int) (c : Option Nat) (hl : l.length ≤ 1000) : ∃ b : Bool,ap Tryz.prog pol 55 [.vs 1 (l.map I) c,I x] = some (.ret (.bool b)):=by
  obtain ⟨i,e⟩:=c_index1 l x c hl
  rw [ap_eq _ Tryz.func55 rfl Tryz.ntmps55 Tryz.results55 (by kernel_rfl) rfl (by exact Nat.le_of_ble_eq_true rfl)]
  by_cases h : 0 ≤ i
  · simp (maxSteps:=999999) only [E0,seval,-Int.reduceNatCast',NUM,INTS,e,h]
    exact ⟨_,rfl⟩
  · simp (maxSteps:=999999) only [E0,seval,-Int.reduceNatCast',NUM,INTS,e,h]
    exact ⟨_,rfl⟩
theorem c_contains0 (x : Int) : ∃ b : Bool,ap Tryz.prog pol 55 [.nils,I x] = some (.ret (.bool b)):=by
  have e : ∃ i,ap Tryz.prog pol 80 [.nils,I x] = some (.ret (I i)):=by
    rw [ap_eq _ Tryz.func80 rfl Tryz.ntmps80 Tryz.results80 (by kernel_rfl) rfl (by exact Nat.le_of_ble_eq_true rfl)]
    simp (maxSteps:=999999) only [E0,seval,-Int.reduceNatCast',NUM,WW_loop]
    exact ⟨_,rfl⟩
  obtain ⟨i,e⟩:=e
  rw [ap_eq _ Tryz.func55 rfl Tryz.ntmps55 Tryz.results55 (by kernel_rfl) rfl (by exact Nat.le_of_ble_eq_true rfl)]
  by_cases h : 0 ≤ i
  · simp (maxSteps:=999999) only [E0,seval,-Int.reduceNatCast',NUM,e,h]
    exact ⟨_,rfl⟩
  · simp (maxSteps:=999999) only [E0,seval,-Int.reduceNatCast',NUM,e,h]
    exact ⟨_,rfl⟩
structure Prb where
  (cost : Int) (set : List Int) (v : PV)
abbrev prb (p : Prb) : PV:=.agg [I p.cost,p.v]
def PS (p : Prb) : Nat:=(SETB (-1) 0 p.set).1
def SHB (s : Nat) (T : List Nat) : Nat → Nat
  | 0 => 0
  | k + 1 => if s &&& T.getD k 0 ≠ 0 then SHB s T k ||| 2 ^ k else SHB s T k
theorem SHB_lt (s : Nat) (T : List Nat) : ∀ k,SHB s T k < 2 ^ k
  | 0 => by simp [SHB]
  | k + 1 => by
    have ih:=SHB_lt s T k
    unfold SHB
    split
    · exact Nat.or_lt_two_pow (Nat.lt_of_lt_of_le ih (Nat.pow_le_pow_right (by decide) (by omega))) (Nat.pow_lt_pow_right (by decide) (by omega))
    · exact Nat.lt_of_lt_of_le ih (Nat.pow_le_pow_right (by decide) (by omega))
theorem SHB_bit (s : Nat) (T : List Nat) (i : Nat) : ∀ k,(SHB s T k).testBit i = true ↔ i < k ∧ s &&& T.getD i 0 ≠ 0
  | 0 => by simp [SHB]
  | k + 1 => by
    unfold SHB
    split
    · next h =>
      rw [Nat.testBit_or,Nat.testBit_two_pow,Bool.or_eq_true,SHB_bit s T i k,decide_eq_true_eq]
      constructor
      · rintro (⟨h1,h2⟩ | rfl)
        · exact ⟨by omega,h2⟩
        · exact ⟨by omega,h⟩
      · rintro ⟨h1,h2⟩
        by_cases e : k = i
        · exact .inr e
        · exact .inl ⟨by omega,h2⟩
    · next h =>
      rw [SHB_bit s T i k]
      constructor
      · rintro ⟨h1,h2⟩; exact ⟨by omega,h2⟩
      · rintro ⟨h1,h2⟩
        by_cases e : i = k
        · subst e; exact absurd h2 h
        · exact ⟨by omega,h2⟩
abbrev Pm:=Nat × Nat × Int
def PMS (T : List Nat) (ps : List Prb) : List Pm:=ps.map fun p => (PS p,SHB (PS p) T T.length,p.cost)
abbrev NI (n : Nat) : PV:=I n
def CELL (P : List Pm) (id : Nat) : PV:=if P = [] then .nils else .gsl 1 id P.length 0 P.length
structure PLH (T : List Nat) (P : List Pm) (H : Heap) : Prop where
  r3 : H.rows 3 = some (.gro 5 [.agg [.gsl 1 4 T.length 0 T.length,CELL P 6,CELL P 7,CELL P 5,.map 2]] 0)
  r4 : ∃ f,H.rows 4 = some (.gro 1 (T.map NI) f)
  r5 : P ≠ [] → H.rows 5 = some (.gro 1 (P.map fun p => NI p.1) 0) ∧ H.rows 6 = some (.gro 1 (P.map fun p => NI p.2.1) 0) ∧ H.rows 7 = some (.gro 1 (P.map fun p => I p.2.2) 0)
  nx : 4 < H.next ∧ (P ≠ [] → 7 < H.next)
theorem SETB_BITS (n m : Nat) (hm : m ≤ 12) (hn : n < 2 ^ m) : SETB (-1) 0 (BITS n m) = (n,true):=by
  have hok:=SETB_ok (BITS n m) (-1) 0 (BITS_SOK n 12 m hm)
  have hmem:=SETB_mem (BITS n m) (-1) 0 (by decide) hok
  have : (SETB (-1) 0 (BITS n m)).1 = n:=by
    apply Nat.eq_of_testBit_eq
    intro i
    rw [Bool.eq_iff_iff,hmem i,BITS_mem,Nat.zero_testBit]
    constructor
    · rintro (h | ⟨j,hj,e,h⟩)
      · cases h
      · have : i = j:=by omega
        subst this; exact (bit_iff n i).2 h
    · intro h
      right
      refine ⟨i,?_,rfl,(bit_iff n i).1 h⟩
      rcases Nat.lt_or_ge i m with g | g
      · exact g
      · rw [Nat.testBit_lt_two_pow (Nat.lt_of_lt_of_le hn (Nat.pow_le_pow_right (by decide) g))] at h
        cases h
  exact Prod.ext this hok
theorem map_get' {α β : Type} {f : α → β} {l : List α} {k : Nat} {x : α} (h : l[k]? = some x) : (l.map f)[k]? = some (f x):=by simp [h]
abbrev H1 : Heap:=⟨fun _ => none,1⟩
set_option maxHeartbeats 16000000 in
theorem c_read (T : List Nat) (m : Nat) (hm : m ≤ 12) (hT : ∀ n ∈ T,n < 2 ^ m) (hT0 : T ≠ []) (ps : List Prb) (pv : PV) (hpv : lenK (some (.slice 78)) pv = some (I ps.length)) (hpl : ps.length ≤ 9223372036854775807) (hps : ps ≠ [] → ∃ c,pv = .vs 2 (ps.map prb) c) (hrv : ∀ p ∈ ps,RV p.set p.v ∧ p.set.length ≤ 9223372036854775807) (R : Option (CR × Heap))
    (hX : callF G Tryz.prog pol 31 [.vs 1 ((T.map fun n => BITS n m).map elt) none,pv] H1 = R) :
    (∃ v e H',e ≠ 0 ∧ R = some (.ret (.tup [v,I e]),H')) ∨
    (∃ H',R = some (.ret (.tup [.ptr 3 1 0 0,I 0]),H') ∧ PLH T (PMS T ps) H' ∧ H'.rows 2 = some (.map []) ∧ T.length ≤ 12 ∧ ps.length ≤ 12 ∧ ∀ p ∈ ps,(SETB (-1) 0 p.set).2 = true ∧ PS p ≠ 0 ∧ 1 ≤ p.cost ∧ p.cost ≤ 1048576):=by
  rw [callF_eq _ _ Tryz.func31 rfl Tryz.ntmps31 Tryz.results31 (by kernel_rfl) rfl (by exact Nat.le_of_ble_eq_true rfl)] at hX
  by_cases hTl : 12 < T.length
  · simp (maxSteps:=999999) only [E0,seval,-Int.reduceNatCast',NUM,List.length_map,(show (12 : Int) < T.length by omega)] at hX
    left
    exact ⟨_,2,_,by decide,hX.symm⟩
  by_cases hPl : 12 < ps.length
  · simp (maxSteps:=999999) only [E0,seval,-Int.reduceNatCast',NUM,List.length_map,hpv,(show ¬ (12 : Int) < T.length by omega),(show (12 : Int) < ps.length by omega)] at hX
    left
    exact ⟨_,2,_,by decide,hX.symm⟩
  simp (maxSteps:=999999) only [E0,seval,-Int.reduceNatCast',NUM,List.length_map,hpv,(show ¬ (12 : Int) < T.length by omega),(show ¬ (12 : Int) < ps.length by omega)] at hX
  generalize hL : W _ (.loop _) _ = L at hX
  obtain ⟨ex,s,rfl,hd,hf,hex⟩:=loop_at hL (α:=Nat) (fun k => T.length - k)
    (fun s0 k s => k ≤ T.length ∧ s.tmps 30 = I k ∧ s.tmps 28 = .vs 1 ((T.map fun n => BITS n m).map elt) none ∧ s.tmps 29 = I T.length ∧ s.tmps 4 = .ptr 3 1 0 0 ∧ s.tmps 1 = pv ∧ s.tmps 5 = I 0 ∧ s.H.rows 2 = some (.map []) ∧ ((k = 0 ∧ s.H.rows 3 = some (.gro 5 [.agg [.nils,.nils,.nils,.nils,.map 2]] 0) ∧ s.H.next = 4) ∨ (0 < k ∧ s.H.rows 3 = some (.gro 5 [.agg [.gsl 1 4 k 0 k,.nils,.nils,.nils,.map 2]] 0) ∧ (∃ f,s.H.rows 4 = some (.gro 1 ((T.take k).map NI) f)) ∧ s.H.next = 5)) ∧ s.defers = [] ∧ s.fid = 1)
    (fun s0 ex s => s.defers = [] ∧ s.fid = 1 ∧ ((ex = .ret ∧ s.tmps 4 = .nilp ∧ s.tmps 5 = I 500) ∨ (ex = .exit 0 ∧ s.tmps 4 = .ptr 3 1 0 0 ∧ s.tmps 1 = pv ∧ s.tmps 5 = I 0 ∧ s.H.rows 2 = some (.map []) ∧ s.H.rows 3 = some (.gro 5 [.agg [.gsl 1 4 T.length 0 T.length,.nils,.nils,.nils,.map 2]] 0) ∧ (∃ f,s.H.rows 4 = some (.gro 1 (T.map NI) f)) ∧ s.H.next = 5))) 0
    (by simp (maxSteps:=999999) only [E0,seval,-Int.reduceNatCast',NUM]
        exact ⟨Nat.zero_le _,.inl trivial⟩) (by
      rintro k s r hW ⟨hk,h30,h28,h29,h4,h1,h5,hr2,hcase,hd,hf⟩
      by_cases hp : k < T.length
      rotate_left
      · simp (maxSteps:=999999) only [E0,seval,-Int.reduceNatCast',NUM,h30,h29,hd,hf,(show ¬ (k : Int) < T.length by omega)] at hW
        subst hW
        have : k = T.length:=by omega
        subst this
        have hT1 : T.length ≠ 0:=fun h => hT0 (List.length_eq_zero_iff.1 h)
        rcases hcase with ⟨h,_⟩ | ⟨_,hr3,hr4,hnx⟩
        · exact absurd h hT1
        rw [List.take_of_length_le (Nat.le_refl _)] at hr4
        refine rd_exit ⟨?_,?_,.inr ⟨rfl,?_,?_,?_,?_,?_,?_,?_⟩⟩ <;> simp (maxSteps:=999999) only [E0,seval,-Int.reduceNatCast',hd,hf,h4,h1,h5,hr2,hr3]
        · exact hr4
        · exact hnx
      have e0 : T[k]? = some T[k]:=List.getElem?_eq_getElem hp
      have hn:=hT _ (List.getElem_mem hp)
      have e1:=map_get (f:=elt) (map_get' (f:=fun n => BITS n m) e0)
      have tk : T.take (k + 1) = T.take k ++ [T[k]]:=by rw [List.take_add_one,e0]; rfl
      generalize T[k] = n at *
      have cs:=c_set (BITS n m) (elt (BITS n m)) (RV_vs _ _) (by have:=BITS_len n m; omega)
      rw [SETB_BITS n m hm hn] at cs
      have al : ([I (n : Int)].all fun e => e.fits 1) = true:=by simp [PV.fits,PV.cells]
      rcases hcase with ⟨rfl,hr3,hnx⟩ | ⟨hk0,hr3,⟨f,hr4⟩,hnx⟩
      · obtain ⟨b,cc⟩:=c_contains0 (n : Int)
        cases b with
        | true =>
          simp (maxSteps:=999999) only [E0,seval,-Int.reduceNatCast',NUM,INTS,h30,h29,h28,h4,hr3,hd,hf,e1,cs,cc,(show (0 : Int) < T.length by omega),List.length_map] at hW
          subst hW
          refine rd_ret ⟨?_,?_,.inl ⟨rfl,?_,?_⟩⟩ <;> simp (maxSteps:=999999) only [E0,seval,-Int.reduceNatCast',hd,hf]
        | false =>
          simp (maxSteps:=999999) only [E0,seval,-Int.reduceNatCast',NUM,INTS,h30,h29,h28,h4,hr3,hnx,hd,hf,e1,cs,cc,al,(show (0 : Int) < T.length by omega),List.length_map,Nat.zero_add,Nat.zero_le] at hW
          subst hW
          refine rd_next 1 ?_ (show T.length - 1 < T.length - 0 by omega)
          rw [show T.take 1 = [n] from tk]
          simp (maxSteps:=999999) only [E0,seval,-Int.reduceNatCast',h29,h28,h4,h1,h5,hr2,hd,hnx,List.map_cons,List.map_nil]
          refine ⟨by omega,?_⟩
          first | exact .inr ⟨0,rfl⟩ | exact ⟨rfl,.inr ⟨0,rfl⟩⟩ | exact ⟨by simp,.inr ⟨0,rfl⟩⟩
      · have tl : (T.take k).length = k:=by rw [List.length_take]; omega
        obtain ⟨b,cc⟩:=c_contains1 ((T.take k).map Int.ofNat) (n : Int) none (by rw [List.length_map,tl]; omega)
        rw [show ((T.take k).map Int.ofNat).map I = (T.take k).map NI by rw [List.map_map]; rfl] at cc
        have mp : ((T.take k).map NI).map strip0 = (T.take k).map NI:=by rw [List.map_map]; rfl
        cases b with
        | true =>
          simp (maxSteps:=999999) only [E0,seval,-Int.reduceNatCast',NUM,INTS,h30,h29,h28,h4,hr3,hr4,hd,hf,e1,cs,mp,tl,cc,(show (k : Int) < T.length by omega),(show (0 : Int) ≤ k by omega),Int.toNat_natCast,List.length_map,List.take_of_length_le,Nat.zero_add,Nat.le_refl] at hW
          subst hW
          refine rd_ret ⟨?_,?_,.inl ⟨rfl,?_,?_⟩⟩ <;> simp (maxSteps:=999999) only [E0,seval,-Int.reduceNatCast',hd,hf]
        | false =>
          simp (maxSteps:=999999) only [E0,seval,-Int.reduceNatCast',NUM,INTS,h30,h29,h28,h4,hr3,hr4,hd,hf,e1,cs,mp,tl,cc,(show (k : Int) < T.length by omega),(show (0 : Int) ≤ k by omega),Int.toNat_natCast,List.length_map,List.take_of_length_le,Nat.zero_add,Nat.le_refl,al,(show k + 1 ≤ 67108864 by omega),(show k ≤ 67108863 by omega),(i64_in (x:=(k : Int) + 1) (by unfold I64; omega))] at hW
          subst hW
          refine rd_next (k + 1) ?_ (show T.length - (k + 1) < T.length - k by omega)
          rw [tk]
          simp (maxSteps:=999999) only [E0,seval,-Int.reduceNatCast',h29,h28,h4,h1,h5,hr2,hd,hnx,List.map_append,List.map_cons,List.map_nil]
          exact ⟨by omega,by simp,.inr ⟨by omega,_,rfl⟩⟩)
  rcases hex with ⟨rfl,h4,h5⟩ | ⟨rfl,h4,h1,h5,hr2,hr3,hr4,hnx⟩
  · simp (maxSteps:=999999) only [E0,seval,-Int.reduceNatCast',hd,hf,h4,h5] at hX
    left
    exact ⟨_,500,_,by decide,hX.symm⟩
  simp (maxSteps:=999999) only [E0,seval,-Int.reduceNatCast',NUM,h1,hpv,hd,hf] at hX
  generalize hL : W _ (.loop _) _ = L at hX
  obtain ⟨ex,s,rfl,hd,hf,hex⟩:=loop_at hL (α:=Nat) (fun k => ps.length - k)
    (fun s0 k s => k ≤ ps.length ∧ s.tmps 62 = I k ∧ s.tmps 60 = pv ∧ s.tmps 61 = I ps.length ∧ s.tmps 4 = .ptr 3 1 0 0 ∧ s.tmps 5 = I 0 ∧ s.H.rows 2 = some (.map []) ∧ (∃ f,s.H.rows 4 = some (.gro 1 (T.map NI) f)) ∧ ((k = 0 ∧ s.H.rows 3 = some (.gro 5 [.agg [.gsl 1 4 T.length 0 T.length,.nils,.nils,.nils,.map 2]] 0) ∧ s.H.next = 5) ∨ (0 < k ∧ s.H.rows 3 = some (.gro 5 [.agg [.gsl 1 4 T.length 0 T.length,.gsl 1 6 k 0 k,.gsl 1 7 k 0 k,.gsl 1 5 k 0 k,.map 2]] 0) ∧ s.H.rows 5 = some (.gro 1 ((PMS T (ps.take k)).map fun p => NI p.1) 0) ∧ s.H.rows 6 = some (.gro 1 ((PMS T (ps.take k)).map fun p => NI p.2.1) 0) ∧ s.H.rows 7 = some (.gro 1 ((PMS T (ps.take k)).map fun p => I p.2.2) 0) ∧ s.H.next = 8)) ∧ (∀ p ∈ ps.take k,(SETB (-1) 0 p.set).2 = true ∧ PS p ≠ 0 ∧ 1 ≤ p.cost ∧ p.cost ≤ 1048576) ∧ s.defers = [] ∧ s.fid = 1)
    (fun s0 ex s => s.defers = [] ∧ s.fid = 1 ∧ ((ex = .ret ∧ s.tmps 4 = .nilp ∧ s.tmps 5 = I 500) ∨ (ex = .exit 2 ∧ s.tmps 4 = .ptr 3 1 0 0 ∧ s.tmps 5 = I 0 ∧ s.H.rows 2 = some (.map []) ∧ PLH T (PMS T ps) s.H ∧ (∀ p ∈ ps,(SETB (-1) 0 p.set).2 = true ∧ PS p ≠ 0 ∧ 1 ≤ p.cost ∧ p.cost ≤ 1048576)))) 0
    (by simp (maxSteps:=999999) only [E0,seval,-Int.reduceNatCast',NUM,h4,h5,hr2,hr3,hnx]
        refine ⟨Nat.zero_le _,hr4,.inl trivial,?_⟩
        simp) (by
      rintro k s r hW ⟨hk,h62,h60,h61,h4,h5,hr2,⟨f4,hr4⟩,hcase,hgood,hd,hf⟩
      by_cases hp : k < ps.length
      rotate_left
      · simp (maxSteps:=999999) only [E0,seval,-Int.reduceNatCast',NUM,h62,h61,hd,hf,(show ¬ (k : Int) < ps.length by omega)] at hW
        subst hW
        have : k = ps.length:=by omega
        subst this
        rw [List.take_of_length_le (Nat.le_refl _)] at hcase hgood
        have pl : PLH T (PMS T ps) s.H:=by
          rcases hcase with ⟨h0,hr3,hnx⟩ | ⟨h0,hr3,q5,q6,q7,hnx⟩
          · have : ps = []:=List.length_eq_zero_iff.1 h0
            subst this
            exact ⟨hr3,⟨f4,hr4⟩,fun h => absurd rfl h,by omega,fun h => absurd rfl h⟩
          · have hl : (PMS T ps).length = ps.length:=by simp [PMS]
            have hne : PMS T ps ≠ []:=fun h => by rw [h] at hl; simp at hl; omega
            refine ⟨?_,⟨f4,hr4⟩,fun _ => ⟨q5,q6,q7⟩,by omega,fun _ => by omega⟩
            unfold CELL
            rw [if_neg hne,if_neg hne,if_neg hne,hl]
            exact hr3
        refine rd_exit ⟨?_,?_,.inr ⟨rfl,?_,?_,?_,?_,hgood⟩⟩ <;> simp (maxSteps:=999999) only [E0,seval,-Int.reduceNatCast',hd,hf,h4,h5,hr2]
        exact ⟨pl.1,pl.2,pl.3,pl.4⟩
      have hne : ps ≠ []:=fun h => by rw [h] at hp; simp at hp
      obtain ⟨cp,hpv'⟩:=hps hne
      have e0 : ps[k]? = some ps[k]:=List.getElem?_eq_getElem hp
      have hxm:=List.getElem_mem hp
      have e1:=map_get (f:=prb) e0
      have tk : ps.take (k + 1) = ps.take k ++ [ps[k]]:=by rw [List.take_add_one,e0]; rfl
      generalize ps[k] = x at *
      obtain ⟨hrx,hxl⟩:=hrv x hxm
      have rv:=RVS hrx
      have cs:=c_set x.set x.v hrx hxl
      have hsp : PS x < 4096:=SETB_lt x.set (-1) 0 (by decide) (by decide)
      obtain ⟨ok,hok⟩ : ∃ b,(SETB (-1) 0 x.set).2 = b:=⟨_,rfl⟩
      rw [show (SETB (-1) 0 x.set).1 = PS x from rfl,hok] at cs
      obtain ⟨sp,hspe⟩ : ∃ s,PS x = s:=⟨_,rfl⟩
      rw [hspe] at cs hsp
      obtain ⟨bv,hbv⟩ : ∃ bv,nextVer (s.boxes 11) = bv:=⟨_,rfl⟩
      rw [hpv'] at h60
      by_cases hbad : ok = false ∨ sp = 0 ∨ x.cost < 1 ∨ 1048576 < x.cost
      · have : ∃ s2 : St,r = some (.ret,s2) ∧ s2.tmps 4 = .nilp ∧ s2.tmps 5 = I 500 ∧ s2.defers = [] ∧ s2.fid = 1:=by
          cases ok with
          | false =>
            simp (maxSteps:=999999) only [E0,seval,-Int.reduceNatCast',NUM,h62,h61,h60,h4,hbv,hd,hf,e1,rv,cs,List.length_map,Int.toNat_natCast,(show (k : Int) < ps.length by omega),(show (0 : Int) ≤ k by omega)] at hW
            exact ⟨_,hW.symm,by simp (maxSteps:=999999) only [E0,seval,-Int.reduceNatCast',hd,hf]⟩
          | true =>
            by_cases b1 : sp = 0
            · subst b1
              simp (maxSteps:=999999) only [E0,seval,-Int.reduceNatCast',NUM,h62,h61,h60,h4,hbv,hd,hf,e1,rv,cs,List.length_map,Int.toNat_natCast,(show (k : Int) < ps.length by omega),(show (0 : Int) ≤ k by omega)] at hW
              exact ⟨_,hW.symm,by simp (maxSteps:=999999) only [E0,seval,-Int.reduceNatCast',hd,hf]⟩
            by_cases b2 : x.cost < 1
            · simp (maxSteps:=999999) only [E0,seval,-Int.reduceNatCast',NUM,h62,h61,h60,h4,hbv,hd,hf,e1,rv,cs,b2,(show ¬ (sp : Int) = 0 by omega),List.length_map,Int.toNat_natCast,(show (k : Int) < ps.length by omega),(show (0 : Int) ≤ k by omega)] at hW
              exact ⟨_,hW.symm,by simp (maxSteps:=999999) only [E0,seval,-Int.reduceNatCast',hd,hf]⟩
            · have b3 : 1048576 < x.cost:=by
                rcases hbad with h | h | h | h
                · cases h
                · exact absurd h b1
                · exact absurd h b2
                · exact h
              simp (maxSteps:=999999) only [E0,seval,-Int.reduceNatCast',NUM,h62,h61,h60,h4,hbv,hd,hf,e1,rv,cs,b2,b3,(show ¬ (sp : Int) = 0 by omega),List.length_map,Int.toNat_natCast,(show (k : Int) < ps.length by omega),(show (0 : Int) ≤ k by omega)] at hW
              exact ⟨_,hW.symm,by simp (maxSteps:=999999) only [E0,seval,-Int.reduceNatCast',hd,hf]⟩
        obtain ⟨s2,rfl,g4,g5,gd,gf⟩:=this
        exact rd_ret ⟨gd,gf,.inl ⟨rfl,g4,g5⟩⟩
      have hbad' : ok = true ∧ ¬ sp = 0 ∧ ¬ x.cost < 1 ∧ ¬ 1048576 < x.cost:=by
        refine ⟨?_,fun h => hbad (.inr (.inl h)),fun h => hbad (.inr (.inr (.inl h))),fun h => hbad (.inr (.inr (.inr h)))⟩
        cases ok with
        | true => rfl
        | false => exact absurd (.inl rfl) hbad
      obtain ⟨rfl,b1,b2,b3⟩:=hbad'
      have l1 : ∃ c1 c2 c3,s.H.rows 3 = some (.gro 5 [.agg [.gsl 1 4 T.length 0 T.length,c1,c2,c3,.map 2]] 0):=by
        rcases hcase with ⟨_,hr3,_⟩ | ⟨_,hr3,_⟩
        · exact ⟨_,_,_,hr3⟩
        · exact ⟨_,_,_,hr3⟩
      obtain ⟨c1,c2,c3,hr3x⟩:=l1
      simp (maxSteps:=999999) only [E0,seval,-Int.reduceNatCast',NUM,h62,h61,h60,h4,hr3x,hbv,hd,hf,e1,rv,cs,b2,b3,(show ¬ (sp : Int) = 0 by omega),List.length_map,Int.toNat_natCast,(show (k : Int) < ps.length by omega),(show (0 : Int) ≤ k by omega)] at hW
      generalize hL2 : W _ (.loop _) _ = L2 at hW
      obtain ⟨ex,s',rfl,rfl,g14,g60,g61,g62,g4,g5,g12,g11,b11,gH,gd,gf⟩:=loop_at hL2 (α:=Nat) (fun j => T.length - j)
        (fun s0 j s' => j ≤ T.length ∧ s'.tmps 93 = I j ∧ s'.tmps 92 = I T.length ∧ s'.tmps 91 = .gsl 1 4 T.length 0 T.length ∧ s'.tmps 14 = I (SHB sp T j) ∧ s'.tmps 60 = pv ∧ s'.tmps 61 = I ps.length ∧ s'.tmps 62 = I k ∧ s'.tmps 4 = .ptr 3 1 0 0 ∧ s'.tmps 5 = I 0 ∧ s'.tmps 12 = I sp ∧ s'.tmps 11 = .bptr 1 11 bv 0 ∧ s'.boxes 11 = some (bv,[I x.cost,x.v]) ∧ s'.H = s.H ∧ s'.defers = [] ∧ s'.fid = 1)
        (fun s0 ex s' => ex = .exit 4 ∧ s'.tmps 14 = I (SHB sp T T.length) ∧ s'.tmps 60 = pv ∧ s'.tmps 61 = I ps.length ∧ s'.tmps 62 = I k ∧ s'.tmps 4 = .ptr 3 1 0 0 ∧ s'.tmps 5 = I 0 ∧ s'.tmps 12 = I sp ∧ s'.tmps 11 = .bptr 1 11 bv 0 ∧ s'.boxes 11 = some (bv,[I x.cost,x.v]) ∧ s'.H = s.H ∧ s'.defers = [] ∧ s'.fid = 1) 0
        (by simp (maxSteps:=999999) only [E0,seval,-Int.reduceNatCast',NUM,h62,h61,h60,h4,h5,hpv',SHB]
            exact Nat.zero_le _) (by
          rintro j s' r hW ⟨hj,g93,g92,g91,g14,g60,g61,g62,g4,g5,g12,g11,b11,gH,gd,gf⟩
          by_cases hq : j < T.length
          rotate_left
          · simp (maxSteps:=999999) only [E0,seval,-Int.reduceNatCast',NUM,g93,g92,gd,gf,(show ¬ (j : Int) < T.length by omega)] at hW
            subst hW
            have : j = T.length:=by omega
            subst this
            refine rd_exit ⟨rfl,?_⟩
            simp (maxSteps:=999999) only [E0,seval,-Int.reduceNatCast',g14,g60,g61,g62,g4,g5,g12,g11,b11,gd,gf]
            exact gH
          have f0 : T[j]? = some T[j]:=List.getElem?_eq_getElem hq
          have f1:=map_get (f:=NI) f0
          have hn:=hT _ (List.getElem_mem hq)
          have fg : T.getD j 0 = T[j]:=by rw [List.getD_eq_getElem?_getD,f0]; rfl
          have p12 : 2 ^ m ≤ 2 ^ 12:=Nat.pow_le_pow_right (by decide) hm
          have p12' : (2 : Nat) ^ 12 = 4096:=by decide
          have ac:=ANDc sp T[j] (by omega) (by omega)
          have sb:=SHB_lt sp T j
          have pj : 2 ^ j ≤ 2 ^ 12:=Nat.pow_le_pow_right (by decide) (by omega)
          generalize T[j] = n at *
          have sl:=SHLn j (by omega)
          have oc:=ORc (SHB sp T j) (2 ^ j) (by omega) (by omega)
          by_cases ha : sp &&& n = 0
          · have hs : SHB sp T (j + 1) = SHB sp T j:=by rw [SHB,fg,if_neg (fun h => h ha)]
            simp (maxSteps:=999999) only [E0,seval,-Int.reduceNatCast',NUM,g93,g92,g91,g14,g12,gd,gf,gH,hr4,f1,(show (j : Int) < T.length by omega),(show (0 : Int) ≤ j by omega),Int.toNat_natCast,List.length_map,Nat.zero_add,ac,(i64_in (x:=(j : Int) + 1) (by unfold I64; omega)),ha] at hW
            subst hW
            refine rd_next (j + 1) ?_ (show T.length - (j + 1) < T.length - j by omega)
            rw [hs]
            simp (maxSteps:=999999) only [E0,seval,-Int.reduceNatCast',g92,g91,g14,g60,g61,g62,g4,g5,g12,g11,b11,gd,gH]
            exact ⟨by omega,by simp⟩
          · have hs : SHB sp T (j + 1) = SHB sp T j ||| 2 ^ j:=by rw [SHB,fg,if_pos ha]
            simp (maxSteps:=999999) only [E0,seval,-Int.reduceNatCast',NUM,g93,g92,g91,g14,g12,gd,gf,gH,hr4,f1,(show (j : Int) < T.length by omega),(show (0 : Int) ≤ j by omega),Int.toNat_natCast,List.length_map,Nat.zero_add,ac,(i64_in (x:=(j : Int) + 1) (by unfold I64; omega)),sl,oc,(show ¬ ((sp &&& n : Nat) : Int) = 0 by omega),(show ¬ (j : Int) < 0 by omega)] at hW
            subst hW
            refine rd_next (j + 1) ?_ (show T.length - (j + 1) < T.length - j by omega)
            rw [hs]
            simp (maxSteps:=999999) only [E0,seval,-Int.reduceNatCast',g92,g91,g60,g61,g62,g4,g5,g12,g11,b11,gd,gH]
            exact ⟨by omega,by simp⟩)
      obtain ⟨sh,hsh⟩ : ∃ sh,SHB sp T T.length = sh:=⟨_,rfl⟩
      rw [hsh] at g14
      have pmk : PMS T (ps.take (k + 1)) = PMS T (ps.take k) ++ [(sp,sh,x.cost)]:=by
        rw [tk]; simp [PMS,hspe,hsh]
      have hg1 : ∀ p ∈ ps.take (k + 1),(SETB (-1) 0 p.set).2 = true ∧ PS p ≠ 0 ∧ 1 ≤ p.cost ∧ p.cost ≤ 1048576:=fun p hp => by
        rw [tk] at hp
        rcases List.mem_append.1 hp with h | h
        · exact hgood p h
        · simp at h; subst h; exact ⟨hok,by rw [hspe]; exact b1,by omega,by omega⟩
      have al1 : ([I (sp : Int)].all fun e => e.fits 1) = true:=by simp [PV.fits,PV.cells]
      have al2 : ([I (sh : Int)].all fun e => e.fits 1) = true:=by simp [PV.fits,PV.cells]
      have al3 : ([I x.cost].all fun e => e.fits 1) = true:=by simp [PV.fits,PV.cells]
      rcases hcase with ⟨rfl,hr3,hnx⟩ | ⟨hk0,hr3,q5,q6,q7,hnx⟩
      · simp (maxSteps:=999999) only [E0,seval,-Int.reduceNatCast',NUM,g12,g11,b11,g4,gH,gd,gf,g14,g62,hr3,hnx,al1,al2,al3,Nat.zero_le] at hW
        rw [if_pos (by kernel_rfl)] at hW
        subst hW
        refine rd_next 1 ?_ (show ps.length - 1 < ps.length - 0 by omega)
        rw [show PMS T (ps.take 1) = [(sp,sh,x.cost)] from pmk]
        refine ⟨by omega,?_,?_,?_,?_,?_,?_,?_,.inr ⟨by decide,?_,?_,?_,?_,?_⟩,hg1,?_,?_⟩ <;> simp (maxSteps:=999999) only [E0,seval,-Int.reduceNatCast',g60,g61,g4,g5,gd,hr2,hnx,hpv',List.map_cons,List.map_nil]
        all_goals first | rfl | exact ⟨f4,hr4⟩
      · have pl : (PMS T (ps.take k)).length = k:=by simp [PMS]; omega
        simp (maxSteps:=999999) only [E0,seval,-Int.reduceNatCast',NUM,g12,g11,b11,g4,gH,gd,gf,(i64_in (x:=(k : Int) + 1) (by unfold I64; omega)),g14,g62,hr3,q5,q6,q7,pl,al1,al2,al3,List.length_map,Nat.zero_add,(show k + 1 ≤ 67108864 by omega),(show k ≤ 67108863 by omega)] at hW
        rw [if_pos (by kernel_rfl)] at hW
        subst hW
        refine rd_next (k + 1) ?_ (show ps.length - (k + 1) < ps.length - k by omega)
        rw [pmk]
        refine ⟨by omega,?_,?_,?_,?_,?_,?_,?_,.inr ⟨by omega,?_,?_,?_,?_,?_⟩,hg1,?_,?_⟩ <;> simp (maxSteps:=999999) only [E0,seval,-Int.reduceNatCast',g60,g61,g4,g5,gd,hr2,hnx,hpv',List.map_append,List.map_cons,List.map_nil]
        all_goals first | rfl | exact ⟨f4,hr4⟩)
  rcases hex with ⟨rfl,h4,h5⟩ | ⟨rfl,h4,h5,hr2,hpl',hgood⟩
  · simp (maxSteps:=999999) only [E0,seval,-Int.reduceNatCast',hd,hf,h4,h5] at hX
    left
    exact ⟨_,500,_,by decide,hX.symm⟩
  · simp (maxSteps:=999999) only [E0,seval,-Int.reduceNatCast',hd,hf,h4,h5] at hX
    right
    exact ⟨_,hX.symm,hpl',hr2,by omega,by omega,hgood⟩
def SBO (p : Pm) (n : Nat) : Nat:=p.2.1 &&& n
def SEP (p : Pm) (n : Nat) : Prop:=SBO p n ≠ 0 ∧ SBO p n ≠ n
instance (p : Pm) (n : Nat) : Decidable (SEP p n):=by unfold SEP; infer_instance
def STC (g : Nat → Int × Int) (n : Nat) (c : Int × Int) (p : Pm) (i : Nat) : Int × Int:=
  if SEP p n then (if c.2 < 0 ∨ p.2.2 + max (g (SBO p n)).1 (g (ANDN n (SBO p n))).1 < c.1 then (p.2.2 + max (g (SBO p n)).1 (g (ANDN n (SBO p n))).1,(i : Int)) else c) else c
def FC (P : List Pm) (g : Nat → Int × Int) (n : Nat) : Nat → Int × Int
  | 0 => (0,-1)
  | i + 1 => match P[i]? with
    | some p => STC g n (FC P g n i) p i
    | none => FC P g n i
def CHF (P : List Pm) : Nat → Nat → Int × Int
  | 0,_ => (0,-1)
  | f + 1,n => FC P (CHF P f) n P.length
def CH (P : List Pm) (n : Nat) : Int × Int:=CHF P (n + 1) n
theorem SBO_lt {p : Pm} {n : Nat} (h : SEP p n) : SBO p n < n:=by
  have : SBO p n ≤ n:=Nat.and_le_right
  have:=h.2
  omega
theorem ANDN_lt {p : Pm} {n : Nat} (hn : n < 4096) (h : SEP p n) : ANDN n (SBO p n) < n:=by
  have h1 : ANDN n (SBO p n) ≤ n:=ANDN_le _ _
  rcases Nat.lt_or_eq_of_le h1 with h2 | h2
  · exact h2
  · exfalso
    apply h.1
    apply Nat.eq_of_testBit_eq
    intro i
    rw [Nat.zero_testBit]
    cases hb : (SBO p n).testBit i with
    | false => rfl
    | true =>
      have:=ANDN_bit (a:=n) (SBO p n) i (by omega) (by have:=SBO_lt h; omega)
      rw [h2,hb] at this
      have h3 : n.testBit i = true:=by
        unfold SBO at hb
        rw [Nat.testBit_and,Bool.and_eq_true] at hb
        exact hb.2
      rw [h3] at this
      cases this
theorem FC_congr {P : List Pm} {g h : Nat → Int × Int} {n : Nat} (hn : n < 4096) (e : ∀ k < n,g k = h k) : ∀ i,FC P g n i = FC P h n i
  | 0 => rfl
  | i + 1 => by
    unfold FC
    rw [FC_congr hn e i]
    split
    · next p _ =>
      unfold STC
      split
      · next hs => rw [e _ (SBO_lt hs),e _ (ANDN_lt hn hs)]
      · rfl
    · rfl
theorem CHF_eq (P : List Pm) : ∀ (n : Nat),n < 4096 → ∀ f g,n < f → n < g → CHF P f n = CHF P g n:=by
  intro n
  induction n using Nat.strongRecOn with
  | ind n ih =>
    intro hn f g hf hg
    cases f with
    | zero => omega
    | succ f => cases g with
      | zero => omega
      | succ g => exact FC_congr hn (fun k hk => ih k hk (by omega) f g (by omega) (by omega)) _
theorem CH_eq (P : List Pm) {n : Nat} (hn : n < 4096) : CH P n = FC P (CH P) n P.length:=
  FC_congr hn (fun k hk => CHF_eq P k (by omega) n (k + 1) hk (by omega)) _
theorem FC_spec (P : List Pm) (g : Nat → Int × Int) (n : Nat) : ∀ i,(FC P g n i = (0,-1) ∧ ∀ j < i,∀ p,P[j]? = some p → ¬ SEP p n) ∨
    ∃ j p,j < i ∧ P[j]? = some p ∧ SEP p n ∧ FC P g n i = (p.2.2 + max (g (SBO p n)).1 (g (ANDN n (SBO p n))).1,(j : Int))
  | 0 => .inl ⟨rfl,fun j hj => absurd hj (Nat.not_lt_zero j)⟩
  | i + 1 => by
    have ih:=FC_spec P g n i
    have up : (∃ j p,j < i ∧ P[j]? = some p ∧ SEP p n ∧ FC P g n i = (p.2.2 + max (g (SBO p n)).1 (g (ANDN n (SBO p n))).1,(j : Int))) →
        ∃ j p,j < i + 1 ∧ P[j]? = some p ∧ SEP p n ∧ FC P g n i = (p.2.2 + max (g (SBO p n)).1 (g (ANDN n (SBO p n))).1,(j : Int)):=fun ⟨j,p,h1,h2⟩ => ⟨j,p,by omega,h2⟩
    unfold FC
    cases hp : P[i]? with
    | none =>
      simp only
      rcases ih with ⟨h1,h2⟩ | h
      · refine .inl ⟨h1,fun j hj p hp' => ?_⟩
        by_cases e : j = i
        · subst e; rw [hp] at hp'; cases hp'
        · exact h2 j (by omega) p hp'
      · exact .inr (up h)
    | some p =>
      simp only
      unfold STC
      by_cases hs : SEP p n
      · rw [if_pos hs]
        split
        · exact .inr ⟨i,p,by omega,hp,hs,rfl⟩
        · next hc =>
          rcases ih with ⟨h1,h2⟩ | h
          · rw [h1] at hc
            exact absurd (.inl (by decide)) hc
          · exact .inr (up h)
      · rw [if_neg hs]
        rcases ih with ⟨h1,h2⟩ | h
        · refine .inl ⟨h1,fun j hj q hq => ?_⟩
          by_cases e : j = i
          · subst e; rw [hp] at hq; cases hq; exact hs
          · exact h2 j (by omega) q hq
        · exact .inr (up h)
def PSM (P : List Pm) : Prop:=∀ p ∈ P,p.1 < 4096 ∧ p.2.1 < 4096 ∧ 1 ≤ p.2.2 ∧ p.2.2 ≤ 1048576
theorem CH_bd {P : List Pm} (hP : PSM P) : ∀ (n : Nat),n < 4096 → 0 ≤ (CH P n).1 ∧ (CH P n).1 ≤ n * 1048576:=by
  intro n
  induction n using Nat.strongRecOn with
  | ind n ih =>
    intro hn
    rw [CH_eq P hn]
    rcases FC_spec P (CH P) n P.length with ⟨h,_⟩ | ⟨j,p,_,hj,hs,h⟩
    · rw [h]; simp only; omega
    · rw [h]
      have hp:=hP p (List.mem_of_getElem? hj)
      have l1:=SBO_lt hs
      have l2:=ANDN_lt hn hs
      have b1:=ih _ l1 (by omega)
      have b2:=ih _ l2 (by omega)
      simp only
      omega
theorem FC_bd {P : List Pm} (hP : PSM P) {n : Nat} (hn : n < 4096) (i : Nat) : (0 ≤ (FC P (CH P) n i).1 ∧ (FC P (CH P) n i).1 ≤ n * 1048576):=by
  rcases FC_spec P (CH P) n i with ⟨h,_⟩ | ⟨j,p,_,hj,hs,h⟩
  · rw [h]; simp only; omega
  · rw [h]
    have hp:=hP p (List.mem_of_getElem? hj)
    have l1:=SBO_lt hs
    have l2:=ANDN_lt hn hs
    have b1:=CH_bd hP _ (by omega : SBO p n < 4096)
    have b2:=CH_bd hP _ (by omega : ANDN n (SBO p n) < 4096)
    simp only
    omega
theorem CH_spec (P : List Pm) {n : Nat} (hn : n < 4096) : (CH P n = (0,-1) ∧ ∀ (j : Nat) (p : Pm),P[j]? = some p → ¬ SEP p n) ∨
    ∃ (j : Nat) (p : Pm),P[j]? = some p ∧ SEP p n ∧ CH P n = (p.2.2 + max (CH P (SBO p n)).1 (CH P (ANDN n (SBO p n))).1,(j : Int)):=by
  rw [CH_eq P hn]
  rcases FC_spec P (CH P) n P.length with ⟨h1,h2⟩ | ⟨j,p,_,hj,hs,h⟩
  · exact .inl ⟨h1,fun j p hp => h2 j (List.getElem?_eq_some_iff.1 hp).1 p hp⟩
  · exact .inr ⟨j,p,hj,hs,h⟩
inductive TR where
  | leaf (n : Nat)
  | node (p : Nat) (a b : TR)
def TRF (P : List Pm) : Nat → Nat → TR
  | 0,n => .leaf n
  | f + 1,n => if (CH P n).2 < 0 then .leaf n else match P[(CH P n).2.toNat]? with
    | some p => .node (CH P n).2.toNat (TRF P f (ANDN n (SBO p n))) (TRF P f (SBO p n))
    | none => .leaf n
def TRE (P : List Pm) (n : Nat) : TR:=TRF P (n + 1) n
theorem TRF_eq (P : List Pm) : ∀ (n : Nat),n < 4096 → ∀ f g,n < f → n < g → TRF P f n = TRF P g n:=by
  intro n
  induction n using Nat.strongRecOn with
  | ind n ih =>
    intro hn f g hf hg
    cases f with
    | zero => omega
    | succ f => cases g with
      | zero => omega
      | succ g =>
        unfold TRF
        rcases CH_spec P hn with ⟨h,_⟩ | ⟨j,p,hj,hs,h⟩
        · rw [h]; rfl
        · have l1:=SBO_lt hs
          have l2:=ANDN_lt hn hs
          rw [h]
          simp only [Int.toNat_natCast,hj]
          rw [ih _ l1 (by omega) f g (by omega) (by omega),ih _ l2 (by omega) f g (by omega) (by omega)]
theorem TRE_leaf {P : List Pm} {n : Nat} (h : (CH P n).2 < 0) : TRE P n = .leaf n:=by
  unfold TRE TRF; rw [if_pos h]
theorem TRE_node {P : List Pm} {n j : Nat} {p : Pm} (hn : n < 4096) (hj : P[j]? = some p) (hs : SEP p n) (h : (CH P n).2 = (j : Int)) : TRE P n = .node j (TRE P (ANDN n (SBO p n))) (TRE P (SBO p n)):=by
  have l1:=SBO_lt hs
  have l2:=ANDN_lt hn hs
  show TRF P (n + 1) n = _
  unfold TRF
  rw [h,if_neg (by omega),Int.toNat_natCast,hj]
  simp only
  rw [TRF_eq P _ (by omega) n (ANDN n (SBO p n) + 1) l2 (by omega),TRF_eq P _ (by omega) n (SBO p n + 1) l1 (by omega)]
  rfl
def TP : TR → PV
  | .leaf n => .agg [I 0,elt (BITS n 12),.nils]
  | .node p a b => .agg [I p,.nils,.vs 3 [TP a,TP b] (some 2)]
theorem TP_strip : ∀ t : TR,strip0 (TP t) = TP t ∧ (∀ H,strip1 H (TP t) = TP t) ∧ ∀ H,strip2 H (TP t) = TP t
  | .leaf n => by
    refine ⟨?_,fun H => ?_,fun H => ?_⟩
    · show PV.agg [I 0,.vs 1 (strip0L ((BITS n 12).map I)) none,.nils] = _
      rw [strip0_ints]; rfl
    · show PV.agg [I 0,.vs 1 (strip1L H ((BITS n 12).map I)) none,.nils] = _
      rw [strip1_ints]; rfl
    · show PV.agg [I 0,.vs 1 (strip2L H ((BITS n 12).map I)) none,.nils] = _
      rw [strip2_ints]; rfl
  | .node p a b => by
    obtain ⟨a0,a1,a2⟩:=TP_strip a
    obtain ⟨b0,b1,b2⟩:=TP_strip b
    refine ⟨?_,fun H => ?_,fun H => ?_⟩
    · show PV.agg [I p,.nils,.vs 3 [strip0 (TP a),strip0 (TP b)] (some 2)] = _
      rw [a0,b0]; rfl
    · show PV.agg [I p,.nils,.vs 3 [strip1 H (TP a),strip1 H (TP b)] (some 2)] = _
      rw [a1 H,b1 H]; rfl
    · show PV.agg [I p,.nils,.vs 3 [strip2 H (TP a),strip2 H (TP b)] (some 2)] = _
      rw [a2 H,b2 H]; rfl
abbrev CHV (P : List Pm) (n : Nat) : PV:=.agg [I (CH P n).1,I (CH P n).2]
def MEM (P : List Pm) (mm : List (Int × PV)) : Prop:=∀ k : Int,aget mm k = none ∨ ∃ n : Nat,k = n ∧ aget mm k = some (CHV P n)
theorem MEM_set {P : List Pm} {mm : List (Int × PV)} (h : MEM P mm) (n : Nat) : MEM P (aset mm n (CHV P n)):=by
  intro k
  rw [aget_aset]
  split
  · next e => exact .inr ⟨n,e,rfl⟩
  · exact h k
structure KP (H H' : Heap) : Prop where
  fr : ∀ i < H.next,i ≠ 2 → H'.rows i = H.rows i
  nx : H.next ≤ H'.next
theorem KP.trans {A B C : Heap} (h : KP A B) (g : KP B C) : KP A C:=⟨fun i hi h1 => (g.fr i (Nat.lt_of_lt_of_le hi h.nx) h1).trans (h.fr i hi h1),Nat.le_trans h.nx g.nx⟩
theorem PLH.mono {T : List Nat} {P : List Pm} {H H' : Heap} (h : PLH T P H) (k : KP H H') : PLH T P H':=by
  have n4:=h.nx.1
  refine ⟨by rw [k.fr 3 (by omega) (by decide)]; exact h.r3,by rw [k.fr 4 (by omega) (by decide)]; exact h.r4,fun hne => ?_,by have:=k.nx; omega,fun hne => by have:=k.nx; have:=h.nx.2 hne; omega⟩
  have n7:=h.nx.2 hne
  rw [k.fr 5 (by omega) (by decide),k.fr 6 (by omega) (by decide),k.fr 7 (by omega) (by decide)]
  exact h.r5 hne
theorem PLH.mono7 {T : List Nat} {P : List Pm} {H H' : Heap} (h : PLH T P H) (hf : ∀ i,3 ≤ i → i ≤ 7 → i < H.next → H'.rows i = H.rows i) (hn : H.next ≤ H'.next) : PLH T P H':=by
  have n4:=h.nx.1
  refine ⟨by rw [hf 3 (by omega) (by decide) (by omega)]; exact h.r3,by rw [hf 4 (by omega) (by decide) (by omega)]; exact h.r4,fun hne => ?_,by omega,fun hne => by have:=h.nx.2 hne; omega⟩
  have n7:=h.nx.2 hne
  rw [hf 5 (by omega) (by decide) (by omega),hf 6 (by omega) (by decide) (by omega),hf 7 (by omega) (by decide) (by omega)]
  exact h.r5 hne
theorem ite_f {α : Type} {b : Bool} {x y : α} (h : b = false) : (if b = true then x else y) = y:=by rw [h]; rfl
theorem chk_keepP (ops : Array Oper) (g : Nat) (h : chk1 ops 15 [.all] [(15,([.all],[.all])),(11,([],[])),(9,([.all],[.all])),(7,([],[])),(6,([],[])),(3,([],[]))] = true)
    (h2 : chk1 ops 9 [.all] [(15,([.all],[.all])),(11,([],[])),(9,([.all],[.all])),(7,([],[])),(6,([],[])),(3,([],[]))] = true) :
    chkK ops [3,7,g] [(15,([.all],[.all])),(11,([.row g],[])),(9,([.all],[.all])),(7,([.row g],[])),(6,([.row 7],[])),(3,([.row 3],[]))] [(15,([.all],[.all])),(11,([.row g],[])),(9,([.all],[.all])),(7,([.row g],[])),(6,([.row 7],[])),(3,([.row 3],[]))] = true:=by
  simp only [chkK,isAllB,if_true,dropL,dropM,List.map_cons,List.map_nil,List.filter,notIn,List.contains_cons,List.contains_nil,Bool.or_false,Bool.or_true,Bool.true_or,beq_self_eq_true,Bool.not_true,h,h2,Bool.and_true]
theorem CELL_len (P : List Pm) (id : Nat) : lenK (some (.slice 3)) (CELL P id) = some (I P.length):=by
  unfold CELL
  split
  · next h => rw [h]; rfl
  · rfl
theorem CELL_ne {P : List Pm} (h : P ≠ []) (id : Nat) : CELL P id = .gsl 1 id P.length 0 P.length:=by
  unfold CELL; rw [if_neg h]
set_option maxHeartbeats 16000000 in
theorem c_choose1 {T : List Nat} {P : List Pm} (hP : PSM P) (hl : P.length ≤ 12) : ∀ (n : Nat),n < 4096 → ∀ (H : Heap) (_ : PLH T P H) (_ : ∃ mm,H.rows 2 = some (.map (imap mm)) ∧ MEM P mm) (g : Nat) (_ : g < H.next ∧ 4 < g) (_ : H.rows g = some (.gro 1 [.fn 57 [.rop [.ptr 3 1 0 0],.ptr g 1 0 0]] 0)),
    ∃ H',callF G Tryz.prog pol 57 [I n,.rop [.ptr 3 1 0 0],.ptr g 1 0 0] H = some (.ret (CHV P n),H') ∧ KP H H' ∧ ∃ mm,H'.rows 2 = some (.map (imap mm)) ∧ MEM P mm:=by
  intro n
  induction n using Nat.strongRecOn with
  | ind n ih =>
  intro hn H hH hmm g hg hgr
  have ih2 : ∀ (m : Nat),m < n → ∀ (H : Heap) (_ : PLH T P H) (_ : ∃ mm,H.rows 2 = some (.map (imap mm)) ∧ MEM P mm) (g : Nat) (_ : g < H.next ∧ 4 < g) (_ : H.rows g = some (.gro 1 [.fn 57 [.rop [.ptr 3 1 0 0],.ptr g 1 0 0]] 0)) (R : Option (CR × Heap)) (_ : callF G Tryz.prog pol 57 [I m,.rop [.ptr 3 1 0 0],.ptr g 1 0 0] H = R),
      ∃ H',R = some (.ret (CHV P m),H') ∧ KP H H' ∧ ∃ mm,H'.rows 2 = some (.map (imap mm)) ∧ MEM P mm:=fun m hm H h1 h2 g h3 h4 R hR => by
    rw [← hR]; exact ih m hm (by omega) H h1 h2 g h3 h4
  obtain ⟨mm,hm2,hmem⟩:=hmm
  have h4:=hH.nx.1
  have r3:=hH.r3
  generalize hR : callF _ _ _ _ _ _ = R
  rw [callF_eq _ _ Tryz.func57 rfl Tryz.ntmps57 Tryz.results57 (by kernel_rfl) rfl (by exact Nat.le_of_ble_eq_true rfl)] at hR
  rcases hmem n with hnone | ⟨n',hnn,hsome⟩
  rotate_left
  · have : n' = n:=by omega
    subst this
    simp (maxSteps:=999999) only [E0,seval,-Int.reduceNatCast',NUM,MAPI,r3,hm2,hsome] at hR
    rw [if_pos (by kernel_rfl)] at hR
    subst hR
    exact ⟨_,rfl,⟨fun _ _ _ => rfl,by simp⟩,mm,hm2,hmem⟩
  · simp (maxSteps:=999999) only [E0,seval,-Int.reduceNatCast',NUM,MAPI,r3,hm2,hnone] at hR
    rw [if_pos (by kernel_rfl)] at hR
    rw [callF_eq _ _ Tryz.func58 rfl Tryz.ntmps58 Tryz.results58 (by kernel_rfl) rfl (by exact Nat.le_of_ble_eq_true rfl)] at hR
    simp (maxSteps:=999999) only [E0,seval,-Int.reduceNatCast',NUM] at hR
    rw [callF_eq _ _ Tryz.func82 rfl Tryz.ntmps82 Tryz.results82 (by kernel_rfl) rfl (by exact Nat.le_of_ble_eq_true rfl)] at hR
    simp (maxSteps:=999999) only [E0,seval,-Int.reduceNatCast',NUM,NADD0,r3,CELL_len,(show ¬ (3 : Nat) = H.next + 1 by omega),(show ¬ (3 : Nat) = H.next + 1 + 1 + 1 by omega),(show ¬ (3 : Nat) = H.next + 1 + 1 + 1 + 1 by omega)] at hR
    generalize hL : W _ (.loop _) _ = L at hR
    have nz : (¬ (2 : Nat) = H.next + 1) ∧ (¬ (2 : Nat) = H.next + 1 + 1 + 1) ∧ (¬ (2 : Nat) = H.next + 1 + 1 + 1 + 1):=by omega
    obtain ⟨ex,s,rfl,rfl,gc,⟨mm',gm,gmem⟩,gfr,g3,g4,gnx,gd,gf⟩:=loop_at hL (α:=Nat) (fun k => P.length - k)
      (fun s0 k s => k ≤ P.length ∧ s.H.rows (H.next + 1) = some (.gro 2 [.agg [I (FC P (CH P) n k).1,I (FC P (CH P) n k).2]] 0) ∧ (∃ mm,s.H.rows 2 = some (.map (imap mm)) ∧ MEM P mm) ∧ (∀ a < H.next,a ≠ 2 → s.H.rows a = H.rows a) ∧ s.H.rows (H.next + 1 + 1 + 1) = some .dfr ∧ s.H.rows (H.next + 1 + 1 + 1 + 1) = s0.H.rows (H.next + 1 + 1 + 1 + 1) ∧ H.next + 1 + 1 + 1 + 1 + 1 < s.H.next ∧ s.tmps 12 = I k ∧ s.tmps 11 = I P.length ∧ s.tmps 10 = CELL P 6 ∧ s.tmps 0 = .yield (H.next + 1 + 1 + 1 + 1) ∧ s.tmps 1 = .rop [.ptr 3 1 0 0] ∧ s.tmps 2 = .rop [I n] ∧ s.defers = [] ∧ s.fid = H.next + 1 + 1 + 1 + 1 + 1)
      (fun s0 ex s => ex = .exit 0 ∧ s.H.rows (H.next + 1) = some (.gro 2 [.agg [I (FC P (CH P) n P.length).1,I (FC P (CH P) n P.length).2]] 0) ∧ (∃ mm,s.H.rows 2 = some (.map (imap mm)) ∧ MEM P mm) ∧ (∀ a < H.next,a ≠ 2 → s.H.rows a = H.rows a) ∧ s.H.rows (H.next + 1 + 1 + 1) = some .dfr ∧ s.H.rows (H.next + 1 + 1 + 1 + 1) = s0.H.rows (H.next + 1 + 1 + 1 + 1) ∧ H.next + 1 + 1 + 1 + 1 + 1 < s.H.next ∧ s.defers = [] ∧ s.fid = H.next + 1 + 1 + 1 + 1 + 1) 0
      (by simp (maxSteps:=999999) only [E0,seval,-Int.reduceNatCast',NUM,NADD0,nz,hm2]
          refine ⟨Nat.zero_le _,rfl,⟨mm,rfl,hmem⟩,fun a ha h2 => ?_,by omega⟩
          simp (maxSteps:=999999) only [E0,seval,-Int.reduceNatCast',(show ¬ a = H.next + 1 by omega),(show ¬ a = H.next + 1 + 1 + 1 by omega),(show ¬ a = H.next + 1 + 1 + 1 + 1 by omega)]) (by
        rintro k s r hW ⟨hk,gc,⟨mm,gm,gmem⟩,gfr,g3,g4,gnx,g12,g11,g10,g0,g1,g2,gd,gf⟩
        simp (maxSteps:=999999) only [E0,seval,-Int.reduceNatCast',NADD0] at g4
        by_cases hp : k < P.length
        rotate_left
        · simp (maxSteps:=999999) only [E0,seval,-Int.reduceNatCast',NUM,g12,g11,gd,gf,(show ¬ (k : Int) < P.length by omega)] at hW
          subst hW
          have : k = P.length:=by omega
          subst this
          refine rd_exit ⟨rfl,?_,?_⟩
          · simp (maxSteps:=999999) only [E0,seval,-Int.reduceNatCast',gc]
          · simp (maxSteps:=999999) only [E0,seval,-Int.reduceNatCast',g3,g4,gd,NADD0]
            exact ⟨⟨mm,gm,gmem⟩,gfr,gnx⟩
        have hne : P ≠ []:=fun h => by rw [h] at hp; simp at hp
        have hk1 : KP H s.H:=⟨gfr,by omega⟩
        have hH1:=hH.mono hk1
        obtain ⟨r5,r6,r7⟩:=hH1.r5 hne
        have r3':=hH1.r3
        have nx7:=hH.nx.2 hne
        rw [CELL_ne hne] at g10
        have e0 : P[k]? = some P[k]:=List.getElem?_eq_getElem hp
        have e6:=map_get' (f:=fun p : Pm => NI p.2.1) e0
        have e7:=map_get' (f:=fun p : Pm => I p.2.2) e0
        have hps:=hP _ (List.getElem_mem hp)
        have fcs : FC P (CH P) n (k + 1) = STC (CH P) n (FC P (CH P) n k) P[k] k:=by
          show (match P[k]? with | some p => STC (CH P) n (FC P (CH P) n k) p k | none => FC P (CH P) n k) = _
          rw [e0]
        generalize P[k] = p at *
        have ac:=ANDc p.2.1 n (by omega) (by omega)
        have sbe : p.2.1 &&& n = SBO p n:=rfl
        rw [sbe] at ac
        have lt : (k : Int) < P.length:=by omega
        have FACTS : True:=trivial
        by_cases s0' : SBO p n = 0
        · have hns : ¬ SEP p n:=fun h => h.1 s0'
          simp (maxSteps:=999999) only [E0,seval,-Int.reduceNatCast',NUM,g12,g11,g10,g2,r6,e6,ac,s0',gd,gf,lt,List.length_map,Nat.zero_add,Int.toNat_natCast,(show (0 : Int) ≤ k by omega),(i64_in (x:=(k : Int) + 1) (by unfold I64; omega))] at hW
          subst hW
          refine rd_next (k + 1) ?_ (show P.length - (k + 1) < P.length - k by omega)
          rw [fcs,STC,if_neg hns]
          simp (maxSteps:=999999) only [E0,seval,-Int.reduceNatCast',NADD0,gc,g3,g4,g11,g10,g0,g1,g2,gd,CELL_ne hne]
          exact ⟨by omega,⟨mm,gm,gmem⟩,gfr,gnx,by simp⟩
        by_cases s1' : SBO p n = n
        · have hns : ¬ SEP p n:=fun h => h.2 s1'
          simp (maxSteps:=999999) only [E0,seval,-Int.reduceNatCast',NUM,g12,g11,g10,g2,r6,e6,ac,s1',gd,gf,lt,List.length_map,Nat.zero_add,Int.toNat_natCast,(show ¬ (n : Int) = 0 by omega),(show (0 : Int) ≤ k by omega),(i64_in (x:=(k : Int) + 1) (by unfold I64; omega))] at hW
          subst hW
          refine rd_next (k + 1) ?_ (show P.length - (k + 1) < P.length - k by omega)
          rw [fcs,STC,if_neg hns]
          simp (maxSteps:=999999) only [E0,seval,-Int.reduceNatCast',NADD0,gc,g3,g4,g11,g10,g0,g1,g2,gd,CELL_ne hne]
          exact ⟨by omega,⟨mm,gm,gmem⟩,gfr,gnx,by simp⟩
        have hs : SEP p n:=⟨s0',s1'⟩
        have l1:=SBO_lt hs
        have l2:=ANDN_lt hn hs
        obtain ⟨sb,hsb⟩ : ∃ sb,SBO p n = sb:=⟨_,rfl⟩
        rw [hsb] at ac l1 l2 s0' s1'
        have an:=ANDNc n sb (by omega) (by omega)
        obtain ⟨nb,hnb⟩ : ∃ nb,ANDN n sb = nb:=⟨_,rfl⟩
        rw [hnb] at an l2
        simp (maxSteps:=999999) only [E0,seval,-Int.reduceNatCast',NUM,NADD0,Tryz.func57,g12,g11,g10,g0,g2,g4,r6,e6,ac,gd,gf,lt,List.length_map,Nat.zero_add,Int.toNat_natCast,(show ¬ (sb : Int) = 0 by omega),(show ¬ (sb : Int) = n by omega),(show (0 : Int) ≤ k by omega)] at hW
        rw [if_pos (by kernel_rfl)] at hW
        have ggr : s.H.rows g = some (.gro 1 [.fn 57 [.rop [.ptr 3 1 0 0],.ptr g 1 0 0]] 0):=by rw [gfr g hg.1 (by omega)]; exact hgr
        have ng : (¬ g = H.next + 1) ∧ (¬ g = H.next + 1 + 1 + 1) ∧ (¬ g = H.next + 1 + 1 + 1 + 1):=by omega
        have n37 : (¬ (3 : Nat) = H.next + 1 + 1 + 1 + 1) ∧ (¬ (7 : Nat) = H.next + 1 + 1 + 1 + 1) ∧ (¬ (H.next + 1 : Nat) = H.next + 1 + 1 + 1 + 1) ∧ (¬ (H.next + 1 + 1 + 1 : Nat) = H.next + 1 + 1 + 1 + 1):=by omega
        simp (maxSteps:=999999) only [E0,seval,-Int.reduceNatCast',NUM,NADD0,Tryz.func57,List.length_map,Nat.zero_add,Int.toNat_natCast,NUM,r3',r7,ggr,ng,n37,e7,CELL_ne hne,an,lt,(show (0 : Int) ≤ k by omega)] at hW
        generalize hE1 : callF _ _ _ _ _ _ = E1 at hW
        obtain ⟨Hb,rfl,kb,mb,hmb,hmemb⟩:=ih2 sb l1 _ (hH.mono ⟨fun a ha h2 => by simp (maxSteps:=999999) only [E0,seval,-Int.reduceNatCast',(show ¬ a = H.next + 1 + 1 + 1 + 1 by omega)]; exact gfr a ha h2,by simp (maxSteps:=999999) only [E0,seval,-Int.reduceNatCast']; omega⟩) ⟨mm,by simp (maxSteps:=999999) only [E0,seval,-Int.reduceNatCast',nz,gm],gmem⟩ g ⟨by simp (maxSteps:=999999) only [E0,seval,-Int.reduceNatCast']; omega,hg.2⟩ (by simp (maxSteps:=999999) only [E0,seval,-Int.reduceNatCast',ng,ggr]) E1 hE1
        have bf : ∀ i,i < s.H.next → i ≠ 2 → i ≠ H.next + 1 + 1 + 1 + 1 → Hb.rows i = s.H.rows i:=fun i hi h2 h4 => by
          rw [kb.fr i (by simp (maxSteps:=999999) only [E0,seval,-Int.reduceNatCast']; omega) h2]
          simp (maxSteps:=999999) only [E0,seval,-Int.reduceNatCast',h4]
        have bn : s.H.next + 1 ≤ Hb.next:=by have:=kb.nx; simp (maxSteps:=999999) only [E0,seval,-Int.reduceNatCast'] at this; exact this
        have b3:=(bf 3 (by omega) (by decide) (by omega)).trans r3'
        have b7:=(bf 7 (by omega) (by decide) (by omega)).trans r7
        have bg:=(bf g (by omega) (by omega) (by omega)).trans ggr
        have bc:=(bf (H.next + 1) (by omega) (by omega) (by omega)).trans gc
        have bd:=(bf (H.next + 1 + 1 + 1) (by omega) (by omega) (by omega)).trans g3
        have hHb : PLH T P Hb:=hH1.mono7 (fun i h3 h7 hi => bf i hi (by omega) (by omega)) (by omega)
        obtain ⟨Hc,e2,kc,mc,hmc,hmemc⟩:=ih nb l2 (by omega) Hb hHb ⟨mb,hmb,hmemb⟩ g ⟨by omega,hg.2⟩ bg
        have cb1:=CH_bd hP sb (by omega)
        have cb2:=CH_bd hP nb (by omega)
        have wv:=i64_in (x:=p.2.2 + max (CH P sb).1 (CH P nb).1) (by unfold I64; omega)
        simp (maxSteps:=999999) only [E0,seval,-Int.reduceNatCast',NUM,NADD0,Tryz.func57,List.length_map,Nat.zero_add,Int.toNat_natCast,b3,b7,bg,e7,e2,an,wv,lt,(show (0 : Int) ≤ k by omega)] at hW
        rw [ite_f (by kernel_rfl)] at hW
        generalize hB : bruteW _ _ _ _ = B at hW
        obtain ⟨p',hp'⟩:=run_of hB
        have hp0:=hp'
        simp (maxSteps:=999999) only [E0,seval,-Int.reduceNatCast',NUM,NADD0,Tryz.func57,List.length_map,Nat.zero_add,Int.toNat_natCast,r3',r7,ggr,ng,n37,e7,CELL_ne hne,an,lt,hE1,b3,b7,bg,e2,wv,(show (0 : Int) ≤ k by omega)] at hp'
        subst hp'
        have hbk:=brute_keep [3,7,g] [9,15] (by kernel_rfl) hp0 (by rfl) (by
          intro j hj σ σ' g1 g2 x1 x2 x hx
          simp only [List.mem_cons,List.not_mem_nil,or_false] at hj hx
          rcases hj with rfl | rfl
          · simp (maxSteps:=999999) only [E0,seval,-Int.reduceNatCast',NUM,NADD0,Tryz.func57,List.length_map,Nat.zero_add,Int.toNat_natCast,r3',r7,ggr,ng,n37,e7,CELL_ne hne,an,lt,hE1,b3,b7,bg,e2,wv,(show (0 : Int) ≤ k by omega),List.take] at x1
            simp (maxSteps:=999999) only [E0,seval,-Int.reduceNatCast',NUM,NADD0,Tryz.func57,List.length_map,Nat.zero_add,Int.toNat_natCast,r3',r7,ggr,ng,n37,e7,CELL_ne hne,an,lt,hE1,b3,b7,bg,e2,wv,(show (0 : Int) ≤ k by omega),List.take] at x2
            cases x1; cases x2
            exact kb.fr x (by simp (maxSteps:=999999) only [E0,seval,-Int.reduceNatCast']; omega) (by omega)
          · simp (maxSteps:=999999) only [E0,seval,-Int.reduceNatCast',NUM,NADD0,Tryz.func57,List.length_map,Nat.zero_add,Int.toNat_natCast,r3',r7,ggr,ng,n37,e7,CELL_ne hne,an,lt,hE1,b3,b7,bg,e2,wv,(show (0 : Int) ≤ k by omega),List.take] at x1
            simp (maxSteps:=999999) only [E0,seval,-Int.reduceNatCast',NUM,NADD0,Tryz.func57,List.length_map,Nat.zero_add,Int.toNat_natCast,r3',r7,ggr,ng,n37,e7,CELL_ne hne,an,lt,hE1,b3,b7,bg,e2,wv,(show (0 : Int) ≤ k by omega),List.take] at x2
            cases x1; cases x2
            exact kc.fr x (by omega) (by omega)) (chk_keepP _ _ (by kernel_rfl) (by kernel_rfl))
        rw [hbk] at hB
        subst hB
        have cc:=(kc.fr (H.next + 1) (by omega) (by omega)).trans bc
        have cd:=(kc.fr (H.next + 1 + 1 + 1) (by omega) (by omega)).trans bd
        have cl : Hc.rows (H.next + 1 + 1 + 1 + 1) = setL .busy (s.H.rows (H.next + 1 + 1 + 1 + 1)):=by
          rw [kc.fr (H.next + 1 + 1 + 1 + 1) (by omega) (by omega),kb.fr (H.next + 1 + 1 + 1 + 1) (by simp (maxSteps:=999999) only [E0,seval,-Int.reduceNatCast']; omega) (by omega)]
          simp (maxSteps:=999999) only [E0,seval,-Int.reduceNatCast',g4,setL]
        rw [g4] at cl
        simp (maxSteps:=999999) only [E0,seval,-Int.reduceNatCast',setL] at cl
        have cn:=kc.nx
        obtain ⟨c1,hfc1⟩ : ∃ c,(FC P (CH P) n k).1 = c:=⟨_,rfl⟩
        obtain ⟨c2,hfc2⟩ : ∃ c,(FC P (CH P) n k).2 = c:=⟨_,rfl⟩
        rw [hfc1,hfc2] at cc
        by_cases hc1 : c2 < 0
        · have newc : (if (FC P (CH P) n k).2 < 0 ∨ p.2.2 + max (CH P sb).1 (CH P nb).1 < (FC P (CH P) n k).1 then (p.2.2 + max (CH P sb).1 (CH P nb).1,(k : Int)) else FC P (CH P) n k) = (p.2.2 + max (CH P sb).1 (CH P nb).1,(k : Int)):=if_pos (.inl (by rw [hfc2]; exact hc1))
          simp (maxSteps:=999999) only [E0,seval,-Int.reduceNatCast',NUM,NADD0,Tryz.func57,List.length_map,Nat.zero_add,Int.toNat_natCast,cc,cl,hc1,g12,gd,gf,(i64_in (x:=(k : Int) + 1) (by unfold I64; omega))] at hW
          subst hW
          refine rd_next (k + 1) ?_ (show P.length - (k + 1) < P.length - k by omega)
          rw [fcs,STC,if_pos hs,hsb,hnb,newc]
          simp (maxSteps:=999999) only [E0,seval,-Int.reduceNatCast',NADD0,cc,cd,cl,g4,g11,g10,g0,g1,g2,gd,CELL_ne hne]
          refine ⟨by omega,⟨mc,?_,hmemc⟩,fun a ha h2 => ?_,by omega,by simp⟩
          · first | exact hmc | (simp (maxSteps:=999999) only [E0,seval,-Int.reduceNatCast',nz,hmc,(show ¬ H.next = 1 by omega)])
          · simp (maxSteps:=999999) only [E0,seval,-Int.reduceNatCast',(show ¬ a = H.next + 1 by omega),(show ¬ a = H.next + 1 + 1 + 1 + 1 by omega)]
            rw [kc.fr a (by omega) h2,bf a (by omega) h2 (by omega)]
            exact gfr a ha h2
        by_cases hc3 : p.2.2 + max (CH P sb).1 (CH P nb).1 < c1
        · have newc : (if (FC P (CH P) n k).2 < 0 ∨ p.2.2 + max (CH P sb).1 (CH P nb).1 < (FC P (CH P) n k).1 then (p.2.2 + max (CH P sb).1 (CH P nb).1,(k : Int)) else FC P (CH P) n k) = (p.2.2 + max (CH P sb).1 (CH P nb).1,(k : Int)):=if_pos (.inr (by rw [hfc1]; exact hc3))
          simp (maxSteps:=999999) only [E0,seval,-Int.reduceNatCast',NUM,NADD0,Tryz.func57,List.length_map,Nat.zero_add,Int.toNat_natCast,cc,cl,hc1,g12,gd,gf,hc3,(i64_in (x:=(k : Int) + 1) (by unfold I64; omega))] at hW
          subst hW
          refine rd_next (k + 1) ?_ (show P.length - (k + 1) < P.length - k by omega)
          rw [fcs,STC,if_pos hs,hsb,hnb,newc]
          simp (maxSteps:=999999) only [E0,seval,-Int.reduceNatCast',NADD0,cc,cd,cl,g4,g11,g10,g0,g1,g2,gd,CELL_ne hne]
          refine ⟨by omega,⟨mc,?_,hmemc⟩,fun a ha h2 => ?_,by omega,by simp⟩
          · first | exact hmc | (simp (maxSteps:=999999) only [E0,seval,-Int.reduceNatCast',nz,hmc,(show ¬ H.next = 1 by omega)])
          · simp (maxSteps:=999999) only [E0,seval,-Int.reduceNatCast',(show ¬ a = H.next + 1 by omega),(show ¬ a = H.next + 1 + 1 + 1 + 1 by omega)]
            rw [kc.fr a (by omega) h2,bf a (by omega) h2 (by omega)]
            exact gfr a ha h2
        · have newc : (if (FC P (CH P) n k).2 < 0 ∨ p.2.2 + max (CH P sb).1 (CH P nb).1 < (FC P (CH P) n k).1 then (p.2.2 + max (CH P sb).1 (CH P nb).1,(k : Int)) else FC P (CH P) n k) = FC P (CH P) n k:=if_neg (by rw [hfc1,hfc2]; exact fun h => h.elim hc1 hc3)
          simp (maxSteps:=999999) only [E0,seval,-Int.reduceNatCast',NUM,NADD0,Tryz.func57,List.length_map,Nat.zero_add,Int.toNat_natCast,cc,cl,hc1,g12,gd,gf,hc3,(i64_in (x:=(k : Int) + 1) (by unfold I64; omega))] at hW
          subst hW
          refine rd_next (k + 1) ?_ (show P.length - (k + 1) < P.length - k by omega)
          rw [fcs,STC,if_pos hs,hsb,hnb,newc,hfc1,hfc2]
          simp (maxSteps:=999999) only [E0,seval,-Int.reduceNatCast',NADD0,cc,cd,cl,g4,g11,g10,g0,g1,g2,gd,CELL_ne hne]
          refine ⟨by omega,⟨mc,?_,hmemc⟩,fun a ha h2 => ?_,by omega,by simp⟩
          · first | exact hmc | (simp (maxSteps:=999999) only [E0,seval,-Int.reduceNatCast',nz,hmc,(show ¬ H.next = 1 by omega)])
          · simp (maxSteps:=999999) only [E0,seval,-Int.reduceNatCast',(show ¬ a = H.next + 1 by omega),(show ¬ a = H.next + 1 + 1 + 1 + 1 by omega)]
            rw [kc.fr a (by omega) h2,bf a (by omega) h2 (by omega)]
            exact gfr a ha h2)
    have hk1 : KP H s.H:=⟨gfr,by omega⟩
    have r3':=(hH.mono hk1).r3
    rw [← CH_eq P hn] at gc
    simp (maxSteps:=999999) only [E0,seval,-Int.reduceNatCast',NADD0] at g4
    simp (maxSteps:=999999) only [E0,seval,-Int.reduceNatCast',NUM,NADD0,gc,g3,g4,gd,gf] at hR
    simp (maxSteps:=999999) only [E0,seval,-Int.reduceNatCast',NUM,MAPI,NADD0,r3',gc,gm,g3,nz,(show ¬ H.next = 1 by omega)] at hR
    replace hR:=ite_chk3 (fun a b c => [(6,[Vr.row a],[Vr.row a]),(5,[Vr.row b],[]),(3,[Vr.row c],[])]) 2 (H.next + 1) 3 (by omega) (by omega) (by omega) (by intro f h1 h2 h3; simp [renL,renM,renV,h1,h2,h3]) (by kernel_rfl) hR
    subst hR
    refine ⟨_,rfl,⟨fun a ha h2 => ?_,?_⟩,_,?_,MEM_set gmem n⟩
    · simp (maxSteps:=999999) only [E0,seval,-Int.reduceNatCast',h2,(show ¬ a = H.next + 1 by omega),(show ¬ a = H.next + 1 + 1 + 1 by omega),(show ¬ a = H.next + 1 + 1 + 1 + 1 by omega)]
      exact gfr a ha h2
    · simp (maxSteps:=999999) only [E0,seval,-Int.reduceNatCast']
      omega
    · simp (maxSteps:=999999) only [E0,seval,-Int.reduceNatCast',nz,(show ¬ H.next = 1 by omega)]
set_option maxHeartbeats 4000000 in
theorem c_choose {T : List Nat} {P : List Pm} (hP : PSM P) (hl : P.length ≤ 12) (n : Nat) (hn : n < 4096) (H : Heap) (hH : PLH T P H) (hmm : ∃ mm,H.rows 2 = some (.map (imap mm)) ∧ MEM P mm) :
    ∃ H',callF G Tryz.prog pol 34 [.ptr 3 1 0 0,I n] H = some (.ret (CHV P n),H') ∧ KP H H' ∧ ∃ mm,H'.rows 2 = some (.map (imap mm)) ∧ MEM P mm:=by
  obtain ⟨mm,hm2,hmem⟩:=hmm
  have h4:=hH.nx.1
  have k1 : KP H ((Heap.add ⟨H.rows,H.next + 1⟩ (.gro 1 [.nilf] 0)).set (H.next + 1) (.gro 1 [.fn 57 [.rop [.ptr 3 1 0 0],.ptr (H.next + 1) 1 0 0]] 0)):=⟨fun i hi h2 => by simp (maxSteps:=999999) only [E0,seval,-Int.reduceNatCast',(show ¬ i = H.next + 1 by omega)],by simp (maxSteps:=999999) only [E0,seval,-Int.reduceNatCast']; omega⟩
  obtain ⟨H',e,k,mm',hm',hmem'⟩:=c_choose1 hP hl n hn _ (hH.mono k1) ⟨mm,by simp (maxSteps:=999999) only [E0,seval,-Int.reduceNatCast',(show ¬ H.next = 1 by omega),hm2],hmem⟩ (H.next + 1) ⟨by simp (maxSteps:=999999) only [E0,seval,-Int.reduceNatCast']; omega,by omega⟩ (by simp (maxSteps:=999999) only [E0,seval,-Int.reduceNatCast'])
  rw [callF_eq _ _ Tryz.func34 rfl Tryz.ntmps34 Tryz.results34 (by kernel_rfl) rfl (by exact Nat.le_of_ble_eq_true rfl)]
  simp (maxSteps:=999999) only [E0,seval,-Int.reduceNatCast',NUM,e]
  exact ⟨_,rfl,k1.trans k,mm',hm',hmem'⟩
theorem TP_fits (t : TR) : (TP t).fits 3 = true:=by cases t <;> rfl
theorem TP_all : (∀ t,strip0 (TP t) = TP t) ∧ (∀ H t,strip1 H (TP t) = TP t) ∧ (∀ H t,strip2 H (TP t) = TP t) ∧ (∀ t,(TP t).fits 3 = true):=⟨fun t => (TP_strip t).1,fun H t => (TP_strip t).2.1 H,fun H t => (TP_strip t).2.2 H,TP_fits⟩
theorem sbo_and {p : Pm} {n : Nat} (hp : p.2.1 < 4096) (hn : n < 4096) : IntKind.i64.wrap ((BitVec.ofInt IntKind.i64.bits (p.2.1 : Int) &&& BitVec.ofInt IntKind.i64.bits (n : Int)).toNat : Nat) = ((SBO p n : Nat) : Int):=ANDc p.2.1 n (by omega) (by omega)
set_option maxHeartbeats 8000000 in
theorem c_tree {T : List Nat} {P : List Pm} (hP : PSM P) (hl : P.length ≤ 12) : ∀ (n : Nat),n < 4096 → ∀ (H : Heap) (_ : PLH T P H) (_ : ∃ mm,H.rows 2 = some (.map (imap mm)) ∧ MEM P mm),
    ∃ H',callF G Tryz.prog pol 32 [.ptr 3 1 0 0,I n] H = some (.ret (TP (TRE P n)),H') ∧ KP H H' ∧ ∃ mm,H'.rows 2 = some (.map (imap mm)) ∧ MEM P mm:=by
  intro n
  induction n using Nat.strongRecOn with
  | ind n ih =>
  intro hn H hH hmm
  have k0 : KP H ⟨H.rows,H.next + 1⟩:=⟨fun _ _ _ => rfl,by simp⟩
  obtain ⟨H1,e1,k1,mm1,hm1,hmem1⟩:=c_choose hP hl n hn ⟨H.rows,H.next + 1⟩ (hH.mono k0) hmm
  rw [show CHV P n = .agg [I (CH P n).1,I (CH P n).2] from rfl] at e1
  have k01:=k0.trans k1
  have hH1:=hH.mono k01
  rw [callF_eq _ _ Tryz.func32 rfl Tryz.ntmps32 Tryz.results32 (by kernel_rfl) rfl (by exact Nat.le_of_ble_eq_true rfl)]
  rcases CH_spec P hn with ⟨hc,_⟩ | ⟨j,p,hj,hs,hc⟩
  · rw [TRE_leaf (by rw [hc]; decide)]
    rw [hc] at e1
    simp (maxSteps:=999999) only [E0,seval,-Int.reduceNatCast',NUM,e1,c_list n hn]
    exact ⟨_,rfl,k01,mm1,hm1,hmem1⟩
  · have hne : P ≠ []:=fun h => by rw [h] at hj; simp at hj
    have hjl : j < P.length:=(List.getElem?_eq_some_iff.1 hj).1
    have hps:=hP p (List.mem_of_getElem? hj)
    have l1:=SBO_lt hs
    have l2:=ANDN_lt hn hs
    rw [TRE_node hn hj hs (by rw [hc])]
    have hc2 : (CH P n).2 = (j : Int):=by rw [hc]
    obtain ⟨cc,hcc⟩ : ∃ c,(CH P n).1 = c:=⟨_,rfl⟩
    rw [hcc,hc2] at e1
    have e6:=map_get' (f:=fun p : Pm => NI p.2.1) hj
    obtain ⟨r5,r6,r7⟩:=hH1.r5 hne
    have r3:=hH1.r3
    have ac:=sbo_and hps.2.1 hn
    obtain ⟨sb,hsb⟩ : ∃ sb,SBO p n = sb:=⟨_,rfl⟩
    rw [hsb] at ac l1 l2
    have an:=ANDNc n sb (by omega) (by omega)
    rw [hsb]
    obtain ⟨nb,hnb⟩ : ∃ nb,ANDN n sb = nb:=⟨_,rfl⟩
    rw [hnb] at an l2
    rw [hnb]
    obtain ⟨H2,e2,k2,mm2,hm2,hmem2⟩:=ih nb l2 (by omega) H1 hH1 ⟨mm1,hm1,hmem1⟩
    obtain ⟨H3,e3,k3,mm3,hm3,hmem3⟩:=ih sb l1 (by omega) H2 (hH1.mono k2) ⟨mm2,hm2,hmem2⟩
    simp (maxSteps:=999999) only [E0,seval,-Int.reduceNatCast',NUM,TP_all,e1,r3,r6,e6,CELL_ne hne,ac,an,e2,e3,List.length_map,Nat.zero_add,Int.toNat_natCast,(show ¬ (j : Int) < 0 by omega),(show (0 : Int) ≤ j by omega),(show (j : Int) < P.length by omega)]
    rw [if_pos (by kernel_rfl)]
    exact ⟨_,rfl,(k01.trans k2).trans k3,mm3,hm3,hmem3⟩
theorem ite_chk4 {α : Type} {ops : Array Oper} (L : Nat → Nat → Nat → Nat → List (Nat × MF)) (a b c d : Nat) (hab : a ≠ b) (hac : a ≠ c) (had : a ≠ d) (hbc : b ≠ c) (hbd : b ≠ d) (hcd : c ≠ d) {x y z : α} (h : ∀ f : Nat → Nat,f 1 = a → f 2 = b → f 3 = c → f 4 = d → renL f (L 1 2 3 4) = L a b c d) (hk : chkL ops (L 1 2 3 4) (L 1 2 3 4) = true) (e : (if chkL ops (L a b c d) (L a b c d) = true then x else y) = z) : x = z:=by
  obtain ⟨f,g,h1,h2,e1,_⟩:=perm_ext id id (fun _ => rfl) (fun _ => rfl) 1 a
  obtain ⟨f',g',h1',h2',e2,k2⟩:=perm_ext f g h1 h2 2 b
  obtain ⟨f'',g'',h1'',h2'',e3,k3⟩:=perm_ext f' g' h1' h2' 3 c
  obtain ⟨f3,g3,h13,h23,e4,k4⟩:=perm_ext f'' g'' h1'' h2'' 4 d
  have q1 : f' 1 = a:=by rw [k2 1 (by decide) (by omega)]; exact e1
  have q2 : f'' 1 = a:=by rw [k3 1 (by decide) (by omega)]; exact q1
  have q3 : f'' 2 = b:=by rw [k3 2 (by decide) (by omega)]; exact e2
  have : chkL ops (L a b c d) (L a b c d) = true:=by
    rw [← h f3 (by rw [k4 1 (by decide) (by omega)]; exact q2) (by rw [k4 2 (by decide) (by omega)]; exact q3) (by rw [k4 3 (by decide) (by omega)]; exact e3) e4,chkL_ren (inv_inj h13)]; exact hk
  rw [if_pos this] at e; exact e
theorem TPC : (∀ t,(TP t).cells.length = 3) ∧ (∀ t,PV.agg (List.take 3 (TP t).cells) = TP t) ∧ (∀ t,PV.agg (TP t).cells = TP t):=⟨fun t => by cases t <;> rfl,fun t => by cases t <;> rfl,fun t => by cases t <;> rfl⟩
set_option maxHeartbeats 16000000 in
theorem c_worth {T : List Nat} {P : List Pm} (hP : PSM P) (hl : P.length ≤ 12) : ∀ (n : Nat),n < 4096 → ∀ (H : Heap) (_ : PLH T P H) (R : Option (CR × Heap)) (_ : callF G Tryz.prog pol 36 [.ptr 3 1 0 0,TP (TRE P n),I n] H = R),
    ∃ H',R = some (.ret (.tup [I (CH P n).1,.bool true]),H') ∧ (∀ i < H.next,H'.rows i = H.rows i) ∧ H.next ≤ H'.next:=by
  intro n
  induction n using Nat.strongRecOn with
  | ind n ih =>
  intro hn H hH R hR
  have h4:=hH.nx.1
  have r3:=hH.r3
  obtain ⟨st0,st1,st2⟩:=TP_strip (TRE P n)
  rw [callF_eq _ _ Tryz.func36 rfl Tryz.ntmps36 Tryz.results36 (by kernel_rfl) rfl (by exact Nat.le_of_ble_eq_true rfl)] at hR
  rcases CH_spec P hn with ⟨hc,hno⟩ | ⟨j,p,hj,hs,hc⟩
  · rw [TRE_leaf (by rw [hc]; decide)] at hR st0 st1 st2
    unfold TP at hR st0 st1 st2
    rw [hc]
    simp (maxSteps:=999999) only [E0,seval,-Int.reduceNatCast',NUM,st0,st1,st2] at hR
    rw [callF_eq _ _ Tryz.func58 rfl Tryz.ntmps58 Tryz.results58 (by kernel_rfl) rfl (by exact Nat.le_of_ble_eq_true rfl)] at hR
    simp (maxSteps:=999999) only [E0,seval,-Int.reduceNatCast',NUM] at hR
    rw [callF_eq _ _ Tryz.func82 rfl Tryz.ntmps82 Tryz.results82 (by kernel_rfl) rfl (by exact Nat.le_of_ble_eq_true rfl)] at hR
    have n3 : (¬ (3 : Nat) = H.next + 1) ∧ (¬ (3 : Nat) = H.next + 1 + 1) ∧ (¬ (3 : Nat) = H.next + 1 + 1 + 1 + 1) ∧ (¬ (3 : Nat) = H.next + 1 + 1 + 1 + 1 + 1):=by omega
    simp (maxSteps:=999999) only [E0,seval,-Int.reduceNatCast',NUM,NADD0,r3,CELL_len,n3] at hR
    generalize hL : W _ (.loop _) _ = L at hR
    obtain ⟨ex,s,rfl,rfl,gfr,g1,g2,g4,g5,gnx,gd,gf⟩:=loop_at hL (α:=Nat) (fun k => P.length - k)
      (fun s0 k s => k ≤ P.length ∧ (∀ a < H.next,s.H.rows a = H.rows a) ∧ s.H.rows (H.next + 1) = some (.gro 1 [I 0] 0) ∧ s.H.rows (H.next + 1 + 1) = some (.gro 1 [.bool false] 0) ∧ s.H.rows (H.next + 1 + 1 + 1 + 1) = some .dfr ∧ s.H.rows (H.next + 1 + 1 + 1 + 1 + 1) = s0.H.rows (H.next + 1 + 1 + 1 + 1 + 1) ∧ H.next + 1 + 1 + 1 + 1 + 1 + 1 < s.H.next ∧ s.tmps 12 = I k ∧ s.tmps 11 = I P.length ∧ s.tmps 10 = CELL P 6 ∧ s.tmps 2 = .rop [I n] ∧ s.defers = [] ∧ s.fid = H.next + 1 + 1 + 1 + 1 + 1 + 1)
      (fun s0 ex s => ex = .exit 0 ∧ (∀ a < H.next,s.H.rows a = H.rows a) ∧ s.H.rows (H.next + 1) = some (.gro 1 [I 0] 0) ∧ s.H.rows (H.next + 1 + 1) = some (.gro 1 [.bool false] 0) ∧ s.H.rows (H.next + 1 + 1 + 1 + 1) = some .dfr ∧ s.H.rows (H.next + 1 + 1 + 1 + 1 + 1) = s0.H.rows (H.next + 1 + 1 + 1 + 1 + 1) ∧ H.next + 1 + 1 + 1 + 1 + 1 + 1 < s.H.next ∧ s.defers = [] ∧ s.fid = H.next + 1 + 1 + 1 + 1 + 1 + 1) 0
      (by simp (maxSteps:=999999) only [E0,seval,-Int.reduceNatCast',NUM,NADD0]
          refine ⟨Nat.zero_le _,fun a ha => ?_,by omega⟩
          simp (maxSteps:=999999) only [E0,seval,-Int.reduceNatCast',(show ¬ a = H.next + 1 by omega),(show ¬ a = H.next + 1 + 1 by omega),(show ¬ a = H.next + 1 + 1 + 1 + 1 by omega),(show ¬ a = H.next + 1 + 1 + 1 + 1 + 1 by omega)]) (by
        rintro k s r hW ⟨hk,gfr,g1,g2',g4,g5,gnx,g12,g11,g10,g2,gd,gf⟩
        simp (maxSteps:=999999) only [E0,seval,-Int.reduceNatCast',NADD0] at g5
        by_cases hp : k < P.length
        rotate_left
        · simp (maxSteps:=999999) only [E0,seval,-Int.reduceNatCast',NUM,g12,g11,gd,gf,(show ¬ (k : Int) < P.length by omega)] at hW
          subst hW
          refine rd_exit ⟨rfl,?_⟩
          simp (maxSteps:=999999) only [E0,seval,-Int.reduceNatCast',NADD0,g1,g2',g4,g5,gd]
          exact ⟨gfr,gnx⟩
        have hne : P ≠ []:=fun h => by rw [h] at hp; simp at hp
        obtain ⟨r5,r6,r7⟩:=hH.r5 hne
        have nx7:=hH.nx.2 hne
        rw [CELL_ne hne] at g10
        have e0 : P[k]? = some P[k]:=List.getElem?_eq_getElem hp
        have e6:=map_get' (f:=fun p : Pm => NI p.2.1) e0
        have hps:=hP _ (List.getElem_mem hp)
        have hsep:=hno k _ e0
        generalize P[k] = p at *
        have ac:=ANDc p.2.1 n (by omega) (by omega)
        have sbe : p.2.1 &&& n = SBO p n:=rfl
        rw [sbe] at ac
        have lt : (k : Int) < P.length:=by omega
        have r6':=(gfr 6 (by omega)).trans r6
        have cs : SBO p n = 0 ∨ SBO p n = n:=by
          rcases Classical.em (SBO p n = 0) with h | h
          · exact .inl h
          · exact .inr (Classical.byContradiction fun g => hsep ⟨h,g⟩)
        by_cases s0' : SBO p n = 0
        · simp (maxSteps:=999999) only [E0,seval,-Int.reduceNatCast',NUM,g12,g11,g10,g2,r6',e6,ac,s0',gd,gf,lt,List.length_map,Nat.zero_add,Int.toNat_natCast,(show (0 : Int) ≤ k by omega),(i64_in (x:=(k : Int) + 1) (by unfold I64; omega))] at hW
          subst hW
          refine rd_next (k + 1) ?_ (show P.length - (k + 1) < P.length - k by omega)
          simp (maxSteps:=999999) only [E0,seval,-Int.reduceNatCast',NADD0,g1,g2',g4,g5,g11,g10,g2,gd,CELL_ne hne]
          exact ⟨by omega,gfr,gnx,by simp⟩
        · have s1':=cs.resolve_left s0'
          simp (maxSteps:=999999) only [E0,seval,-Int.reduceNatCast',NUM,g12,g11,g10,g2,r6',e6,ac,s1',gd,gf,lt,List.length_map,Nat.zero_add,Int.toNat_natCast,(show ¬ (n : Int) = 0 by omega),(show (0 : Int) ≤ k by omega),(i64_in (x:=(k : Int) + 1) (by unfold I64; omega))] at hW
          subst hW
          refine rd_next (k + 1) ?_ (show P.length - (k + 1) < P.length - k by omega)
          simp (maxSteps:=999999) only [E0,seval,-Int.reduceNatCast',NADD0,g1,g2',g4,g5,g11,g10,g2,gd,CELL_ne hne]
          exact ⟨by omega,gfr,gnx,by simp⟩)
    simp (maxSteps:=999999) only [E0,seval,-Int.reduceNatCast',NADD0] at g5
    simp (maxSteps:=999999) only [E0,seval,-Int.reduceNatCast',NUM,NADD0,g1,g2,g4,g5,gd,gf,c_list n hn,c_equal1 (BITS n 12) none (by have:=BITS_len n 12; omega),SELT,INTS] at hR
    replace hR:=ite_chk2 (fun a b => [(11,[Vr.row b],[Vr.row b]),(10,[Vr.row a],[Vr.row a]),(5,[Vr.box 4],[]),(1,[Vr.box 4],[])]) (H.next + 1) (H.next + 1 + 1) (by omega) (by intro f h1 h2; simp [renL,renM,renV,h1,h2]) (by kernel_rfl) hR
    subst hR
    refine ⟨_,rfl,fun a ha => ?_,?_⟩
    · simp (maxSteps:=999999) only [E0,seval,-Int.reduceNatCast',(show ¬ a = H.next + 1 by omega),(show ¬ a = H.next + 1 + 1 by omega),(show ¬ a = H.next + 1 + 1 + 1 + 1 by omega),(show ¬ a = H.next + 1 + 1 + 1 + 1 + 1 by omega)]
      exact gfr a ha
    · simp (maxSteps:=999999) only [E0,seval,-Int.reduceNatCast']
      omega
  · have hne : P ≠ []:=fun h => by rw [h] at hj; simp at hj
    have hjl : j < P.length:=(List.getElem?_eq_some_iff.1 hj).1
    have hps:=hP p (List.mem_of_getElem? hj)
    have l1:=SBO_lt hs
    have l2:=ANDN_lt hn hs
    rw [TRE_node hn hj hs (by rw [hc])] at hR st0 st1 st2
    unfold TP at hR st0 st1 st2
    rw [hc]
    obtain ⟨s0',s1'⟩:=hs
    have e6:=map_get' (f:=fun p : Pm => NI p.2.1) hj
    have e7:=map_get' (f:=fun p : Pm => I p.2.2) hj
    have nx7:=hH.nx.2 hne
    obtain ⟨r5,r6,r7⟩:=hH.r5 hne
    have ac:=sbo_and hps.2.1 hn
    have b1:=CH_bd hP (SBO p n) (by omega)
    have b2:=CH_bd hP (ANDN n (SBO p n)) (by omega)
    obtain ⟨sb,hsb⟩ : ∃ sb,SBO p n = sb:=⟨_,rfl⟩
    rw [hsb] at ac l1 l2 hR st0 st1 st2 s0' s1' b1 b2
    rw [hsb]
    have an:=ANDNc n sb (by omega) (by omega)
    obtain ⟨nb,hnb⟩ : ∃ nb,ANDN n sb = nb:=⟨_,rfl⟩
    rw [hnb] at an l2 hR st0 st1 st2 b2
    rw [hnb]
    have n36 : (¬ (3 : Nat) = H.next + 1) ∧ (¬ (3 : Nat) = H.next + 1 + 1) ∧ (¬ (6 : Nat) = H.next + 1) ∧ (¬ (6 : Nat) = H.next + 1 + 1) ∧ (¬ (7 : Nat) = H.next + 1) ∧ (¬ (7 : Nat) = H.next + 1 + 1):=by omega
    simp (maxSteps:=999999) only [E0,seval,-Int.reduceNatCast',NUM,st0,st1,st2,n36,r3,r6,r7,CELL_ne hne,CELL_len,List.length_map,(show ¬ (j : Int) < 0 by omega),(show ¬ (P.length : Int) ≤ j by omega),Nat.zero_add,Int.toNat_natCast,e6,ac,an,(show (0 : Int) ≤ j by omega),(show (j : Int) < P.length by omega),(show ¬ (sb : Int) = 0 by omega),(show ¬ (sb : Int) = n by omega),WW_loop,TPC,TP_all] at hR
    generalize hE1 : callF _ _ _ _ _ _ = E1 at hR
    obtain ⟨H1,rfl,f1,x1⟩:=ih nb l2 (by omega) _ (hH.mono7 (fun i h3 h7 hi => by simp (maxSteps:=999999) only [E0,seval,-Int.reduceNatCast',(show ¬ i = H.next + 1 by omega),(show ¬ i = H.next + 1 + 1 by omega)]) (by simp (maxSteps:=999999) only [E0,seval,-Int.reduceNatCast']; omega)) E1 hE1
    clear hE1
    simp (maxSteps:=999999) only [E0,seval,-Int.reduceNatCast'] at f1
    simp (maxSteps:=999999) only [E0,seval,-Int.reduceNatCast'] at x1
    have w1:=f1 (H.next + 1) (by omega)
    have w2:=f1 (H.next + 1 + 1) (by omega)
    simp (maxSteps:=999999) only [E0,seval,-Int.reduceNatCast',NADD0] at w1
    simp (maxSteps:=999999) only [E0,seval,-Int.reduceNatCast',NADD0] at w2
    obtain ⟨c1,hc1⟩ : ∃ c,(CH P nb).1 = c:=⟨_,rfl⟩
    obtain ⟨c2,hc2⟩ : ∃ c,(CH P sb).1 = c:=⟨_,rfl⟩
    rw [hc1] at hR b2
    simp (maxSteps:=999999) only [E0,seval,-Int.reduceNatCast',NUM,TPC,TP_all,w1,w2,WW_loop] at hR
    generalize hE1 : callF _ _ _ _ _ _ = E1 at hR
    have q1 : ∀ i < H.next,H1.rows i = H.rows i:=fun i hi => by
      have:=f1 i (by omega)
      simp (maxSteps:=999999) only [E0,seval,-Int.reduceNatCast',(show ¬ i = H.next + 1 by omega),(show ¬ i = H.next + 1 + 1 by omega)] at this
      exact this
    obtain ⟨H2,rfl,f2,x2⟩:=ih sb l1 (by omega) _ (hH.mono7 (fun i h3 h7 hi => by simp (maxSteps:=999999) only [E0,seval,-Int.reduceNatCast',(show ¬ i = H.next + 1 by omega)]; exact q1 i hi) (by simp (maxSteps:=999999) only [E0,seval,-Int.reduceNatCast']; omega)) E1 hE1
    clear hE1
    simp (maxSteps:=999999) only [E0,seval,-Int.reduceNatCast'] at f2
    simp (maxSteps:=999999) only [E0,seval,-Int.reduceNatCast'] at x2
    have v1:=f2 (H.next + 1) (by omega)
    have v2:=f2 (H.next + 1 + 1) (by omega)
    simp (maxSteps:=999999) only [E0,seval,-Int.reduceNatCast',NADD0] at v1
    simp (maxSteps:=999999) only [E0,seval,-Int.reduceNatCast',NADD0,w2] at v2
    have q2 : ∀ i < H.next,H2.rows i = H.rows i:=fun i hi => by
      have:=f2 i (by omega)
      simp (maxSteps:=999999) only [E0,seval,-Int.reduceNatCast',(show ¬ i = H.next + 1 by omega),q1 i hi] at this
      exact this
    rw [hc2] at hR b1
    have z3:=(q2 3 (by omega)).trans r3
    have z7:=(q2 7 (by omega)).trans r7
    simp (maxSteps:=999999) only [E0,seval,-Int.reduceNatCast',NUM,NADD0,TPC,TP_all,v1,v2,WW_loop,z3,z7,e7,n36,CELL_ne hne,List.length_map,Nat.zero_add,Int.toNat_natCast,(show (0 : Int) ≤ j by omega),(show (j : Int) < P.length by omega),i64_in (x:=p.2.2 + max (max 0 c1) c2) (by unfold I64; omega)] at hR
    replace hR:=ite_chk4 (fun a b c d => [(11,[Vr.row b],[Vr.row b]),(10,[Vr.row a],[Vr.row a]),(8,[Vr.row a],[]),(7,[Vr.row d],[]),(5,[Vr.box 4],[]),(3,[Vr.row c],[])]) (H.next + 1) (H.next + 1 + 1) 3 7 (by omega) (by omega) (by omega) (by omega) (by omega) (by omega) (by intro f h1 h2 h3 h4; simp [renL,renM,renV,h1,h2,h3,h4]) (by kernel_rfl) hR
    subst hR
    have em : max c2 c1 = max (max 0 c1) c2:=by omega
    rw [hc1,hc2,em]
    refine ⟨_,rfl,fun a ha => ?_,?_⟩
    · simp (maxSteps:=999999) only [E0,seval,-Int.reduceNatCast',(show ¬ a = H.next + 1 by omega),(show ¬ a = H.next + 1 + 1 by omega)]
      exact q2 a ha
    · simp (maxSteps:=999999) only [E0,seval,-Int.reduceNatCast']
      omega
def MIN (T : Nat → Bool) (m n : Nat) : Prop:=T n = true ∧ ∀ j < m,n / 2 ^ j % 2 = 1 → T (ANDN n (2 ^ j)) = false
noncomputable instance (T : Nat → Bool) (m n : Nat) : Decidable (MIN T m n):=Classical.propDecidable _
noncomputable def MINL (T : Nat → Bool) (m k : Nat) : List Nat:=(List.range k).filter fun n => decide (MIN T m n)
theorem MINL_succ (T : Nat → Bool) (m k : Nat) : MINL T m (k + 1) = MINL T m k ++ (if MIN T m k then [k] else []):=by
  unfold MINL
  rw [List.range_succ,List.filter_append]
  congr 1
  by_cases h : MIN T m k
  · simp [h]
  · simp [h]
theorem MINL_mem {T : Nat → Bool} {m k n : Nat} : n ∈ MINL T m k ↔ n < k ∧ MIN T m n:=by
  unfold MINL; simp
theorem ANDN_one (i : Nat) (h : 2 * i + 1 < 2 ^ 64) : ANDN (2 * i + 1) 1 = 2 * i:=by
  apply Nat.eq_of_testBit_eq
  intro t
  rw [ANDN_bit 1 t h (by decide)]
  cases t with
  | zero => simp
  | succ t =>
    rw [Nat.testBit_succ,Nat.testBit_succ,Nat.testBit_succ]
    have e1 : (2 * i + 1) / 2 = i:=by omega
    have e2 : 2 * i / 2 = i:=by omega
    rw [e1,e2]
    simp
theorem pairs_le (p : Nat → Bool) : ∀ k,(∀ i < k,¬ (p (2 * i) = true ∧ p (2 * i + 1) = true)) → ((List.range (2 * k)).filter p).length ≤ k
  | 0,_ => by simp
  | k + 1,h => by
    have ih:=pairs_le p k fun i hi => h i (by omega)
    have hk:=h k (by omega)
    rw [show 2 * (k + 1) = 2 * k + 1 + 1 by omega,List.range_succ,List.range_succ,List.filter_append,List.filter_append,List.length_append,List.length_append]
    have : ([2 * k].filter p).length + ([2 * k + 1].filter p).length ≤ 1:=by
      cases h1 : p (2 * k) with
      | false => cases h2 : p (2 * k + 1) <;> simp [h1,h2]
      | true =>
        cases h2 : p (2 * k + 1) with
        | false => simp [h1,h2]
        | true => exact absurd ⟨h1,h2⟩ hk
    omega
theorem MINL_len (T : Nat → Bool) (m : Nat) (hm : m ≤ 6) : (MINL T m (2 ^ m)).length ≤ 32:=by
  cases m with
  | zero => have:=List.length_filter_le (fun n => decide (MIN T 0 n)) (List.range (2 ^ 0)); unfold MINL; simp at this ⊢; omega
  | succ m =>
    have p1 : 2 ^ m ≤ 2 ^ 5:=Nat.pow_le_pow_right (by decide) (by omega)
    have p2 : (2 : Nat) ^ 5 = 32:=by decide
    have:=pairs_le (fun n => decide (MIN T (m + 1) n)) (2 ^ m) (by
      rintro i hi ⟨h1,h2⟩
      simp only [decide_eq_true_eq] at h1 h2
      have:=h2.2 0 (by omega) (by rw [Nat.pow_zero,Nat.div_one]; omega)
      rw [Nat.pow_zero,ANDN_one i (by omega),h1.1] at this
      cases this)
    unfold MINL
    rw [Nat.pow_succ,Nat.mul_comm]
    omega
theorem tbl_get {D : Dis} {X : Evd} {N k : Nat} (h : k < N) : (tbl D X N)[k]? = some (.bool (TB D X k)):=by
  simp [h]
section
variable {D : Dis} (hr : ∀ x ∈ D.rs,x.OK) {X : Evd} {q : Cps} (hv : DV D q.cs q.gs q.ds q.ws) (hb : ∀ w ∈ X.ws,w.hs.length ≤ 1000000 ∧ w.os.length ≤ 1000000 ∧ w.ts.length ≤ 1000000)
include hr hv hb
set_option maxHeartbeats 8000000 in
theorem c_minimal (h6 : X.ss.length ≤ 6) : ∃ c v,ap Tryz.prog pol 7 [.agg (dcl D q),.agg (evq X q)] = some (.ret (.tup [v,I c])) ∧ (c = 0 ↔ EOK D X) ∧
    (c = 0 → ∃ L',L'.Perm ((MINL (TB D X) X.ss.length (2 ^ X.ss.length)).map fun n => BITS n X.ss.length) ∧ v = .vs 1 (L'.map elt) none ∧ ((MINL (TB D X) X.ss.length (2 ^ X.ss.length)).map (fun n => BITS n X.ss.length) = [[0],[1]] → L' = [[0],[1]])):=by
  obtain ⟨c,v,ec,hc,hcv⟩:=c_table hr hv hb
  rw [ap_eq _ Tryz.func7 rfl Tryz.ntmps7 Tryz.results7 (by kernel_rfl) rfl (by exact Nat.le_of_ble_eq_true rfl)]
  by_cases h0 : c = 0
  rotate_left
  · simp (maxSteps:=999999) only [E0,seval,-Int.reduceNatCast',NUM,SRCH,SFRM,SCRP,SRGT,SDTY,SWAV,SSUS,hv.st,ec,h0]
    refine ⟨_,_,rfl,⟨fun g => absurd g h0,fun g => absurd (hc.2 g) h0⟩,fun g => absurd g h0⟩
  have hE:=hc.1 h0
  have hv':=hcv h0
  subst h0
  subst hv'
  simp (maxSteps:=999999) only [E0,seval,-Int.reduceNatCast',NUM,SRCH,SFRM,SCRP,SRGT,SDTY,SWAV,SSUS,hv.st,ec]
  generalize hX : callF _ _ _ _ _ _ = E
  rw [callF_eq _ _ Tryz.func22 rfl Tryz.ntmps22 Tryz.results22 (by kernel_rfl) rfl (by exact Nat.le_of_ble_eq_true rfl)] at hX
  simp (maxSteps:=999999) only [E0,seval,-Int.reduceNatCast',NUM] at hX
  subst hX
  simp (maxSteps:=999999) only [E0,seval,-Int.reduceNatCast',NUM]
  generalize hX : callF _ _ _ _ _ _ = E
  rw [callF_eq _ _ Tryz.func43 rfl Tryz.ntmps43 Tryz.results43 (by kernel_rfl) rfl (by exact Nat.le_of_ble_eq_true rfl)] at hX
  simp (maxSteps:=999999) only [E0,seval,-Int.reduceNatCast',NUM] at hX
  generalize hL : W _ (.loop _) _ = L at hX
  have lss:=hE.2.2.1
  have p0 : 2 ^ X.ss.length ≤ 2 ^ 12:=Nat.pow_le_pow_right (by decide) lss
  have p1 : (2 : Nat) ^ 12 = 4096:=by decide
  have hlen : ∀ k,(MINL (TB D X) X.ss.length k).length ≤ k:=fun k => by
    have:=List.length_filter_le (fun n => decide (MIN (TB D X) X.ss.length n)) (List.range k)
    simpa [MINL] using this
  obtain ⟨N,hN⟩ : ∃ N,2 ^ X.ss.length = N:=⟨_,rfl⟩
  rw [hN] at hL p0
  have ltb : (tbl D X N).length = N:=by simp
  rw [ltb] at hL
  obtain ⟨m,hm⟩ : ∃ m,X.ss.length = m:=⟨_,rfl⟩
  rw [hm] at hN lss h6 hlen
  have PB : ∀ k,((MINL (TB D X) m k).map fun n => BITS n m).length = (MINL (TB D X) m k).length:=fun k => List.length_map ..
  obtain ⟨ex,s,rfl,rfl,hr1,hr2,hr4,hr5,hnx,hd,hf⟩:=loop_at hL (α:=Nat) (fun k => N - k)
    (fun s0 n s => n ≤ N ∧ s.H.rows 1 = some (RW ((MINL (TB D X) m n).map fun n => BITS n m)) ∧ s.H.rows 2 = some (.gro 1 [.gsl 1 1 (MINL (TB D X) m n).length 0 (MINL (TB D X) m n).length] 0) ∧ s.H.rows 4 = some .dfr ∧ s.H.rows 5 = s0.H.rows 5 ∧ 6 < s.H.next ∧ s.tmps 8 = I n ∧ s.tmps 6 = .vs 1 (tbl D X N) none ∧ s.tmps 7 = I N ∧ s.tmps 0 = .yield 5 ∧ s.tmps 1 = .rop [.vs 1 (tbl D X N) none] ∧ s.defers = [] ∧ s.fid = 6)
    (fun s0 ex s => ex = .exit 0 ∧ s.H.rows 1 = some (RW ((MINL (TB D X) m N).map fun n => BITS n m)) ∧ s.H.rows 2 = some (.gro 1 [.gsl 1 1 (MINL (TB D X) m N).length 0 (MINL (TB D X) m N).length] 0) ∧ s.H.rows 4 = some .dfr ∧ s.H.rows 5 = s0.H.rows 5 ∧ 6 < s.H.next ∧ s.defers = [] ∧ s.fid = 6) 0
    (by have hz : MINL (TB D X) m 0 = []:=rfl
        simp (maxSteps:=999999) only [E0,seval,-Int.reduceNatCast',NUM,hz,List.map_nil,List.length_nil]
        exact ⟨Nat.zero_le _,rfl⟩) (by
      rintro n s r hW ⟨hn,hr1,hr2,hr4,hr5,hnx,h8,h6',h7,h0,h1,hd,hf⟩
      simp (maxSteps:=999999) only [E0,seval,-Int.reduceNatCast'] at hr5
      by_cases hp : n < N
      rotate_left
      · simp (maxSteps:=999999) only [E0,seval,-Int.reduceNatCast',NUM,h8,h7,hd,hf,(show ¬ (n : Int) < N by omega)] at hW
        subst hW
        have : n = N:=by omega
        subst this
        refine rd_exit ⟨rfl,?_,?_,?_,?_,?_,?_,?_⟩ <;> simp (maxSteps:=999999) only [E0,seval,-Int.reduceNatCast',hr1,hr2,hr4,hr5,hd,hf]
        exact hnx
      have lt : (n : Int) < N:=by omega
      have tg:=tbl_get (D:=D) (X:=X) hp
      simp (maxSteps:=999999) only [E0,seval,-Int.reduceNatCast',NUM,h8,h6',h7,h0,h1,hd,hf,lt,tg,ltb,Int.toNat_natCast,(show (0 : Int) ≤ n by omega)] at hW
      generalize hL2 : W _ (.loop _) _ = L2 at hW
      obtain ⟨ex,s',rfl,rfl,⟨b,g4,hb4⟩,gH,g3,g8,g6,g7,g0,g1,gd,gf⟩:=loop_at hL2 (α:=Nat) (fun i => m - i)
        (fun s0 i s' => i ≤ m ∧ (∃ b,s'.tmps 4 = .bool b ∧ (b = true ↔ TB D X n = true ∧ ∀ j < i,n / 2 ^ j % 2 = 1 → TB D X (ANDN n (2 ^ j)) = false)) ∧ s'.H = s.H ∧ s'.tmps 5 = I i ∧ s'.tmps 3 = I n ∧ s'.tmps 8 = I n ∧ s'.tmps 6 = .vs 1 (tbl D X N) none ∧ s'.tmps 7 = I N ∧ s'.tmps 0 = .yield 5 ∧ s'.tmps 1 = .rop [.vs 1 (tbl D X N) none] ∧ s'.defers = [] ∧ s'.fid = 6)
        (fun s0 ex s' => ex = .exit 2 ∧ (∃ b,s'.tmps 4 = .bool b ∧ (b = true ↔ MIN (TB D X) m n)) ∧ s'.H = s.H ∧ s'.tmps 3 = I n ∧ s'.tmps 8 = I n ∧ s'.tmps 6 = .vs 1 (tbl D X N) none ∧ s'.tmps 7 = I N ∧ s'.tmps 0 = .yield 5 ∧ s'.tmps 1 = .rop [.vs 1 (tbl D X N) none] ∧ s'.defers = [] ∧ s'.fid = 6) 0
        (by simp (maxSteps:=999999) only [E0,seval,-Int.reduceNatCast',NUM,h8,h6',h7,h0,h1]
            exact ⟨Nat.zero_le _,⟨TB D X n,rfl,⟨fun h => ⟨h,fun j hj => absurd hj (Nat.not_lt_zero j)⟩,fun h => h.1⟩⟩⟩) (by
          rintro i s' r hW ⟨hi,⟨b,g4,hb4⟩,gH,g5,g3,g8,g6,g7,g0,g1,gd,gf⟩
          have sh:=SHRn n i (by omega)
          cases b with
          | false =>
            simp (maxSteps:=999999) only [E0,seval,-Int.reduceNatCast',NUM,g4,gd,gf] at hW
            subst hW
            refine rd_exit ⟨rfl,⟨false,?_,?_⟩,?_⟩
            · simp (maxSteps:=999999) only [E0,seval,-Int.reduceNatCast',g4]
            · simp only [Bool.false_eq_true,false_iff] at hb4 ⊢
              exact fun g => hb4 ⟨g.1,fun j hj => g.2 j (by omega)⟩
            · simp (maxSteps:=999999) only [E0,seval,-Int.reduceNatCast',g3,g8,g6,g7,g0,g1,gd,gf,gH]
          | true =>
          have hok:=hb4.1 rfl
          by_cases hz : n / 2 ^ i = 0
          · simp (maxSteps:=999999) only [E0,seval,-Int.reduceNatCast',NUM,g4,g3,g5,sh,hz,gd,gf,Int.toNat_natCast,(show ¬ (i : Int) < 0 by omega)] at hW
            subst hW
            refine rd_exit ⟨rfl,⟨true,?_,?_⟩,?_⟩
            · simp (maxSteps:=999999) only [E0,seval,-Int.reduceNatCast',g4]
            · refine ⟨fun _ => ⟨hok.1,fun j hj hbit => ?_⟩,fun _ => rfl⟩
              by_cases hji : j < i
              · exact hok.2 j hji hbit
              · exfalso
                have : n / 2 ^ j ≤ n / 2 ^ i:=Nat.div_le_div_left (Nat.pow_le_pow_right (by decide) (by omega)) (Nat.pow_pos (by decide))
                rw [hz] at this
                rw [Nat.le_zero.1 this] at hbit
                cases hbit
            · simp (maxSteps:=999999) only [E0,seval,-Int.reduceNatCast',g3,g8,g6,g7,g0,g1,gd,gf,gH]
          have him : i < m:=by
            rcases Nat.lt_or_ge i m with h | h
            · exact h
            · exfalso
              apply hz
              have : 2 ^ m ≤ 2 ^ i:=Nat.pow_le_pow_right (by decide) h
              exact Nat.div_eq_of_lt (by omega)
          have hpos : (0 : Int) < ((n / 2 ^ i : Nat) : Int):=Int.natCast_pos.2 (Nat.pos_of_ne_zero hz)
          have nn : n / 2 ^ i < 9223372036854775808:=Nat.lt_of_le_of_lt (Nat.div_le_self _ _) (by omega)
          have an:=AND1 (n / 2 ^ i) nn
          have sl:=SHLn i (by omega)
          have pi : 2 ^ i ≤ 2 ^ 12:=Nat.pow_le_pow_right (by decide) (by omega)
          have ac:=ANDNc n (2 ^ i) (by omega) (by omega)
          have ale : ANDN n (2 ^ i) < N:=Nat.lt_of_le_of_lt (ANDN_le _ _) hp
          have tg2:=tbl_get (D:=D) (X:=X) ale
          have ok1 : ∀ v : Bool,(n / 2 ^ i % 2 = 1 → v = !(TB D X (ANDN n (2 ^ i)))) → (n / 2 ^ i % 2 ≠ 1 → v = true) → (v = true ↔ TB D X n = true ∧ ∀ j < i + 1,n / 2 ^ j % 2 = 1 → TB D X (ANDN n (2 ^ j)) = false):=by
            intro v h1 h2
            constructor
            · intro hv
              refine ⟨hok.1,fun j hj hbit => ?_⟩
              by_cases hji : j < i
              · exact hok.2 j hji hbit
              · have : j = i:=by omega
                subst this
                have:=h1 hbit
                rw [hv] at this
                simpa using this
            · intro g
              by_cases hbit : n / 2 ^ i % 2 = 1
              · rw [h1 hbit,g.2 i (by omega) hbit]; rfl
              · exact h2 hbit
          generalize hA : ANDN n (2 ^ i) = A at *
          by_cases hbit : n / 2 ^ i % 2 = 1
          · obtain ⟨tb,htb⟩ : ∃ b,TB D X A = b:=⟨_,rfl⟩
            rw [htb] at tg2 ok1
            cases tb
            all_goals
              simp (maxSteps:=999999) only [E0,seval,-Int.reduceNatCast',NUM,g4,g3,g5,g1,sh,an,sl,ac,hpos,hbit,tg2,ltb,gd,gf,Int.toNat_natCast,(show ¬ (i : Int) < 0 by omega),(show (0 : Int) ≤ A by omega),(show (A : Int) < N by omega),(i64_in (x:=(i : Int) + 1) (by unfold I64; omega))] at hW
              subst hW
              refine rd_next (i + 1) ?_ (show m - (i + 1) < m - i by omega)
              simp (maxSteps:=999999) only [E0,seval,-Int.reduceNatCast',g3,g8,g6,g7,g0,g1,gd,gH]
              refine ⟨by omega,⟨_,rfl,ok1 _ (fun _ => rfl) (fun h => absurd hbit h)⟩,by simp⟩
          · simp (maxSteps:=999999) only [E0,seval,-Int.reduceNatCast',NUM,g4,g3,g5,g1,sh,an,hpos,gd,gf,Int.toNat_natCast,(show ((n / 2 ^ i % 2 : Nat) : Int) = 0 by omega),(show ¬ (i : Int) < 0 by omega),(i64_in (x:=(i : Int) + 1) (by unfold I64; omega))] at hW
            subst hW
            refine rd_next (i + 1) ?_ (show m - (i + 1) < m - i by omega)
            simp (maxSteps:=999999) only [E0,seval,-Int.reduceNatCast',g3,g8,g6,g7,g0,g1,gd,gH]
            refine ⟨by omega,⟨true,rfl,ok1 _ (fun h => absurd h hbit) (fun _ => rfl)⟩,by simp⟩)
      have hms:=MINL_succ (TB D X) m n
      cases b with
      | false =>
        have hno : ¬ MIN (TB D X) m n:=fun g => by cases hb4.2 g
        rw [if_neg hno,List.append_nil] at hms
        simp (maxSteps:=999999) only [E0,seval,-Int.reduceNatCast',NUM,g4,gd,gf,g8,(i64_in (x:=(n : Int) + 1) (by unfold I64; omega))] at hW
        subst hW
        refine rd_next (n + 1) ?_ (show N - (n + 1) < N - n by omega)
        simp (maxSteps:=999999) only [E0,seval,-Int.reduceNatCast',g6,g7,g0,g1,gd,gH,hms,hr1,hr2,hr4,hr5]
        exact ⟨by omega,hnx,by simp⟩
      | true =>
        have hyes : MIN (TB D X) m n:=hb4.1 rfl
        rw [if_pos hyes] at hms
        have cm:=c_members n m lss (by rw [hN]; exact hp)
        have al : ([elt (BITS n m)].all fun e => e.fits 1) = true:=by simp [PV.fits,PV.cells]
        have hl:=hlen n
        simp (maxSteps:=999999) only [E0,seval,-Int.reduceNatCast',NUM,Tryz.func7,g4,g3,g0,gd,gf,g8,gH,hr1,hr2,hr5,cm,al,PB,List.length_map,Nat.zero_add,(show (MINL (TB D X) m n).length + 1 ≤ 67108864 by omega),(show (MINL (TB D X) m n).length ≤ 67108863 by omega),(i64_in (x:=(n : Int) + 1) (by unfold I64; omega))] at hW
        rw [if_pos (by kernel_rfl),if_pos (by kernel_rfl)] at hW
        subst hW
        refine rd_next (n + 1) ?_ (show N - (n + 1) < N - n by omega)
        simp (maxSteps:=999999) only [E0,seval,-Int.reduceNatCast',g6,g7,g0,g1,gd,hms,hr4,hr5,List.map_append,List.map_cons,List.map_nil,List.length_append,List.length_cons,List.length_nil,Nat.zero_add]
        refine ⟨by omega,?_,by first | omega | exact ⟨by omega,by simp⟩⟩
        unfold RW
        rw [List.map_append]; rfl)
  have l32:=MINL_len (TB D X) m h6
  rw [hN] at l32
  simp (maxSteps:=999999) only [E0,seval,-Int.reduceNatCast'] at hr5
  simp (maxSteps:=999999) only [E0,seval,-Int.reduceNatCast',hd,hf,hr1,hr2,hr4,hr5] at hX
  subst hX
  simp (maxSteps:=999999) only [E0,seval,-Int.reduceNatCast',NUM,hr1,hr2,hr4,hr5]
  generalize hE1 : callF _ _ _ _ _ _ = E1
  obtain ⟨M,hM⟩ : ∃ M,(MINL (TB D X) m N).map (fun n => BITS n m) = M:=⟨_,rfl⟩
  have hMl : (MINL (TB D X) m N).length = M.length:=by rw [← hM]; simp
  have hMB : LB M:=fun l hl => by
    rw [← hM] at hl
    obtain ⟨n,_,rfl⟩:=List.mem_map.1 hl
    have:=BITS_len n m
    omega
  rw [hM] at hr1
  rw [hMl] at hE1 l32 hr2
  have hrr : (⟨upd s.H.rows 5 none,s.H.next⟩ : Heap).rows 1 = some (RW M):=by simp (maxSteps:=999999) only [E0,seval,-Int.reduceNatCast',hr1]
  obtain ⟨H2,L2,rfl,p2,r2,Q2,tw⟩ : ∃ H2 L2,E1 = some (.ret (.tup []),H2) ∧ L2.Perm M ∧ H2.rows 1 = some (RW L2) ∧ QS ⟨upd s.H.rows 5 none,s.H.next⟩ H2 ∧ (M = [[0],[1]] → L2 = [[0],[1]]):=by
    by_cases hT : M = [[0],[1]]
    · subst hT
      have e:=q_two (M:=([[0],[1]] : List (List Int)).map elt) rfl rfl rfl ⟨upd s.H.rows 5 none,s.H.next⟩ hrr
      rw [← hE1]
      exact ⟨_,[[0],[1]],e,.refl _,hrr,⟨fun _ _ _ => rfl,by simp only; omega⟩,fun _ => rfl⟩
    · obtain ⟨H2,L2,e,p2,r2,Q2⟩:=q_sort M hMB M.length rfl (by omega) ⟨upd s.H.rows 5 none,s.H.next⟩ hrr (by simp only; omega)
      rw [← hE1]
      exact ⟨H2,L2,e,p2,r2,Q2,fun g => absurd g hT⟩
  clear hE1
  have f2 : H2.rows 2 = some (.gro 1 [.gsl 1 1 M.length 0 M.length] 0):=by
    rw [Q2.fr 2 (by simp only; omega) (by decide)]
    simp (maxSteps:=999999) only [E0,seval,-Int.reduceNatCast',hr2]
  have f4 : H2.rows 4 = some .dfr:=by
    rw [Q2.fr 4 (by simp only; omega) (by decide)]
    simp (maxSteps:=999999) only [E0,seval,-Int.reduceNatCast',hr4]
  have ll:=p2.length_eq
  simp (maxSteps:=999999) only [E0,seval,-Int.reduceNatCast',NUM,f2,f4,r2,hd,hf,SELT,ll,List.length_map,List.take_of_length_le,Nat.zero_add,Nat.le_refl]
  refine ⟨0,_,rfl,⟨fun _ => hE,fun _ => rfl⟩,fun _ => ⟨L2,?_,rfl,?_⟩⟩
  · rw [hm,hN,hM]; exact p2
  · rw [hm,hN,hM]; exact tw
end
theorem REA_is {x : Rch} (hx : x.OK) (hR : RIGHT x) {w : Int} (hw : 0 ≤ w ∧ w ≤ 1073741824) : IsL (fun v => w - 1 < BE (los x) v) 1073741825 (REA x w):=by
  rcases c_Reach x hx w with ⟨h,_⟩ | ⟨_,r,hl,_⟩
  · exact absurd ((VC_0 x w).2 ⟨hR,hw⟩) h
  · rw [show REA x w = r from LST_eq hl]; exact hl
theorem MOS_is {x : Rch} (hx : x.OK) (hR : RIGHT x) {w : Int} (hw : 0 ≤ w ∧ w ≤ 1073741824) : IsL (fun v => w < WO (los x) v) 1073741825 (MOS x w + 1):=by
  rcases c_Most x hx w with ⟨h,_⟩ | ⟨_,r,hl,_⟩
  · exact absurd ((VC_0 x w).2 ⟨hR,hw⟩) h
  · have : MOS x w = r - 1:=by unfold MOS; rw [LST_eq hl]
    rw [this,show r - 1 + 1 = r by omega]; exact hl
theorem REA_le {x : Rch} (hx : x.OK) (hR : RIGHT x) {w h : Int} (hw : 0 ≤ w ∧ w ≤ 1073741824) (hh : 0 ≤ h) (hb : w ≤ BE (los x) h) : REA x w ≤ h:=by
  have I:=REA_is hx hR hw
  rcases Int.lt_or_le h (REA x w) with g | g
  · exact absurd (show w - 1 < BE (los x) h by omega) (I.no h hh g)
  · exact g
theorem MOS_ge {x : Rch} (hx : x.OK) (hR : RIGHT x) {w h : Int} (hw : 0 ≤ w ∧ w ≤ 1073741824) (hh : h ≤ 1073741824) (hb : WO (los x) h ≤ w) : h ≤ MOS x w:=by
  have I:=MOS_is hx hR hw
  rcases Int.lt_or_le (MOS x w) h with g | g
  · have : w < WO (los x) h:=I.yes h (by omega) (by omega)
    omega
  · exact g
theorem REA_mono {x : Rch} (hx : x.OK) (hR : RIGHT x) {a b : Int} (ha : 0 ≤ a) (hab : a ≤ b) (hb : b ≤ 1073741824) : REA x a ≤ REA x b:=by
  have I:=REA_is hx hR ⟨ha,by omega⟩
  have J:=REA_is hx hR (w:=b) ⟨by omega,hb⟩
  rcases Int.lt_or_le (REA x b) (REA x a) with g | g
  · have h1 : b - 1 < BE (los x) (REA x b):=J.yes _ (Int.le_refl _) (by have:=I.hi; omega)
    exact absurd (show a - 1 < BE (los x) (REA x b) by omega) (I.no _ J.lo g)
  · exact g
theorem MOS_mono {x : Rch} (hx : x.OK) (hR : RIGHT x) {a b : Int} (ha : 0 ≤ a) (hab : a ≤ b) (hb : b ≤ 1073741824) : MOS x a ≤ MOS x b:=by
  have I:=MOS_is hx hR ⟨ha,by omega⟩
  have J:=MOS_is hx hR (w:=b) ⟨by omega,hb⟩
  rcases Int.lt_or_le (MOS x b) (MOS x a) with g | g
  · have h1 : b < WO (los x) (MOS x b + 1):=J.yes _ (Int.le_refl _) (by have:=I.hi; omega)
    exact absurd (show a < WO (los x) (MOS x b + 1) by omega) (I.no _ J.lo (by omega))
  · exact g
theorem getD_at {α : Type} {l : List α} {i : Nat} {x d : α} (e : l[i]? = some x) : l.getD i d = x:=by rw [List.getD_eq_getElem?_getD,e]; rfl
theorem get_lt {α : Type} {l : List α} {i : Nat} (h : i < l.length) : ∃ x,l[i]? = some x:=⟨l[i],List.getElem?_eq_getElem h⟩
theorem INR_at {ss : List Sus} {set : List Int} {kd : Int} {l : List Int} {rs : List (Int × Int)} (h : INR ss set kd l rs) {i : Nat} (hi : i < rs.length) : (MT ss set kd i ((rs[i]?).getD (0,0))).1 ≤ l.getD i 0 ∧ l.getD i 0 ≤ (MT ss set kd i ((rs[i]?).getD (0,0))).2:=by
  obtain ⟨p,hp⟩:=get_lt hi
  obtain ⟨y,hy⟩:=get_lt (l:=l) (by rw [h.1]; exact hi)
  rw [hp,Option.getD_some,getD_at hy]
  exact h.2 i y hy p hp
section
variable {D : Dis} {X : Evd} {w : Wav}
theorem LV_fit {set : List Int} {t : Tru} (hK : ALLI (fun i x => RUP i x ∧ RIN x) D.rs) (h1 : w.ts.length = D.rs.length) (h2 : w.os.length = D.fs.length) (hf : FIT D X set w t) {hs : List (Int × Int)} (hl : hs.length = D.rs.length) {r : Nat} (hr : r < D.rs.length)
    (hh : ∀ i,r < i → ∀ p,hs[i]? = some p → p.1 ≤ t.hs.getD i 0 ∧ t.hs.getD i 0 ≤ p.2) : (LV D X set w hs r).1 ≤ OUT D X t r ∧ OUT D X t r ≤ (LV D X set w hs r).2:=by
  have a:=INR_at hf.ts (i:=r) (by omega)
  have b : ∀ k < D.rs.length,gL D.rs hs r k ≤ gH D.rs t.hs r k ∧ gH D.rs t.hs r k ≤ gU D.rs hs r k:=fun k hk => by
    obtain ⟨y,hy⟩:=get_lt hk
    obtain ⟨p,hp⟩:=get_lt (l:=hs) (i:=k) (by omega)
    unfold gL gH gU
    rw [hy,hp]
    simp only [Option.map_some,Option.getD_some,Option.some.injEq]
    by_cases e : y.up = r
    · rw [if_pos e,if_pos e,if_pos e]
      have:=(hK k y hy).1
      unfold RUP at this
      exact hh k (by omega) p hp
    · rw [if_neg e,if_neg e,if_neg e]; omega
  have c : ∀ k < D.fs.length,(gF X.ss set D.fs w.os r k).1 ≤ gO D.fs t.os r k ∧ gO D.fs t.os r k ≤ (gF X.ss set D.fs w.os r k).2:=fun k hk => by
    unfold gF gO
    split
    · exact INR_at hf.os (by omega)
    · simp
  have d : ∀ k < X.ss.length,(gP X.ss set r k).1 ≤ gT X.ss t.tk r k ∧ gT X.ss t.tk r k ≤ (gP X.ss set r k).2:=fun k hk => by
    obtain ⟨y,hy⟩:=get_lt hk
    have tk:=hf.tkok k hk y hy
    unfold gP gT
    split
    · next e =>
      rw [hy,Option.map_some,Option.some.injEq,Prod.mk.injEq] at e
      unfold MOST at tk
      rw [if_pos e.1,e.1,e.2] at tk
      unfold MT
      cases hB : BL X.ss set (4,(r : Int)) with
      | none => rw [hB,Option.getD_none] at tk; simp only; omega
      | some n => rw [hB,Option.getD_some] at tk; simp only; omega
    · simp
  have b1:=SUMF_le (n:=D.rs.length) fun i hi => (b i hi).1
  have b2:=SUMF_le (n:=D.rs.length) fun i hi => (b i hi).2
  have c1:=SUMF_le (n:=D.fs.length) fun i hi => (c i hi).1
  have c2:=SUMF_le (n:=D.fs.length) fun i hi => (c i hi).2
  have d1:=SUMF_le (n:=X.ss.length) fun i hi => (d i hi).1
  have d2:=SUMF_le (n:=X.ss.length) fun i hi => (d i hi).2
  unfold LV OUT
  simp only
  omega
theorem fol_fit (hO : ∀ x ∈ D.rs,x.OK) (hE : EOK D X) (hw : w ∈ X.ws) {set : List Int} {t : Tru} (hf : FIT D X set w t) : ∀ k,k ≤ D.rs.length →
    ∃ hs,FOL D X set w k = some hs ∧ ∀ i,D.rs.length - k ≤ i → ∀ p,hs[i]? = some p → p.1 ≤ t.hs.getD i 0 ∧ t.hs.getD i 0 ≤ p.2
  | 0,_ => ⟨_,rfl,fun i hi p hp => by
      have:=(List.getElem?_eq_some_iff.1 hp).1
      rw [List.length_replicate] at this
      omega⟩
  | k + 1,hk => by
    obtain ⟨hL0,hK⟩:=XC_0 hE.1
    obtain ⟨g1,g2,g3⟩:=WVS_mem hE.2.2.2.1 w hw
    have hmo : ∀ s ∈ X.ss,1 ≤ s.mo ∧ s.mo ≤ 1073741824:=fun s hs => (SSO_mem hE.2.2.2.2 s hs).2.1
    have hA:=hK.2.2.2.1
    obtain ⟨hs,e,hi⟩:=fol_fit hO hE hw hf k (by omega)
    obtain ⟨hl,hrg⟩:=FOL_ok hmo g1.2 e
    obtain ⟨r,hr⟩ : ∃ r,D.rs.length - 1 - k = r:=⟨_,rfl⟩
    have hrl : r < D.rs.length:=by omega
    obtain ⟨x,hx⟩:=get_lt hrl
    have fs:=FOL_succ e (show D.rs[D.rs.length - 1 - k]? = some x by rw [hr]; exact hx)
    rw [hr] at fs
    have hOx:=hO x (List.mem_of_getElem? hx)
    have hRx:=RIN_right (hA r x hx).2
    have lv:=LV_fit hA (by have:=g3.1; omega) (by have:=g2.1; omega) hf hl hrl (fun i hi' p hp => hi i (by omega) p hp)
    have bd:=LV_bd (D:=D) hmo rfl set g3.2 g2.2 hrg r
    have out:=hf.out r x hx
    have hd:=INR_bd hmo hf.hs g1.2 r (by rw [hf.hs.1]; have:=g1.1; omega)
    have hm:=INR_at hf.hs (i:=r) (by have:=g1.1; omega)
    obtain ⟨h,hh⟩ : ∃ h,t.hs.getD r 0 = h:=⟨_,rfl⟩
    rw [hh] at out hd hm
    have lo:=LO_bd hRx.RT hd.1
    have be : BE (los x) h ≤ h:=by unfold BE; omega
    have l1 : (LV D X set w hs r).1 ≤ 1073741824:=by omega
    have re:=REA_le hOx hRx (w:=(LV D X set w hs r).1) ⟨bd.1,l1⟩ hd.1 (by omega)
    have mo:=MOS_ge hOx hRx (w:=min 1073741824 (LV D X set w hs r).2) ⟨by omega,by omega⟩ hd.2 (by omega)
    have c1 : (FHD D X set w hs r x).1 ≤ h ∧ h ≤ (FHD D X set w hs r x).2:=by unfold FHD; simp only; omega
    refine ⟨_,fs.1 ⟨l1,by omega,by omega⟩,fun i hi' p hp => ?_⟩
    rw [List.getElem?_set] at hp
    split at hp
    · next g =>
      subst g
      rw [if_pos (by omega)] at hp
      cases hp
      rw [hh]; exact c1
    · exact hi i (by omega) p hp
theorem FIT_EXP (hO : ∀ x ∈ D.rs,x.OK) (hE : EOK D X) {set : List Int} {l : List Tru} (h0 : X.ws.length = l.length) (h : ∀ (i : Nat) (w : Wav) (t : Tru),X.ws[i]? = some w → l[i]? = some t → FIT D X set w t) : EXP D X set:=by
  intro w hw
  obtain ⟨i,hi⟩:=List.getElem?_of_mem hw
  obtain ⟨t,ht⟩:=get_lt (l:=l) (i:=i) (by rw [← h0]; exact (List.getElem?_eq_some_iff.1 hi).1)
  obtain ⟨hs,e,_⟩:=fol_fit hO hE hw (h i w t hi ht) D.rs.length (Nat.le_refl _)
  rw [e]; simp
def WD (a b : Int × Int) : Prop:=b.1 ≤ a.1 ∧ a.2 ≤ b.2
theorem MT_sub {a b k0 i0 : Int} {ss : List Sus} (hS : SSO a b k0 i0 ss) {s s' : List Int} (h0 : ∀ x ∈ s',0 ≤ x) (hs : ∀ x ∈ s,x ∈ s') (k i : Int) {p : Int × Int} (hp : 0 ≤ p.1) : WD (MT ss s k i p) (MT ss s' k i p):=by
  unfold MT
  cases e : BL ss s (k,i) with
  | none =>
    cases e' : BL ss s' (k,i) with
    | none => exact ⟨Int.le_refl _,Int.le_refl _⟩
    | some n => exact ⟨hp,by simp only; omega⟩
  | some n =>
    obtain ⟨x,hx,y,hy,hp',rfl⟩:=BL_some s e
    have:=BL_mem hS h0 (hs x hx) hy
    rw [← hp'] at this
    rw [this]
    exact ⟨Int.le_refl _,Int.le_refl _⟩
theorem LV_sub (hE : EOK D X) (g2 : ∀ p ∈ w.os,RG p) (g3 : ∀ p ∈ w.ts,RG p) {s s' : List Int} (h0 : ∀ x ∈ s',0 ≤ x) (hss : ∀ x ∈ s,x ∈ s') {hs hs' : List (Int × Int)} (hl : hs.length = D.rs.length) (hl' : hs'.length = D.rs.length)
    (hh : ∀ (i : Nat) p p',hs[i]? = some p → hs'[i]? = some p' → WD p p') (r : Nat) : WD (LV D X s w hs r) (LV D X s' w hs' r):=by
  have z : ∀ {l : List (Int × Int)},(∀ p ∈ l,RG p) → ∀ i : Nat,0 ≤ ((l[i]?).getD (0,0)).1:=fun {l} h i => by
    cases e : l[i]? with
    | none => simp
    | some p => exact (h p (List.mem_of_getElem? e)).1
  have a:=MT_sub hE.2.2.2.2 h0 hss 3 r (z g3 r)
  have b : ∀ k < D.rs.length,gL D.rs hs' r k ≤ gL D.rs hs r k ∧ gU D.rs hs r k ≤ gU D.rs hs' r k:=fun k hk => by
    obtain ⟨p,hp⟩:=get_lt (l:=hs) (i:=k) (by omega)
    obtain ⟨p',hp'⟩:=get_lt (l:=hs') (i:=k) (by omega)
    unfold gL gU
    rw [hp,hp']
    split
    · exact hh k p p' hp hp'
    · simp
  have c : ∀ k < D.fs.length,(gF X.ss s' D.fs w.os r k).1 ≤ (gF X.ss s D.fs w.os r k).1 ∧ (gF X.ss s D.fs w.os r k).2 ≤ (gF X.ss s' D.fs w.os r k).2:=fun k hk => by
    unfold gF
    split
    · exact MT_sub hE.2.2.2.2 h0 hss 2 k (z g2 k)
    · simp
  have d : ∀ k < X.ss.length,(gP X.ss s' r k).1 ≤ (gP X.ss s r k).1 ∧ (gP X.ss s r k).2 ≤ (gP X.ss s' r k).2:=fun k hk => by
    unfold gP
    split
    · exact MT_sub hE.2.2.2.2 h0 hss 4 r (Int.le_refl 0)
    · simp
  have b1:=SUMF_le (n:=D.rs.length) fun i hi => (b i hi).1
  have b2:=SUMF_le (n:=D.rs.length) fun i hi => (b i hi).2
  have c1:=SUMF_le (n:=D.fs.length) fun i hi => (c i hi).1
  have c2:=SUMF_le (n:=D.fs.length) fun i hi => (c i hi).2
  have d1:=SUMF_le (n:=X.ss.length) fun i hi => (d i hi).1
  have d2:=SUMF_le (n:=X.ss.length) fun i hi => (d i hi).2
  obtain ⟨a1,a2⟩:=a
  unfold LV WD
  simp only
  omega
theorem fol_sub (hO : ∀ x ∈ D.rs,x.OK) (hE : EOK D X) (hw : w ∈ X.ws) {s s' : List Int} (h0 : ∀ x ∈ s',0 ≤ x) (hss : ∀ x ∈ s,x ∈ s') : ∀ k,k ≤ D.rs.length → ∀ hs,FOL D X s w k = some hs →
    ∃ hs',FOL D X s' w k = some hs' ∧ ∀ (i : Nat) p p',hs[i]? = some p → hs'[i]? = some p' → WD p p'
  | 0,_,hs,e => by
    cases e
    exact ⟨_,rfl,fun i p p' hp hp' => by rw [hp] at hp'; cases hp'; exact ⟨Int.le_refl _,Int.le_refl _⟩⟩
  | k + 1,hk,hs1,e1 => by
    obtain ⟨hL0,hK⟩:=XC_0 hE.1
    obtain ⟨g1,g2,g3⟩:=WVS_mem hE.2.2.2.1 w hw
    have hmo : ∀ s ∈ X.ss,1 ≤ s.mo ∧ s.mo ≤ 1073741824:=fun s hs => (SSO_mem hE.2.2.2.2 s hs).2.1
    have hA:=hK.2.2.2.1
    cases e : FOL D X s w k with
    | none => rw [FOL_none e (Nat.le_succ k)] at e1; cases e1
    | some hs =>
      obtain ⟨hs',e',hi⟩:=fol_sub hO hE hw h0 hss k (by omega) hs e
      obtain ⟨hl,hrg⟩:=FOL_ok hmo g1.2 e
      obtain ⟨hl',hrg'⟩:=FOL_ok hmo g1.2 e'
      obtain ⟨r,hr⟩ : ∃ r,D.rs.length - 1 - k = r:=⟨_,rfl⟩
      have hrl : r < D.rs.length:=by omega
      obtain ⟨x,hx⟩:=get_lt hrl
      have fs:=FOL_succ e (show D.rs[D.rs.length - 1 - k]? = some x by rw [hr]; exact hx)
      have fs':=FOL_succ e' (show D.rs[D.rs.length - 1 - k]? = some x by rw [hr]; exact hx)
      rw [hr] at fs fs'
      have hOx:=hO x (List.mem_of_getElem? hx)
      have hRx:=RIN_right (hA r x hx).2
      by_cases hF : FOK D X s w hs r x
      rotate_left
      · rw [fs.2 hF] at e1; cases e1
      rw [fs.1 hF] at e1
      cases e1
      have lv:=LV_sub hE g2.2 g3.2 h0 hss hl hl' hi r
      have bd:=LV_bd (D:=D) hmo rfl s g3.2 g2.2 hrg r
      have bd':=LV_bd (D:=D) hmo rfl s' g3.2 g2.2 hrg' r
      obtain ⟨f1,f2,f3⟩:=hF
      obtain ⟨lv1,lv2⟩:=lv
      have re:=REA_mono hOx hRx bd'.1 lv1 f1
      have mo:=MOS_mono hOx hRx (a:=min 1073741824 (LV D X s w hs r).2) (b:=min 1073741824 (LV D X s' w hs' r).2) (by omega) (by omega) (by omega)
      have z : 0 ≤ ((w.hs[r]?).getD (0,0)).1:=by
        cases e : w.hs[r]? with
        | none => simp
        | some p => exact (g1.2 p (List.mem_of_getElem? e)).1
      obtain ⟨m1,m2⟩:=MT_sub hE.2.2.2.2 h0 hss 1 r z
      have wd : WD (FHD D X s w hs r x) (FHD D X s' w hs' r x):=by unfold FHD WD; simp only; omega
      obtain ⟨w1,w2⟩:=wd
      refine ⟨_,fs'.1 ⟨by omega,by omega,by omega⟩,fun i p p' hp hp' => ?_⟩
      rw [List.getElem?_set] at hp hp'
      by_cases g : r = i
      · rw [if_pos g] at hp hp'
        rw [if_pos (by omega)] at hp hp'
        cases hp; cases hp'
        exact ⟨w1,w2⟩
      · rw [if_neg g] at hp hp'
        exact hi i p p' hp hp'
theorem EXP_sub (hO : ∀ x ∈ D.rs,x.OK) (hE : EOK D X) {s s' : List Int} (h0 : ∀ x ∈ s',0 ≤ x) (hss : ∀ x ∈ s,x ∈ s') (h : EXP D X s) : EXP D X s':=by
  intro w hw
  cases e : FOL D X s w D.rs.length with
  | none => exact absurd e (h w hw)
  | some hs =>
    obtain ⟨hs',e',_⟩:=fol_sub hO hE hw h0 hss D.rs.length (Nat.le_refl _) hs e
    rw [e']; simp
end
theorem SOK_bd {m : Int} : ∀ {l : List Int} {last : Int},SOK m last l → ∀ x ∈ l,last < x ∧ x < m
  | [],_,_,x,hx => by simp at hx
  | y :: r,last,h,x,hx => by
    rcases List.mem_cons.1 hx with rfl | hx
    · exact ⟨h.1,h.2.1⟩
    · have:=SOK_bd h.2.2 x hx
      have:=h.1
      omega
theorem SOK_weak {m m' : Int} (hm : m ≤ m') : ∀ {l : List Int} {a b : Int},SOK m a l → b ≤ a → SOK m' b l
  | [],_,_,_,_ => trivial
  | _ :: _,_,_,h,hb => ⟨by have:=h.1; omega,by have:=h.2.1; omega,SOK_weak hm h.2.2 (Int.le_refl _)⟩
def RST (l : List Int) (i : Nat) : List Int:=l.take i ++ l.drop (i + 1)
theorem RST_SOK {m : Int} : ∀ {l : List Int} {last : Int} (i : Nat),SOK m last l → SOK m last (RST l i)
  | [],_,i,_ => by unfold RST; simp [SOK]
  | x :: r,last,0,h => by
    unfold RST
    simp only [List.take_zero,List.nil_append,List.drop_succ_cons,List.drop_zero]
    exact SOK_weak (Int.le_refl m) h.2.2 (by have:=h.1; omega)
  | x :: r,last,i + 1,h => by
    have:=RST_SOK i h.2.2
    unfold RST at this ⊢
    simp only [List.take_succ_cons,List.cons_append,List.drop_succ_cons]
    exact ⟨h.1,h.2.1,this⟩
theorem RST_mem {l : List Int} {i : Nat} {t : Int} (e : l[i]? = some t) {x : Int} (hx : x ∈ l) (hne : x ≠ t) : x ∈ RST l i:=by
  have h : l = l.take i ++ (t :: l.drop (i + 1)):=by rw [← drop_cons e,List.take_append_drop]
  rw [h] at hx
  rcases List.mem_append.1 hx with hx | hx
  · exact List.mem_append_left _ hx
  · rcases List.mem_cons.1 hx with rfl | hx
    · exact absurd rfl hne
    · exact List.mem_append_right _ hx
theorem SETB_num {m : Nat} (hm : m ≤ 12) {l : List Int} (h : SOK m (-1) l) : (SETB (-1) 0 l).1 < 2 ^ m ∧ ∀ x : Int,x ∈ BITS (SETB (-1) 0 l).1 m ↔ x ∈ l:=by
  have hok:=SETB_ok l (-1) 0 (SOK_weak (m':=12) (by omega) h (Int.le_refl _))
  have hmem:=SETB_mem l (-1) 0 (by decide) hok
  constructor
  · apply Nat.lt_pow_two_of_testBit
    intro i hi
    cases hb : (SETB (-1) 0 l).1.testBit i with
    | false => rfl
    | true =>
      rcases (hmem i).1 hb with g | g
      · rw [Nat.zero_testBit] at g; cases g
      · have:=(SOK_bd h _ g).2
        omega
  · intro x
    rw [BITS_mem]
    constructor
    · rintro ⟨i,hi,rfl,hb⟩
      rcases (hmem i).1 ((bit_iff _ _).2 hb) with g | g
      · rw [Nat.zero_testBit] at g; cases g
      · exact g
    · intro hx
      have:=SOK_bd h x hx
      obtain ⟨i,rfl⟩:=Int.eq_ofNat_of_zero_le (show 0 ≤ x by omega)
      exact ⟨i,by omega,rfl,(bit_iff _ _).1 ((hmem i).2 (.inr hx))⟩
theorem min_below {T : Nat → Bool} {m : Nat} (hm : m ≤ 12) (n : Nat) : n < 2 ^ m → T n = true → ∃ k,k < 2 ^ m ∧ MIN T m k ∧ ∀ i,k.testBit i = true → n.testBit i = true:=by
  induction n using Nat.strongRecOn with
  | ind n ih =>
  intro hn ht
  by_cases h : MIN T m n
  · exact ⟨n,hn,h,fun i h => h⟩
  · have p0 : 2 ^ m ≤ 2 ^ 12:=Nat.pow_le_pow_right (by decide) hm
    have p1 : (2 : Nat) ^ 12 = 4096:=by decide
    have : ∃ j < m,n / 2 ^ j % 2 = 1 ∧ T (ANDN n (2 ^ j)) = true:=by
      apply Classical.byContradiction
      intro hc
      apply h
      refine ⟨ht,fun j hj hb => ?_⟩
      cases hT : T (ANDN n (2 ^ j)) with
      | false => rfl
      | true => exact absurd ⟨j,hj,hb,hT⟩ hc
    obtain ⟨j,hj,hb,hT⟩:=this
    have pj : 2 ^ j ≤ 2 ^ 12:=Nat.pow_le_pow_right (by decide) (by omega)
    have bit : ∀ i,(ANDN n (2 ^ j)).testBit i = (n.testBit i && !(2 ^ j).testBit i):=fun i => ANDN_bit (2 ^ j) i (by omega) (by omega)
    have lt : ANDN n (2 ^ j) < n:=by
      rcases Nat.lt_or_eq_of_le (ANDN_le n (2 ^ j)) with h2 | h2
      · exact h2
      · have b2:=bit j
        rw [h2,(bit_iff n j).2 hb,Nat.testBit_two_pow_self] at b2
        cases b2
    obtain ⟨k,hk,hM,hs⟩:=ih _ lt (by omega) hT
    refine ⟨k,hk,hM,fun i hi => ?_⟩
    have:=hs i hi
    rw [bit,Bool.and_eq_true] at this
    exact this.1
section
variable {D : Dis} (hO : ∀ x ∈ D.rs,x.OK) {X : Evd} (hE : EOK D X) {set : List Int} (hS : SOK X.ss.length (-1) set)
include hO hE hS
theorem own_some (h : EXP D X set) : ∃ n ∈ MINL (TB D X) X.ss.length (2 ^ X.ss.length),∀ x ∈ BITS n X.ss.length,x ∈ set:=by
  have lss:=hE.2.2.1
  obtain ⟨h1,h2⟩:=SETB_num lss hS
  have ht : TB D X (SETB (-1) 0 set).1 = true:=TB_iff.2 (EXP_sub hO hE (s:=set) (fun x hx => by obtain ⟨i,_,rfl,_⟩:=BITS_mem.1 hx; omega) (fun x hx => (h2 x).2 hx) h)
  obtain ⟨k,hk,hM,hs⟩:=min_below lss _ h1 ht
  refine ⟨k,MINL_mem.2 ⟨hk,hM⟩,fun x hx => (h2 x).1 ?_⟩
  obtain ⟨i,hi,rfl,hb⟩:=BITS_mem.1 hx
  exact BITS_mem.2 ⟨i,hi,rfl,(bit_iff _ _).1 (hs i ((bit_iff _ _).2 hb))⟩
theorem own_need {i : Nat} {t : Int} (e : set[i]? = some t) (h : ¬ EXP D X (RST set i)) {n : Nat} (hn : n ∈ MINL (TB D X) X.ss.length (2 ^ X.ss.length)) (hs : ∀ x ∈ BITS n X.ss.length,x ∈ set) : t ∈ BITS n X.ss.length:=by
  apply Classical.byContradiction
  intro hc
  apply h
  have hR:=RST_SOK i hS
  refine EXP_sub hO hE (s:=BITS n X.ss.length) (fun x hx => by have:=SOK_bd hR x hx; omega) (fun x hx => RST_mem e (hs x hx) (fun g => hc (g ▸ hx))) ?_
  exact TB_iff.1 ((MINL_mem.1 hn).2.1)
end
def FW (P : List Pm) (s : Nat) : TR → Int × Nat
  | .leaf n => (0,n)
  | .node j a b => match P[j]? with
    | some p => if p.1 &&& s ≠ 0 then (p.2.2 + (FW P s b).1,(FW P s b).2) else (p.2.2 + (FW P s a).1,(FW P s a).2)
    | none => (0,0)
theorem SBO_bit (p : Pm) (n i : Nat) : (SBO p n).testBit i = (p.2.1.testBit i && n.testBit i):=Nat.testBit_and ..
theorem PMS_at {T : List Nat} {ps : List Prb} {j : Nat} {p : Pm} (h : (PMS T ps)[j]? = some p) : ∃ q,ps[j]? = some q ∧ p = (PS q,SHB (PS q) T T.length,q.cost):=by
  unfold PMS at h
  rw [List.getElem?_map] at h
  cases e : ps[j]? with
  | none => rw [e] at h; cases h
  | some q => rw [e] at h; cases h; exact ⟨q,rfl,rfl⟩
section
variable {T : List Nat} {ps : List Prb} (hP : PSM (PMS T ps)) {k s : Nat} (hk : T[k]? = some s)
include hP hk
theorem FW_ok (n : Nat) : n < 4096 → n.testBit k = true → ((FW (PMS T ps) s (TRE (PMS T ps) n)).1 ≤ (CH (PMS T ps) n).1 ∧ 0 ≤ (FW (PMS T ps) s (TRE (PMS T ps) n)).1) ∧ ((FW (PMS T ps) s (TRE (PMS T ps) n)).2 < 4096 ∧ (FW (PMS T ps) s (TRE (PMS T ps) n)).2.testBit k = true) ∧
    (∀ i,(FW (PMS T ps) s (TRE (PMS T ps) n)).2.testBit i = true → n.testBit i = true) ∧ ∀ (j : Nat) (p : Pm),(PMS T ps)[j]? = some p → ¬ SEP p (FW (PMS T ps) s (TRE (PMS T ps) n)).2:=by
  induction n using Nat.strongRecOn with
  | ind n ih =>
  intro hn hb
  rcases CH_spec (PMS T ps) hn with ⟨hc,hno⟩ | ⟨j,p,hj,hs,hc⟩
  · rw [TRE_leaf (by rw [hc]; decide),hc]
    exact ⟨⟨Int.le_refl _,Int.le_refl _⟩,⟨hn,hb⟩,fun i h => h,hno⟩
  · rw [TRE_node hn hj hs (by rw [hc]),hc]
    have l1:=SBO_lt hs
    have l2:=ANDN_lt hn hs
    have hps:=hP p (List.mem_of_getElem? hj)
    obtain ⟨q,hq,rfl⟩:=PMS_at hj
    have hkl:=(List.getElem?_eq_some_iff.1 hk).1
    have sb : (SHB (PS q) T T.length).testBit k = true ↔ PS q &&& s ≠ 0:=by
      rw [SHB_bit,getD_at hk]
      exact ⟨fun h => h.2,fun h => ⟨hkl,h⟩⟩
    unfold FW
    rw [hj]
    simp only
    by_cases g : PS q &&& s ≠ 0
    · rw [if_pos g]
      have hb2 : (SBO (PS q,SHB (PS q) T T.length,q.cost) n).testBit k = true:=by rw [SBO_bit,hb,Bool.and_true]; exact sb.2 g
      obtain ⟨⟨a1,a2⟩,a3,a4,a5⟩:=ih _ l1 (by omega) hb2
      refine ⟨⟨by simp only; omega,by have:=hps.2.2.1; simp only at this ⊢; omega⟩,a3,fun i hi => ?_,a5⟩
      have:=a4 i hi
      rw [SBO_bit,Bool.and_eq_true] at this
      exact this.2
    · rw [if_neg g]
      have an:=fun i => ANDN_bit (a:=n) (SBO (PS q,SHB (PS q) T T.length,q.cost) n) i (by omega) (by omega)
      have hb2 : (ANDN n (SBO (PS q,SHB (PS q) T T.length,q.cost) n)).testBit k = true:=by
        rw [an,hb,Bool.true_and,SBO_bit]
        cases h : (SHB (PS q) T T.length).testBit k with
        | false => simp [h]
        | true => exact absurd (sb.1 h) g
      obtain ⟨⟨a1,a2⟩,a3,a4,a5⟩:=ih _ l2 (by omega) hb2
      refine ⟨⟨by simp only; omega,by have:=hps.2.2.1; simp only at this ⊢; omega⟩,a3,fun i hi => ?_,a5⟩
      have:=a4 i hi
      rw [an,Bool.and_eq_true] at this
      exact this.1
omit hP hk in
theorem two_and (i x : Nat) : 2 ^ i &&& x ≠ 0 ↔ x.testBit i = true:=by
  constructor
  · intro h
    cases e : x.testBit i with
    | true => rfl
    | false =>
      exfalso
      apply h
      apply Nat.eq_of_testBit_eq
      intro j
      rw [Nat.testBit_and,Nat.testBit_two_pow,Nat.zero_testBit]
      by_cases g : i = j
      · subst g; simp [e]
      · simp [g]
  · intro h e
    have : (2 ^ i &&& x).testBit i = true:=by rw [Nat.testBit_and,Nat.testBit_two_pow_self,h]; rfl
    rw [e,Nat.zero_testBit] at this
    cases this
theorem FW_one {m : Nat} (hm : m ≤ 12) (hT : ∀ n ∈ T,n < 2 ^ m) (hTn : T.Nodup) (hl : T.length ≤ 12) (hone : ∀ i < m,∃ q ∈ ps,q.set = [(i : Int)]) :
    BITS (FW (PMS T ps) s (TRE (PMS T ps) (2 ^ T.length - 1))).2 12 = [(k : Int)]:=by
  have p0 : 2 ^ T.length ≤ 2 ^ 12:=Nat.pow_le_pow_right (by decide) hl
  have p1 : (2 : Nat) ^ 12 = 4096:=by decide
  have pp : 0 < 2 ^ T.length:=Nat.pow_pos (by decide)
  have hkl:=(List.getElem?_eq_some_iff.1 hk).1
  obtain ⟨_,⟨hlt,hbk⟩,hsub,hno⟩:=FW_ok hP hk (2 ^ T.length - 1) (by omega) (by rw [Nat.testBit_two_pow_sub_one]; simpa using hkl)
  generalize (FW (PMS T ps) s (TRE (PMS T ps) (2 ^ T.length - 1))).2 = r at *
  have one : ∀ k',r.testBit k' = true → k' = k:=by
    intro k' hk'
    apply Classical.byContradiction
    intro hne
    have hkl' : k' < T.length:=by
      have:=hsub k' hk'
      rw [Nat.testBit_two_pow_sub_one] at this
      simpa using this
    have hk2 : T[k']? = some T[k']:=List.getElem?_eq_getElem hkl'
    have hd : T[k'] ≠ s:=fun e => hne ((List.getElem?_inj hkl' hTn).1 (by rw [hk2,e,hk]))
    generalize T[k'] = s' at *
    have : ∃ i,s'.testBit i ≠ s.testBit i:=by
      apply Classical.byContradiction
      intro hc
      apply hd
      apply Nat.eq_of_testBit_eq
      intro i
      apply Classical.byContradiction
      exact fun h => hc ⟨i,h⟩
    obtain ⟨i,hi⟩:=this
    have him : i < m:=by
      rcases Nat.lt_or_ge i m with g | g
      · exact g
      · exfalso
        apply hi
        have z : ∀ n ∈ T,n.testBit i = false:=fun n hn => Nat.testBit_lt_two_pow (Nat.lt_of_lt_of_le (hT n hn) (Nat.pow_le_pow_right (by decide) g))
        rw [z s' (List.mem_of_getElem? hk2),z s (List.mem_of_getElem? hk)]
    obtain ⟨q,hq,hqs⟩:=hone i him
    obtain ⟨j,hj⟩:=List.getElem?_of_mem hq
    have hPS : PS q = 2 ^ i:=by
      unfold PS
      rw [hqs]
      simp only [SETB,Nat.zero_or,Int.toNat_natCast]
      rw [if_neg (by omega)]
    have hp : (PMS T ps)[j]? = some (PS q,SHB (PS q) T T.length,q.cost):=by unfold PMS; rw [List.getElem?_map,hj]; rfl
    have hse:=hno j _ hp
    have sb : ∀ {a x : Nat},T[a]? = some x → r.testBit a = true → ((SBO (PS q,SHB (PS q) T T.length,q.cost) r).testBit a = true ↔ x.testBit i = true):=fun {a x} ha hr => by
      rw [SBO_bit,hr,Bool.and_true,SHB_bit,getD_at ha,hPS,two_and]
      exact ⟨fun h => h.2,fun h => ⟨(List.getElem?_eq_some_iff.1 ha).1,h⟩⟩
    have b1:=sb hk hbk
    have b2:=sb hk2 hk'
    apply hse
    constructor
    · intro z
      rw [z,Nat.zero_testBit] at b1 b2
      apply hi
      cases c1 : s.testBit i with
      | true => exact absurd (b1.2 c1) (by decide)
      | false => cases c2 : s'.testBit i with
        | true => exact absurd (b2.2 c2) (by decide)
        | false => rfl
    · intro z
      rw [z] at b1 b2
      apply hi
      rw [b1.1 hbk,b2.1 hk']
  have er : r = 2 ^ k:=by
    apply Nat.eq_of_testBit_eq
    intro i
    rw [Nat.testBit_two_pow]
    by_cases g : k = i
    · subst g; simp [hbk]
    · cases h : r.testBit i with
      | false => simp [g]
      | true => exact absurd (one i h).symm g
  rw [er]
  have : (List.range 12).all (fun k => decide (BITS (2 ^ k) 12 = [(k : Int)])) = true:=by kernel_rfl
  exact of_decide_eq_true (List.all_eq_true.1 this k (List.mem_range.2 (by omega)))
end
theorem c_all {T : List Nat} {P : List Pm} {H : Heap} (hH : PLH T P H) (hT : T.length ≤ 12) : callF G Tryz.prog pol 33 [.ptr 3 1 0 0] H = some (.ret (I ((2 ^ T.length - 1 : Nat) : Int)),⟨H.rows,H.next + 1⟩):=by
  have r3:=hH.r3
  have p0 : 2 ^ T.length ≤ 2 ^ 12:=Nat.pow_le_pow_right (by decide) hT
  have p1 : (2 : Nat) ^ 12 = 4096:=by decide
  have pp : 0 < 2 ^ T.length:=Nat.pow_pos (by decide)
  have sh:=SHLn T.length (by omega)
  obtain ⟨N,hN⟩ : ∃ N,2 ^ T.length = N:=⟨_,rfl⟩
  rw [hN] at sh p0 pp
  rw [hN]
  have w1:=i64_in (x:=(N : Int) - 1) (by unfold I64; omega)
  rw [callF_eq _ _ Tryz.func33 rfl Tryz.ntmps33 Tryz.results33 (by kernel_rfl) rfl (by exact Nat.le_of_ble_eq_true rfl)]
  simp (maxSteps:=999999) only [E0,seval,-Int.reduceNatCast',NUM,r3,sh,w1,Int.toNat_natCast,(show ¬ (T.length : Int) < 0 by omega)]
  rw [show ((N : Int) - 1) = ((N - 1 : Nat) : Int) by omega]
structure RDOK (T : List Nat) (m : Nat) (ps : List Prb) (c : Option Nat) (H' : Heap) : Prop where
  run : callF G Tryz.prog pol 31 [.vs 1 ((T.map fun n => BITS n m).map elt) none,.vs 2 (ps.map prb) c] H1 = some (.ret (.tup [.ptr 3 1 0 0,I 0]),H')
  pl : PLH T (PMS T ps) H'
  mp : H'.rows 2 = some (.map [])
  tl : T.length ≤ 12
  pn : ps.length ≤ 12
  ok : ∀ p ∈ ps,(SETB (-1) 0 p.set).2 = true ∧ PS p ≠ 0 ∧ 1 ≤ p.cost ∧ p.cost ≤ 1048576
theorem PSM_of {T : List Nat} {ps : List Prb} (hT : T.length ≤ 12) (h : ∀ p ∈ ps,(SETB (-1) 0 p.set).2 = true ∧ PS p ≠ 0 ∧ 1 ≤ p.cost ∧ p.cost ≤ 1048576) : PSM (PMS T ps):=by
  intro p hp
  obtain ⟨q,hq,rfl⟩:=List.mem_map.1 hp
  have a:=SETB_lt q.set (-1) 0 (by decide) (by decide)
  have b:=SHB_lt (PS q) T T.length
  have p0 : 2 ^ T.length ≤ 2 ^ 12:=Nat.pow_le_pow_right (by decide) hT
  have p1 : (2 : Nat) ^ 12 = 4096:=by decide
  exact ⟨a,by simp only; omega,(h q hq).2.2.1,(h q hq).2.2.2⟩
section
variable {T : List Nat} {m : Nat} {ps : List Prb} {c : Option Nat}
theorem c_pcheck (hm : m ≤ 12) (hT : ∀ n ∈ T,n < 2 ^ m) (hT0 : T ≠ []) (hpl : ps.length ≤ 9223372036854775807) (hrv : ∀ p ∈ ps,RV p.set p.v ∧ p.set.length ≤ 9223372036854775807) :
    ∃ e,ap Tryz.prog pol 12 [.vs 1 ((T.map fun n => BITS n m).map elt) none,.vs 2 (ps.map prb) c] = some (.ret (I e)) ∧ (e = 0 → ∃ H',RDOK T m ps c H'):=by
  have hr:=c_read T m hm hT hT0 ps (.vs 2 (ps.map prb) c) (by rw [lenK_vs,List.length_map]) hpl (fun _ => ⟨c,rfl⟩) hrv _ rfl
  rw [ap_eq _ Tryz.func12 rfl Tryz.ntmps12 Tryz.results12 (by kernel_rfl) rfl (by exact Nat.le_of_ble_eq_true rfl)]
  rcases hr with ⟨v,e,H',he,hR⟩ | ⟨H',hR,h1,h2,h3,h4,h5⟩
  · simp (maxSteps:=999999) only [E0,seval,-Int.reduceNatCast',NUM,SELT,INTS,hR]
    exact ⟨e,rfl,fun h => absurd h he⟩
  · have hR':=hR
    simp (maxSteps:=999999) only [E0,seval,-Int.reduceNatCast',NUM,SELT,INTS,hR]
    exact ⟨0,rfl,fun _ => ⟨H',hR',h1,h2,h3,h4,h5⟩⟩
variable {H' : Heap} (h : RDOK T m ps c H')
include h
theorem c_best : ap Tryz.prog pol 13 [.vs 1 ((T.map fun n => BITS n m).map elt) none,.vs 2 (ps.map prb) c] = some (.ret (.tup [TP (TRE (PMS T ps) (2 ^ T.length - 1)),I (CH (PMS T ps) (2 ^ T.length - 1)).1,I 0])):=by
  obtain ⟨hR,pl,mp,tl,pn,ok⟩:=h
  have hP:=PSM_of (T:=T) tl ok
  have hPl : (PMS T ps).length ≤ 12:=by unfold PMS; rw [List.length_map]; exact pn
  have p0 : 2 ^ T.length ≤ 2 ^ 12:=Nat.pow_le_pow_right (by decide) tl
  have p1 : (2 : Nat) ^ 12 = 4096:=by decide
  rw [ap_eq _ Tryz.func13 rfl Tryz.ntmps13 Tryz.results13 (by kernel_rfl) rfl (by exact Nat.le_of_ble_eq_true rfl)]
  obtain ⟨N,hN⟩ : ∃ N,2 ^ T.length - 1 = N:=⟨_,rfl⟩
  have hNl : N < 4096:=by omega
  have a1:=c_all pl tl
  have k1 : KP H' ⟨H'.rows,H'.next + 1⟩:=⟨fun _ _ _ => rfl,Nat.le_succ _⟩
  obtain ⟨H2,e2,k2,m2⟩:=c_tree hP hPl N hNl ⟨H'.rows,H'.next + 1⟩ (pl.mono k1) ⟨[],mp,fun k => .inl rfl⟩
  have pl2:=pl.mono (k1.trans k2)
  have a2:=c_all pl2 tl
  have k3 : KP H2 ⟨H2.rows,H2.next + 1⟩:=⟨fun _ _ _ => rfl,Nat.le_succ _⟩
  obtain ⟨H3,e3,_,_⟩:=c_choose hP hPl N hNl ⟨H2.rows,H2.next + 1⟩ (pl2.mono k3) m2
  rw [hN] at a1 a2
  rw [hN]
  rw [show CHV (PMS T ps) N = .agg [I (CH (PMS T ps) N).1,I (CH (PMS T ps) N).2] from rfl] at e3
  simp (maxSteps:=999999) only [E0,seval,-Int.reduceNatCast',NUM,SELT,INTS,hR,a1,e2,a2,e3,TP_all,TPC]
omit h in
theorem TP_cells : (∀ n,(TP (.leaf n)).cells = [I 0,elt (BITS n 12),.nils]) ∧ (∀ j a b,(TP (.node j a b)).cells = [I j,.nils,.vs 3 [TP a,TP b] (some 2)]):=⟨fun _ => rfl,fun _ _ _ => rfl⟩
set_option maxHeartbeats 8000000 in
theorem c_pfollow (l : List Int) (v : PV) (hv : RV l v) (hl : l.length ≤ 9223372036854775807) (hok : (SETB (-1) 0 l).2 = true) (hne : BITS (FW (PMS T ps) (SETB (-1) 0 l).1 (TRE (PMS T ps) (2 ^ T.length - 1))).2 12 ≠ []) :
    ap Tryz.prog pol 14 [.vs 1 ((T.map fun n => BITS n m).map elt) none,.vs 2 (ps.map prb) c,TP (TRE (PMS T ps) (2 ^ T.length - 1)),v] = some (.ret (.tup [elt (BITS (FW (PMS T ps) (SETB (-1) 0 l).1 (TRE (PMS T ps) (2 ^ T.length - 1))).2 12),I (FW (PMS T ps) (SETB (-1) 0 l).1 (TRE (PMS T ps) (2 ^ T.length - 1))).1,I 0])):=by
  obtain ⟨hR,pl,mp,tl,pn,ok⟩:=h
  have hP:=PSM_of (T:=T) tl ok
  have hPl : (PMS T ps).length ≤ 12:=by unfold PMS; rw [List.length_map]; exact pn
  have p0 : 2 ^ T.length ≤ 2 ^ 12:=Nat.pow_le_pow_right (by decide) tl
  have p1 : (2 : Nat) ^ 12 = 4096:=by decide
  have rv:=RVS hv
  have cs:=c_set l v hv hl
  have hsl:=SETB_lt l (-1) 0 (by decide) (by decide)
  rw [hok] at cs
  obtain ⟨N,hN⟩ : ∃ N,2 ^ T.length - 1 = N:=⟨_,rfl⟩
  have hNl : N < 4096:=by omega
  have a1:=c_all pl tl
  rw [hN] at a1 hne
  rw [hN]
  obtain ⟨S,hS⟩ : ∃ S,(SETB (-1) 0 l).1 = S:=⟨_,rfl⟩
  rw [hS] at cs hsl hne
  rw [hS]
  obtain ⟨H2,e2,f2,x2⟩:=c_worth hP hPl N hNl ⟨H'.rows,H'.next + 1⟩ (pl.mono ⟨fun _ _ _ => rfl,Nat.le_succ _⟩) _ rfl
  simp (maxSteps:=999999) only [E0,seval,-Int.reduceNatCast'] at f2
  have pl2 : PLH T (PMS T ps) H2:=pl.mono7 (fun i _ _ hi => f2 i (by omega)) (by simp (maxSteps:=999999) only [E0,seval,-Int.reduceNatCast'] at x2; omega)
  rw [ap_eq _ Tryz.func14 rfl Tryz.ntmps14 Tryz.results14 (by kernel_rfl) rfl (by exact Nat.le_of_ble_eq_true rfl)]
  simp (maxSteps:=999999) only [E0,seval,-Int.reduceNatCast',NUM,SELT,INTS,hR,rv,cs,a1,e2,TP_all,TPC]
  rw [if_pos (by kernel_rfl)]
  obtain ⟨F0,hF0⟩ : ∃ F0,FW (PMS T ps) S (TRE (PMS T ps) N) = F0:=⟨_,rfl⟩
  rw [hF0] at hne
  rw [hF0]
  generalize hL : W _ (.loop _) _ = L
  obtain ⟨ex,s,rfl,rfl,hb6,h9,h6,hsH,hd,hf⟩:=loop_at hL (α:=Int × Nat) (fun k => k.2)
    (fun s0 k s => (k.2 < 4096 ∧ 0 ≤ k.1 ∧ k.1 + k.2 * 1048576 ≤ 4294967296 ∧ (k.1 + (FW (PMS T ps) S (TRE (PMS T ps) k.2)).1,(FW (PMS T ps) S (TRE (PMS T ps) k.2)).2) = F0) ∧ s.boxes 6 = some (0,(TP (TRE (PMS T ps) k.2)).cells) ∧ s.tmps 9 = I k.1 ∧ s.tmps 6 = .bptr 0 6 0 0 ∧ s.tmps 11 = .ptr 3 1 0 0 ∧ s.tmps 12 = I S ∧ s.H = H2 ∧ s.defers = [] ∧ s.fid = 0)
    (fun s0 ex s => ex = .exit 0 ∧ s.boxes 6 = some (0,[I 0,elt (BITS F0.2 12),.nils]) ∧ s.tmps 9 = I F0.1 ∧ s.tmps 6 = .bptr 0 6 0 0 ∧ s.H = H2 ∧ s.defers = [] ∧ s.fid = 0) (0,N)
    (by simp (maxSteps:=999999) only [E0,seval,-Int.reduceNatCast',NUM]
        refine ⟨hNl,by omega,?_⟩
        rw [hF0,Int.zero_add]) (by
      rintro ⟨k,n⟩ s r hW ⟨⟨hn,hk0,hkb,hFW⟩,hb6,h9,h6,h11,h12,hsH,hd,hf⟩
      dsimp only at hn hk0 hkb hFW hb6 h9
      rcases CH_spec (PMS T ps) hn with ⟨hc,_⟩ | ⟨j,p,hj,hs,hc⟩
      · rw [TRE_leaf (by rw [hc]; decide)] at hb6 hFW
        rw [TP_cells.1] at hb6
        simp only [FW,Int.add_zero] at hFW
        subst hFW
        simp (maxSteps:=999999) only [E0,seval,-Int.reduceNatCast',NUM,h6,hb6,hd,hf] at hW
        subst hW
        refine rd_exit ⟨rfl,?_,?_,?_,?_,?_,?_⟩ <;> simp (maxSteps:=999999) only [E0,seval,-Int.reduceNatCast',hb6,h9,h6,hsH,hd,hf]
      · have hne' : PMS T ps ≠ []:=fun h => by rw [h] at hj; simp at hj
        have hjl : j < (PMS T ps).length:=(List.getElem?_eq_some_iff.1 hj).1
        have hps:=hP p (List.mem_of_getElem? hj)
        have l1:=SBO_lt hs
        have l2:=ANDN_lt hn hs
        rw [TRE_node hn hj hs (by rw [hc])] at hb6 hFW
        rw [TP_cells.2] at hb6
        obtain ⟨r5,r6,r7⟩:=pl2.r5 hne'
        have r3:=pl2.r3
        have e5:=map_get' (f:=fun p : Pm => NI p.1) hj
        have e7:=map_get' (f:=fun p : Pm => I p.2.2) hj
        have ac:=ANDc p.1 S (by omega) (by omega)
        unfold FW at hFW
        rw [hj] at hFW
        simp only at hFW
        obtain ⟨sb,hsb⟩ : ∃ sb,SBO p n = sb:=⟨_,rfl⟩
        rw [hsb] at l1 l2 hb6 hFW
        obtain ⟨nb,hnb⟩ : ∃ nb,ANDN n sb = nb:=⟨_,rfl⟩
        rw [hnb] at l2 hb6 hFW
        have w1:=i64_in (x:=k + p.2.2) (by unfold I64; omega)
        by_cases g : p.1 &&& S ≠ 0
        · rw [if_pos g] at hFW
          simp (maxSteps:=999999) only [E0,seval,-Int.reduceNatCast',NUM,h6,hb6,h9,h11,h12,hsH,hd,hf,r3,r5,r7,e5,e7,ac,w1,CELL_ne hne',List.length_map,Nat.zero_add,Int.toNat_natCast,TPC,TP_all,(show ¬ (((p.1 &&& S : Nat) : Int)) = 0 by omega),(show (0 : Int) ≤ j by omega),(show (j : Int) < (PMS T ps).length by omega)] at hW
          subst hW
          refine rd_next (k + p.2.2,sb) ?_ l1
          simp (maxSteps:=999999) only [E0,seval,-Int.reduceNatCast',h6,h11,h12,hd,hsH]
          refine ⟨by omega,by omega,by omega,?_⟩
          rw [Int.add_assoc]
          exact hFW
        · rw [if_neg g] at hFW
          simp (maxSteps:=999999) only [E0,seval,-Int.reduceNatCast',NUM,h6,hb6,h9,h11,h12,hsH,hd,hf,r3,r5,r7,e5,e7,ac,w1,CELL_ne hne',List.length_map,Nat.zero_add,Int.toNat_natCast,TPC,TP_all,(show (((p.1 &&& S : Nat) : Int)) = 0 by omega),(show (0 : Int) ≤ j by omega),(show (j : Int) < (PMS T ps).length by omega)] at hW
          subst hW
          refine rd_next (k + p.2.2,nb) ?_ l2
          simp (maxSteps:=999999) only [E0,seval,-Int.reduceNatCast',h6,h11,h12,hd,hsH]
          refine ⟨by omega,by omega,by omega,?_⟩
          rw [Int.add_assoc]
          exact hFW)
  have cl:=c_clone (BITS F0.2 12) none (by have:=BITS_len F0.2 12; omega) hne H2
  simp (maxSteps:=999999) only [E0,seval,-Int.reduceNatCast',NUM,hd,hf,h6,hb6,h9,hsH,cl,INTS,List.take_of_length_le,List.length_map,Nat.le_refl,List.drop_zero,Nat.zero_add]
  trace_state
end
theorem MINL_nodup (T : Nat → Bool) (m k : Nat) : (MINL T m k).Nodup:=List.nodup_range.filter _
theorem perm_nums {M : List Nat} {m : Nat} (hm : m ≤ 12) (hM : ∀ n ∈ M,n < 2 ^ m) {L : List (List Int)} (h : L.Perm (M.map fun n => BITS n m)) : ∃ T : List Nat,L = T.map (fun n => BITS n m) ∧ T.Perm M:=by
  refine ⟨L.map fun l => (SETB (-1) 0 l).1,?_,?_⟩
  · rw [List.map_map]
    have : ∀ l ∈ L,((fun n => BITS n m) ∘ fun l => (SETB (-1) 0 l).1) l = id l:=fun l hl => by
      obtain ⟨n,hn,rfl⟩:=List.mem_map.1 (h.mem_iff.1 hl)
      show BITS (SETB (-1) 0 (BITS n m)).1 m = _
      rw [SETB_BITS n m hm (hM n hn)]; rfl
    rw [List.map_congr_left this,List.map_id]
  · have h2:=h.map fun l => (SETB (-1) 0 l).1
    have : (M.map fun n => BITS n m).map (fun l => (SETB (-1) 0 l).1) = M:=by
      rw [List.map_map]
      have : ∀ n ∈ M,((fun l => (SETB (-1) 0 l).1) ∘ fun n => BITS n m) n = id n:=fun n hn => by
        show (SETB (-1) 0 (BITS n m)).1 = n
        rw [SETB_BITS n m hm (hM n hn)]
      rw [List.map_congr_left this,List.map_id]
    rw [this] at h2
    exact h2
def OWN (T : List Nat) (m : Nat) (set : List Int) (k : Nat) : List Int:=((List.range k).filter fun i => decide (∀ x ∈ BITS (T.getD i 0) m,x ∈ set)).map Int.ofNat
theorem OWN_succ {T : List Nat} {m : Nat} {set : List Int} {k n : Nat} (e : T[k]? = some n) : OWN T m set (k + 1) = OWN T m set k ++ (if ∀ x ∈ BITS n m,x ∈ set then [(k : Int)] else []):=by
  unfold OWN
  rw [List.range_succ,List.filter_append,List.map_append]
  congr 1
  rw [List.filter_cons,List.filter_nil,getD_at e]
  by_cases h : ∀ x ∈ BITS n m,x ∈ set
  · rw [if_pos h,if_pos (decide_eq_true h)]; rfl
  · rw [if_neg h,if_neg (by simpa using h)]; rfl
theorem OWN_len (T : List Nat) (m : Nat) (set : List Int) (k : Nat) : (OWN T m set k).length ≤ k:=by
  unfold OWN
  rw [List.length_map]
  have:=List.length_filter_le (fun i => decide (∀ x ∈ BITS (T.getD i 0) m,x ∈ set)) (List.range k)
  rw [List.length_range] at this
  exact this
theorem OWN_mem {T : List Nat} {m : Nat} {set : List Int} {x : Int} (h : x ∈ OWN T m set T.length) : ∃ i n : Nat,x = (i : Int) ∧ T[i]? = some n ∧ i < T.length ∧ ∀ y ∈ BITS n m,y ∈ set:=by
  unfold OWN at h
  obtain ⟨i,hi,rfl⟩:=List.mem_map.1 h
  rw [List.mem_filter,List.mem_range,decide_eq_true_eq] at hi
  obtain ⟨n,hn⟩:=get_lt hi.1
  rw [getD_at hn] at hi
  exact ⟨i,n,rfl,hn,hi.1,hi.2⟩
theorem OWN_ne {T : List Nat} {m : Nat} {set : List Int} {n : Nat} (h : n ∈ T) (hs : ∀ y ∈ BITS n m,y ∈ set) : (OWN T m set T.length).length ≠ 0:=by
  obtain ⟨i,hi⟩:=List.getElem?_of_mem h
  have : (i : Int) ∈ OWN T m set T.length:=by
    unfold OWN
    refine List.mem_map.2 ⟨i,?_,rfl⟩
    rw [List.mem_filter,List.mem_range,decide_eq_true_eq,getD_at hi]
    exact ⟨(List.getElem?_eq_some_iff.1 hi).1,hs⟩
  intro h0
  rw [List.length_eq_zero_iff.1 h0] at this
  cases this
theorem mem_take_succ {l : List Int} {j : Nat} {x n : Int} (e : l[j]? = some x) : n ∈ l.take (j + 1) ↔ n ∈ l.take j ∨ n = x:=by
  rw [List.take_add_one,e,List.mem_append]
  simp
set_option maxHeartbeats 4000000 in
theorem c_has (l : List Int) (c : Option Nat) (n : Int) (hl : l.length ≤ 1000000) : ap Tryz.prog pol 11 [.vs 1 (l.map I) c,I n] = some (.ret (.bool (decide (n ∈ l)))):=by
  rw [ap_eq _ Tryz.func11 rfl Tryz.ntmps11 Tryz.results11 (by kernel_rfl) rfl (by exact Nat.le_of_ble_eq_true rfl)]
  simp (maxSteps:=999999) only [E0,seval,-Int.reduceNatCast',NUM,List.length_map]
  generalize hL : W _ (.loop _) _ = L
  obtain ⟨ex,s,rfl,hd,hf,hex⟩:=loop_at hL (α:=Nat) (fun j => l.length - j)
    (fun s0 j s => j ≤ l.length ∧ n ∉ l.take j ∧ s.tmps 5 = I j ∧ s.tmps 0 = .vs 1 (l.map I) c ∧ s.tmps 1 = I n ∧ s.defers = [] ∧ s.fid = 0)
    (fun s0 ex s => s.defers = [] ∧ s.fid = 0 ∧ ((ex = .exit 0 ∧ n ∉ l) ∨ (ex = .ret ∧ n ∈ l ∧ s.tmps 4 = .bool true))) 0
    (by simp (maxSteps:=999999) only [E0,seval,-Int.reduceNatCast',NUM]; exact ⟨Nat.zero_le _,by simp⟩) (by
      rintro j s r hW ⟨hj,hn,h5,h0,h1,hd,hf⟩
      by_cases hp : j < l.length
      rotate_left
      · simp (maxSteps:=999999) only [E0,seval,-Int.reduceNatCast',NUM,h5,h0,hd,hf,List.length_map,(show ¬ (j : Int) < l.length by omega)] at hW
        subst hW
        rw [List.take_of_length_le (by omega)] at hn
        exact rd_exit ⟨by simp (maxSteps:=999999) only [E0,seval,-Int.reduceNatCast',hd],by simp (maxSteps:=999999) only [E0,seval,-Int.reduceNatCast',hf],.inl ⟨rfl,hn⟩⟩
      have e0 : l[j]? = some l[j]:=List.getElem?_eq_getElem hp
      have e1:=ints_get e0
      generalize l[j] = y at *
      by_cases hxy : y = n
      · simp (maxSteps:=999999) only [E0,seval,-Int.reduceNatCast',NUM,h5,h0,h1,hd,hf,e1,hxy,List.length_map,Int.toNat_natCast,(show (j : Int) < l.length by omega),(show (0 : Int) ≤ j by omega)] at hW
        subst hW
        refine rd_ret ⟨?_,?_,.inr ⟨rfl,by rw [← hxy]; exact List.mem_of_getElem? e0,?_⟩⟩ <;> simp (maxSteps:=999999) only [E0,seval,-Int.reduceNatCast',hd,hf]
      · simp (maxSteps:=999999) only [E0,seval,-Int.reduceNatCast',NUM,h5,h0,h1,hd,hf,e1,hxy,List.length_map,Int.toNat_natCast,(show (j : Int) < l.length by omega),(show (0 : Int) ≤ j by omega),(i64_in (x:=(j : Int) + 1) (by unfold I64; omega))] at hW
        subst hW
        refine rd_next (j + 1) ?_ (show l.length - (j + 1) < l.length - j by omega)
        simp (maxSteps:=999999) only [E0,seval,-Int.reduceNatCast',h0,h1,hd]
        exact ⟨by omega,fun g => ((mem_take_succ e0).1 g).elim hn fun g => hxy g.symm,by simp⟩)
  rcases hex with ⟨rfl,hn⟩ | ⟨rfl,hn,h4⟩
  · simp (maxSteps:=999999) only [E0,seval,-Int.reduceNatCast',hd,hf]
    rw [decide_eq_false hn]
  · simp (maxSteps:=999999) only [E0,seval,-Int.reduceNatCast',hd,hf,h4]
    rw [decide_eq_true hn]
set_option maxHeartbeats 4000000 in
theorem c_inside (a b : List Int) (c d : Option Nat) (ha : a.length ≤ 1000000) (hb : b.length ≤ 1000000) : ap Tryz.prog pol 9 [.vs 1 (a.map I) c,.vs 1 (b.map I) d] = some (.ret (.bool (decide (∀ x ∈ a,x ∈ b)))):=by
  rw [ap_eq _ Tryz.func9 rfl Tryz.ntmps9 Tryz.results9 (by kernel_rfl) rfl (by exact Nat.le_of_ble_eq_true rfl)]
  simp (maxSteps:=999999) only [E0,seval,-Int.reduceNatCast',NUM,List.length_map]
  generalize hL : W _ (.loop _) _ = L
  obtain ⟨ex,s,rfl,hd,hf,hex⟩:=loop_at hL (α:=Nat) (fun j => a.length - j)
    (fun s0 j s => j ≤ a.length ∧ (∀ x ∈ a.take j,x ∈ b) ∧ s.tmps 9 = I j ∧ s.tmps 8 = I a.length ∧ s.tmps 7 = .vs 1 (a.map I) c ∧ s.tmps 1 = .vs 1 (b.map I) d ∧ s.defers = [] ∧ s.fid = 0)
    (fun s0 ex s => s.defers = [] ∧ s.fid = 0 ∧ ((ex = .exit 0 ∧ ∀ x ∈ a,x ∈ b) ∨ (ex = .ret ∧ (¬ ∀ x ∈ a,x ∈ b) ∧ s.tmps 4 = .bool false))) 0
    (by simp (maxSteps:=999999) only [E0,seval,-Int.reduceNatCast',NUM]; exact ⟨Nat.zero_le _,by simp⟩) (by
      rintro j s r hW ⟨hj,hn,h9,h8,h7,h1,hd,hf⟩
      by_cases hp : j < a.length
      rotate_left
      · simp (maxSteps:=999999) only [E0,seval,-Int.reduceNatCast',NUM,h9,h8,hd,hf,(show ¬ (j : Int) < a.length by omega)] at hW
        subst hW
        rw [List.take_of_length_le (by omega)] at hn
        exact rd_exit ⟨by simp (maxSteps:=999999) only [E0,seval,-Int.reduceNatCast',hd],by simp (maxSteps:=999999) only [E0,seval,-Int.reduceNatCast',hf],.inl ⟨rfl,hn⟩⟩
      have e0 : a[j]? = some a[j]:=List.getElem?_eq_getElem hp
      have e1:=ints_get e0
      generalize a[j] = y at *
      have ch:=c_has b d y hb
      by_cases hxy : y ∈ b
      · rw [decide_eq_true hxy] at ch
        simp (maxSteps:=999999) only [E0,seval,-Int.reduceNatCast',NUM,INTS,h9,h8,h7,h1,hd,hf,e1,ch,List.length_map,Int.toNat_natCast,(show (j : Int) < a.length by omega),(show (0 : Int) ≤ j by omega),(i64_in (x:=(j : Int) + 1) (by unfold I64; omega))] at hW
        subst hW
        refine rd_next (j + 1) ?_ (show a.length - (j + 1) < a.length - j by omega)
        simp (maxSteps:=999999) only [E0,seval,-Int.reduceNatCast',h8,h7,h1,hd]
        exact ⟨by omega,fun x g => ((mem_take_succ e0).1 g).elim (hn x) fun g => g ▸ hxy,by simp⟩
      · rw [decide_eq_false hxy] at ch
        simp (maxSteps:=999999) only [E0,seval,-Int.reduceNatCast',NUM,INTS,h9,h8,h7,h1,hd,hf,e1,ch,List.length_map,Int.toNat_natCast,(show (j : Int) < a.length by omega),(show (0 : Int) ≤ j by omega)] at hW
        subst hW
        refine rd_ret ⟨?_,?_,.inr ⟨rfl,fun g => hxy (g y (List.mem_of_getElem? e0)),?_⟩⟩ <;> simp (maxSteps:=999999) only [E0,seval,-Int.reduceNatCast',hd,hf])
  rcases hex with ⟨rfl,hn⟩ | ⟨rfl,hn,h4⟩
  · simp (maxSteps:=999999) only [E0,seval,-Int.reduceNatCast',hd,hf]
    rw [decide_eq_true hn]
  · simp (maxSteps:=999999) only [E0,seval,-Int.reduceNatCast',hd,hf,h4]
    rw [decide_eq_false hn]
def ALN (mm : List (Int × PV)) (ps : List Prb) : Prop:=∀ k : Int,aget mm k = none ∨ (aget mm k = some (.bool true) ∧ ∃ q ∈ ps,q.set = [k])
set_option maxHeartbeats 8000000 in
theorem c_single (ps : List Prb) (c : Option Nat) (m : Nat) (hl : ps.length ≤ 1000000) (hrv : ∀ p ∈ ps,RV p.set p.v) (hm : m ≤ 1000000) :
    ∃ b,ap Tryz.prog pol 15 [.vs 2 (ps.map prb) c,I m] = some (.ret (.bool b)) ∧ (b = true → ∀ i < m,∃ q ∈ ps,q.set = [(i : Int)]):=by
  rw [ap_eq _ Tryz.func15 rfl Tryz.ntmps15 Tryz.results15 (by kernel_rfl) rfl (by exact Nat.le_of_ble_eq_true rfl)]
  simp (maxSteps:=999999) only [E0,seval,-Int.reduceNatCast',NUM,List.length_map]
  generalize hL : W _ (.loop _) _ = L
  obtain ⟨ex,s,rfl,rfl,h5,⟨mm,hr,hmm⟩,h1,hd,hf⟩:=loop_at hL (α:=Nat) (fun j => ps.length - j)
    (fun s0 j s => j ≤ ps.length ∧ s.tmps 5 = .map 1 ∧ (∃ mm,s.H.rows 1 = some (.map (imap mm)) ∧ ALN mm (ps.take j)) ∧ s.tmps 12 = I j ∧ s.tmps 11 = I ps.length ∧ s.tmps 10 = .vs 2 (ps.map prb) c ∧ s.tmps 1 = I m ∧ s.defers = [] ∧ s.fid = 0)
    (fun s0 ex s => ex = .exit 0 ∧ s.tmps 5 = .map 1 ∧ (∃ mm,s.H.rows 1 = some (.map (imap mm)) ∧ ALN mm ps) ∧ s.tmps 1 = I m ∧ s.defers = [] ∧ s.fid = 0) 0
    (by simp (maxSteps:=999999) only [E0,seval,-Int.reduceNatCast',NUM]
        exact ⟨Nat.zero_le _,[],rfl,fun k => .inl rfl⟩) (by
      rintro j s r hW ⟨hj,h5,⟨mm,hr,hmm⟩,h12,h11,h10,h1,hd,hf⟩
      by_cases hp : j < ps.length
      rotate_left
      · simp (maxSteps:=999999) only [E0,seval,-Int.reduceNatCast',NUM,h12,h11,hd,hf,(show ¬ (j : Int) < ps.length by omega)] at hW
        subst hW
        rw [List.take_of_length_le (by omega)] at hmm
        refine rd_exit ⟨rfl,?_,⟨mm,?_,hmm⟩,?_,?_,?_⟩ <;> simp (maxSteps:=999999) only [E0,seval,-Int.reduceNatCast',h5,hr,h1,hd,hf]
      have e0 : ps[j]? = some ps[j]:=List.getElem?_eq_getElem hp
      have hxm:=List.getElem_mem hp
      have e1:=map_get (f:=prb) e0
      have tk : ps.take (j + 1) = ps.take j ++ [ps[j]]:=by rw [List.take_add_one,e0]; rfl
      generalize ps[j] = x at *
      have hrx:=hrv x hxm
      have rv:=RVS hrx
      obtain ⟨bv,hbv⟩ : ∃ bv,nextVer (s.boxes 7) = bv:=⟨_,rfl⟩
      have mono : ∀ k,aget mm k = none ∨ (aget mm k = some (.bool true) ∧ ∃ q ∈ ps.take j ++ [x],q.set = [k]):=fun k => (hmm k).imp_right fun ⟨h1,q,h2,h3⟩ => ⟨h1,q,List.mem_append_left _ h2,h3⟩
      by_cases h1x : x.set.length = 1
      · obtain ⟨k0,hk0⟩ : ∃ k,x.set = [k]:=List.length_eq_one_iff.1 h1x
        obtain ⟨cc,hc⟩ : ∃ cc,x.v = .vs 1 ([k0].map I) cc:=by
          rcases hrx with ⟨cc,h⟩ | ⟨h,_⟩
          · exact ⟨cc,by rw [h,hk0]⟩
          · rw [h] at hk0; cases hk0
        rw [hk0] at rv
        rw [hc] at rv
        rw [show prb x = .agg [I x.cost,.vs 1 ([k0].map I) cc] by rw [← hc]] at e1
        simp (maxSteps:=999999) only [E0,seval,-Int.reduceNatCast',NUM,MAPI,INTS,h12,h11,h10,h5,hr,hd,hf,e1,hbv,rv,List.map_cons,List.map_nil,List.length_cons,List.length_nil,List.length_map,Int.toNat_natCast,(show (j : Int) < ps.length by omega),(show (0 : Int) ≤ j by omega),(i64_in (x:=(j : Int) + 1) (by unfold I64; omega))] at hW
        subst hW
        refine rd_next (j + 1) ?_ (show ps.length - (j + 1) < ps.length - j by omega)
        rw [tk]
        simp (maxSteps:=999999) only [E0,seval,-Int.reduceNatCast',h11,h10,h5,h1,hd]
        refine ⟨by omega,⟨_,rfl,fun k => ?_⟩,by simp⟩
        rw [aget_aset]
        split
        · next e => exact .inr ⟨rfl,x,List.mem_append_right _ (by simp),by rw [hk0,e]⟩
        · exact mono k
      · simp (maxSteps:=999999) only [E0,seval,-Int.reduceNatCast',NUM,MAPI,INTS,h12,h11,h10,h5,hr,hd,hf,e1,hbv,rv,(show ¬ (x.set.length : Int) = 1 by omega),List.length_map,Int.toNat_natCast,(show (j : Int) < ps.length by omega),(show (0 : Int) ≤ j by omega),(i64_in (x:=(j : Int) + 1) (by unfold I64; omega))] at hW
        subst hW
        refine rd_next (j + 1) ?_ (show ps.length - (j + 1) < ps.length - j by omega)
        rw [tk]
        simp (maxSteps:=999999) only [E0,seval,-Int.reduceNatCast',h11,h10,h5,h1,hd]
        exact ⟨by omega,⟨mm,hr,mono⟩,by simp⟩)
  simp (maxSteps:=999999) only [E0,seval,-Int.reduceNatCast',NUM,h1,h5,hd,hf]
  generalize hL : W _ (.loop _) _ = L
  obtain ⟨ex,s,rfl,hd,hf,hex⟩:=loop_at hL (α:=Nat) (fun j => m - j)
    (fun s0 j s => j ≤ m ∧ s.tmps 5 = .map 1 ∧ s.H.rows 1 = some (.map (imap mm)) ∧ (∀ i < j,∃ q ∈ ps,q.set = [(i : Int)]) ∧ s.tmps 27 = I j ∧ s.tmps 26 = I m ∧ s.defers = [] ∧ s.fid = 0)
    (fun s0 ex s => s.defers = [] ∧ s.fid = 0 ∧ ((ex = .exit 2 ∧ ∀ i < m,∃ q ∈ ps,q.set = [(i : Int)]) ∨ (ex = .ret ∧ s.tmps 4 = .bool false))) 0
    (by simp (maxSteps:=999999) only [E0,seval,-Int.reduceNatCast',NUM,h5,hr]
        exact ⟨Nat.zero_le _,fun i hi => absurd hi (Nat.not_lt_zero i)⟩) (by
      rintro j s r hW ⟨hj,h5,hr,hA,h27,h26,hd,hf⟩
      by_cases hp : j < m
      rotate_left
      · simp (maxSteps:=999999) only [E0,seval,-Int.reduceNatCast',NUM,h27,h26,hd,hf,(show ¬ (j : Int) < m by omega)] at hW
        subst hW
        have : j = m:=by omega
        subst this
        exact rd_exit ⟨by simp (maxSteps:=999999) only [E0,seval,-Int.reduceNatCast',hd],by simp (maxSteps:=999999) only [E0,seval,-Int.reduceNatCast',hf],.inl ⟨rfl,hA⟩⟩
      rcases hmm (j : Int) with hn | ⟨hs,hq⟩
      · simp (maxSteps:=999999) only [E0,seval,-Int.reduceNatCast',NUM,MAPI,h27,h26,h5,hr,hn,hd,hf,(show (j : Int) < m by omega)] at hW
        subst hW
        refine rd_ret ⟨?_,?_,.inr ⟨rfl,?_⟩⟩ <;> simp (maxSteps:=999999) only [E0,seval,-Int.reduceNatCast',hd,hf]
      · simp (maxSteps:=999999) only [E0,seval,-Int.reduceNatCast',NUM,MAPI,h27,h26,h5,hr,hs,hd,hf,(show (j : Int) < m by omega),(i64_in (x:=(j : Int) + 1) (by unfold I64; omega))] at hW
        subst hW
        refine rd_next (j + 1) ?_ (show m - (j + 1) < m - j by omega)
        simp (maxSteps:=999999) only [E0,seval,-Int.reduceNatCast',h5,hr,h26,hd]
        refine ⟨by omega,fun i hi => ?_,by simp⟩
        by_cases g : i = j
        · subst g; exact hq
        · exact hA i (by omega))
  rcases hex with ⟨rfl,hA⟩ | ⟨rfl,h4⟩
  · simp (maxSteps:=999999) only [E0,seval,-Int.reduceNatCast',hd,hf]
    exact ⟨_,rfl,fun _ => hA⟩
  · simp (maxSteps:=999999) only [E0,seval,-Int.reduceNatCast',hd,hf,h4]
    exact ⟨_,rfl,by simp⟩
end Go.Proofs.YtofkhhokaalknaaGreatDoor
